/- FnArchives: each law function of these statements answers true, for all arguments that can be read. Conditions: none. -/
import Derived.Test.YtpcljloahdbjcaaGreatRows
import Derived.Test.YtpcljloahdbjcaaGreatW51z0
import Derived.Test.YtpcljloahdbjcaaGreatP2
namespace Go.Proofs.YtpcljloahdbjcaaGreat
open Go.ChangeShapes Go.WideShapes Go.ChangeAt Go.RowKit
theorem Tryz.own:ownKnob Tryz.prog.godebug=none:=by kernel_rfl
theorem Tryz.laidOut:laidOutB Tryz.prog=true:=by kernel_rfl
theorem and_mk {a b:Bool}(h:a=true)(k:b=true):(a&&b)=true:=by rw[h,k];rfl
set_option maxRecDepth 100000 in
theorem fnArchives_lifted (os:Os)(started:os.Started)(H:Type)(enc:TypeId×Value→H):
   ReturnsInHanded {} Tryz.checked os 6 .any (Rows.fnArchivesSpec.pre6 enc Tryz.prog Tryz.f6 Rows.fnArchivesRow.domain false) (Rows.fnArchivesSpec.post enc Tryz.prog Tryz.f6 false true false false):=by
 refine returnsInHanded_of_change (C:=Tryz.checked) Tryz.own started (by kernel_rfl) Tryz.func6
   (ChangeSpec.witness6 (enc:=enc) (C:=Tryz.checked) false ⟨#[],#[.slice none 0 0],[]⟩ 12 (by kernel_rfl) (by kernel_rfl) (by kernel_rfl) (by kernel_rfl)) ?_
 intro W base args ds gs before hval0 hW hcnd _
 have hval:∀ (j:Nat) t v,Tryz.f6.params[j]?=some t→args[j]?=some v→Value.okWide Tryz.prog W .any base t v:=hval0
 have hW':=hW
 obtain⟨p,q,hA0,hV,rfl,hfz,hnd⟩:=hW
 have hA:DataW.TrodAll enc Tryz.prog W 0 (fun _=>true) true Tryz.f6.params.toList args.toList ds p:=hA0
 obtain⟨rfl,rfl⟩:=trodVars_none hV
 have hlen:ds.length=1:=Fw.trodAll_len hA
 rcases ds with _ | ⟨d1,_ | ⟨d2,ds⟩⟩<;>first | (simp at hlen;done) | skip
 refine(Fw.yes_call Fw.F6_ok (fun _ _=>trivial) (fun _ _=>rfl) (ts:=Tryz.f6.params.toList) (by kernel_rfl) hA (fun j t v h1 h2=>hval j t v (by simpa using h1) (by simpa using h2))).mono fun e W' ⟨he,hfr⟩=>?_
 subst he
 exact⟨_,rfl,Fw.post_yes Tryz.laidOut (by kernel_rfl) rfl rfl rfl Tryz.underlying4 hW' hfr⟩
theorem fnArchives_q0:(Rows.fnArchivesRow.wf (OpenSpec.ofChange Rows.fnArchivesSpec):Bool)=true:=by kernel_rfl
theorem fnArchives_q1:(laidOutB Tryz.pinned.checked.prog:Bool)=true:=by kernel_rfl
theorem fnArchives_q2:(mapsRowed Tryz.pinned.checked.prog:Bool)=true:=by kernel_rfl
theorem fnArchives_q3:(Tryz.f6.params.all (Tryz.pinned.checked.prog.readableRec ·):Bool)=true:=by kernel_rfl
theorem fnArchives_q4:(namedTie Tryz.pinned.checked.prog Rows.fnArchivesRow.named Rows.fnArchivesSpec.vars:Bool)=true:=by kernel_rfl
theorem fnArchives_q5:((Rows.fnArchivesRow.stops==[]):Bool)=true:=by kernel_rfl
theorem fnArchives_q6:((Tryz.pinned.checked.prog.stops==[]):Bool)=true:=by kernel_rfl
theorem fnArchives_q7:((Rows.fnArchivesRow.knobs==[]):Bool)=true:=by kernel_rfl
theorem fnArchives_q8:((Tryz.pinned.checked.prog.stopKnobs==[]):Bool)=true:=by kernel_rfl
theorem fnArchives_q9:((Rows.fnArchivesRow.inPlace==Tryz.pinned.checked.prog.inPlace 6):Bool)=true:=by kernel_rfl
theorem fnArchives_q10:((Rows.fnArchivesRow.unfollowed==Tryz.pinned.checked.prog.unfollowed 6):Bool)=true:=by kernel_rfl
theorem fnArchives_q11:((Rows.fnArchivesRow.recurses==Tryz.pinned.checked.prog.recurses 6):Bool)=true:=by kernel_rfl
theorem fnArchives_q12:((Rows.fnArchivesRow.named==Tryz.pinned.checked.prog.varsNamed 6):Bool)=true:=by kernel_rfl
theorem fnArchives_q13:((Rows.fnArchivesRow.maps==(Tryz.f6.params.toList++Rows.fnArchivesSpec.plain.varTypes Tryz.pinned.checked.prog).any (Tryz.pinned.checked.prog.mapsRec ·)):Bool)=true:=by kernel_rfl
theorem fnArchives_q14:((Rows.fnArchivesRow.ifaces==(Tryz.f6.params.toList++Rows.fnArchivesSpec.plain.varTypes Tryz.pinned.checked.prog).any (Tryz.pinned.checked.prog.ifacesRec ·)):Bool)=true:=by kernel_rfl
theorem fnArchives_q15:((Rows.fnArchivesRow.mapsOut==Tryz.pinned.checked.prog.mapsAmong Tryz.f6.resultTypes.toList):Bool)=true:=by kernel_rfl
theorem fnArchives_q16:((Rows.fnArchivesRow.loops==(Tryz.f6.params.toList++Rows.fnArchivesSpec.plain.varTypes Tryz.pinned.checked.prog).any (Tryz.pinned.checked.prog.loopsFrom ·)):Bool)=true:=by kernel_rfl
theorem fnArchives_q17:((Rows.fnArchivesRow.wideKeys==(Tryz.f6.params.toList++Rows.fnArchivesSpec.plain.varTypes Tryz.pinned.checked.prog++Tryz.f6.resultTypes.toList).any (Tryz.pinned.checked.prog.wideKeysFrom ·)):Bool)=true:=by kernel_rfl
theorem fnArchives_q18:(Rows.fnArchivesSpec.vars.all (Tryz.pinned.checked.prog.varReadable ·):Bool)=true:=by kernel_rfl
theorem fnArchives_q19:(Tryz.f6.resultTypes.all (fun t=>Tryz.pinned.checked.prog.readableRec t&&decide (t<Tryz.pinned.checked.prog.types.size)):Bool)=true:=by kernel_rfl
theorem fnArchives_q20:((Rows.fnArchivesRow.ifacesOut==Tryz.f6.resultTypes.toList.any (Tryz.pinned.checked.prog.ifacesRec ·)):Bool)=true:=by kernel_rfl
theorem fnArchives_q21:((Rows.fnArchivesRow.loopsOut==Tryz.f6.resultTypes.toList.any (Tryz.pinned.checked.prog.loopsFrom ·)):Bool)=true:=by kernel_rfl
theorem fnArchives_q22:((Rows.fnArchivesRow.plainKeys==Tryz.pinned.checked.prog.plainKeys):Bool)=true:=by kernel_rfl
theorem fnArchives_q23:(Rows.fnArchivesRow.shortTexts.isNone:Bool)=true:=by kernel_rfl
theorem fnArchives_q24:(Tryz.pinned.checked.prog.stopsHeard:Bool)=true:=by kernel_rfl
theorem fnArchives_q25:(Tryz.pinned.checked.prog.mayEnter:Bool)=true:=by kernel_rfl
theorem fnArchives_q26:((Rows.fnArchivesRow.lifted==Tryz.pinned.checked.prog.liftsFinal):Bool)=true:=by kernel_rfl
theorem fnArchives_q27:((Tryz.pinned.checked.prog.make==some Rows.fnArchivesRow.make):Bool)=true:=by kernel_rfl
theorem fnArchives_q28:((Rows.fnArchivesRow.kinds==(if Rows.fnArchivesRow.domain.isEmpty then []else Tryz.f6.params.toList.map fun t=>match Tryz.pinned.checked.prog.underlying t with | some (.int k)=>some k | _=>none)):Bool)=true:=by kernel_rfl
theorem fnArchives_q29:((Rows.fnArchivesRow.pinned==Rows.fnArchivesRow.pinnedBy):Bool)=true:=by kernel_rfl
theorem fnArchives_q30:((Rows.fnArchivesRow.veiled==(Tryz.f6.params.toList++Rows.fnArchivesSpec.plain.varTypes Tryz.pinned.checked.prog++Tryz.f6.resultTypes.toList).any (Tryz.pinned.checked.prog.veiledRec ·)):Bool)=true:=by kernel_rfl
theorem fnArchives_q31:(Rows.fnArchivesRow.veiledFits Tryz.pinned.checked.prog Tryz.f6.params.toList (Tryz.f6.params.toList++Rows.fnArchivesSpec.plain.varTypes Tryz.pinned.checked.prog++Tryz.f6.resultTypes.toList):Bool)=true:=by kernel_rfl
set_option maxRecDepth 100000 in
theorem fnArchives_joined:joinedFacts Tryz.pinned.checked.prog 6 Tryz.f6 Rows.fnArchivesSpec Rows.fnArchivesRow=true:=
 (and_mk (and_mk (and_mk (and_mk (and_mk (and_mk (and_mk (and_mk (and_mk (and_mk (and_mk (and_mk (and_mk (and_mk (and_mk (and_mk (and_mk (and_mk (and_mk (and_mk (and_mk (and_mk (and_mk (and_mk (and_mk (and_mk (and_mk (and_mk (and_mk (and_mk (and_mk fnArchives_q0 fnArchives_q1) fnArchives_q2) fnArchives_q3) fnArchives_q4) fnArchives_q5) fnArchives_q6) fnArchives_q7) fnArchives_q8) fnArchives_q9) fnArchives_q10) fnArchives_q11) fnArchives_q12) fnArchives_q13) fnArchives_q14) fnArchives_q15) fnArchives_q16) fnArchives_q17) fnArchives_q18) fnArchives_q19) fnArchives_q20) fnArchives_q21) fnArchives_q22) fnArchives_q23) fnArchives_q24) fnArchives_q25) fnArchives_q26) fnArchives_q27) fnArchives_q28) fnArchives_q29) fnArchives_q30) fnArchives_q31)
theorem fnArchives_holds:Rows.FnArchivesSaid:=
 OpenClaim.holds_of_wide 6 Tryz.f6 rfl rfl rfl rfl rfl rfl rfl ⟨rfl,rfl,rfl,rfl,rfl⟩ rfl rfl rfl rfl rfl (by kernel_rfl) Tryz.func6 fnArchives_joined
   (of_decide_eq_true (by kernel_rfl)) (by unfold Func.isWrapper;first | (rw[if_pos (by decide +kernel)];kernel_rfl) | (rw[if_neg (by decide +kernel)];exact⟨rfl,rfl⟩))
   (fun os started H enc _=>fnArchives_lifted os started H enc)
end Go.Proofs.YtpcljloahdbjcaaGreat
