/- FnJudged: each law function of these statements answers true, for all arguments that can be read. Conditions: none. -/
import Derived.Test.YtpcljloahdbjcaaGreatRows
import Derived.Test.YtpcljloahdbjcaaGreatW49z0
import Derived.Test.YtpcljloahdbjcaaGreatP2
namespace Go.Proofs.YtpcljloahdbjcaaGreat
open Go.ChangeShapes Go.WideShapes Go.ChangeAt Go.RowKit
theorem Tryz.own:ownKnob Tryz.prog.godebug=none:=by kernel_rfl
theorem Tryz.laidOut:laidOutB Tryz.prog=true:=by kernel_rfl
theorem and_mk {a b:Bool}(h:a=true)(k:b=true):(a&&b)=true:=by rw[h,k];rfl
set_option maxRecDepth 100000 in
theorem fnJudged_lifted (os:Os)(started:os.Started)(H:Type)(enc:TypeId×Value→H):
   ReturnsInHanded {} Tryz.checked os 5 .any (Rows.fnJudgedSpec.pre6 enc Tryz.prog Tryz.f5 Rows.fnJudgedRow.domain false) (Rows.fnJudgedSpec.post enc Tryz.prog Tryz.f5 false true false false):=by
 refine returnsInHanded_of_change (C:=Tryz.checked) Tryz.own started (by kernel_rfl) Tryz.func5
   (ChangeSpec.witness6 (enc:=enc) (C:=Tryz.checked) false ⟨#[],#[.slice none 0 0],[]⟩ 12 (by kernel_rfl) (by kernel_rfl) (by kernel_rfl) (by kernel_rfl)) ?_
 intro W base args ds gs before hval0 hW hcnd _
 have hval:∀ (j:Nat) t v,Tryz.f5.params[j]?=some t→args[j]?=some v→Value.okWide Tryz.prog W .any base t v:=hval0
 have hW':=hW
 obtain⟨p,q,hA0,hV,rfl,hfz,hnd⟩:=hW
 have hA:DataW.TrodAll enc Tryz.prog W 0 (fun _=>true) true Tryz.f5.params.toList args.toList ds p:=hA0
 obtain⟨rfl,rfl⟩:=trodVars_none hV
 have hlen:ds.length=1:=Fw.trodAll_len hA
 rcases ds with _ | ⟨d1,_ | ⟨d2,ds⟩⟩<;>first | (simp at hlen;done) | skip
 refine(Fw.yes_call Fw.F5_ok (fun _ _=>trivial) (fun _ _=>rfl) (ts:=Tryz.f5.params.toList) (by kernel_rfl) hA (fun j t v h1 h2=>hval j t v (by simpa using h1) (by simpa using h2))).mono fun e W' ⟨he,hfr⟩=>?_
 subst he
 exact⟨_,rfl,Fw.post_yes Tryz.laidOut (by kernel_rfl) rfl rfl rfl Tryz.underlying4 hW' hfr⟩
theorem fnJudged_q0:(Rows.fnJudgedRow.wf (OpenSpec.ofChange Rows.fnJudgedSpec):Bool)=true:=by kernel_rfl
theorem fnJudged_q1:(laidOutB Tryz.pinned.checked.prog:Bool)=true:=by kernel_rfl
theorem fnJudged_q2:(mapsRowed Tryz.pinned.checked.prog:Bool)=true:=by kernel_rfl
theorem fnJudged_q3:(Tryz.f5.params.all (Tryz.pinned.checked.prog.readableRec ·):Bool)=true:=by kernel_rfl
theorem fnJudged_q4:(namedTie Tryz.pinned.checked.prog Rows.fnJudgedRow.named Rows.fnJudgedSpec.vars:Bool)=true:=by kernel_rfl
theorem fnJudged_q5:((Rows.fnJudgedRow.stops==[]):Bool)=true:=by kernel_rfl
theorem fnJudged_q6:((Tryz.pinned.checked.prog.stops==[]):Bool)=true:=by kernel_rfl
theorem fnJudged_q7:((Rows.fnJudgedRow.knobs==[]):Bool)=true:=by kernel_rfl
theorem fnJudged_q8:((Tryz.pinned.checked.prog.stopKnobs==[]):Bool)=true:=by kernel_rfl
theorem fnJudged_q9:((Rows.fnJudgedRow.inPlace==Tryz.pinned.checked.prog.inPlace 5):Bool)=true:=by kernel_rfl
theorem fnJudged_q10:((Rows.fnJudgedRow.unfollowed==Tryz.pinned.checked.prog.unfollowed 5):Bool)=true:=by kernel_rfl
theorem fnJudged_q11:((Rows.fnJudgedRow.recurses==Tryz.pinned.checked.prog.recurses 5):Bool)=true:=by kernel_rfl
theorem fnJudged_q12:((Rows.fnJudgedRow.named==Tryz.pinned.checked.prog.varsNamed 5):Bool)=true:=by kernel_rfl
theorem fnJudged_q13:((Rows.fnJudgedRow.maps==(Tryz.f5.params.toList++Rows.fnJudgedSpec.plain.varTypes Tryz.pinned.checked.prog).any (Tryz.pinned.checked.prog.mapsRec ·)):Bool)=true:=by kernel_rfl
theorem fnJudged_q14:((Rows.fnJudgedRow.ifaces==(Tryz.f5.params.toList++Rows.fnJudgedSpec.plain.varTypes Tryz.pinned.checked.prog).any (Tryz.pinned.checked.prog.ifacesRec ·)):Bool)=true:=by kernel_rfl
theorem fnJudged_q15:((Rows.fnJudgedRow.mapsOut==Tryz.pinned.checked.prog.mapsAmong Tryz.f5.resultTypes.toList):Bool)=true:=by kernel_rfl
theorem fnJudged_q16:((Rows.fnJudgedRow.loops==(Tryz.f5.params.toList++Rows.fnJudgedSpec.plain.varTypes Tryz.pinned.checked.prog).any (Tryz.pinned.checked.prog.loopsFrom ·)):Bool)=true:=by kernel_rfl
theorem fnJudged_q17:((Rows.fnJudgedRow.wideKeys==(Tryz.f5.params.toList++Rows.fnJudgedSpec.plain.varTypes Tryz.pinned.checked.prog++Tryz.f5.resultTypes.toList).any (Tryz.pinned.checked.prog.wideKeysFrom ·)):Bool)=true:=by kernel_rfl
theorem fnJudged_q18:(Rows.fnJudgedSpec.vars.all (Tryz.pinned.checked.prog.varReadable ·):Bool)=true:=by kernel_rfl
theorem fnJudged_q19:(Tryz.f5.resultTypes.all (fun t=>Tryz.pinned.checked.prog.readableRec t&&decide (t<Tryz.pinned.checked.prog.types.size)):Bool)=true:=by kernel_rfl
theorem fnJudged_q20:((Rows.fnJudgedRow.ifacesOut==Tryz.f5.resultTypes.toList.any (Tryz.pinned.checked.prog.ifacesRec ·)):Bool)=true:=by kernel_rfl
theorem fnJudged_q21:((Rows.fnJudgedRow.loopsOut==Tryz.f5.resultTypes.toList.any (Tryz.pinned.checked.prog.loopsFrom ·)):Bool)=true:=by kernel_rfl
theorem fnJudged_q22:((Rows.fnJudgedRow.plainKeys==Tryz.pinned.checked.prog.plainKeys):Bool)=true:=by kernel_rfl
theorem fnJudged_q23:(Rows.fnJudgedRow.shortTexts.isNone:Bool)=true:=by kernel_rfl
theorem fnJudged_q24:(Tryz.pinned.checked.prog.stopsHeard:Bool)=true:=by kernel_rfl
theorem fnJudged_q25:(Tryz.pinned.checked.prog.mayEnter:Bool)=true:=by kernel_rfl
theorem fnJudged_q26:((Rows.fnJudgedRow.lifted==Tryz.pinned.checked.prog.liftsFinal):Bool)=true:=by kernel_rfl
theorem fnJudged_q27:((Tryz.pinned.checked.prog.make==some Rows.fnJudgedRow.make):Bool)=true:=by kernel_rfl
theorem fnJudged_q28:((Rows.fnJudgedRow.kinds==(if Rows.fnJudgedRow.domain.isEmpty then []else Tryz.f5.params.toList.map fun t=>match Tryz.pinned.checked.prog.underlying t with | some (.int k)=>some k | _=>none)):Bool)=true:=by kernel_rfl
theorem fnJudged_q29:((Rows.fnJudgedRow.pinned==Rows.fnJudgedRow.pinnedBy):Bool)=true:=by kernel_rfl
theorem fnJudged_q30:((Rows.fnJudgedRow.veiled==(Tryz.f5.params.toList++Rows.fnJudgedSpec.plain.varTypes Tryz.pinned.checked.prog++Tryz.f5.resultTypes.toList).any (Tryz.pinned.checked.prog.veiledRec ·)):Bool)=true:=by kernel_rfl
theorem fnJudged_q31:(Rows.fnJudgedRow.veiledFits Tryz.pinned.checked.prog Tryz.f5.params.toList (Tryz.f5.params.toList++Rows.fnJudgedSpec.plain.varTypes Tryz.pinned.checked.prog++Tryz.f5.resultTypes.toList):Bool)=true:=by kernel_rfl
set_option maxRecDepth 100000 in
theorem fnJudged_joined:joinedFacts Tryz.pinned.checked.prog 5 Tryz.f5 Rows.fnJudgedSpec Rows.fnJudgedRow=true:=
 (and_mk (and_mk (and_mk (and_mk (and_mk (and_mk (and_mk (and_mk (and_mk (and_mk (and_mk (and_mk (and_mk (and_mk (and_mk (and_mk (and_mk (and_mk (and_mk (and_mk (and_mk (and_mk (and_mk (and_mk (and_mk (and_mk (and_mk (and_mk (and_mk (and_mk (and_mk fnJudged_q0 fnJudged_q1) fnJudged_q2) fnJudged_q3) fnJudged_q4) fnJudged_q5) fnJudged_q6) fnJudged_q7) fnJudged_q8) fnJudged_q9) fnJudged_q10) fnJudged_q11) fnJudged_q12) fnJudged_q13) fnJudged_q14) fnJudged_q15) fnJudged_q16) fnJudged_q17) fnJudged_q18) fnJudged_q19) fnJudged_q20) fnJudged_q21) fnJudged_q22) fnJudged_q23) fnJudged_q24) fnJudged_q25) fnJudged_q26) fnJudged_q27) fnJudged_q28) fnJudged_q29) fnJudged_q30) fnJudged_q31)
theorem fnJudged_holds:Rows.FnJudgedSaid:=
 OpenClaim.holds_of_wide 5 Tryz.f5 rfl rfl rfl rfl rfl rfl rfl ⟨rfl,rfl,rfl,rfl,rfl⟩ rfl rfl rfl rfl rfl (by kernel_rfl) Tryz.func5 fnJudged_joined
   (of_decide_eq_true (by kernel_rfl)) (by unfold Func.isWrapper;first | (rw[if_pos (by decide +kernel)];kernel_rfl) | (rw[if_neg (by decide +kernel)];exact⟨rfl,rfl⟩))
   (fun os started H enc _=>fnJudged_lifted os started H enc)
end Go.Proofs.YtpcljloahdbjcaaGreat
