/- FnMonotone: each law function of these statements answers true, for all arguments that can be read. Conditions: none. -/
import Derived.Test.YtpcljloahdbjcaaGreatRows
import Derived.Test.YtpcljloahdbjcaaGreatW54z0
import Derived.Test.YtpcljloahdbjcaaGreatP2
namespace Go.Proofs.YtpcljloahdbjcaaGreat
open Go.ChangeShapes Go.WideShapes Go.ChangeAt Go.RowKit
theorem Tryz.own:ownKnob Tryz.prog.godebug=none:=by kernel_rfl
theorem Tryz.laidOut:laidOutB Tryz.prog=true:=by kernel_rfl
theorem and_mk {a b:Bool}(h:a=true)(k:b=true):(a&&b)=true:=by rw[h,k];rfl
set_option maxRecDepth 100000 in
theorem fnMonotone_lifted (os:Os)(started:os.Started)(H:Type)(enc:TypeId×Value→H):
   ReturnsInHanded {} Tryz.checked os 8 .any (Rows.fnMonotoneSpec.pre6 enc Tryz.prog Tryz.f8 Rows.fnMonotoneRow.domain false) (Rows.fnMonotoneSpec.post enc Tryz.prog Tryz.f8 false true false false):=by
 refine returnsInHanded_of_change (C:=Tryz.checked) Tryz.own started (by kernel_rfl) Tryz.func8
   (ChangeSpec.witness6 (enc:=enc) (C:=Tryz.checked) false ⟨#[],#[.slice none 0 0],[]⟩ 12 (by kernel_rfl) (by kernel_rfl) (by kernel_rfl) (by kernel_rfl)) ?_
 intro W base args ds gs before hval0 hW hcnd _
 have hval:∀ (j:Nat) t v,Tryz.f8.params[j]?=some t→args[j]?=some v→Value.okWide Tryz.prog W .any base t v:=hval0
 have hW':=hW
 obtain⟨p,q,hA0,hV,rfl,hfz,hnd⟩:=hW
 have hA:DataW.TrodAll enc Tryz.prog W 0 (fun _=>true) true Tryz.f8.params.toList args.toList ds p:=hA0
 obtain⟨rfl,rfl⟩:=trodVars_none hV
 have hlen:ds.length=1:=Fw.trodAll_len hA
 rcases ds with _ | ⟨d1,_ | ⟨d2,ds⟩⟩<;>first | (simp at hlen;done) | skip
 refine(Fw.yes_call Fw.F8_ok (fun _ _=>trivial) (fun _ _=>rfl) (ts:=Tryz.f8.params.toList) (by kernel_rfl) hA (fun j t v h1 h2=>hval j t v (by simpa using h1) (by simpa using h2))).mono fun e W' ⟨he,hfr⟩=>?_
 subst he
 exact⟨_,rfl,Fw.post_yes Tryz.laidOut (by kernel_rfl) rfl rfl rfl Tryz.underlying4 hW' hfr⟩
theorem fnMonotone_q0:(Rows.fnMonotoneRow.wf (OpenSpec.ofChange Rows.fnMonotoneSpec):Bool)=true:=by kernel_rfl
theorem fnMonotone_q1:(laidOutB Tryz.pinned.checked.prog:Bool)=true:=by kernel_rfl
theorem fnMonotone_q2:(mapsRowed Tryz.pinned.checked.prog:Bool)=true:=by kernel_rfl
theorem fnMonotone_q3:(Tryz.f8.params.all (Tryz.pinned.checked.prog.readableRec ·):Bool)=true:=by kernel_rfl
theorem fnMonotone_q4:(namedTie Tryz.pinned.checked.prog Rows.fnMonotoneRow.named Rows.fnMonotoneSpec.vars:Bool)=true:=by kernel_rfl
theorem fnMonotone_q5:((Rows.fnMonotoneRow.stops==[]):Bool)=true:=by kernel_rfl
theorem fnMonotone_q6:((Tryz.pinned.checked.prog.stops==[]):Bool)=true:=by kernel_rfl
theorem fnMonotone_q7:((Rows.fnMonotoneRow.knobs==[]):Bool)=true:=by kernel_rfl
theorem fnMonotone_q8:((Tryz.pinned.checked.prog.stopKnobs==[]):Bool)=true:=by kernel_rfl
theorem fnMonotone_q9:((Rows.fnMonotoneRow.inPlace==Tryz.pinned.checked.prog.inPlace 8):Bool)=true:=by kernel_rfl
theorem fnMonotone_q10:((Rows.fnMonotoneRow.unfollowed==Tryz.pinned.checked.prog.unfollowed 8):Bool)=true:=by kernel_rfl
theorem fnMonotone_q11:((Rows.fnMonotoneRow.recurses==Tryz.pinned.checked.prog.recurses 8):Bool)=true:=by kernel_rfl
theorem fnMonotone_q12:((Rows.fnMonotoneRow.named==Tryz.pinned.checked.prog.varsNamed 8):Bool)=true:=by kernel_rfl
theorem fnMonotone_q13:((Rows.fnMonotoneRow.maps==(Tryz.f8.params.toList++Rows.fnMonotoneSpec.plain.varTypes Tryz.pinned.checked.prog).any (Tryz.pinned.checked.prog.mapsRec ·)):Bool)=true:=by kernel_rfl
theorem fnMonotone_q14:((Rows.fnMonotoneRow.ifaces==(Tryz.f8.params.toList++Rows.fnMonotoneSpec.plain.varTypes Tryz.pinned.checked.prog).any (Tryz.pinned.checked.prog.ifacesRec ·)):Bool)=true:=by kernel_rfl
theorem fnMonotone_q15:((Rows.fnMonotoneRow.mapsOut==Tryz.pinned.checked.prog.mapsAmong Tryz.f8.resultTypes.toList):Bool)=true:=by kernel_rfl
theorem fnMonotone_q16:((Rows.fnMonotoneRow.loops==(Tryz.f8.params.toList++Rows.fnMonotoneSpec.plain.varTypes Tryz.pinned.checked.prog).any (Tryz.pinned.checked.prog.loopsFrom ·)):Bool)=true:=by kernel_rfl
theorem fnMonotone_q17:((Rows.fnMonotoneRow.wideKeys==(Tryz.f8.params.toList++Rows.fnMonotoneSpec.plain.varTypes Tryz.pinned.checked.prog++Tryz.f8.resultTypes.toList).any (Tryz.pinned.checked.prog.wideKeysFrom ·)):Bool)=true:=by kernel_rfl
theorem fnMonotone_q18:(Rows.fnMonotoneSpec.vars.all (Tryz.pinned.checked.prog.varReadable ·):Bool)=true:=by kernel_rfl
theorem fnMonotone_q19:(Tryz.f8.resultTypes.all (fun t=>Tryz.pinned.checked.prog.readableRec t&&decide (t<Tryz.pinned.checked.prog.types.size)):Bool)=true:=by kernel_rfl
theorem fnMonotone_q20:((Rows.fnMonotoneRow.ifacesOut==Tryz.f8.resultTypes.toList.any (Tryz.pinned.checked.prog.ifacesRec ·)):Bool)=true:=by kernel_rfl
theorem fnMonotone_q21:((Rows.fnMonotoneRow.loopsOut==Tryz.f8.resultTypes.toList.any (Tryz.pinned.checked.prog.loopsFrom ·)):Bool)=true:=by kernel_rfl
theorem fnMonotone_q22:((Rows.fnMonotoneRow.plainKeys==Tryz.pinned.checked.prog.plainKeys):Bool)=true:=by kernel_rfl
theorem fnMonotone_q23:(Rows.fnMonotoneRow.shortTexts.isNone:Bool)=true:=by kernel_rfl
theorem fnMonotone_q24:(Tryz.pinned.checked.prog.stopsHeard:Bool)=true:=by kernel_rfl
theorem fnMonotone_q25:(Tryz.pinned.checked.prog.mayEnter:Bool)=true:=by kernel_rfl
theorem fnMonotone_q26:((Rows.fnMonotoneRow.lifted==Tryz.pinned.checked.prog.liftsFinal):Bool)=true:=by kernel_rfl
theorem fnMonotone_q27:((Tryz.pinned.checked.prog.make==some Rows.fnMonotoneRow.make):Bool)=true:=by kernel_rfl
theorem fnMonotone_q28:((Rows.fnMonotoneRow.kinds==(if Rows.fnMonotoneRow.domain.isEmpty then []else Tryz.f8.params.toList.map fun t=>match Tryz.pinned.checked.prog.underlying t with | some (.int k)=>some k | _=>none)):Bool)=true:=by kernel_rfl
theorem fnMonotone_q29:((Rows.fnMonotoneRow.pinned==Rows.fnMonotoneRow.pinnedBy):Bool)=true:=by kernel_rfl
theorem fnMonotone_q30:((Rows.fnMonotoneRow.veiled==(Tryz.f8.params.toList++Rows.fnMonotoneSpec.plain.varTypes Tryz.pinned.checked.prog++Tryz.f8.resultTypes.toList).any (Tryz.pinned.checked.prog.veiledRec ·)):Bool)=true:=by kernel_rfl
theorem fnMonotone_q31:(Rows.fnMonotoneRow.veiledFits Tryz.pinned.checked.prog Tryz.f8.params.toList (Tryz.f8.params.toList++Rows.fnMonotoneSpec.plain.varTypes Tryz.pinned.checked.prog++Tryz.f8.resultTypes.toList):Bool)=true:=by kernel_rfl
set_option maxRecDepth 100000 in
theorem fnMonotone_joined:joinedFacts Tryz.pinned.checked.prog 8 Tryz.f8 Rows.fnMonotoneSpec Rows.fnMonotoneRow=true:=
 (and_mk (and_mk (and_mk (and_mk (and_mk (and_mk (and_mk (and_mk (and_mk (and_mk (and_mk (and_mk (and_mk (and_mk (and_mk (and_mk (and_mk (and_mk (and_mk (and_mk (and_mk (and_mk (and_mk (and_mk (and_mk (and_mk (and_mk (and_mk (and_mk (and_mk (and_mk fnMonotone_q0 fnMonotone_q1) fnMonotone_q2) fnMonotone_q3) fnMonotone_q4) fnMonotone_q5) fnMonotone_q6) fnMonotone_q7) fnMonotone_q8) fnMonotone_q9) fnMonotone_q10) fnMonotone_q11) fnMonotone_q12) fnMonotone_q13) fnMonotone_q14) fnMonotone_q15) fnMonotone_q16) fnMonotone_q17) fnMonotone_q18) fnMonotone_q19) fnMonotone_q20) fnMonotone_q21) fnMonotone_q22) fnMonotone_q23) fnMonotone_q24) fnMonotone_q25) fnMonotone_q26) fnMonotone_q27) fnMonotone_q28) fnMonotone_q29) fnMonotone_q30) fnMonotone_q31)
theorem fnMonotone_holds:Rows.FnMonotoneSaid:=
 OpenClaim.holds_of_wide 8 Tryz.f8 rfl rfl rfl rfl rfl rfl rfl ⟨rfl,rfl,rfl,rfl,rfl⟩ rfl rfl rfl rfl rfl (by kernel_rfl) Tryz.func8 fnMonotone_joined
   (of_decide_eq_true (by kernel_rfl)) (by unfold Func.isWrapper;first | (rw[if_pos (by decide +kernel)];kernel_rfl) | (rw[if_neg (by decide +kernel)];exact⟨rfl,rfl⟩))
   (fun os started H enc _=>fnMonotone_lifted os started H enc)
end Go.Proofs.YtpcljloahdbjcaaGreat
