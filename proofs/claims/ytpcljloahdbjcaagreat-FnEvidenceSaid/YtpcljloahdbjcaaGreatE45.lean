/- FnEvidence: each law function of these statements answers true, for all arguments that can be read. Conditions: none. -/
import Derived.Test.YtpcljloahdbjcaaGreatRows
import Derived.Test.YtpcljloahdbjcaaGreatW45z0
import Derived.Test.YtpcljloahdbjcaaGreatP2
namespace Go.Proofs.YtpcljloahdbjcaaGreat
open Go.ChangeShapes Go.WideShapes Go.ChangeAt Go.RowKit
theorem Tryz.own:ownKnob Tryz.prog.godebug=none:=by kernel_rfl
theorem Tryz.laidOut:laidOutB Tryz.prog=true:=by kernel_rfl
theorem and_mk {a b:Bool}(h:a=true)(k:b=true):(a&&b)=true:=by rw[h,k];rfl
set_option maxRecDepth 100000 in
theorem fnEvidence_lifted (os:Os)(started:os.Started)(H:Type)(enc:TypeId×Value→H):
   ReturnsInHanded {} Tryz.checked os 4 .any (Rows.fnEvidenceSpec.pre6 enc Tryz.prog Tryz.f4 Rows.fnEvidenceRow.domain false) (Rows.fnEvidenceSpec.post enc Tryz.prog Tryz.f4 false true false false):=by
 refine returnsInHanded_of_change (C:=Tryz.checked) Tryz.own started (by kernel_rfl) Tryz.func4
   (ChangeSpec.witness6 (enc:=enc) (C:=Tryz.checked) false ⟨#[],#[.slice none 0 0],[]⟩ 12 (by kernel_rfl) (by kernel_rfl) (by kernel_rfl) (by kernel_rfl)) ?_
 intro W base args ds gs before hval0 hW hcnd _
 have hval:∀ (j:Nat) t v,Tryz.f4.params[j]?=some t→args[j]?=some v→Value.okWide Tryz.prog W .any base t v:=hval0
 have hW':=hW
 obtain⟨p,q,hA0,hV,rfl,hfz,hnd⟩:=hW
 have hA:DataW.TrodAll enc Tryz.prog W 0 (fun _=>true) true Tryz.f4.params.toList args.toList ds p:=hA0
 obtain⟨rfl,rfl⟩:=trodVars_none hV
 have hlen:ds.length=1:=Fw.trodAll_len hA
 rcases ds with _ | ⟨d1,_ | ⟨d2,ds⟩⟩<;>first | (simp at hlen;done) | skip
 refine(Fw.yes_call Fw.F4_ok (fun _ _=>trivial) (fun _ _=>rfl) (ts:=Tryz.f4.params.toList) (by kernel_rfl) hA (fun j t v h1 h2=>hval j t v (by simpa using h1) (by simpa using h2))).mono fun e W' ⟨he,hfr⟩=>?_
 subst he
 exact⟨_,rfl,Fw.post_yes Tryz.laidOut (by kernel_rfl) rfl rfl rfl Tryz.underlying4 hW' hfr⟩
theorem fnEvidence_q0:(Rows.fnEvidenceRow.wf (OpenSpec.ofChange Rows.fnEvidenceSpec):Bool)=true:=by kernel_rfl
theorem fnEvidence_q1:(laidOutB Tryz.pinned.checked.prog:Bool)=true:=by kernel_rfl
theorem fnEvidence_q2:(mapsRowed Tryz.pinned.checked.prog:Bool)=true:=by kernel_rfl
theorem fnEvidence_q3:(Tryz.f4.params.all (Tryz.pinned.checked.prog.readableRec ·):Bool)=true:=by kernel_rfl
theorem fnEvidence_q4:(namedTie Tryz.pinned.checked.prog Rows.fnEvidenceRow.named Rows.fnEvidenceSpec.vars:Bool)=true:=by kernel_rfl
theorem fnEvidence_q5:((Rows.fnEvidenceRow.stops==[]):Bool)=true:=by kernel_rfl
theorem fnEvidence_q6:((Tryz.pinned.checked.prog.stops==[]):Bool)=true:=by kernel_rfl
theorem fnEvidence_q7:((Rows.fnEvidenceRow.knobs==[]):Bool)=true:=by kernel_rfl
theorem fnEvidence_q8:((Tryz.pinned.checked.prog.stopKnobs==[]):Bool)=true:=by kernel_rfl
theorem fnEvidence_q9:((Rows.fnEvidenceRow.inPlace==Tryz.pinned.checked.prog.inPlace 4):Bool)=true:=by kernel_rfl
theorem fnEvidence_q10:((Rows.fnEvidenceRow.unfollowed==Tryz.pinned.checked.prog.unfollowed 4):Bool)=true:=by kernel_rfl
theorem fnEvidence_q11:((Rows.fnEvidenceRow.recurses==Tryz.pinned.checked.prog.recurses 4):Bool)=true:=by kernel_rfl
theorem fnEvidence_q12:((Rows.fnEvidenceRow.named==Tryz.pinned.checked.prog.varsNamed 4):Bool)=true:=by kernel_rfl
theorem fnEvidence_q13:((Rows.fnEvidenceRow.maps==(Tryz.f4.params.toList++Rows.fnEvidenceSpec.plain.varTypes Tryz.pinned.checked.prog).any (Tryz.pinned.checked.prog.mapsRec ·)):Bool)=true:=by kernel_rfl
theorem fnEvidence_q14:((Rows.fnEvidenceRow.ifaces==(Tryz.f4.params.toList++Rows.fnEvidenceSpec.plain.varTypes Tryz.pinned.checked.prog).any (Tryz.pinned.checked.prog.ifacesRec ·)):Bool)=true:=by kernel_rfl
theorem fnEvidence_q15:((Rows.fnEvidenceRow.mapsOut==Tryz.pinned.checked.prog.mapsAmong Tryz.f4.resultTypes.toList):Bool)=true:=by kernel_rfl
theorem fnEvidence_q16:((Rows.fnEvidenceRow.loops==(Tryz.f4.params.toList++Rows.fnEvidenceSpec.plain.varTypes Tryz.pinned.checked.prog).any (Tryz.pinned.checked.prog.loopsFrom ·)):Bool)=true:=by kernel_rfl
theorem fnEvidence_q17:((Rows.fnEvidenceRow.wideKeys==(Tryz.f4.params.toList++Rows.fnEvidenceSpec.plain.varTypes Tryz.pinned.checked.prog++Tryz.f4.resultTypes.toList).any (Tryz.pinned.checked.prog.wideKeysFrom ·)):Bool)=true:=by kernel_rfl
theorem fnEvidence_q18:(Rows.fnEvidenceSpec.vars.all (Tryz.pinned.checked.prog.varReadable ·):Bool)=true:=by kernel_rfl
theorem fnEvidence_q19:(Tryz.f4.resultTypes.all (fun t=>Tryz.pinned.checked.prog.readableRec t&&decide (t<Tryz.pinned.checked.prog.types.size)):Bool)=true:=by kernel_rfl
theorem fnEvidence_q20:((Rows.fnEvidenceRow.ifacesOut==Tryz.f4.resultTypes.toList.any (Tryz.pinned.checked.prog.ifacesRec ·)):Bool)=true:=by kernel_rfl
theorem fnEvidence_q21:((Rows.fnEvidenceRow.loopsOut==Tryz.f4.resultTypes.toList.any (Tryz.pinned.checked.prog.loopsFrom ·)):Bool)=true:=by kernel_rfl
theorem fnEvidence_q22:((Rows.fnEvidenceRow.plainKeys==Tryz.pinned.checked.prog.plainKeys):Bool)=true:=by kernel_rfl
theorem fnEvidence_q23:(Rows.fnEvidenceRow.shortTexts.isNone:Bool)=true:=by kernel_rfl
theorem fnEvidence_q24:(Tryz.pinned.checked.prog.stopsHeard:Bool)=true:=by kernel_rfl
theorem fnEvidence_q25:(Tryz.pinned.checked.prog.mayEnter:Bool)=true:=by kernel_rfl
theorem fnEvidence_q26:((Rows.fnEvidenceRow.lifted==Tryz.pinned.checked.prog.liftsFinal):Bool)=true:=by kernel_rfl
theorem fnEvidence_q27:((Tryz.pinned.checked.prog.make==some Rows.fnEvidenceRow.make):Bool)=true:=by kernel_rfl
theorem fnEvidence_q28:((Rows.fnEvidenceRow.kinds==(if Rows.fnEvidenceRow.domain.isEmpty then []else Tryz.f4.params.toList.map fun t=>match Tryz.pinned.checked.prog.underlying t with | some (.int k)=>some k | _=>none)):Bool)=true:=by kernel_rfl
theorem fnEvidence_q29:((Rows.fnEvidenceRow.pinned==Rows.fnEvidenceRow.pinnedBy):Bool)=true:=by kernel_rfl
theorem fnEvidence_q30:((Rows.fnEvidenceRow.veiled==(Tryz.f4.params.toList++Rows.fnEvidenceSpec.plain.varTypes Tryz.pinned.checked.prog++Tryz.f4.resultTypes.toList).any (Tryz.pinned.checked.prog.veiledRec ·)):Bool)=true:=by kernel_rfl
theorem fnEvidence_q31:(Rows.fnEvidenceRow.veiledFits Tryz.pinned.checked.prog Tryz.f4.params.toList (Tryz.f4.params.toList++Rows.fnEvidenceSpec.plain.varTypes Tryz.pinned.checked.prog++Tryz.f4.resultTypes.toList):Bool)=true:=by kernel_rfl
set_option maxRecDepth 100000 in
theorem fnEvidence_joined:joinedFacts Tryz.pinned.checked.prog 4 Tryz.f4 Rows.fnEvidenceSpec Rows.fnEvidenceRow=true:=
 (and_mk (and_mk (and_mk (and_mk (and_mk (and_mk (and_mk (and_mk (and_mk (and_mk (and_mk (and_mk (and_mk (and_mk (and_mk (and_mk (and_mk (and_mk (and_mk (and_mk (and_mk (and_mk (and_mk (and_mk (and_mk (and_mk (and_mk (and_mk (and_mk (and_mk (and_mk fnEvidence_q0 fnEvidence_q1) fnEvidence_q2) fnEvidence_q3) fnEvidence_q4) fnEvidence_q5) fnEvidence_q6) fnEvidence_q7) fnEvidence_q8) fnEvidence_q9) fnEvidence_q10) fnEvidence_q11) fnEvidence_q12) fnEvidence_q13) fnEvidence_q14) fnEvidence_q15) fnEvidence_q16) fnEvidence_q17) fnEvidence_q18) fnEvidence_q19) fnEvidence_q20) fnEvidence_q21) fnEvidence_q22) fnEvidence_q23) fnEvidence_q24) fnEvidence_q25) fnEvidence_q26) fnEvidence_q27) fnEvidence_q28) fnEvidence_q29) fnEvidence_q30) fnEvidence_q31)
theorem fnEvidence_holds:Rows.FnEvidenceSaid:=
 OpenClaim.holds_of_wide 4 Tryz.f4 rfl rfl rfl rfl rfl rfl rfl ⟨rfl,rfl,rfl,rfl,rfl⟩ rfl rfl rfl rfl rfl (by kernel_rfl) Tryz.func4 fnEvidence_joined
   (of_decide_eq_true (by kernel_rfl)) (by unfold Func.isWrapper;first | (rw[if_pos (by decide +kernel)];kernel_rfl) | (rw[if_neg (by decide +kernel)];exact⟨rfl,rfl⟩))
   (fun os started H enc _=>fnEvidence_lifted os started H enc)
end Go.Proofs.YtpcljloahdbjcaaGreat
