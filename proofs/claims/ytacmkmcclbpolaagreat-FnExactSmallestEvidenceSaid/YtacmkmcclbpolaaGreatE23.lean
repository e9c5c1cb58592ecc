/- FnExactSmallestEvidence: each law function of these statements answers true, for all arguments that can be read. Conditions: none. -/
import Derived.Test.YtacmkmcclbpolaaGreatRows
import Derived.Test.YtacmkmcclbpolaaGreatW23z0
import Derived.Test.YtacmkmcclbpolaaGreatP2
namespace Go.Proofs.YtacmkmcclbpolaaGreat
open Go.ChangeShapes Go.WideShapes Go.ChangeAt Go.RowKit
theorem Tryz.own:ownKnob Tryz.prog.godebug=none:=by kernel_rfl
theorem Tryz.laidOut:laidOutB Tryz.prog=true:=by kernel_rfl
theorem and_mk {a b:Bool}(h:a=true)(k:b=true):(a&&b)=true:=by rw[h,k];rfl
set_option maxRecDepth 100000 in
theorem fnExactSmallestEvidence_lifted (os:Os)(started:os.Started)(H:Type)(enc:TypeId×Value→H):
   ReturnsInHanded {} Tryz.checked os 3 .any (Rows.fnExactSmallestEvidenceSpec.pre6 enc Tryz.prog Tryz.f3 Rows.fnExactSmallestEvidenceRow.domain false) (Rows.fnExactSmallestEvidenceSpec.post enc Tryz.prog Tryz.f3 false true false false):=by
 refine returnsInHanded_of_change (C:=Tryz.checked) Tryz.own started (by kernel_rfl) Tryz.func3
   (ChangeSpec.witness6 (enc:=enc) (C:=Tryz.checked) false ⟨#[],#[.agg #[.slice none 0 0,.slice none 0 0,.slice none 0 0,.int .i64 0,.int .i64 0],.agg #[.slice none 0 0,.slice none 0 0],.agg #[.int .i64 0,.slice none 0 0,.slice none 0 0],.agg #[.int .i64 0,.int .i64 0,.int .i64 0,.int .i64 0,.int .i64 0,.int .i64 0,.int .i64 0,.int .i64 0,.int .i64 0]],[]⟩ 12 (by kernel_rfl) (by kernel_rfl) (by kernel_rfl) (by kernel_rfl)) ?_
 intro W base args ds gs before hval0 hW hcnd _
 have hval:∀ (j:Nat) t v,Tryz.f3.params[j]?=some t→args[j]?=some v→Value.okWide Tryz.prog W .any base t v:=hval0
 have hW':=hW
 obtain⟨p,q,hA0,hV,rfl,hfz,hnd⟩:=hW
 have hA:DataW.TrodAll enc Tryz.prog W 0 (fun _=>true) true Tryz.f3.params.toList args.toList ds p:=hA0
 obtain⟨rfl,rfl⟩:=trodVars_none hV
 have hlen:ds.length=4:=Fw.trodAll_len hA
 rcases ds with _ | ⟨d1,_ | ⟨d2,_ | ⟨d3,_ | ⟨d4,_ | ⟨d5,ds⟩⟩⟩⟩⟩<;>first | (simp at hlen;done) | skip
 refine(Fw.yes_call Fw.F3_ok (fun _ _=>trivial) (fun _ _=>rfl) (ts:=Tryz.f3.params.toList) (by kernel_rfl) hA (fun j t v h1 h2=>hval j t v (by simpa using h1) (by simpa using h2))).mono fun e W' ⟨he,hfr⟩=>?_
 subst he
 exact⟨_,rfl,Fw.post_yes Tryz.laidOut (by kernel_rfl) rfl rfl rfl Tryz.underlying4 hW' hfr⟩
theorem fnExactSmallestEvidence_q0:(Rows.fnExactSmallestEvidenceRow.wf (OpenSpec.ofChange Rows.fnExactSmallestEvidenceSpec):Bool)=true:=by kernel_rfl
theorem fnExactSmallestEvidence_q1:(laidOutB Tryz.pinned.checked.prog:Bool)=true:=by kernel_rfl
theorem fnExactSmallestEvidence_q2:(mapsRowed Tryz.pinned.checked.prog:Bool)=true:=by kernel_rfl
theorem fnExactSmallestEvidence_q3:(Tryz.f3.params.all (Tryz.pinned.checked.prog.readableRec ·):Bool)=true:=by kernel_rfl
theorem fnExactSmallestEvidence_q4:(namedTie Tryz.pinned.checked.prog Rows.fnExactSmallestEvidenceRow.named Rows.fnExactSmallestEvidenceSpec.vars:Bool)=true:=by kernel_rfl
theorem fnExactSmallestEvidence_q5:((Rows.fnExactSmallestEvidenceRow.stops==[]):Bool)=true:=by kernel_rfl
theorem fnExactSmallestEvidence_q6:((Tryz.pinned.checked.prog.stops==[]):Bool)=true:=by kernel_rfl
theorem fnExactSmallestEvidence_q7:((Rows.fnExactSmallestEvidenceRow.knobs==[]):Bool)=true:=by kernel_rfl
theorem fnExactSmallestEvidence_q8:((Tryz.pinned.checked.prog.stopKnobs==[]):Bool)=true:=by kernel_rfl
theorem fnExactSmallestEvidence_q9:((Rows.fnExactSmallestEvidenceRow.inPlace==Tryz.pinned.checked.prog.inPlace 3):Bool)=true:=by kernel_rfl
theorem fnExactSmallestEvidence_q10:((Rows.fnExactSmallestEvidenceRow.unfollowed==Tryz.pinned.checked.prog.unfollowed 3):Bool)=true:=by kernel_rfl
theorem fnExactSmallestEvidence_q11:((Rows.fnExactSmallestEvidenceRow.recurses==Tryz.pinned.checked.prog.recurses 3):Bool)=true:=by kernel_rfl
theorem fnExactSmallestEvidence_q12:((Rows.fnExactSmallestEvidenceRow.named==Tryz.pinned.checked.prog.varsNamed 3):Bool)=true:=by kernel_rfl
theorem fnExactSmallestEvidence_q13:((Rows.fnExactSmallestEvidenceRow.maps==(Tryz.f3.params.toList++Rows.fnExactSmallestEvidenceSpec.plain.varTypes Tryz.pinned.checked.prog).any (Tryz.pinned.checked.prog.mapsRec ·)):Bool)=true:=by kernel_rfl
theorem fnExactSmallestEvidence_q14:((Rows.fnExactSmallestEvidenceRow.ifaces==(Tryz.f3.params.toList++Rows.fnExactSmallestEvidenceSpec.plain.varTypes Tryz.pinned.checked.prog).any (Tryz.pinned.checked.prog.ifacesRec ·)):Bool)=true:=by kernel_rfl
theorem fnExactSmallestEvidence_q15:((Rows.fnExactSmallestEvidenceRow.mapsOut==Tryz.pinned.checked.prog.mapsAmong Tryz.f3.resultTypes.toList):Bool)=true:=by kernel_rfl
theorem fnExactSmallestEvidence_q16:((Rows.fnExactSmallestEvidenceRow.loops==(Tryz.f3.params.toList++Rows.fnExactSmallestEvidenceSpec.plain.varTypes Tryz.pinned.checked.prog).any (Tryz.pinned.checked.prog.loopsFrom ·)):Bool)=true:=by kernel_rfl
theorem fnExactSmallestEvidence_q17:((Rows.fnExactSmallestEvidenceRow.wideKeys==(Tryz.f3.params.toList++Rows.fnExactSmallestEvidenceSpec.plain.varTypes Tryz.pinned.checked.prog++Tryz.f3.resultTypes.toList).any (Tryz.pinned.checked.prog.wideKeysFrom ·)):Bool)=true:=by kernel_rfl
theorem fnExactSmallestEvidence_q18:(Rows.fnExactSmallestEvidenceSpec.vars.all (Tryz.pinned.checked.prog.varReadable ·):Bool)=true:=by kernel_rfl
theorem fnExactSmallestEvidence_q19:(Tryz.f3.resultTypes.all (fun t=>Tryz.pinned.checked.prog.readableRec t&&decide (t<Tryz.pinned.checked.prog.types.size)):Bool)=true:=by kernel_rfl
theorem fnExactSmallestEvidence_q20:((Rows.fnExactSmallestEvidenceRow.ifacesOut==Tryz.f3.resultTypes.toList.any (Tryz.pinned.checked.prog.ifacesRec ·)):Bool)=true:=by kernel_rfl
theorem fnExactSmallestEvidence_q21:((Rows.fnExactSmallestEvidenceRow.loopsOut==Tryz.f3.resultTypes.toList.any (Tryz.pinned.checked.prog.loopsFrom ·)):Bool)=true:=by kernel_rfl
theorem fnExactSmallestEvidence_q22:((Rows.fnExactSmallestEvidenceRow.plainKeys==Tryz.pinned.checked.prog.plainKeys):Bool)=true:=by kernel_rfl
theorem fnExactSmallestEvidence_q23:(Rows.fnExactSmallestEvidenceRow.shortTexts.isNone:Bool)=true:=by kernel_rfl
theorem fnExactSmallestEvidence_q24:(Tryz.pinned.checked.prog.stopsHeard:Bool)=true:=by kernel_rfl
theorem fnExactSmallestEvidence_q25:(Tryz.pinned.checked.prog.mayEnter:Bool)=true:=by kernel_rfl
theorem fnExactSmallestEvidence_q26:((Rows.fnExactSmallestEvidenceRow.lifted==Tryz.pinned.checked.prog.liftsFinal):Bool)=true:=by kernel_rfl
theorem fnExactSmallestEvidence_q27:((Tryz.pinned.checked.prog.make==some Rows.fnExactSmallestEvidenceRow.make):Bool)=true:=by kernel_rfl
theorem fnExactSmallestEvidence_q28:((Rows.fnExactSmallestEvidenceRow.kinds==(if Rows.fnExactSmallestEvidenceRow.domain.isEmpty then []else Tryz.f3.params.toList.map fun t=>match Tryz.pinned.checked.prog.underlying t with | some (.int k)=>some k | _=>none)):Bool)=true:=by kernel_rfl
theorem fnExactSmallestEvidence_q29:((Rows.fnExactSmallestEvidenceRow.pinned==Rows.fnExactSmallestEvidenceRow.pinnedBy):Bool)=true:=by kernel_rfl
theorem fnExactSmallestEvidence_q30:((Rows.fnExactSmallestEvidenceRow.veiled==(Tryz.f3.params.toList++Rows.fnExactSmallestEvidenceSpec.plain.varTypes Tryz.pinned.checked.prog++Tryz.f3.resultTypes.toList).any (Tryz.pinned.checked.prog.veiledRec ·)):Bool)=true:=by kernel_rfl
theorem fnExactSmallestEvidence_q31:(Rows.fnExactSmallestEvidenceRow.veiledFits Tryz.pinned.checked.prog Tryz.f3.params.toList (Tryz.f3.params.toList++Rows.fnExactSmallestEvidenceSpec.plain.varTypes Tryz.pinned.checked.prog++Tryz.f3.resultTypes.toList):Bool)=true:=by kernel_rfl
set_option maxRecDepth 100000 in
theorem fnExactSmallestEvidence_joined:joinedFacts Tryz.pinned.checked.prog 3 Tryz.f3 Rows.fnExactSmallestEvidenceSpec Rows.fnExactSmallestEvidenceRow=true:=
 (and_mk (and_mk (and_mk (and_mk (and_mk (and_mk (and_mk (and_mk (and_mk (and_mk (and_mk (and_mk (and_mk (and_mk (and_mk (and_mk (and_mk (and_mk (and_mk (and_mk (and_mk (and_mk (and_mk (and_mk (and_mk (and_mk (and_mk (and_mk (and_mk (and_mk (and_mk fnExactSmallestEvidence_q0 fnExactSmallestEvidence_q1) fnExactSmallestEvidence_q2) fnExactSmallestEvidence_q3) fnExactSmallestEvidence_q4) fnExactSmallestEvidence_q5) fnExactSmallestEvidence_q6) fnExactSmallestEvidence_q7) fnExactSmallestEvidence_q8) fnExactSmallestEvidence_q9) fnExactSmallestEvidence_q10) fnExactSmallestEvidence_q11) fnExactSmallestEvidence_q12) fnExactSmallestEvidence_q13) fnExactSmallestEvidence_q14) fnExactSmallestEvidence_q15) fnExactSmallestEvidence_q16) fnExactSmallestEvidence_q17) fnExactSmallestEvidence_q18) fnExactSmallestEvidence_q19) fnExactSmallestEvidence_q20) fnExactSmallestEvidence_q21) fnExactSmallestEvidence_q22) fnExactSmallestEvidence_q23) fnExactSmallestEvidence_q24) fnExactSmallestEvidence_q25) fnExactSmallestEvidence_q26) fnExactSmallestEvidence_q27) fnExactSmallestEvidence_q28) fnExactSmallestEvidence_q29) fnExactSmallestEvidence_q30) fnExactSmallestEvidence_q31)
theorem fnExactSmallestEvidence_holds:Rows.FnExactSmallestEvidenceSaid:=
 OpenClaim.holds_of_wide 3 Tryz.f3 rfl rfl rfl rfl rfl rfl rfl ⟨rfl,rfl,rfl,rfl,rfl⟩ rfl rfl rfl rfl rfl (by kernel_rfl) Tryz.func3 fnExactSmallestEvidence_joined
   (of_decide_eq_true (by kernel_rfl)) (by unfold Func.isWrapper;first | (rw[if_pos (by decide +kernel)];kernel_rfl) | (rw[if_neg (by decide +kernel)];exact⟨rfl,rfl⟩))
   (fun os started H enc _=>fnExactSmallestEvidence_lifted os started H enc)
end Go.Proofs.YtacmkmcclbpolaaGreat
