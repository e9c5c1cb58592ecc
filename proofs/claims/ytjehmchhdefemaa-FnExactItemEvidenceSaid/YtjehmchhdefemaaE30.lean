/- FnExactItemEvidence: each law function of these statements answers true, for all arguments that can be read. Conditions: none. -/
import Derived.Test.YtjehmchhdefemaaRows
import Derived.Test.YtjehmchhdefemaaW30
namespace Go.Proofs.Ytjehmchhdefemaa
open Go.ChangeShapes Go.WideShapes Go.ChangeAt Go.RowKit

theorem Try.own : ownKnob Try.prog.godebug = none := by kernel_rfl
theorem Try.laidOut : laidOutB Try.prog = true := by kernel_rfl
theorem and_mk {a b : Bool} (h : a = true) (k : b = true) : (a && b) = true := by rw [h, k]; rfl
set_option maxRecDepth 100000 in
theorem fnExactItemEvidence_lifted (os : Os) (started : os.Started) (H : Type) (enc : TypeId × Value → H) :
    ReturnsInHanded {} Try.checked os 3 .any (Rows.fnExactItemEvidenceSpec.pre6 enc Try.prog Try.f3 Rows.fnExactItemEvidenceRow.domain false) (Rows.fnExactItemEvidenceSpec.post enc Try.prog Try.f3 false true false false) := by
  refine returnsInHanded_of_change (C := Try.checked) Try.own started (by kernel_rfl) Try.func3
    (ChangeSpec.witness6 (enc := enc) (C := Try.checked) false ⟨#[], #[.agg #[.int .i64 0, .int .i64 0, .int .i64 0, .slice none 0 0, .slice none 0 0, .int .i64 0, .int .i64 0, .int .i64 0, .int .i64 0, .int .i64 0, .int .i64 0, .int .i64 0, .int .i64 0, .int .i64 0, .slice none 0 0, .slice none 0 0]], []⟩ 12 (by kernel_rfl) (by kernel_rfl) (by kernel_rfl) (by kernel_rfl)) ?_
  intro W base args ds gs before hval0 hW hcnd _
  have hval : ∀ (j : Nat) t v, Try.f3.params[j]? = some t → args[j]? = some v → Value.okWide Try.prog W .any base t v := hval0
  have hW' := hW
  obtain ⟨p, q, hA0, hV, rfl, hfz, hnd⟩ := hW
  have hA : DataW.TrodAll enc Try.prog W 0 (fun _ => true) true Try.f3.params.toList args.toList ds p := hA0
  obtain ⟨rfl, rfl⟩ := trodVars_none hV
  have hlen : ds.length = 1 := Fw.trodAll_len hA
  rcases ds with _ | ⟨d1, _ | ⟨d2, ds⟩⟩ <;> first | (simp at hlen; done) | skip
  refine (Fw.yes_call Fw.F3_ok (fun _ _ => trivial) (fun _ _ => rfl) (ts := Try.f3.params.toList) (by kernel_rfl) hA (fun j t v h1 h2 => hval j t v (by simpa using h1) (by simpa using h2))).mono fun e W' ⟨he, hfr⟩ => ?_
  subst he
  exact ⟨_, rfl, Fw.post_yes Try.laidOut (by kernel_rfl) rfl rfl rfl Try.underlying4 hW' hfr⟩

theorem fnExactItemEvidence_q0 : (Rows.fnExactItemEvidenceRow.wf (OpenSpec.ofChange Rows.fnExactItemEvidenceSpec) : Bool) = true := by kernel_rfl
theorem fnExactItemEvidence_q1 : (laidOutB Try.pinned.checked.prog : Bool) = true := by kernel_rfl
theorem fnExactItemEvidence_q2 : (mapsRowed Try.pinned.checked.prog : Bool) = true := by kernel_rfl
theorem fnExactItemEvidence_q3 : (Try.f3.params.all (Try.pinned.checked.prog.readableRec ·) : Bool) = true := by kernel_rfl
theorem fnExactItemEvidence_q4 : (namedTie Try.pinned.checked.prog Rows.fnExactItemEvidenceRow.named Rows.fnExactItemEvidenceSpec.vars : Bool) = true := by kernel_rfl
theorem fnExactItemEvidence_q5 : ((Rows.fnExactItemEvidenceRow.stops == []) : Bool) = true := by kernel_rfl
theorem fnExactItemEvidence_q6 : ((Try.pinned.checked.prog.stops == []) : Bool) = true := by kernel_rfl
theorem fnExactItemEvidence_q7 : ((Rows.fnExactItemEvidenceRow.knobs == []) : Bool) = true := by kernel_rfl
theorem fnExactItemEvidence_q8 : ((Try.pinned.checked.prog.stopKnobs == []) : Bool) = true := by kernel_rfl
theorem fnExactItemEvidence_q9 : ((Rows.fnExactItemEvidenceRow.inPlace == Try.pinned.checked.prog.inPlace 3) : Bool) = true := by kernel_rfl
theorem fnExactItemEvidence_q10 : ((Rows.fnExactItemEvidenceRow.unfollowed == Try.pinned.checked.prog.unfollowed 3) : Bool) = true := by kernel_rfl
theorem fnExactItemEvidence_q11 : ((Rows.fnExactItemEvidenceRow.recurses == Try.pinned.checked.prog.recurses 3) : Bool) = true := by kernel_rfl
theorem fnExactItemEvidence_q12 : ((Rows.fnExactItemEvidenceRow.named == Try.pinned.checked.prog.varsNamed 3) : Bool) = true := by kernel_rfl
theorem fnExactItemEvidence_q13 : ((Rows.fnExactItemEvidenceRow.maps == (Try.f3.params.toList ++ Rows.fnExactItemEvidenceSpec.plain.varTypes Try.pinned.checked.prog).any (Try.pinned.checked.prog.mapsRec ·)) : Bool) = true := by kernel_rfl
theorem fnExactItemEvidence_q14 : ((Rows.fnExactItemEvidenceRow.ifaces == (Try.f3.params.toList ++ Rows.fnExactItemEvidenceSpec.plain.varTypes Try.pinned.checked.prog).any (Try.pinned.checked.prog.ifacesRec ·)) : Bool) = true := by kernel_rfl
theorem fnExactItemEvidence_q15 : ((Rows.fnExactItemEvidenceRow.mapsOut == Try.pinned.checked.prog.mapsAmong Try.f3.resultTypes.toList) : Bool) = true := by kernel_rfl
theorem fnExactItemEvidence_q16 : ((Rows.fnExactItemEvidenceRow.loops == (Try.f3.params.toList ++ Rows.fnExactItemEvidenceSpec.plain.varTypes Try.pinned.checked.prog).any (Try.pinned.checked.prog.loopsFrom ·)) : Bool) = true := by kernel_rfl
theorem fnExactItemEvidence_q17 : ((Rows.fnExactItemEvidenceRow.wideKeys == (Try.f3.params.toList ++ Rows.fnExactItemEvidenceSpec.plain.varTypes Try.pinned.checked.prog ++ Try.f3.resultTypes.toList).any (Try.pinned.checked.prog.wideKeysFrom ·)) : Bool) = true := by kernel_rfl
theorem fnExactItemEvidence_q18 : (Rows.fnExactItemEvidenceSpec.vars.all (Try.pinned.checked.prog.varReadable ·) : Bool) = true := by kernel_rfl
theorem fnExactItemEvidence_q19 : (Try.f3.resultTypes.all (fun t => Try.pinned.checked.prog.readableRec t && decide (t < Try.pinned.checked.prog.types.size)) : Bool) = true := by kernel_rfl
theorem fnExactItemEvidence_q20 : ((Rows.fnExactItemEvidenceRow.ifacesOut == Try.f3.resultTypes.toList.any (Try.pinned.checked.prog.ifacesRec ·)) : Bool) = true := by kernel_rfl
theorem fnExactItemEvidence_q21 : ((Rows.fnExactItemEvidenceRow.loopsOut == Try.f3.resultTypes.toList.any (Try.pinned.checked.prog.loopsFrom ·)) : Bool) = true := by kernel_rfl
theorem fnExactItemEvidence_q22 : ((Rows.fnExactItemEvidenceRow.plainKeys == Try.pinned.checked.prog.plainKeys) : Bool) = true := by kernel_rfl
theorem fnExactItemEvidence_q23 : (Rows.fnExactItemEvidenceRow.shortTexts.isNone : Bool) = true := by kernel_rfl
theorem fnExactItemEvidence_q24 : (Try.pinned.checked.prog.stopsHeard : Bool) = true := by kernel_rfl
theorem fnExactItemEvidence_q25 : (Try.pinned.checked.prog.mayEnter : Bool) = true := by kernel_rfl
theorem fnExactItemEvidence_q26 : ((Rows.fnExactItemEvidenceRow.lifted == Try.pinned.checked.prog.liftsFinal) : Bool) = true := by kernel_rfl
theorem fnExactItemEvidence_q27 : ((Try.pinned.checked.prog.make == some Rows.fnExactItemEvidenceRow.make) : Bool) = true := by kernel_rfl
theorem fnExactItemEvidence_q28 : ((Rows.fnExactItemEvidenceRow.kinds == (if Rows.fnExactItemEvidenceRow.domain.isEmpty then [] else Try.f3.params.toList.map fun t => match Try.pinned.checked.prog.underlying t with | some (.int k) => some k | _ => none)) : Bool) = true := by kernel_rfl
theorem fnExactItemEvidence_q29 : ((Rows.fnExactItemEvidenceRow.pinned == Rows.fnExactItemEvidenceRow.pinnedBy) : Bool) = true := by kernel_rfl
theorem fnExactItemEvidence_q30 : ((Rows.fnExactItemEvidenceRow.veiled == (Try.f3.params.toList ++ Rows.fnExactItemEvidenceSpec.plain.varTypes Try.pinned.checked.prog ++ Try.f3.resultTypes.toList).any (Try.pinned.checked.prog.veiledRec ·)) : Bool) = true := by kernel_rfl
theorem fnExactItemEvidence_q31 : (Rows.fnExactItemEvidenceRow.veiledFits Try.pinned.checked.prog Try.f3.params.toList (Try.f3.params.toList ++ Rows.fnExactItemEvidenceSpec.plain.varTypes Try.pinned.checked.prog ++ Try.f3.resultTypes.toList) : Bool) = true := by kernel_rfl
set_option maxRecDepth 100000 in
theorem fnExactItemEvidence_joined : joinedFacts Try.pinned.checked.prog 3 Try.f3 Rows.fnExactItemEvidenceSpec Rows.fnExactItemEvidenceRow = true :=
  (and_mk (and_mk (and_mk (and_mk (and_mk (and_mk (and_mk (and_mk (and_mk (and_mk (and_mk (and_mk (and_mk (and_mk (and_mk (and_mk (and_mk (and_mk (and_mk (and_mk (and_mk (and_mk (and_mk (and_mk (and_mk (and_mk (and_mk (and_mk (and_mk (and_mk (and_mk fnExactItemEvidence_q0 fnExactItemEvidence_q1) fnExactItemEvidence_q2) fnExactItemEvidence_q3) fnExactItemEvidence_q4) fnExactItemEvidence_q5) fnExactItemEvidence_q6) fnExactItemEvidence_q7) fnExactItemEvidence_q8) fnExactItemEvidence_q9) fnExactItemEvidence_q10) fnExactItemEvidence_q11) fnExactItemEvidence_q12) fnExactItemEvidence_q13) fnExactItemEvidence_q14) fnExactItemEvidence_q15) fnExactItemEvidence_q16) fnExactItemEvidence_q17) fnExactItemEvidence_q18) fnExactItemEvidence_q19) fnExactItemEvidence_q20) fnExactItemEvidence_q21) fnExactItemEvidence_q22) fnExactItemEvidence_q23) fnExactItemEvidence_q24) fnExactItemEvidence_q25) fnExactItemEvidence_q26) fnExactItemEvidence_q27) fnExactItemEvidence_q28) fnExactItemEvidence_q29) fnExactItemEvidence_q30) fnExactItemEvidence_q31)
theorem fnExactItemEvidence_holds : Rows.FnExactItemEvidenceSaid :=
  OpenClaim.holds_of_wide 3 Try.f3 rfl rfl rfl rfl rfl rfl rfl ⟨rfl, rfl, rfl, rfl, rfl⟩ rfl rfl rfl rfl rfl (by kernel_rfl) Try.func3 fnExactItemEvidence_joined
    (of_decide_eq_true (by kernel_rfl)) (by unfold Func.isWrapper; first | (rw [if_pos (by decide +kernel)]; kernel_rfl) | (rw [if_neg (by decide +kernel)]; exact ⟨rfl, rfl⟩))
    (fun os started H enc _ => fnExactItemEvidence_lifted os started H enc)
end Go.Proofs.Ytjehmchhdefemaa
