/- FnExactIsProof: each law function of these statements answers true, for all arguments that can be read. Conditions: none. -/
import Derived.Test.YtpgkddboibiafaaRows
import Derived.Test.YtpgkddboibiafaaW5b
namespace Go.Proofs.Ytpgkddboibiafaa
open Go.ChangeShapes Go.WideShapes Go.ChangeAt Go.RowKit

theorem Try.own : ownKnob Try.prog.godebug = none := by kernel_rfl
theorem Try.laidOut : laidOutB Try.prog = true := by kernel_rfl
theorem and_mk {a b : Bool} (h : a = true) (k : b = true) : (a && b) = true := by rw [h, k]; rfl
set_option maxRecDepth 100000 in
theorem fnExactIsProof_lifted (os : Os) (started : os.Started) (H : Type) (enc : TypeId × Value → H) :
    ReturnsInHanded {} Try.checked os 4 .any (Rows.fnExactIsProofSpec.pre6 enc Try.prog Try.f4 Rows.fnExactIsProofRow.domain false) (Rows.fnExactIsProofSpec.post enc Try.prog Try.f4 false true false false) := by
  refine returnsInHanded_of_change (C := Try.checked) Try.own started (by kernel_rfl) Try.func4
    (ChangeSpec.witness6 (enc := enc) (C := Try.checked) false ⟨#[], #[.slice none 0 0, .slice none 0 0, .agg #[.int .i64 0, .int .i64 0, .int .i64 0, .int .i64 0, .int .i64 0, .int .i64 0, .int .i64 0, .int .i64 0, .int .i64 0, .int .i64 0], .int .i64 0], []⟩ 12 (by kernel_rfl) (by kernel_rfl) (by kernel_rfl) (by kernel_rfl)) ?_
  intro W base args ds gs before hval0 hW hcnd _
  have hval : ∀ (j : Nat) t v, Try.f4.params[j]? = some t → args[j]? = some v → Value.okWide Try.prog W .any base t v := hval0
  have hW' := hW
  obtain ⟨p, q, hA0, hV, rfl, hfz, hnd⟩ := hW
  have hA : DataW.TrodAll enc Try.prog W 0 (fun _ => true) true Try.f4.params.toList args.toList ds p := hA0
  obtain ⟨rfl, rfl⟩ := trodVars_none hV
  have hlen : ds.length = 4 := Fw.trodAll_len hA
  rcases ds with _ | ⟨d1, _ | ⟨d2, _ | ⟨d3, _ | ⟨d4, _ | ⟨d5, ds⟩⟩⟩⟩⟩ <;> first | (simp at hlen; done) | skip
  refine (Fw.yes_call Fw.F4_ok (fun _ _ => trivial) (fun _ _ => rfl) (ts := Try.f4.params.toList) (by kernel_rfl) hA (fun j t v h1 h2 => hval j t v (by simpa using h1) (by simpa using h2))).mono fun e W' ⟨he, hfr⟩ => ?_
  subst he
  exact ⟨_, rfl, Fw.post_yes Try.laidOut (by kernel_rfl) rfl rfl rfl Try.underlying4 hW' hfr⟩

theorem fnExactIsProof_q0 : (Rows.fnExactIsProofRow.wf (OpenSpec.ofChange Rows.fnExactIsProofSpec) : Bool) = true := by kernel_rfl
theorem fnExactIsProof_q1 : (laidOutB Try.pinned.checked.prog : Bool) = true := by kernel_rfl
theorem fnExactIsProof_q2 : (mapsRowed Try.pinned.checked.prog : Bool) = true := by kernel_rfl
theorem fnExactIsProof_q3 : (Try.f4.params.all (Try.pinned.checked.prog.readableRec ·) : Bool) = true := by kernel_rfl
theorem fnExactIsProof_q4 : (namedTie Try.pinned.checked.prog Rows.fnExactIsProofRow.named Rows.fnExactIsProofSpec.vars : Bool) = true := by kernel_rfl
theorem fnExactIsProof_q5 : ((Rows.fnExactIsProofRow.stops == []) : Bool) = true := by kernel_rfl
theorem fnExactIsProof_q6 : ((Try.pinned.checked.prog.stops == []) : Bool) = true := by kernel_rfl
theorem fnExactIsProof_q7 : ((Rows.fnExactIsProofRow.knobs == []) : Bool) = true := by kernel_rfl
theorem fnExactIsProof_q8 : ((Try.pinned.checked.prog.stopKnobs == []) : Bool) = true := by kernel_rfl
theorem fnExactIsProof_q9 : ((Rows.fnExactIsProofRow.inPlace == Try.pinned.checked.prog.inPlace 4) : Bool) = true := by kernel_rfl
theorem fnExactIsProof_q10 : ((Rows.fnExactIsProofRow.unfollowed == Try.pinned.checked.prog.unfollowed 4) : Bool) = true := by kernel_rfl
theorem fnExactIsProof_q11 : ((Rows.fnExactIsProofRow.recurses == Try.pinned.checked.prog.recurses 4) : Bool) = true := by kernel_rfl
theorem fnExactIsProof_q12 : ((Rows.fnExactIsProofRow.named == Try.pinned.checked.prog.varsNamed 4) : Bool) = true := by kernel_rfl
theorem fnExactIsProof_q13 : ((Rows.fnExactIsProofRow.maps == (Try.f4.params.toList ++ Rows.fnExactIsProofSpec.plain.varTypes Try.pinned.checked.prog).any (Try.pinned.checked.prog.mapsRec ·)) : Bool) = true := by kernel_rfl
theorem fnExactIsProof_q14 : ((Rows.fnExactIsProofRow.ifaces == (Try.f4.params.toList ++ Rows.fnExactIsProofSpec.plain.varTypes Try.pinned.checked.prog).any (Try.pinned.checked.prog.ifacesRec ·)) : Bool) = true := by kernel_rfl
theorem fnExactIsProof_q15 : ((Rows.fnExactIsProofRow.mapsOut == Try.pinned.checked.prog.mapsAmong Try.f4.resultTypes.toList) : Bool) = true := by kernel_rfl
theorem fnExactIsProof_q16 : ((Rows.fnExactIsProofRow.loops == (Try.f4.params.toList ++ Rows.fnExactIsProofSpec.plain.varTypes Try.pinned.checked.prog).any (Try.pinned.checked.prog.loopsFrom ·)) : Bool) = true := by kernel_rfl
theorem fnExactIsProof_q17 : ((Rows.fnExactIsProofRow.wideKeys == (Try.f4.params.toList ++ Rows.fnExactIsProofSpec.plain.varTypes Try.pinned.checked.prog ++ Try.f4.resultTypes.toList).any (Try.pinned.checked.prog.wideKeysFrom ·)) : Bool) = true := by kernel_rfl
theorem fnExactIsProof_q18 : (Rows.fnExactIsProofSpec.vars.all (Try.pinned.checked.prog.varReadable ·) : Bool) = true := by kernel_rfl
theorem fnExactIsProof_q19 : (Try.f4.resultTypes.all (fun t => Try.pinned.checked.prog.readableRec t && decide (t < Try.pinned.checked.prog.types.size)) : Bool) = true := by kernel_rfl
theorem fnExactIsProof_q20 : ((Rows.fnExactIsProofRow.ifacesOut == Try.f4.resultTypes.toList.any (Try.pinned.checked.prog.ifacesRec ·)) : Bool) = true := by kernel_rfl
theorem fnExactIsProof_q21 : ((Rows.fnExactIsProofRow.loopsOut == Try.f4.resultTypes.toList.any (Try.pinned.checked.prog.loopsFrom ·)) : Bool) = true := by kernel_rfl
theorem fnExactIsProof_q22 : ((Rows.fnExactIsProofRow.plainKeys == Try.pinned.checked.prog.plainKeys) : Bool) = true := by kernel_rfl
theorem fnExactIsProof_q23 : (Rows.fnExactIsProofRow.shortTexts.isNone : Bool) = true := by kernel_rfl
theorem fnExactIsProof_q24 : (Try.pinned.checked.prog.stopsHeard : Bool) = true := by kernel_rfl
theorem fnExactIsProof_q25 : (Try.pinned.checked.prog.mayEnter : Bool) = true := by kernel_rfl
theorem fnExactIsProof_q26 : ((Rows.fnExactIsProofRow.lifted == Try.pinned.checked.prog.liftsFinal) : Bool) = true := by kernel_rfl
theorem fnExactIsProof_q27 : ((Try.pinned.checked.prog.make == some Rows.fnExactIsProofRow.make) : Bool) = true := by kernel_rfl
theorem fnExactIsProof_q28 : ((Rows.fnExactIsProofRow.kinds == (if Rows.fnExactIsProofRow.domain.isEmpty then [] else Try.f4.params.toList.map fun t => match Try.pinned.checked.prog.underlying t with | some (.int k) => some k | _ => none)) : Bool) = true := by kernel_rfl
theorem fnExactIsProof_q29 : ((Rows.fnExactIsProofRow.pinned == Rows.fnExactIsProofRow.pinnedBy) : Bool) = true := by kernel_rfl
theorem fnExactIsProof_q30 : ((Rows.fnExactIsProofRow.veiled == (Try.f4.params.toList ++ Rows.fnExactIsProofSpec.plain.varTypes Try.pinned.checked.prog ++ Try.f4.resultTypes.toList).any (Try.pinned.checked.prog.veiledRec ·)) : Bool) = true := by kernel_rfl
theorem fnExactIsProof_q31 : (Rows.fnExactIsProofRow.veiledFits Try.pinned.checked.prog Try.f4.params.toList (Try.f4.params.toList ++ Rows.fnExactIsProofSpec.plain.varTypes Try.pinned.checked.prog ++ Try.f4.resultTypes.toList) : Bool) = true := by kernel_rfl
set_option maxRecDepth 100000 in
theorem fnExactIsProof_joined : joinedFacts Try.pinned.checked.prog 4 Try.f4 Rows.fnExactIsProofSpec Rows.fnExactIsProofRow = true :=
  (and_mk (and_mk (and_mk (and_mk (and_mk (and_mk (and_mk (and_mk (and_mk (and_mk (and_mk (and_mk (and_mk (and_mk (and_mk (and_mk (and_mk (and_mk (and_mk (and_mk (and_mk (and_mk (and_mk (and_mk (and_mk (and_mk (and_mk (and_mk (and_mk (and_mk (and_mk fnExactIsProof_q0 fnExactIsProof_q1) fnExactIsProof_q2) fnExactIsProof_q3) fnExactIsProof_q4) fnExactIsProof_q5) fnExactIsProof_q6) fnExactIsProof_q7) fnExactIsProof_q8) fnExactIsProof_q9) fnExactIsProof_q10) fnExactIsProof_q11) fnExactIsProof_q12) fnExactIsProof_q13) fnExactIsProof_q14) fnExactIsProof_q15) fnExactIsProof_q16) fnExactIsProof_q17) fnExactIsProof_q18) fnExactIsProof_q19) fnExactIsProof_q20) fnExactIsProof_q21) fnExactIsProof_q22) fnExactIsProof_q23) fnExactIsProof_q24) fnExactIsProof_q25) fnExactIsProof_q26) fnExactIsProof_q27) fnExactIsProof_q28) fnExactIsProof_q29) fnExactIsProof_q30) fnExactIsProof_q31)
theorem fnExactIsProof_holds : Rows.FnExactIsProofSaid :=
  OpenClaim.holds_of_wide 4 Try.f4 rfl rfl rfl rfl rfl rfl rfl ⟨rfl, rfl, rfl, rfl, rfl⟩ rfl rfl rfl rfl rfl (by kernel_rfl) Try.func4 fnExactIsProof_joined
    (of_decide_eq_true (by kernel_rfl)) (by unfold Func.isWrapper; first | (rw [if_pos (by decide +kernel)]; kernel_rfl) | (rw [if_neg (by decide +kernel)]; exact ⟨rfl, rfl⟩))
    (fun os started H enc _ => fnExactIsProof_lifted os started H enc)
end Go.Proofs.Ytpgkddboibiafaa
