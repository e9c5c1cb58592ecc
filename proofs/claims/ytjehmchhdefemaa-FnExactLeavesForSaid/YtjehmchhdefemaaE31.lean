/- FnExactLeavesFor: each law function of these statements answers true, for all arguments that can be read. Conditions: none. -/
import Derived.Test.YtjehmchhdefemaaRows
import Derived.Test.YtjehmchhdefemaaW31
namespace Go.Proofs.Ytjehmchhdefemaa
open Go.ChangeShapes Go.WideShapes Go.ChangeAt Go.RowKit

theorem Try.own : ownKnob Try.prog.godebug = none := by kernel_rfl
theorem Try.laidOut : laidOutB Try.prog = true := by kernel_rfl
theorem and_mk {a b : Bool} (h : a = true) (k : b = true) : (a && b) = true := by rw [h, k]; rfl
set_option maxRecDepth 100000 in
theorem fnExactLeavesFor_lifted (os : Os) (started : os.Started) (H : Type) (enc : TypeId × Value → H) :
    ReturnsInHanded {} Try.checked os 4 .any (Rows.fnExactLeavesForSpec.pre6 enc Try.prog Try.f4 Rows.fnExactLeavesForRow.domain false) (Rows.fnExactLeavesForSpec.post enc Try.prog Try.f4 false true false false) := by
  refine returnsInHanded_of_change (C := Try.checked) Try.own started (by kernel_rfl) Try.func4
    (ChangeSpec.witness6 (enc := enc) (C := Try.checked) false ⟨#[], #[.agg #[.int .i64 0, .slice none 0 0], .int .i64 0], []⟩ 12 (by kernel_rfl) (by kernel_rfl) (by kernel_rfl) (by kernel_rfl)) ?_
  intro W base args ds gs before hval0 hW hcnd _
  have hval : ∀ (j : Nat) t v, Try.f4.params[j]? = some t → args[j]? = some v → Value.okWide Try.prog W .any base t v := hval0
  have hW' := hW
  obtain ⟨p, q, hA0, hV, rfl, hfz, hnd⟩ := hW
  have hA : DataW.TrodAll enc Try.prog W 0 (fun _ => true) true Try.f4.params.toList args.toList ds p := hA0
  obtain ⟨rfl, rfl⟩ := trodVars_none hV
  have hlen : ds.length = 2 := Fw.trodAll_len hA
  rcases ds with _ | ⟨d1, _ | ⟨d2, _ | ⟨d3, ds⟩⟩⟩ <;> first | (simp at hlen; done) | skip
  refine (Fw.yes_call Fw.F4_ok (fun _ _ => trivial) (fun _ _ => rfl) (ts := Try.f4.params.toList) (by kernel_rfl) hA (fun j t v h1 h2 => hval j t v (by simpa using h1) (by simpa using h2))).mono fun e W' ⟨he, hfr⟩ => ?_
  subst he
  exact ⟨_, rfl, Fw.post_yes Try.laidOut (by kernel_rfl) rfl rfl rfl Try.underlying4 hW' hfr⟩

theorem fnExactLeavesFor_q0 : (Rows.fnExactLeavesForRow.wf (OpenSpec.ofChange Rows.fnExactLeavesForSpec) : Bool) = true := by kernel_rfl
theorem fnExactLeavesFor_q1 : (laidOutB Try.pinned.checked.prog : Bool) = true := by kernel_rfl
theorem fnExactLeavesFor_q2 : (mapsRowed Try.pinned.checked.prog : Bool) = true := by kernel_rfl
theorem fnExactLeavesFor_q3 : (Try.f4.params.all (Try.pinned.checked.prog.readableRec ·) : Bool) = true := by kernel_rfl
theorem fnExactLeavesFor_q4 : (namedTie Try.pinned.checked.prog Rows.fnExactLeavesForRow.named Rows.fnExactLeavesForSpec.vars : Bool) = true := by kernel_rfl
theorem fnExactLeavesFor_q5 : ((Rows.fnExactLeavesForRow.stops == []) : Bool) = true := by kernel_rfl
theorem fnExactLeavesFor_q6 : ((Try.pinned.checked.prog.stops == []) : Bool) = true := by kernel_rfl
theorem fnExactLeavesFor_q7 : ((Rows.fnExactLeavesForRow.knobs == []) : Bool) = true := by kernel_rfl
theorem fnExactLeavesFor_q8 : ((Try.pinned.checked.prog.stopKnobs == []) : Bool) = true := by kernel_rfl
theorem fnExactLeavesFor_q9 : ((Rows.fnExactLeavesForRow.inPlace == Try.pinned.checked.prog.inPlace 4) : Bool) = true := by kernel_rfl
theorem fnExactLeavesFor_q10 : ((Rows.fnExactLeavesForRow.unfollowed == Try.pinned.checked.prog.unfollowed 4) : Bool) = true := by kernel_rfl
theorem fnExactLeavesFor_q11 : ((Rows.fnExactLeavesForRow.recurses == Try.pinned.checked.prog.recurses 4) : Bool) = true := by kernel_rfl
theorem fnExactLeavesFor_q12 : ((Rows.fnExactLeavesForRow.named == Try.pinned.checked.prog.varsNamed 4) : Bool) = true := by kernel_rfl
theorem fnExactLeavesFor_q13 : ((Rows.fnExactLeavesForRow.maps == (Try.f4.params.toList ++ Rows.fnExactLeavesForSpec.plain.varTypes Try.pinned.checked.prog).any (Try.pinned.checked.prog.mapsRec ·)) : Bool) = true := by kernel_rfl
theorem fnExactLeavesFor_q14 : ((Rows.fnExactLeavesForRow.ifaces == (Try.f4.params.toList ++ Rows.fnExactLeavesForSpec.plain.varTypes Try.pinned.checked.prog).any (Try.pinned.checked.prog.ifacesRec ·)) : Bool) = true := by kernel_rfl
theorem fnExactLeavesFor_q15 : ((Rows.fnExactLeavesForRow.mapsOut == Try.pinned.checked.prog.mapsAmong Try.f4.resultTypes.toList) : Bool) = true := by kernel_rfl
theorem fnExactLeavesFor_q16 : ((Rows.fnExactLeavesForRow.loops == (Try.f4.params.toList ++ Rows.fnExactLeavesForSpec.plain.varTypes Try.pinned.checked.prog).any (Try.pinned.checked.prog.loopsFrom ·)) : Bool) = true := by kernel_rfl
theorem fnExactLeavesFor_q17 : ((Rows.fnExactLeavesForRow.wideKeys == (Try.f4.params.toList ++ Rows.fnExactLeavesForSpec.plain.varTypes Try.pinned.checked.prog ++ Try.f4.resultTypes.toList).any (Try.pinned.checked.prog.wideKeysFrom ·)) : Bool) = true := by kernel_rfl
theorem fnExactLeavesFor_q18 : (Rows.fnExactLeavesForSpec.vars.all (Try.pinned.checked.prog.varReadable ·) : Bool) = true := by kernel_rfl
theorem fnExactLeavesFor_q19 : (Try.f4.resultTypes.all (fun t => Try.pinned.checked.prog.readableRec t && decide (t < Try.pinned.checked.prog.types.size)) : Bool) = true := by kernel_rfl
theorem fnExactLeavesFor_q20 : ((Rows.fnExactLeavesForRow.ifacesOut == Try.f4.resultTypes.toList.any (Try.pinned.checked.prog.ifacesRec ·)) : Bool) = true := by kernel_rfl
theorem fnExactLeavesFor_q21 : ((Rows.fnExactLeavesForRow.loopsOut == Try.f4.resultTypes.toList.any (Try.pinned.checked.prog.loopsFrom ·)) : Bool) = true := by kernel_rfl
theorem fnExactLeavesFor_q22 : ((Rows.fnExactLeavesForRow.plainKeys == Try.pinned.checked.prog.plainKeys) : Bool) = true := by kernel_rfl
theorem fnExactLeavesFor_q23 : (Rows.fnExactLeavesForRow.shortTexts.isNone : Bool) = true := by kernel_rfl
theorem fnExactLeavesFor_q24 : (Try.pinned.checked.prog.stopsHeard : Bool) = true := by kernel_rfl
theorem fnExactLeavesFor_q25 : (Try.pinned.checked.prog.mayEnter : Bool) = true := by kernel_rfl
theorem fnExactLeavesFor_q26 : ((Rows.fnExactLeavesForRow.lifted == Try.pinned.checked.prog.liftsFinal) : Bool) = true := by kernel_rfl
theorem fnExactLeavesFor_q27 : ((Try.pinned.checked.prog.make == some Rows.fnExactLeavesForRow.make) : Bool) = true := by kernel_rfl
theorem fnExactLeavesFor_q28 : ((Rows.fnExactLeavesForRow.kinds == (if Rows.fnExactLeavesForRow.domain.isEmpty then [] else Try.f4.params.toList.map fun t => match Try.pinned.checked.prog.underlying t with | some (.int k) => some k | _ => none)) : Bool) = true := by kernel_rfl
theorem fnExactLeavesFor_q29 : ((Rows.fnExactLeavesForRow.pinned == Rows.fnExactLeavesForRow.pinnedBy) : Bool) = true := by kernel_rfl
theorem fnExactLeavesFor_q30 : ((Rows.fnExactLeavesForRow.veiled == (Try.f4.params.toList ++ Rows.fnExactLeavesForSpec.plain.varTypes Try.pinned.checked.prog ++ Try.f4.resultTypes.toList).any (Try.pinned.checked.prog.veiledRec ·)) : Bool) = true := by kernel_rfl
theorem fnExactLeavesFor_q31 : (Rows.fnExactLeavesForRow.veiledFits Try.pinned.checked.prog Try.f4.params.toList (Try.f4.params.toList ++ Rows.fnExactLeavesForSpec.plain.varTypes Try.pinned.checked.prog ++ Try.f4.resultTypes.toList) : Bool) = true := by kernel_rfl
set_option maxRecDepth 100000 in
theorem fnExactLeavesFor_joined : joinedFacts Try.pinned.checked.prog 4 Try.f4 Rows.fnExactLeavesForSpec Rows.fnExactLeavesForRow = true :=
  (and_mk (and_mk (and_mk (and_mk (and_mk (and_mk (and_mk (and_mk (and_mk (and_mk (and_mk (and_mk (and_mk (and_mk (and_mk (and_mk (and_mk (and_mk (and_mk (and_mk (and_mk (and_mk (and_mk (and_mk (and_mk (and_mk (and_mk (and_mk (and_mk (and_mk (and_mk fnExactLeavesFor_q0 fnExactLeavesFor_q1) fnExactLeavesFor_q2) fnExactLeavesFor_q3) fnExactLeavesFor_q4) fnExactLeavesFor_q5) fnExactLeavesFor_q6) fnExactLeavesFor_q7) fnExactLeavesFor_q8) fnExactLeavesFor_q9) fnExactLeavesFor_q10) fnExactLeavesFor_q11) fnExactLeavesFor_q12) fnExactLeavesFor_q13) fnExactLeavesFor_q14) fnExactLeavesFor_q15) fnExactLeavesFor_q16) fnExactLeavesFor_q17) fnExactLeavesFor_q18) fnExactLeavesFor_q19) fnExactLeavesFor_q20) fnExactLeavesFor_q21) fnExactLeavesFor_q22) fnExactLeavesFor_q23) fnExactLeavesFor_q24) fnExactLeavesFor_q25) fnExactLeavesFor_q26) fnExactLeavesFor_q27) fnExactLeavesFor_q28) fnExactLeavesFor_q29) fnExactLeavesFor_q30) fnExactLeavesFor_q31)
theorem fnExactLeavesFor_holds : Rows.FnExactLeavesForSaid :=
  OpenClaim.holds_of_wide 4 Try.f4 rfl rfl rfl rfl rfl rfl rfl ⟨rfl, rfl, rfl, rfl, rfl⟩ rfl rfl rfl rfl rfl (by kernel_rfl) Try.func4 fnExactLeavesFor_joined
    (of_decide_eq_true (by kernel_rfl)) (by unfold Func.isWrapper; first | (rw [if_pos (by decide +kernel)]; kernel_rfl) | (rw [if_neg (by decide +kernel)]; exact ⟨rfl, rfl⟩))
    (fun os started H enc _ => fnExactLeavesFor_lifted os started H enc)
end Go.Proofs.Ytjehmchhdefemaa
