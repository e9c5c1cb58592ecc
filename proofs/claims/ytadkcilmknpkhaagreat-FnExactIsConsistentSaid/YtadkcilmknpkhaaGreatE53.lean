/- FnExactIsConsistent: each law function of these statements answers true, for all arguments that can be read. Conditions: none. -/
import Derived.Test.YtadkcilmknpkhaaGreatRows
import Derived.Test.YtadkcilmknpkhaaGreatW53z0
import Derived.Test.YtadkcilmknpkhaaGreatP2
namespace Go.Proofs.YtadkcilmknpkhaaGreat
open Go.ChangeShapes Go.WideShapes Go.ChangeAt Go.RowKit

theorem Tryz.own : ownKnob Tryz.prog.godebug = none := by kernel_rfl
theorem Tryz.laidOut : laidOutB Tryz.prog = true := by kernel_rfl
theorem and_mk {a b : Bool} (h : a = true) (k : b = true) : (a && b) = true := by rw [h, k]; rfl
set_option maxRecDepth 100000 in
theorem fnExactIsConsistent_lifted (os : Os) (started : os.Started) (H : Type) (enc : TypeId × Value → H) :
    ReturnsInHanded {} Tryz.checked os 5 .any (Rows.fnExactIsConsistentSpec.pre6 enc Tryz.prog Tryz.f5 Rows.fnExactIsConsistentRow.domain false) (Rows.fnExactIsConsistentSpec.post enc Tryz.prog Tryz.f5 false true false false) := by
  refine returnsInHanded_of_change (C := Tryz.checked) Tryz.own started (by kernel_rfl) Tryz.func5
    (ChangeSpec.witness6 (enc := enc) (C := Tryz.checked) false ⟨#[], #[.agg #[.slice none 0 0, .slice none 0 0, .slice none 0 0, .int .i64 0, .int .i64 0], .agg #[.slice none 0 0, .slice none 0 0], .agg #[.int .i64 0, .slice none 0 0, .slice none 0 0], .agg #[.int .i64 0, .int .i64 0, .int .i64 0, .int .i64 0, .int .i64 0, .int .i64 0, .int .i64 0, .int .i64 0, .int .i64 0]], []⟩ 12 (by kernel_rfl) (by kernel_rfl) (by kernel_rfl) (by kernel_rfl)) ?_
  intro W base args ds gs before hval0 hW hcnd _
  have hval : ∀ (j : Nat) t v, Tryz.f5.params[j]? = some t → args[j]? = some v → Value.okWide Tryz.prog W .any base t v := hval0
  have hW' := hW
  obtain ⟨p, q, hA0, hV, rfl, hfz, hnd⟩ := hW
  have hA : DataW.TrodAll enc Tryz.prog W 0 (fun _ => true) true Tryz.f5.params.toList args.toList ds p := hA0
  obtain ⟨rfl, rfl⟩ := trodVars_none hV
  have hlen : ds.length = 4 := Fw.trodAll_len hA
  rcases ds with _ | ⟨d1, _ | ⟨d2, _ | ⟨d3, _ | ⟨d4, _ | ⟨d5, ds⟩⟩⟩⟩⟩ <;> first | (simp at hlen; done) | skip
  refine (Fw.yes_call Fw.F5_ok (fun _ _ => trivial) (fun _ _ => rfl) (ts := Tryz.f5.params.toList) (by kernel_rfl) hA (fun j t v h1 h2 => hval j t v (by simpa using h1) (by simpa using h2))).mono fun e W' ⟨he, hfr⟩ => ?_
  subst he
  exact ⟨_, rfl, Fw.post_yes Tryz.laidOut (by kernel_rfl) rfl rfl rfl Tryz.underlying4 hW' hfr⟩

theorem fnExactIsConsistent_q0 : (Rows.fnExactIsConsistentRow.wf (OpenSpec.ofChange Rows.fnExactIsConsistentSpec) : Bool) = true := by kernel_rfl
theorem fnExactIsConsistent_q1 : (laidOutB Tryz.pinned.checked.prog : Bool) = true := by kernel_rfl
theorem fnExactIsConsistent_q2 : (mapsRowed Tryz.pinned.checked.prog : Bool) = true := by kernel_rfl
theorem fnExactIsConsistent_q3 : (Tryz.f5.params.all (Tryz.pinned.checked.prog.readableRec ·) : Bool) = true := by kernel_rfl
theorem fnExactIsConsistent_q4 : (namedTie Tryz.pinned.checked.prog Rows.fnExactIsConsistentRow.named Rows.fnExactIsConsistentSpec.vars : Bool) = true := by kernel_rfl
theorem fnExactIsConsistent_q5 : ((Rows.fnExactIsConsistentRow.stops == []) : Bool) = true := by kernel_rfl
theorem fnExactIsConsistent_q6 : ((Tryz.pinned.checked.prog.stops == []) : Bool) = true := by kernel_rfl
theorem fnExactIsConsistent_q7 : ((Rows.fnExactIsConsistentRow.knobs == []) : Bool) = true := by kernel_rfl
theorem fnExactIsConsistent_q8 : ((Tryz.pinned.checked.prog.stopKnobs == []) : Bool) = true := by kernel_rfl
theorem fnExactIsConsistent_q9 : ((Rows.fnExactIsConsistentRow.inPlace == Tryz.pinned.checked.prog.inPlace 5) : Bool) = true := by kernel_rfl
theorem fnExactIsConsistent_q10 : ((Rows.fnExactIsConsistentRow.unfollowed == Tryz.pinned.checked.prog.unfollowed 5) : Bool) = true := by kernel_rfl
theorem fnExactIsConsistent_q11 : ((Rows.fnExactIsConsistentRow.recurses == Tryz.pinned.checked.prog.recurses 5) : Bool) = true := by kernel_rfl
theorem fnExactIsConsistent_q12 : ((Rows.fnExactIsConsistentRow.named == Tryz.pinned.checked.prog.varsNamed 5) : Bool) = true := by kernel_rfl
theorem fnExactIsConsistent_q13 : ((Rows.fnExactIsConsistentRow.maps == (Tryz.f5.params.toList ++ Rows.fnExactIsConsistentSpec.plain.varTypes Tryz.pinned.checked.prog).any (Tryz.pinned.checked.prog.mapsRec ·)) : Bool) = true := by kernel_rfl
theorem fnExactIsConsistent_q14 : ((Rows.fnExactIsConsistentRow.ifaces == (Tryz.f5.params.toList ++ Rows.fnExactIsConsistentSpec.plain.varTypes Tryz.pinned.checked.prog).any (Tryz.pinned.checked.prog.ifacesRec ·)) : Bool) = true := by kernel_rfl
theorem fnExactIsConsistent_q15 : ((Rows.fnExactIsConsistentRow.mapsOut == Tryz.pinned.checked.prog.mapsAmong Tryz.f5.resultTypes.toList) : Bool) = true := by kernel_rfl
theorem fnExactIsConsistent_q16 : ((Rows.fnExactIsConsistentRow.loops == (Tryz.f5.params.toList ++ Rows.fnExactIsConsistentSpec.plain.varTypes Tryz.pinned.checked.prog).any (Tryz.pinned.checked.prog.loopsFrom ·)) : Bool) = true := by kernel_rfl
theorem fnExactIsConsistent_q17 : ((Rows.fnExactIsConsistentRow.wideKeys == (Tryz.f5.params.toList ++ Rows.fnExactIsConsistentSpec.plain.varTypes Tryz.pinned.checked.prog ++ Tryz.f5.resultTypes.toList).any (Tryz.pinned.checked.prog.wideKeysFrom ·)) : Bool) = true := by kernel_rfl
theorem fnExactIsConsistent_q18 : (Rows.fnExactIsConsistentSpec.vars.all (Tryz.pinned.checked.prog.varReadable ·) : Bool) = true := by kernel_rfl
theorem fnExactIsConsistent_q19 : (Tryz.f5.resultTypes.all (fun t => Tryz.pinned.checked.prog.readableRec t && decide (t < Tryz.pinned.checked.prog.types.size)) : Bool) = true := by kernel_rfl
theorem fnExactIsConsistent_q20 : ((Rows.fnExactIsConsistentRow.ifacesOut == Tryz.f5.resultTypes.toList.any (Tryz.pinned.checked.prog.ifacesRec ·)) : Bool) = true := by kernel_rfl
theorem fnExactIsConsistent_q21 : ((Rows.fnExactIsConsistentRow.loopsOut == Tryz.f5.resultTypes.toList.any (Tryz.pinned.checked.prog.loopsFrom ·)) : Bool) = true := by kernel_rfl
theorem fnExactIsConsistent_q22 : ((Rows.fnExactIsConsistentRow.plainKeys == Tryz.pinned.checked.prog.plainKeys) : Bool) = true := by kernel_rfl
theorem fnExactIsConsistent_q23 : (Rows.fnExactIsConsistentRow.shortTexts.isNone : Bool) = true := by kernel_rfl
theorem fnExactIsConsistent_q24 : (Tryz.pinned.checked.prog.stopsHeard : Bool) = true := by kernel_rfl
theorem fnExactIsConsistent_q25 : (Tryz.pinned.checked.prog.mayEnter : Bool) = true := by kernel_rfl
theorem fnExactIsConsistent_q26 : ((Rows.fnExactIsConsistentRow.lifted == Tryz.pinned.checked.prog.liftsFinal) : Bool) = true := by kernel_rfl
theorem fnExactIsConsistent_q27 : ((Tryz.pinned.checked.prog.make == some Rows.fnExactIsConsistentRow.make) : Bool) = true := by kernel_rfl
theorem fnExactIsConsistent_q28 : ((Rows.fnExactIsConsistentRow.kinds == (if Rows.fnExactIsConsistentRow.domain.isEmpty then [] else Tryz.f5.params.toList.map fun t => match Tryz.pinned.checked.prog.underlying t with | some (.int k) => some k | _ => none)) : Bool) = true := by kernel_rfl
theorem fnExactIsConsistent_q29 : ((Rows.fnExactIsConsistentRow.pinned == Rows.fnExactIsConsistentRow.pinnedBy) : Bool) = true := by kernel_rfl
theorem fnExactIsConsistent_q30 : ((Rows.fnExactIsConsistentRow.veiled == (Tryz.f5.params.toList ++ Rows.fnExactIsConsistentSpec.plain.varTypes Tryz.pinned.checked.prog ++ Tryz.f5.resultTypes.toList).any (Tryz.pinned.checked.prog.veiledRec ·)) : Bool) = true := by kernel_rfl
theorem fnExactIsConsistent_q31 : (Rows.fnExactIsConsistentRow.veiledFits Tryz.pinned.checked.prog Tryz.f5.params.toList (Tryz.f5.params.toList ++ Rows.fnExactIsConsistentSpec.plain.varTypes Tryz.pinned.checked.prog ++ Tryz.f5.resultTypes.toList) : Bool) = true := by kernel_rfl
set_option maxRecDepth 100000 in
theorem fnExactIsConsistent_joined : joinedFacts Tryz.pinned.checked.prog 5 Tryz.f5 Rows.fnExactIsConsistentSpec Rows.fnExactIsConsistentRow = true :=
  (and_mk (and_mk (and_mk (and_mk (and_mk (and_mk (and_mk (and_mk (and_mk (and_mk (and_mk (and_mk (and_mk (and_mk (and_mk (and_mk (and_mk (and_mk (and_mk (and_mk (and_mk (and_mk (and_mk (and_mk (and_mk (and_mk (and_mk (and_mk (and_mk (and_mk (and_mk fnExactIsConsistent_q0 fnExactIsConsistent_q1) fnExactIsConsistent_q2) fnExactIsConsistent_q3) fnExactIsConsistent_q4) fnExactIsConsistent_q5) fnExactIsConsistent_q6) fnExactIsConsistent_q7) fnExactIsConsistent_q8) fnExactIsConsistent_q9) fnExactIsConsistent_q10) fnExactIsConsistent_q11) fnExactIsConsistent_q12) fnExactIsConsistent_q13) fnExactIsConsistent_q14) fnExactIsConsistent_q15) fnExactIsConsistent_q16) fnExactIsConsistent_q17) fnExactIsConsistent_q18) fnExactIsConsistent_q19) fnExactIsConsistent_q20) fnExactIsConsistent_q21) fnExactIsConsistent_q22) fnExactIsConsistent_q23) fnExactIsConsistent_q24) fnExactIsConsistent_q25) fnExactIsConsistent_q26) fnExactIsConsistent_q27) fnExactIsConsistent_q28) fnExactIsConsistent_q29) fnExactIsConsistent_q30) fnExactIsConsistent_q31)
theorem fnExactIsConsistent_holds : Rows.FnExactIsConsistentSaid :=
  OpenClaim.holds_of_wide 5 Tryz.f5 rfl rfl rfl rfl rfl rfl rfl ⟨rfl, rfl, rfl, rfl, rfl⟩ rfl rfl rfl rfl rfl (by kernel_rfl) Tryz.func5 fnExactIsConsistent_joined
    (of_decide_eq_true (by kernel_rfl)) (by unfold Func.isWrapper; first | (rw [if_pos (by decide +kernel)]; kernel_rfl) | (rw [if_neg (by decide +kernel)]; exact ⟨rfl, rfl⟩))
    (fun os started H enc _ => fnExactIsConsistent_lifted os started H enc)
end Go.Proofs.YtadkcilmknpkhaaGreat
