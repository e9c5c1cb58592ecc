/- FnExactEvidenceBound: each law function of these statements answers true, for all arguments that can be read. Conditions: none. -/
import Derived.Test.YtadkcilmknpkhaaGreatRows
import Derived.Test.YtadkcilmknpkhaaGreatW44z0
import Derived.Test.YtadkcilmknpkhaaGreatP2
namespace Go.Proofs.YtadkcilmknpkhaaGreat
open Go.ChangeShapes Go.WideShapes Go.ChangeAt Go.RowKit

theorem Tryz.own : ownKnob Tryz.prog.godebug = none := by kernel_rfl
theorem Tryz.laidOut : laidOutB Tryz.prog = true := by kernel_rfl
theorem and_mk {a b : Bool} (h : a = true) (k : b = true) : (a && b) = true := by rw [h, k]; rfl
set_option maxRecDepth 100000 in
theorem fnExactEvidenceBound_lifted (os : Os) (started : os.Started) (H : Type) (enc : TypeId × Value → H) :
    ReturnsInHanded {} Tryz.checked os 3 .any (Rows.fnExactEvidenceBoundSpec.pre6 enc Tryz.prog Tryz.f3 Rows.fnExactEvidenceBoundRow.domain false) (Rows.fnExactEvidenceBoundSpec.post enc Tryz.prog Tryz.f3 false true false false) := by
  refine returnsInHanded_of_change (C := Tryz.checked) Tryz.own started (by kernel_rfl) Tryz.func3
    (ChangeSpec.witness6 (enc := enc) (C := Tryz.checked) false ⟨#[], #[.agg #[.slice none 0 0, .slice none 0 0, .slice none 0 0, .int .i64 0, .int .i64 0], .agg #[.slice none 0 0, .slice none 0 0], .slice none 0 0, .agg #[.int .i64 0, .slice none 0 0, .int .i64 0]], []⟩ 12 (by kernel_rfl) (by kernel_rfl) (by kernel_rfl) (by kernel_rfl)) ?_
  intro W base args ds gs before hval0 hW hcnd _
  have hval : ∀ (j : Nat) t v, Tryz.f3.params[j]? = some t → args[j]? = some v → Value.okWide Tryz.prog W .any base t v := hval0
  have hW' := hW
  obtain ⟨p, q, hA0, hV, rfl, hfz, hnd⟩ := hW
  have hA : DataW.TrodAll enc Tryz.prog W 0 (fun _ => true) true Tryz.f3.params.toList args.toList ds p := hA0
  obtain ⟨rfl, rfl⟩ := trodVars_none hV
  have hlen : ds.length = 4 := Fw.trodAll_len hA
  rcases ds with _ | ⟨d1, _ | ⟨d2, _ | ⟨d3, _ | ⟨d4, _ | ⟨d5, ds⟩⟩⟩⟩⟩ <;> first | (simp at hlen; done) | skip
  refine (Fw.yes_call Fw.F3_ok (fun _ _ => trivial) (fun _ _ => rfl) (ts := Tryz.f3.params.toList) (by kernel_rfl) hA (fun j t v h1 h2 => hval j t v (by simpa using h1) (by simpa using h2))).mono fun e W' ⟨he, hfr⟩ => ?_
  subst he
  exact ⟨_, rfl, Fw.post_yes Tryz.laidOut (by kernel_rfl) rfl rfl rfl Tryz.underlying4 hW' hfr⟩

theorem fnExactEvidenceBound_q0 : (Rows.fnExactEvidenceBoundRow.wf (OpenSpec.ofChange Rows.fnExactEvidenceBoundSpec) : Bool) = true := by kernel_rfl
theorem fnExactEvidenceBound_q1 : (laidOutB Tryz.pinned.checked.prog : Bool) = true := by kernel_rfl
theorem fnExactEvidenceBound_q2 : (mapsRowed Tryz.pinned.checked.prog : Bool) = true := by kernel_rfl
theorem fnExactEvidenceBound_q3 : (Tryz.f3.params.all (Tryz.pinned.checked.prog.readableRec ·) : Bool) = true := by kernel_rfl
theorem fnExactEvidenceBound_q4 : (namedTie Tryz.pinned.checked.prog Rows.fnExactEvidenceBoundRow.named Rows.fnExactEvidenceBoundSpec.vars : Bool) = true := by kernel_rfl
theorem fnExactEvidenceBound_q5 : ((Rows.fnExactEvidenceBoundRow.stops == []) : Bool) = true := by kernel_rfl
theorem fnExactEvidenceBound_q6 : ((Tryz.pinned.checked.prog.stops == []) : Bool) = true := by kernel_rfl
theorem fnExactEvidenceBound_q7 : ((Rows.fnExactEvidenceBoundRow.knobs == []) : Bool) = true := by kernel_rfl
theorem fnExactEvidenceBound_q8 : ((Tryz.pinned.checked.prog.stopKnobs == []) : Bool) = true := by kernel_rfl
theorem fnExactEvidenceBound_q9 : ((Rows.fnExactEvidenceBoundRow.inPlace == Tryz.pinned.checked.prog.inPlace 3) : Bool) = true := by kernel_rfl
theorem fnExactEvidenceBound_q10 : ((Rows.fnExactEvidenceBoundRow.unfollowed == Tryz.pinned.checked.prog.unfollowed 3) : Bool) = true := by kernel_rfl
theorem fnExactEvidenceBound_q11 : ((Rows.fnExactEvidenceBoundRow.recurses == Tryz.pinned.checked.prog.recurses 3) : Bool) = true := by kernel_rfl
theorem fnExactEvidenceBound_q12 : ((Rows.fnExactEvidenceBoundRow.named == Tryz.pinned.checked.prog.varsNamed 3) : Bool) = true := by kernel_rfl
theorem fnExactEvidenceBound_q13 : ((Rows.fnExactEvidenceBoundRow.maps == (Tryz.f3.params.toList ++ Rows.fnExactEvidenceBoundSpec.plain.varTypes Tryz.pinned.checked.prog).any (Tryz.pinned.checked.prog.mapsRec ·)) : Bool) = true := by kernel_rfl
theorem fnExactEvidenceBound_q14 : ((Rows.fnExactEvidenceBoundRow.ifaces == (Tryz.f3.params.toList ++ Rows.fnExactEvidenceBoundSpec.plain.varTypes Tryz.pinned.checked.prog).any (Tryz.pinned.checked.prog.ifacesRec ·)) : Bool) = true := by kernel_rfl
theorem fnExactEvidenceBound_q15 : ((Rows.fnExactEvidenceBoundRow.mapsOut == Tryz.pinned.checked.prog.mapsAmong Tryz.f3.resultTypes.toList) : Bool) = true := by kernel_rfl
theorem fnExactEvidenceBound_q16 : ((Rows.fnExactEvidenceBoundRow.loops == (Tryz.f3.params.toList ++ Rows.fnExactEvidenceBoundSpec.plain.varTypes Tryz.pinned.checked.prog).any (Tryz.pinned.checked.prog.loopsFrom ·)) : Bool) = true := by kernel_rfl
theorem fnExactEvidenceBound_q17 : ((Rows.fnExactEvidenceBoundRow.wideKeys == (Tryz.f3.params.toList ++ Rows.fnExactEvidenceBoundSpec.plain.varTypes Tryz.pinned.checked.prog ++ Tryz.f3.resultTypes.toList).any (Tryz.pinned.checked.prog.wideKeysFrom ·)) : Bool) = true := by kernel_rfl
theorem fnExactEvidenceBound_q18 : (Rows.fnExactEvidenceBoundSpec.vars.all (Tryz.pinned.checked.prog.varReadable ·) : Bool) = true := by kernel_rfl
theorem fnExactEvidenceBound_q19 : (Tryz.f3.resultTypes.all (fun t => Tryz.pinned.checked.prog.readableRec t && decide (t < Tryz.pinned.checked.prog.types.size)) : Bool) = true := by kernel_rfl
theorem fnExactEvidenceBound_q20 : ((Rows.fnExactEvidenceBoundRow.ifacesOut == Tryz.f3.resultTypes.toList.any (Tryz.pinned.checked.prog.ifacesRec ·)) : Bool) = true := by kernel_rfl
theorem fnExactEvidenceBound_q21 : ((Rows.fnExactEvidenceBoundRow.loopsOut == Tryz.f3.resultTypes.toList.any (Tryz.pinned.checked.prog.loopsFrom ·)) : Bool) = true := by kernel_rfl
theorem fnExactEvidenceBound_q22 : ((Rows.fnExactEvidenceBoundRow.plainKeys == Tryz.pinned.checked.prog.plainKeys) : Bool) = true := by kernel_rfl
theorem fnExactEvidenceBound_q23 : (Rows.fnExactEvidenceBoundRow.shortTexts.isNone : Bool) = true := by kernel_rfl
theorem fnExactEvidenceBound_q24 : (Tryz.pinned.checked.prog.stopsHeard : Bool) = true := by kernel_rfl
theorem fnExactEvidenceBound_q25 : (Tryz.pinned.checked.prog.mayEnter : Bool) = true := by kernel_rfl
theorem fnExactEvidenceBound_q26 : ((Rows.fnExactEvidenceBoundRow.lifted == Tryz.pinned.checked.prog.liftsFinal) : Bool) = true := by kernel_rfl
theorem fnExactEvidenceBound_q27 : ((Tryz.pinned.checked.prog.make == some Rows.fnExactEvidenceBoundRow.make) : Bool) = true := by kernel_rfl
theorem fnExactEvidenceBound_q28 : ((Rows.fnExactEvidenceBoundRow.kinds == (if Rows.fnExactEvidenceBoundRow.domain.isEmpty then [] else Tryz.f3.params.toList.map fun t => match Tryz.pinned.checked.prog.underlying t with | some (.int k) => some k | _ => none)) : Bool) = true := by kernel_rfl
theorem fnExactEvidenceBound_q29 : ((Rows.fnExactEvidenceBoundRow.pinned == Rows.fnExactEvidenceBoundRow.pinnedBy) : Bool) = true := by kernel_rfl
theorem fnExactEvidenceBound_q30 : ((Rows.fnExactEvidenceBoundRow.veiled == (Tryz.f3.params.toList ++ Rows.fnExactEvidenceBoundSpec.plain.varTypes Tryz.pinned.checked.prog ++ Tryz.f3.resultTypes.toList).any (Tryz.pinned.checked.prog.veiledRec ·)) : Bool) = true := by kernel_rfl
theorem fnExactEvidenceBound_q31 : (Rows.fnExactEvidenceBoundRow.veiledFits Tryz.pinned.checked.prog Tryz.f3.params.toList (Tryz.f3.params.toList ++ Rows.fnExactEvidenceBoundSpec.plain.varTypes Tryz.pinned.checked.prog ++ Tryz.f3.resultTypes.toList) : Bool) = true := by kernel_rfl
set_option maxRecDepth 100000 in
theorem fnExactEvidenceBound_joined : joinedFacts Tryz.pinned.checked.prog 3 Tryz.f3 Rows.fnExactEvidenceBoundSpec Rows.fnExactEvidenceBoundRow = true :=
  (and_mk (and_mk (and_mk (and_mk (and_mk (and_mk (and_mk (and_mk (and_mk (and_mk (and_mk (and_mk (and_mk (and_mk (and_mk (and_mk (and_mk (and_mk (and_mk (and_mk (and_mk (and_mk (and_mk (and_mk (and_mk (and_mk (and_mk (and_mk (and_mk (and_mk (and_mk fnExactEvidenceBound_q0 fnExactEvidenceBound_q1) fnExactEvidenceBound_q2) fnExactEvidenceBound_q3) fnExactEvidenceBound_q4) fnExactEvidenceBound_q5) fnExactEvidenceBound_q6) fnExactEvidenceBound_q7) fnExactEvidenceBound_q8) fnExactEvidenceBound_q9) fnExactEvidenceBound_q10) fnExactEvidenceBound_q11) fnExactEvidenceBound_q12) fnExactEvidenceBound_q13) fnExactEvidenceBound_q14) fnExactEvidenceBound_q15) fnExactEvidenceBound_q16) fnExactEvidenceBound_q17) fnExactEvidenceBound_q18) fnExactEvidenceBound_q19) fnExactEvidenceBound_q20) fnExactEvidenceBound_q21) fnExactEvidenceBound_q22) fnExactEvidenceBound_q23) fnExactEvidenceBound_q24) fnExactEvidenceBound_q25) fnExactEvidenceBound_q26) fnExactEvidenceBound_q27) fnExactEvidenceBound_q28) fnExactEvidenceBound_q29) fnExactEvidenceBound_q30) fnExactEvidenceBound_q31)
theorem fnExactEvidenceBound_holds : Rows.FnExactEvidenceBoundSaid :=
  OpenClaim.holds_of_wide 3 Tryz.f3 rfl rfl rfl rfl rfl rfl rfl ⟨rfl, rfl, rfl, rfl, rfl⟩ rfl rfl rfl rfl rfl (by kernel_rfl) Tryz.func3 fnExactEvidenceBound_joined
    (of_decide_eq_true (by kernel_rfl)) (by unfold Func.isWrapper; first | (rw [if_pos (by decide +kernel)]; kernel_rfl) | (rw [if_neg (by decide +kernel)]; exact ⟨rfl, rfl⟩))
    (fun os started H enc _ => fnExactEvidenceBound_lifted os started H enc)
end Go.Proofs.YtadkcilmknpkhaaGreat
