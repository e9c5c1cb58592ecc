/- FnExactMoveItems: each law function of these statements answers true, for all arguments that can be read. Conditions: none. -/
import Derived.Test.YtlfmjohahkeejaaGreatRows
import Derived.Test.YtlfmjohahkeejaaGreatW48z0
import Derived.Test.YtlfmjohahkeejaaGreatP2
namespace Go.Proofs.YtlfmjohahkeejaaGreat
open Go.ChangeShapes Go.WideShapes Go.ChangeAt Go.RowKit

theorem Tryz.own : ownKnob Tryz.prog.godebug = none := by kernel_rfl
theorem Tryz.laidOut : laidOutB Tryz.prog = true := by kernel_rfl
theorem and_mk {a b : Bool} (h : a = true) (k : b = true) : (a && b) = true := by rw [h, k]; rfl
set_option maxRecDepth 100000 in
theorem fnExactMoveItems_lifted (os : Os) (started : os.Started) (H : Type) (enc : TypeId × Value → H) :
    ReturnsInHanded {} Tryz.checked os 7 .any (Rows.fnExactMoveItemsSpec.pre6 enc Tryz.prog Tryz.f7 Rows.fnExactMoveItemsRow.domain false) (Rows.fnExactMoveItemsSpec.post enc Tryz.prog Tryz.f7 false true false false) := by
  refine returnsInHanded_of_change (C := Tryz.checked) Tryz.own started (by kernel_rfl) Tryz.func7
    (ChangeSpec.witness6 (enc := enc) (C := Tryz.checked) false ⟨#[], #[.agg #[.int .i64 0, .slice none 0 0], .agg #[.int .i64 0, .slice none 0 0], .slice none 0 0, .int .i64 0], []⟩ 12 (by kernel_rfl) (by kernel_rfl) (by kernel_rfl) (by kernel_rfl)) ?_
  intro W base args ds gs before hval0 hW hcnd _
  have hval : ∀ (j : Nat) t v, Tryz.f7.params[j]? = some t → args[j]? = some v → Value.okWide Tryz.prog W .any base t v := hval0
  have hW' := hW
  obtain ⟨p, q, hA0, hV, rfl, hfz, hnd⟩ := hW
  have hA : DataW.TrodAll enc Tryz.prog W 0 (fun _ => true) true Tryz.f7.params.toList args.toList ds p := hA0
  obtain ⟨rfl, rfl⟩ := trodVars_none hV
  have hlen : ds.length = 4 := Fw.trodAll_len hA
  rcases ds with _ | ⟨d1, _ | ⟨d2, _ | ⟨d3, _ | ⟨d4, _ | ⟨d5, ds⟩⟩⟩⟩⟩ <;> first | (simp at hlen; done) | skip
  refine (Fw.yes_call Fw.F7_ok (fun _ _ => trivial) (fun _ _ => rfl) (ts := Tryz.f7.params.toList) (by kernel_rfl) hA (fun j t v h1 h2 => hval j t v (by simpa using h1) (by simpa using h2))).mono fun e W' ⟨he, hfr⟩ => ?_
  subst he
  exact ⟨_, rfl, Fw.post_yes Tryz.laidOut (by kernel_rfl) rfl rfl rfl Tryz.underlying4 hW' hfr⟩

theorem fnExactMoveItems_q0 : (Rows.fnExactMoveItemsRow.wf (OpenSpec.ofChange Rows.fnExactMoveItemsSpec) : Bool) = true := by kernel_rfl
theorem fnExactMoveItems_q1 : (laidOutB Tryz.pinned.checked.prog : Bool) = true := by kernel_rfl
theorem fnExactMoveItems_q2 : (mapsRowed Tryz.pinned.checked.prog : Bool) = true := by kernel_rfl
theorem fnExactMoveItems_q3 : (Tryz.f7.params.all (Tryz.pinned.checked.prog.readableRec ·) : Bool) = true := by kernel_rfl
theorem fnExactMoveItems_q4 : (namedTie Tryz.pinned.checked.prog Rows.fnExactMoveItemsRow.named Rows.fnExactMoveItemsSpec.vars : Bool) = true := by kernel_rfl
theorem fnExactMoveItems_q5 : ((Rows.fnExactMoveItemsRow.stops == []) : Bool) = true := by kernel_rfl
theorem fnExactMoveItems_q6 : ((Tryz.pinned.checked.prog.stops == []) : Bool) = true := by kernel_rfl
theorem fnExactMoveItems_q7 : ((Rows.fnExactMoveItemsRow.knobs == []) : Bool) = true := by kernel_rfl
theorem fnExactMoveItems_q8 : ((Tryz.pinned.checked.prog.stopKnobs == []) : Bool) = true := by kernel_rfl
theorem fnExactMoveItems_q9 : ((Rows.fnExactMoveItemsRow.inPlace == Tryz.pinned.checked.prog.inPlace 7) : Bool) = true := by kernel_rfl
theorem fnExactMoveItems_q10 : ((Rows.fnExactMoveItemsRow.unfollowed == Tryz.pinned.checked.prog.unfollowed 7) : Bool) = true := by kernel_rfl
theorem fnExactMoveItems_q11 : ((Rows.fnExactMoveItemsRow.recurses == Tryz.pinned.checked.prog.recurses 7) : Bool) = true := by kernel_rfl
theorem fnExactMoveItems_q12 : ((Rows.fnExactMoveItemsRow.named == Tryz.pinned.checked.prog.varsNamed 7) : Bool) = true := by kernel_rfl
theorem fnExactMoveItems_q13 : ((Rows.fnExactMoveItemsRow.maps == (Tryz.f7.params.toList ++ Rows.fnExactMoveItemsSpec.plain.varTypes Tryz.pinned.checked.prog).any (Tryz.pinned.checked.prog.mapsRec ·)) : Bool) = true := by kernel_rfl
theorem fnExactMoveItems_q14 : ((Rows.fnExactMoveItemsRow.ifaces == (Tryz.f7.params.toList ++ Rows.fnExactMoveItemsSpec.plain.varTypes Tryz.pinned.checked.prog).any (Tryz.pinned.checked.prog.ifacesRec ·)) : Bool) = true := by kernel_rfl
theorem fnExactMoveItems_q15 : ((Rows.fnExactMoveItemsRow.mapsOut == Tryz.pinned.checked.prog.mapsAmong Tryz.f7.resultTypes.toList) : Bool) = true := by kernel_rfl
theorem fnExactMoveItems_q16 : ((Rows.fnExactMoveItemsRow.loops == (Tryz.f7.params.toList ++ Rows.fnExactMoveItemsSpec.plain.varTypes Tryz.pinned.checked.prog).any (Tryz.pinned.checked.prog.loopsFrom ·)) : Bool) = true := by kernel_rfl
theorem fnExactMoveItems_q17 : ((Rows.fnExactMoveItemsRow.wideKeys == (Tryz.f7.params.toList ++ Rows.fnExactMoveItemsSpec.plain.varTypes Tryz.pinned.checked.prog ++ Tryz.f7.resultTypes.toList).any (Tryz.pinned.checked.prog.wideKeysFrom ·)) : Bool) = true := by kernel_rfl
theorem fnExactMoveItems_q18 : (Rows.fnExactMoveItemsSpec.vars.all (Tryz.pinned.checked.prog.varReadable ·) : Bool) = true := by kernel_rfl
theorem fnExactMoveItems_q19 : (Tryz.f7.resultTypes.all (fun t => Tryz.pinned.checked.prog.readableRec t && decide (t < Tryz.pinned.checked.prog.types.size)) : Bool) = true := by kernel_rfl
theorem fnExactMoveItems_q20 : ((Rows.fnExactMoveItemsRow.ifacesOut == Tryz.f7.resultTypes.toList.any (Tryz.pinned.checked.prog.ifacesRec ·)) : Bool) = true := by kernel_rfl
theorem fnExactMoveItems_q21 : ((Rows.fnExactMoveItemsRow.loopsOut == Tryz.f7.resultTypes.toList.any (Tryz.pinned.checked.prog.loopsFrom ·)) : Bool) = true := by kernel_rfl
theorem fnExactMoveItems_q22 : ((Rows.fnExactMoveItemsRow.plainKeys == Tryz.pinned.checked.prog.plainKeys) : Bool) = true := by kernel_rfl
theorem fnExactMoveItems_q23 : (Rows.fnExactMoveItemsRow.shortTexts.isNone : Bool) = true := by kernel_rfl
theorem fnExactMoveItems_q24 : (Tryz.pinned.checked.prog.stopsHeard : Bool) = true := by kernel_rfl
theorem fnExactMoveItems_q25 : (Tryz.pinned.checked.prog.mayEnter : Bool) = true := by kernel_rfl
theorem fnExactMoveItems_q26 : ((Rows.fnExactMoveItemsRow.lifted == Tryz.pinned.checked.prog.liftsFinal) : Bool) = true := by kernel_rfl
theorem fnExactMoveItems_q27 : ((Tryz.pinned.checked.prog.make == some Rows.fnExactMoveItemsRow.make) : Bool) = true := by kernel_rfl
theorem fnExactMoveItems_q28 : ((Rows.fnExactMoveItemsRow.kinds == (if Rows.fnExactMoveItemsRow.domain.isEmpty then [] else Tryz.f7.params.toList.map fun t => match Tryz.pinned.checked.prog.underlying t with | some (.int k) => some k | _ => none)) : Bool) = true := by kernel_rfl
theorem fnExactMoveItems_q29 : ((Rows.fnExactMoveItemsRow.pinned == Rows.fnExactMoveItemsRow.pinnedBy) : Bool) = true := by kernel_rfl
theorem fnExactMoveItems_q30 : ((Rows.fnExactMoveItemsRow.veiled == (Tryz.f7.params.toList ++ Rows.fnExactMoveItemsSpec.plain.varTypes Tryz.pinned.checked.prog ++ Tryz.f7.resultTypes.toList).any (Tryz.pinned.checked.prog.veiledRec ·)) : Bool) = true := by kernel_rfl
theorem fnExactMoveItems_q31 : (Rows.fnExactMoveItemsRow.veiledFits Tryz.pinned.checked.prog Tryz.f7.params.toList (Tryz.f7.params.toList ++ Rows.fnExactMoveItemsSpec.plain.varTypes Tryz.pinned.checked.prog ++ Tryz.f7.resultTypes.toList) : Bool) = true := by kernel_rfl
set_option maxRecDepth 100000 in
theorem fnExactMoveItems_joined : joinedFacts Tryz.pinned.checked.prog 7 Tryz.f7 Rows.fnExactMoveItemsSpec Rows.fnExactMoveItemsRow = true :=
  (and_mk (and_mk (and_mk (and_mk (and_mk (and_mk (and_mk (and_mk (and_mk (and_mk (and_mk (and_mk (and_mk (and_mk (and_mk (and_mk (and_mk (and_mk (and_mk (and_mk (and_mk (and_mk (and_mk (and_mk (and_mk (and_mk (and_mk (and_mk (and_mk (and_mk (and_mk fnExactMoveItems_q0 fnExactMoveItems_q1) fnExactMoveItems_q2) fnExactMoveItems_q3) fnExactMoveItems_q4) fnExactMoveItems_q5) fnExactMoveItems_q6) fnExactMoveItems_q7) fnExactMoveItems_q8) fnExactMoveItems_q9) fnExactMoveItems_q10) fnExactMoveItems_q11) fnExactMoveItems_q12) fnExactMoveItems_q13) fnExactMoveItems_q14) fnExactMoveItems_q15) fnExactMoveItems_q16) fnExactMoveItems_q17) fnExactMoveItems_q18) fnExactMoveItems_q19) fnExactMoveItems_q20) fnExactMoveItems_q21) fnExactMoveItems_q22) fnExactMoveItems_q23) fnExactMoveItems_q24) fnExactMoveItems_q25) fnExactMoveItems_q26) fnExactMoveItems_q27) fnExactMoveItems_q28) fnExactMoveItems_q29) fnExactMoveItems_q30) fnExactMoveItems_q31)
theorem fnExactMoveItems_holds : Rows.FnExactMoveItemsSaid :=
  OpenClaim.holds_of_wide 7 Tryz.f7 rfl rfl rfl rfl rfl rfl rfl ⟨rfl, rfl, rfl, rfl, rfl⟩ rfl rfl rfl rfl rfl (by kernel_rfl) Tryz.func7 fnExactMoveItems_joined
    (of_decide_eq_true (by kernel_rfl)) (by unfold Func.isWrapper; first | (rw [if_pos (by decide +kernel)]; kernel_rfl) | (rw [if_neg (by decide +kernel)]; exact ⟨rfl, rfl⟩))
    (fun os started H enc _ => fnExactMoveItems_lifted os started H enc)
end Go.Proofs.YtlfmjohahkeejaaGreat
