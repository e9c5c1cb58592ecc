/- FnExactAddItem: each law function of these statements answers true, for all arguments that can be read. Conditions: none. -/
import Derived.Test.YtlfmjohahkeejaaGreatRows
import Derived.Test.YtlfmjohahkeejaaGreatW42z0
import Derived.Test.YtlfmjohahkeejaaGreatP2
namespace Go.Proofs.YtlfmjohahkeejaaGreat
open Go.ChangeShapes Go.WideShapes Go.ChangeAt Go.RowKit

theorem Tryz.own : ownKnob Tryz.prog.godebug = none := by kernel_rfl
theorem Tryz.laidOut : laidOutB Tryz.prog = true := by kernel_rfl
theorem and_mk {a b : Bool} (h : a = true) (k : b = true) : (a && b) = true := by rw [h, k]; rfl
set_option maxRecDepth 100000 in
theorem fnExactAddItem_lifted (os : Os) (started : os.Started) (H : Type) (enc : TypeId × Value → H) :
    ReturnsInHanded {} Tryz.checked os 3 .any (Rows.fnExactAddItemSpec.pre6 enc Tryz.prog Tryz.f3 Rows.fnExactAddItemRow.domain false) (Rows.fnExactAddItemSpec.post enc Tryz.prog Tryz.f3 false true false false) := by
  refine returnsInHanded_of_change (C := Tryz.checked) Tryz.own started (by kernel_rfl) Tryz.func3
    (ChangeSpec.witness6 (enc := enc) (C := Tryz.checked) false ⟨#[], #[.agg #[.int .i64 0, .slice none 0 0], .agg #[.int .i64 0, .int .i64 0, .int .i64 0, .slice none 0 0, .slice none 0 0, .int .i64 0, .int .i64 0, .int .i64 0, .int .i64 0, .int .i64 0, .int .i64 0, .int .i64 0, .int .i64 0, .int .i64 0, .slice none 0 0, .slice none 0 0]], []⟩ 12 (by kernel_rfl) (by kernel_rfl) (by kernel_rfl) (by kernel_rfl)) ?_
  intro W base args ds gs before hval0 hW hcnd _
  have hval : ∀ (j : Nat) t v, Tryz.f3.params[j]? = some t → args[j]? = some v → Value.okWide Tryz.prog W .any base t v := hval0
  have hW' := hW
  obtain ⟨p, q, hA0, hV, rfl, hfz, hnd⟩ := hW
  have hA : DataW.TrodAll enc Tryz.prog W 0 (fun _ => true) true Tryz.f3.params.toList args.toList ds p := hA0
  obtain ⟨rfl, rfl⟩ := trodVars_none hV
  have hlen : ds.length = 2 := Fw.trodAll_len hA
  rcases ds with _ | ⟨d1, _ | ⟨d2, _ | ⟨d3, ds⟩⟩⟩ <;> first | (simp at hlen; done) | skip
  refine (Fw.yes_call Fw.F3_ok (fun _ _ => trivial) (fun _ _ => rfl) (ts := Tryz.f3.params.toList) (by kernel_rfl) hA (fun j t v h1 h2 => hval j t v (by simpa using h1) (by simpa using h2))).mono fun e W' ⟨he, hfr⟩ => ?_
  subst he
  exact ⟨_, rfl, Fw.post_yes Tryz.laidOut (by kernel_rfl) rfl rfl rfl Tryz.underlying4 hW' hfr⟩

theorem fnExactAddItem_q0 : (Rows.fnExactAddItemRow.wf (OpenSpec.ofChange Rows.fnExactAddItemSpec) : Bool) = true := by kernel_rfl
theorem fnExactAddItem_q1 : (laidOutB Tryz.pinned.checked.prog : Bool) = true := by kernel_rfl
theorem fnExactAddItem_q2 : (mapsRowed Tryz.pinned.checked.prog : Bool) = true := by kernel_rfl
theorem fnExactAddItem_q3 : (Tryz.f3.params.all (Tryz.pinned.checked.prog.readableRec ·) : Bool) = true := by kernel_rfl
theorem fnExactAddItem_q4 : (namedTie Tryz.pinned.checked.prog Rows.fnExactAddItemRow.named Rows.fnExactAddItemSpec.vars : Bool) = true := by kernel_rfl
theorem fnExactAddItem_q5 : ((Rows.fnExactAddItemRow.stops == []) : Bool) = true := by kernel_rfl
theorem fnExactAddItem_q6 : ((Tryz.pinned.checked.prog.stops == []) : Bool) = true := by kernel_rfl
theorem fnExactAddItem_q7 : ((Rows.fnExactAddItemRow.knobs == []) : Bool) = true := by kernel_rfl
theorem fnExactAddItem_q8 : ((Tryz.pinned.checked.prog.stopKnobs == []) : Bool) = true := by kernel_rfl
theorem fnExactAddItem_q9 : ((Rows.fnExactAddItemRow.inPlace == Tryz.pinned.checked.prog.inPlace 3) : Bool) = true := by kernel_rfl
theorem fnExactAddItem_q10 : ((Rows.fnExactAddItemRow.unfollowed == Tryz.pinned.checked.prog.unfollowed 3) : Bool) = true := by kernel_rfl
theorem fnExactAddItem_q11 : ((Rows.fnExactAddItemRow.recurses == Tryz.pinned.checked.prog.recurses 3) : Bool) = true := by kernel_rfl
theorem fnExactAddItem_q12 : ((Rows.fnExactAddItemRow.named == Tryz.pinned.checked.prog.varsNamed 3) : Bool) = true := by kernel_rfl
theorem fnExactAddItem_q13 : ((Rows.fnExactAddItemRow.maps == (Tryz.f3.params.toList ++ Rows.fnExactAddItemSpec.plain.varTypes Tryz.pinned.checked.prog).any (Tryz.pinned.checked.prog.mapsRec ·)) : Bool) = true := by kernel_rfl
theorem fnExactAddItem_q14 : ((Rows.fnExactAddItemRow.ifaces == (Tryz.f3.params.toList ++ Rows.fnExactAddItemSpec.plain.varTypes Tryz.pinned.checked.prog).any (Tryz.pinned.checked.prog.ifacesRec ·)) : Bool) = true := by kernel_rfl
theorem fnExactAddItem_q15 : ((Rows.fnExactAddItemRow.mapsOut == Tryz.pinned.checked.prog.mapsAmong Tryz.f3.resultTypes.toList) : Bool) = true := by kernel_rfl
theorem fnExactAddItem_q16 : ((Rows.fnExactAddItemRow.loops == (Tryz.f3.params.toList ++ Rows.fnExactAddItemSpec.plain.varTypes Tryz.pinned.checked.prog).any (Tryz.pinned.checked.prog.loopsFrom ·)) : Bool) = true := by kernel_rfl
theorem fnExactAddItem_q17 : ((Rows.fnExactAddItemRow.wideKeys == (Tryz.f3.params.toList ++ Rows.fnExactAddItemSpec.plain.varTypes Tryz.pinned.checked.prog ++ Tryz.f3.resultTypes.toList).any (Tryz.pinned.checked.prog.wideKeysFrom ·)) : Bool) = true := by kernel_rfl
theorem fnExactAddItem_q18 : (Rows.fnExactAddItemSpec.vars.all (Tryz.pinned.checked.prog.varReadable ·) : Bool) = true := by kernel_rfl
theorem fnExactAddItem_q19 : (Tryz.f3.resultTypes.all (fun t => Tryz.pinned.checked.prog.readableRec t && decide (t < Tryz.pinned.checked.prog.types.size)) : Bool) = true := by kernel_rfl
theorem fnExactAddItem_q20 : ((Rows.fnExactAddItemRow.ifacesOut == Tryz.f3.resultTypes.toList.any (Tryz.pinned.checked.prog.ifacesRec ·)) : Bool) = true := by kernel_rfl
theorem fnExactAddItem_q21 : ((Rows.fnExactAddItemRow.loopsOut == Tryz.f3.resultTypes.toList.any (Tryz.pinned.checked.prog.loopsFrom ·)) : Bool) = true := by kernel_rfl
theorem fnExactAddItem_q22 : ((Rows.fnExactAddItemRow.plainKeys == Tryz.pinned.checked.prog.plainKeys) : Bool) = true := by kernel_rfl
theorem fnExactAddItem_q23 : (Rows.fnExactAddItemRow.shortTexts.isNone : Bool) = true := by kernel_rfl
theorem fnExactAddItem_q24 : (Tryz.pinned.checked.prog.stopsHeard : Bool) = true := by kernel_rfl
theorem fnExactAddItem_q25 : (Tryz.pinned.checked.prog.mayEnter : Bool) = true := by kernel_rfl
theorem fnExactAddItem_q26 : ((Rows.fnExactAddItemRow.lifted == Tryz.pinned.checked.prog.liftsFinal) : Bool) = true := by kernel_rfl
theorem fnExactAddItem_q27 : ((Tryz.pinned.checked.prog.make == some Rows.fnExactAddItemRow.make) : Bool) = true := by kernel_rfl
theorem fnExactAddItem_q28 : ((Rows.fnExactAddItemRow.kinds == (if Rows.fnExactAddItemRow.domain.isEmpty then [] else Tryz.f3.params.toList.map fun t => match Tryz.pinned.checked.prog.underlying t with | some (.int k) => some k | _ => none)) : Bool) = true := by kernel_rfl
theorem fnExactAddItem_q29 : ((Rows.fnExactAddItemRow.pinned == Rows.fnExactAddItemRow.pinnedBy) : Bool) = true := by kernel_rfl
theorem fnExactAddItem_q30 : ((Rows.fnExactAddItemRow.veiled == (Tryz.f3.params.toList ++ Rows.fnExactAddItemSpec.plain.varTypes Tryz.pinned.checked.prog ++ Tryz.f3.resultTypes.toList).any (Tryz.pinned.checked.prog.veiledRec ·)) : Bool) = true := by kernel_rfl
theorem fnExactAddItem_q31 : (Rows.fnExactAddItemRow.veiledFits Tryz.pinned.checked.prog Tryz.f3.params.toList (Tryz.f3.params.toList ++ Rows.fnExactAddItemSpec.plain.varTypes Tryz.pinned.checked.prog ++ Tryz.f3.resultTypes.toList) : Bool) = true := by kernel_rfl
set_option maxRecDepth 100000 in
theorem fnExactAddItem_joined : joinedFacts Tryz.pinned.checked.prog 3 Tryz.f3 Rows.fnExactAddItemSpec Rows.fnExactAddItemRow = true :=
  (and_mk (and_mk (and_mk (and_mk (and_mk (and_mk (and_mk (and_mk (and_mk (and_mk (and_mk (and_mk (and_mk (and_mk (and_mk (and_mk (and_mk (and_mk (and_mk (and_mk (and_mk (and_mk (and_mk (and_mk (and_mk (and_mk (and_mk (and_mk (and_mk (and_mk (and_mk fnExactAddItem_q0 fnExactAddItem_q1) fnExactAddItem_q2) fnExactAddItem_q3) fnExactAddItem_q4) fnExactAddItem_q5) fnExactAddItem_q6) fnExactAddItem_q7) fnExactAddItem_q8) fnExactAddItem_q9) fnExactAddItem_q10) fnExactAddItem_q11) fnExactAddItem_q12) fnExactAddItem_q13) fnExactAddItem_q14) fnExactAddItem_q15) fnExactAddItem_q16) fnExactAddItem_q17) fnExactAddItem_q18) fnExactAddItem_q19) fnExactAddItem_q20) fnExactAddItem_q21) fnExactAddItem_q22) fnExactAddItem_q23) fnExactAddItem_q24) fnExactAddItem_q25) fnExactAddItem_q26) fnExactAddItem_q27) fnExactAddItem_q28) fnExactAddItem_q29) fnExactAddItem_q30) fnExactAddItem_q31)
theorem fnExactAddItem_holds : Rows.FnExactAddItemSaid :=
  OpenClaim.holds_of_wide 3 Tryz.f3 rfl rfl rfl rfl rfl rfl rfl ⟨rfl, rfl, rfl, rfl, rfl⟩ rfl rfl rfl rfl rfl (by kernel_rfl) Tryz.func3 fnExactAddItem_joined
    (of_decide_eq_true (by kernel_rfl)) (by unfold Func.isWrapper; first | (rw [if_pos (by decide +kernel)]; kernel_rfl) | (rw [if_neg (by decide +kernel)]; exact ⟨rfl, rfl⟩))
    (fun os started H enc _ => fnExactAddItem_lifted os started H enc)
end Go.Proofs.YtlfmjohahkeejaaGreat
