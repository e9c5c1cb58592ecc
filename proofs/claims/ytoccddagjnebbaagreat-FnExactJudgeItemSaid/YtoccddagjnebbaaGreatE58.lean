/- FnExactJudgeItem: each law function of these statements answers true, for all arguments that can be read. Conditions: none. -/
import Derived.Test.YtoccddagjnebbaaGreatRows
import Derived.Test.YtoccddagjnebbaaGreatW58z0
import Derived.Test.YtoccddagjnebbaaGreatP2
namespace Go.Proofs.YtoccddagjnebbaaGreat
open Go.ChangeShapes Go.WideShapes Go.ChangeAt Go.RowKit
theorem Tryz.own : ownKnob Tryz.prog.godebug = none := by kernel_rfl
theorem Tryz.laidOut : laidOutB Tryz.prog = true := by kernel_rfl
theorem and_mk {a b : Bool} (h : a = true) (k : b = true) : (a && b) = true := by rw [h, k]; rfl
set_option maxRecDepth 100000 in
theorem fnExactJudgeItem_lifted (os : Os) (started : os.Started) (H : Type) (enc : TypeId × Value → H) :
   ReturnsInHanded {} Tryz.checked os 5 .any (Rows.fnExactJudgeItemSpec.pre6 enc Tryz.prog Tryz.f5 Rows.fnExactJudgeItemRow.domain false) (Rows.fnExactJudgeItemSpec.post enc Tryz.prog Tryz.f5 false true false false) := by
 refine returnsInHanded_of_change (C := Tryz.checked) Tryz.own started (by kernel_rfl) Tryz.func5
   (ChangeSpec.witness6 (enc := enc) (C := Tryz.checked) false ⟨#[], #[.agg #[.slice none 0 0, .slice none 0 0, .slice none 0 0, .int .i64 0, .int .i64 0], .agg #[.int .i64 0, .int .i64 0, .int .i64 0, .slice none 0 0, .slice none 0 0, .int .i64 0, .int .i64 0, .int .i64 0, .int .i64 0, .int .i64 0, .int .i64 0, .int .i64 0, .int .i64 0, .int .i64 0, .slice none 0 0, .slice none 0 0]], []⟩ 12 (by kernel_rfl) (by kernel_rfl) (by kernel_rfl) (by kernel_rfl)) ?_
 intro W base args ds gs before hval0 hW hcnd _
 have hval : ∀ (j : Nat) t v, Tryz.f5.params[j]? = some t → args[j]? = some v → Value.okWide Tryz.prog W .any base t v := hval0
 have hW' := hW
 obtain ⟨p, q, hA0, hV, rfl, hfz, hnd⟩ := hW
 have hA : DataW.TrodAll enc Tryz.prog W 0 (fun _ => true) true Tryz.f5.params.toList args.toList ds p := hA0
 obtain ⟨rfl, rfl⟩ := trodVars_none hV
 have hlen : ds.length = 2 := Fw.trodAll_len hA
 rcases ds with _ | ⟨d1, _ | ⟨d2, _ | ⟨d3, ds⟩⟩⟩ <;> first | (simp at hlen; done) | skip
 refine (Fw.yes_call Fw.F5_ok (fun _ _ => trivial) (fun _ _ => rfl) (ts := Tryz.f5.params.toList) (by kernel_rfl) hA (fun j t v h1 h2 => hval j t v (by simpa using h1) (by simpa using h2))).mono fun e W' ⟨he, hfr⟩ => ?_
 subst he
 exact ⟨_, rfl, Fw.post_yes Tryz.laidOut (by kernel_rfl) rfl rfl rfl Tryz.underlying4 hW' hfr⟩
theorem fnExactJudgeItem_q0 : (Rows.fnExactJudgeItemRow.wf (OpenSpec.ofChange Rows.fnExactJudgeItemSpec) : Bool) = true := by kernel_rfl
theorem fnExactJudgeItem_q1 : (laidOutB Tryz.pinned.checked.prog : Bool) = true := by kernel_rfl
theorem fnExactJudgeItem_q2 : (mapsRowed Tryz.pinned.checked.prog : Bool) = true := by kernel_rfl
theorem fnExactJudgeItem_q3 : (Tryz.f5.params.all (Tryz.pinned.checked.prog.readableRec ·) : Bool) = true := by kernel_rfl
theorem fnExactJudgeItem_q4 : (namedTie Tryz.pinned.checked.prog Rows.fnExactJudgeItemRow.named Rows.fnExactJudgeItemSpec.vars : Bool) = true := by kernel_rfl
theorem fnExactJudgeItem_q5 : ((Rows.fnExactJudgeItemRow.stops == []) : Bool) = true := by kernel_rfl
theorem fnExactJudgeItem_q6 : ((Tryz.pinned.checked.prog.stops == []) : Bool) = true := by kernel_rfl
theorem fnExactJudgeItem_q7 : ((Rows.fnExactJudgeItemRow.knobs == []) : Bool) = true := by kernel_rfl
theorem fnExactJudgeItem_q8 : ((Tryz.pinned.checked.prog.stopKnobs == []) : Bool) = true := by kernel_rfl
theorem fnExactJudgeItem_q9 : ((Rows.fnExactJudgeItemRow.inPlace == Tryz.pinned.checked.prog.inPlace 5) : Bool) = true := by kernel_rfl
theorem fnExactJudgeItem_q10 : ((Rows.fnExactJudgeItemRow.unfollowed == Tryz.pinned.checked.prog.unfollowed 5) : Bool) = true := by kernel_rfl
theorem fnExactJudgeItem_q11 : ((Rows.fnExactJudgeItemRow.recurses == Tryz.pinned.checked.prog.recurses 5) : Bool) = true := by kernel_rfl
theorem fnExactJudgeItem_q12 : ((Rows.fnExactJudgeItemRow.named == Tryz.pinned.checked.prog.varsNamed 5) : Bool) = true := by kernel_rfl
theorem fnExactJudgeItem_q13 : ((Rows.fnExactJudgeItemRow.maps == (Tryz.f5.params.toList ++ Rows.fnExactJudgeItemSpec.plain.varTypes Tryz.pinned.checked.prog).any (Tryz.pinned.checked.prog.mapsRec ·)) : Bool) = true := by kernel_rfl
theorem fnExactJudgeItem_q14 : ((Rows.fnExactJudgeItemRow.ifaces == (Tryz.f5.params.toList ++ Rows.fnExactJudgeItemSpec.plain.varTypes Tryz.pinned.checked.prog).any (Tryz.pinned.checked.prog.ifacesRec ·)) : Bool) = true := by kernel_rfl
theorem fnExactJudgeItem_q15 : ((Rows.fnExactJudgeItemRow.mapsOut == Tryz.pinned.checked.prog.mapsAmong Tryz.f5.resultTypes.toList) : Bool) = true := by kernel_rfl
theorem fnExactJudgeItem_q16 : ((Rows.fnExactJudgeItemRow.loops == (Tryz.f5.params.toList ++ Rows.fnExactJudgeItemSpec.plain.varTypes Tryz.pinned.checked.prog).any (Tryz.pinned.checked.prog.loopsFrom ·)) : Bool) = true := by kernel_rfl
theorem fnExactJudgeItem_q17 : ((Rows.fnExactJudgeItemRow.wideKeys == (Tryz.f5.params.toList ++ Rows.fnExactJudgeItemSpec.plain.varTypes Tryz.pinned.checked.prog ++ Tryz.f5.resultTypes.toList).any (Tryz.pinned.checked.prog.wideKeysFrom ·)) : Bool) = true := by kernel_rfl
theorem fnExactJudgeItem_q18 : (Rows.fnExactJudgeItemSpec.vars.all (Tryz.pinned.checked.prog.varReadable ·) : Bool) = true := by kernel_rfl
theorem fnExactJudgeItem_q19 : (Tryz.f5.resultTypes.all (fun t => Tryz.pinned.checked.prog.readableRec t && decide (t < Tryz.pinned.checked.prog.types.size)) : Bool) = true := by kernel_rfl
theorem fnExactJudgeItem_q20 : ((Rows.fnExactJudgeItemRow.ifacesOut == Tryz.f5.resultTypes.toList.any (Tryz.pinned.checked.prog.ifacesRec ·)) : Bool) = true := by kernel_rfl
theorem fnExactJudgeItem_q21 : ((Rows.fnExactJudgeItemRow.loopsOut == Tryz.f5.resultTypes.toList.any (Tryz.pinned.checked.prog.loopsFrom ·)) : Bool) = true := by kernel_rfl
theorem fnExactJudgeItem_q22 : ((Rows.fnExactJudgeItemRow.plainKeys == Tryz.pinned.checked.prog.plainKeys) : Bool) = true := by kernel_rfl
theorem fnExactJudgeItem_q23 : (Rows.fnExactJudgeItemRow.shortTexts.isNone : Bool) = true := by kernel_rfl
theorem fnExactJudgeItem_q24 : (Tryz.pinned.checked.prog.stopsHeard : Bool) = true := by kernel_rfl
theorem fnExactJudgeItem_q25 : (Tryz.pinned.checked.prog.mayEnter : Bool) = true := by kernel_rfl
theorem fnExactJudgeItem_q26 : ((Rows.fnExactJudgeItemRow.lifted == Tryz.pinned.checked.prog.liftsFinal) : Bool) = true := by kernel_rfl
theorem fnExactJudgeItem_q27 : ((Tryz.pinned.checked.prog.make == some Rows.fnExactJudgeItemRow.make) : Bool) = true := by kernel_rfl
theorem fnExactJudgeItem_q28 : ((Rows.fnExactJudgeItemRow.kinds == (if Rows.fnExactJudgeItemRow.domain.isEmpty then [] else Tryz.f5.params.toList.map fun t => match Tryz.pinned.checked.prog.underlying t with | some (.int k) => some k | _ => none)) : Bool) = true := by kernel_rfl
theorem fnExactJudgeItem_q29 : ((Rows.fnExactJudgeItemRow.pinned == Rows.fnExactJudgeItemRow.pinnedBy) : Bool) = true := by kernel_rfl
theorem fnExactJudgeItem_q30 : ((Rows.fnExactJudgeItemRow.veiled == (Tryz.f5.params.toList ++ Rows.fnExactJudgeItemSpec.plain.varTypes Tryz.pinned.checked.prog ++ Tryz.f5.resultTypes.toList).any (Tryz.pinned.checked.prog.veiledRec ·)) : Bool) = true := by kernel_rfl
theorem fnExactJudgeItem_q31 : (Rows.fnExactJudgeItemRow.veiledFits Tryz.pinned.checked.prog Tryz.f5.params.toList (Tryz.f5.params.toList ++ Rows.fnExactJudgeItemSpec.plain.varTypes Tryz.pinned.checked.prog ++ Tryz.f5.resultTypes.toList) : Bool) = true := by kernel_rfl
set_option maxRecDepth 100000 in
theorem fnExactJudgeItem_joined : joinedFacts Tryz.pinned.checked.prog 5 Tryz.f5 Rows.fnExactJudgeItemSpec Rows.fnExactJudgeItemRow = true :=
 (and_mk (and_mk (and_mk (and_mk (and_mk (and_mk (and_mk (and_mk (and_mk (and_mk (and_mk (and_mk (and_mk (and_mk (and_mk (and_mk (and_mk (and_mk (and_mk (and_mk (and_mk (and_mk (and_mk (and_mk (and_mk (and_mk (and_mk (and_mk (and_mk (and_mk (and_mk fnExactJudgeItem_q0 fnExactJudgeItem_q1) fnExactJudgeItem_q2) fnExactJudgeItem_q3) fnExactJudgeItem_q4) fnExactJudgeItem_q5) fnExactJudgeItem_q6) fnExactJudgeItem_q7) fnExactJudgeItem_q8) fnExactJudgeItem_q9) fnExactJudgeItem_q10) fnExactJudgeItem_q11) fnExactJudgeItem_q12) fnExactJudgeItem_q13) fnExactJudgeItem_q14) fnExactJudgeItem_q15) fnExactJudgeItem_q16) fnExactJudgeItem_q17) fnExactJudgeItem_q18) fnExactJudgeItem_q19) fnExactJudgeItem_q20) fnExactJudgeItem_q21) fnExactJudgeItem_q22) fnExactJudgeItem_q23) fnExactJudgeItem_q24) fnExactJudgeItem_q25) fnExactJudgeItem_q26) fnExactJudgeItem_q27) fnExactJudgeItem_q28) fnExactJudgeItem_q29) fnExactJudgeItem_q30) fnExactJudgeItem_q31)
theorem fnExactJudgeItem_holds : Rows.FnExactJudgeItemSaid :=
 OpenClaim.holds_of_wide 5 Tryz.f5 rfl rfl rfl rfl rfl rfl rfl ⟨rfl, rfl, rfl, rfl, rfl⟩ rfl rfl rfl rfl rfl (by kernel_rfl) Tryz.func5 fnExactJudgeItem_joined
   (of_decide_eq_true (by kernel_rfl)) (by unfold Func.isWrapper; first | (rw [if_pos (by decide +kernel)]; kernel_rfl) | (rw [if_neg (by decide +kernel)]; exact ⟨rfl, rfl⟩))
   (fun os started H enc _ => fnExactJudgeItem_lifted os started H enc)
end Go.Proofs.YtoccddagjnebbaaGreat
