/- FnExactJudgeDigests: each law function of these statements answers true, for all arguments that can be read. Conditions: none. -/
import Derived.Test.YtoccddagjnebbaaGreatRows
import Derived.Test.YtoccddagjnebbaaGreatW55z0
import Derived.Test.YtoccddagjnebbaaGreatP2
namespace Go.Proofs.YtoccddagjnebbaaGreat
open Go.ChangeShapes Go.WideShapes Go.ChangeAt Go.RowKit
theorem Tryz.own : ownKnob Tryz.prog.godebug = none := by kernel_rfl
theorem Tryz.laidOut : laidOutB Tryz.prog = true := by kernel_rfl
theorem and_mk {a b : Bool} (h : a = true) (k : b = true) : (a && b) = true := by rw [h, k]; rfl
set_option maxRecDepth 100000 in
theorem fnExactJudgeDigests_lifted (os : Os) (started : os.Started) (H : Type) (enc : TypeId × Value → H) :
   ReturnsInHanded {} Tryz.checked os 3 .any (Rows.fnExactJudgeDigestsSpec.pre6 enc Tryz.prog Tryz.f3 Rows.fnExactJudgeDigestsRow.domain false) (Rows.fnExactJudgeDigestsSpec.post enc Tryz.prog Tryz.f3 false true false false) := by
 refine returnsInHanded_of_change (C := Tryz.checked) Tryz.own started (by kernel_rfl) Tryz.func3
   (ChangeSpec.witness6 (enc := enc) (C := Tryz.checked) false ⟨#[], #[.agg #[.slice none 0 0, .slice none 0 0, .slice none 0 0, .int .i64 0, .int .i64 0], .agg #[.slice none 0 0, .slice none 0 0], .slice none 0 0, .int .i64 0, .agg #[.int .i64 0, .int .i64 0, .int .i64 0, .int .i64 0, .int .i64 0, .int .i64 0, .int .i64 0, .int .i64 0, .int .i64 0]], []⟩ 12 (by kernel_rfl) (by kernel_rfl) (by kernel_rfl) (by kernel_rfl)) ?_
 intro W base args ds gs before hval0 hW hcnd _
 have hval : ∀ (j : Nat) t v, Tryz.f3.params[j]? = some t → args[j]? = some v → Value.okWide Tryz.prog W .any base t v := hval0
 have hW' := hW
 obtain ⟨p, q, hA0, hV, rfl, hfz, hnd⟩ := hW
 have hA : DataW.TrodAll enc Tryz.prog W 0 (fun _ => true) true Tryz.f3.params.toList args.toList ds p := hA0
 obtain ⟨rfl, rfl⟩ := trodVars_none hV
 have hlen : ds.length = 5 := Fw.trodAll_len hA
 rcases ds with _ | ⟨d1, _ | ⟨d2, _ | ⟨d3, _ | ⟨d4, _ | ⟨d5, _ | ⟨d6, ds⟩⟩⟩⟩⟩⟩ <;> first | (simp at hlen; done) | skip
 refine (Fw.yes_call Fw.F3_ok (fun _ _ => trivial) (fun _ _ => rfl) (ts := Tryz.f3.params.toList) (by kernel_rfl) hA (fun j t v h1 h2 => hval j t v (by simpa using h1) (by simpa using h2))).mono fun e W' ⟨he, hfr⟩ => ?_
 subst he
 exact ⟨_, rfl, Fw.post_yes Tryz.laidOut (by kernel_rfl) rfl rfl rfl Tryz.underlying4 hW' hfr⟩
theorem fnExactJudgeDigests_q0 : (Rows.fnExactJudgeDigestsRow.wf (OpenSpec.ofChange Rows.fnExactJudgeDigestsSpec) : Bool) = true := by kernel_rfl
theorem fnExactJudgeDigests_q1 : (laidOutB Tryz.pinned.checked.prog : Bool) = true := by kernel_rfl
theorem fnExactJudgeDigests_q2 : (mapsRowed Tryz.pinned.checked.prog : Bool) = true := by kernel_rfl
theorem fnExactJudgeDigests_q3 : (Tryz.f3.params.all (Tryz.pinned.checked.prog.readableRec ·) : Bool) = true := by kernel_rfl
theorem fnExactJudgeDigests_q4 : (namedTie Tryz.pinned.checked.prog Rows.fnExactJudgeDigestsRow.named Rows.fnExactJudgeDigestsSpec.vars : Bool) = true := by kernel_rfl
theorem fnExactJudgeDigests_q5 : ((Rows.fnExactJudgeDigestsRow.stops == []) : Bool) = true := by kernel_rfl
theorem fnExactJudgeDigests_q6 : ((Tryz.pinned.checked.prog.stops == []) : Bool) = true := by kernel_rfl
theorem fnExactJudgeDigests_q7 : ((Rows.fnExactJudgeDigestsRow.knobs == []) : Bool) = true := by kernel_rfl
theorem fnExactJudgeDigests_q8 : ((Tryz.pinned.checked.prog.stopKnobs == []) : Bool) = true := by kernel_rfl
theorem fnExactJudgeDigests_q9 : ((Rows.fnExactJudgeDigestsRow.inPlace == Tryz.pinned.checked.prog.inPlace 3) : Bool) = true := by kernel_rfl
theorem fnExactJudgeDigests_q10 : ((Rows.fnExactJudgeDigestsRow.unfollowed == Tryz.pinned.checked.prog.unfollowed 3) : Bool) = true := by kernel_rfl
theorem fnExactJudgeDigests_q11 : ((Rows.fnExactJudgeDigestsRow.recurses == Tryz.pinned.checked.prog.recurses 3) : Bool) = true := by kernel_rfl
theorem fnExactJudgeDigests_q12 : ((Rows.fnExactJudgeDigestsRow.named == Tryz.pinned.checked.prog.varsNamed 3) : Bool) = true := by kernel_rfl
theorem fnExactJudgeDigests_q13 : ((Rows.fnExactJudgeDigestsRow.maps == (Tryz.f3.params.toList ++ Rows.fnExactJudgeDigestsSpec.plain.varTypes Tryz.pinned.checked.prog).any (Tryz.pinned.checked.prog.mapsRec ·)) : Bool) = true := by kernel_rfl
theorem fnExactJudgeDigests_q14 : ((Rows.fnExactJudgeDigestsRow.ifaces == (Tryz.f3.params.toList ++ Rows.fnExactJudgeDigestsSpec.plain.varTypes Tryz.pinned.checked.prog).any (Tryz.pinned.checked.prog.ifacesRec ·)) : Bool) = true := by kernel_rfl
theorem fnExactJudgeDigests_q15 : ((Rows.fnExactJudgeDigestsRow.mapsOut == Tryz.pinned.checked.prog.mapsAmong Tryz.f3.resultTypes.toList) : Bool) = true := by kernel_rfl
theorem fnExactJudgeDigests_q16 : ((Rows.fnExactJudgeDigestsRow.loops == (Tryz.f3.params.toList ++ Rows.fnExactJudgeDigestsSpec.plain.varTypes Tryz.pinned.checked.prog).any (Tryz.pinned.checked.prog.loopsFrom ·)) : Bool) = true := by kernel_rfl
theorem fnExactJudgeDigests_q17 : ((Rows.fnExactJudgeDigestsRow.wideKeys == (Tryz.f3.params.toList ++ Rows.fnExactJudgeDigestsSpec.plain.varTypes Tryz.pinned.checked.prog ++ Tryz.f3.resultTypes.toList).any (Tryz.pinned.checked.prog.wideKeysFrom ·)) : Bool) = true := by kernel_rfl
theorem fnExactJudgeDigests_q18 : (Rows.fnExactJudgeDigestsSpec.vars.all (Tryz.pinned.checked.prog.varReadable ·) : Bool) = true := by kernel_rfl
theorem fnExactJudgeDigests_q19 : (Tryz.f3.resultTypes.all (fun t => Tryz.pinned.checked.prog.readableRec t && decide (t < Tryz.pinned.checked.prog.types.size)) : Bool) = true := by kernel_rfl
theorem fnExactJudgeDigests_q20 : ((Rows.fnExactJudgeDigestsRow.ifacesOut == Tryz.f3.resultTypes.toList.any (Tryz.pinned.checked.prog.ifacesRec ·)) : Bool) = true := by kernel_rfl
theorem fnExactJudgeDigests_q21 : ((Rows.fnExactJudgeDigestsRow.loopsOut == Tryz.f3.resultTypes.toList.any (Tryz.pinned.checked.prog.loopsFrom ·)) : Bool) = true := by kernel_rfl
theorem fnExactJudgeDigests_q22 : ((Rows.fnExactJudgeDigestsRow.plainKeys == Tryz.pinned.checked.prog.plainKeys) : Bool) = true := by kernel_rfl
theorem fnExactJudgeDigests_q23 : (Rows.fnExactJudgeDigestsRow.shortTexts.isNone : Bool) = true := by kernel_rfl
theorem fnExactJudgeDigests_q24 : (Tryz.pinned.checked.prog.stopsHeard : Bool) = true := by kernel_rfl
theorem fnExactJudgeDigests_q25 : (Tryz.pinned.checked.prog.mayEnter : Bool) = true := by kernel_rfl
theorem fnExactJudgeDigests_q26 : ((Rows.fnExactJudgeDigestsRow.lifted == Tryz.pinned.checked.prog.liftsFinal) : Bool) = true := by kernel_rfl
theorem fnExactJudgeDigests_q27 : ((Tryz.pinned.checked.prog.make == some Rows.fnExactJudgeDigestsRow.make) : Bool) = true := by kernel_rfl
theorem fnExactJudgeDigests_q28 : ((Rows.fnExactJudgeDigestsRow.kinds == (if Rows.fnExactJudgeDigestsRow.domain.isEmpty then [] else Tryz.f3.params.toList.map fun t => match Tryz.pinned.checked.prog.underlying t with | some (.int k) => some k | _ => none)) : Bool) = true := by kernel_rfl
theorem fnExactJudgeDigests_q29 : ((Rows.fnExactJudgeDigestsRow.pinned == Rows.fnExactJudgeDigestsRow.pinnedBy) : Bool) = true := by kernel_rfl
theorem fnExactJudgeDigests_q30 : ((Rows.fnExactJudgeDigestsRow.veiled == (Tryz.f3.params.toList ++ Rows.fnExactJudgeDigestsSpec.plain.varTypes Tryz.pinned.checked.prog ++ Tryz.f3.resultTypes.toList).any (Tryz.pinned.checked.prog.veiledRec ·)) : Bool) = true := by kernel_rfl
theorem fnExactJudgeDigests_q31 : (Rows.fnExactJudgeDigestsRow.veiledFits Tryz.pinned.checked.prog Tryz.f3.params.toList (Tryz.f3.params.toList ++ Rows.fnExactJudgeDigestsSpec.plain.varTypes Tryz.pinned.checked.prog ++ Tryz.f3.resultTypes.toList) : Bool) = true := by kernel_rfl
set_option maxRecDepth 100000 in
theorem fnExactJudgeDigests_joined : joinedFacts Tryz.pinned.checked.prog 3 Tryz.f3 Rows.fnExactJudgeDigestsSpec Rows.fnExactJudgeDigestsRow = true :=
 (and_mk (and_mk (and_mk (and_mk (and_mk (and_mk (and_mk (and_mk (and_mk (and_mk (and_mk (and_mk (and_mk (and_mk (and_mk (and_mk (and_mk (and_mk (and_mk (and_mk (and_mk (and_mk (and_mk (and_mk (and_mk (and_mk (and_mk (and_mk (and_mk (and_mk (and_mk fnExactJudgeDigests_q0 fnExactJudgeDigests_q1) fnExactJudgeDigests_q2) fnExactJudgeDigests_q3) fnExactJudgeDigests_q4) fnExactJudgeDigests_q5) fnExactJudgeDigests_q6) fnExactJudgeDigests_q7) fnExactJudgeDigests_q8) fnExactJudgeDigests_q9) fnExactJudgeDigests_q10) fnExactJudgeDigests_q11) fnExactJudgeDigests_q12) fnExactJudgeDigests_q13) fnExactJudgeDigests_q14) fnExactJudgeDigests_q15) fnExactJudgeDigests_q16) fnExactJudgeDigests_q17) fnExactJudgeDigests_q18) fnExactJudgeDigests_q19) fnExactJudgeDigests_q20) fnExactJudgeDigests_q21) fnExactJudgeDigests_q22) fnExactJudgeDigests_q23) fnExactJudgeDigests_q24) fnExactJudgeDigests_q25) fnExactJudgeDigests_q26) fnExactJudgeDigests_q27) fnExactJudgeDigests_q28) fnExactJudgeDigests_q29) fnExactJudgeDigests_q30) fnExactJudgeDigests_q31)
theorem fnExactJudgeDigests_holds : Rows.FnExactJudgeDigestsSaid :=
 OpenClaim.holds_of_wide 3 Tryz.f3 rfl rfl rfl rfl rfl rfl rfl ⟨rfl, rfl, rfl, rfl, rfl⟩ rfl rfl rfl rfl rfl (by kernel_rfl) Tryz.func3 fnExactJudgeDigests_joined
   (of_decide_eq_true (by kernel_rfl)) (by unfold Func.isWrapper; first | (rw [if_pos (by decide +kernel)]; kernel_rfl) | (rw [if_neg (by decide +kernel)]; exact ⟨rfl, rfl⟩))
   (fun os started H enc _ => fnExactJudgeDigests_lifted os started H enc)
end Go.Proofs.YtoccddagjnebbaaGreat
