/- FnExactJudgeRedacted: each law function of these statements answers true, for all arguments that can be read. Conditions: none. -/
import Derived.Test.YtoccddagjnebbaaGreatRows
import Derived.Test.YtoccddagjnebbaaGreatW59z0
import Derived.Test.YtoccddagjnebbaaGreatP2
namespace Go.Proofs.YtoccddagjnebbaaGreat
open Go.ChangeShapes Go.WideShapes Go.ChangeAt Go.RowKit
theorem Tryz.own : ownKnob Tryz.prog.godebug = none := by kernel_rfl
theorem Tryz.laidOut : laidOutB Tryz.prog = true := by kernel_rfl
theorem and_mk {a b : Bool} (h : a = true) (k : b = true) : (a && b) = true := by rw [h, k]; rfl
set_option maxRecDepth 100000 in
theorem fnExactJudgeRedacted_lifted (os : Os) (started : os.Started) (H : Type) (enc : TypeId × Value → H) :
   ReturnsInHanded {} Tryz.checked os 6 .any (Rows.fnExactJudgeRedactedSpec.pre6 enc Tryz.prog Tryz.f6 Rows.fnExactJudgeRedactedRow.domain false) (Rows.fnExactJudgeRedactedSpec.post enc Tryz.prog Tryz.f6 false true false false) := by
 refine returnsInHanded_of_change (C := Tryz.checked) Tryz.own started (by kernel_rfl) Tryz.func6
   (ChangeSpec.witness6 (enc := enc) (C := Tryz.checked) false ⟨#[], #[.agg #[.slice none 0 0, .slice none 0 0, .slice none 0 0, .int .i64 0, .int .i64 0], .agg #[.slice none 0 0, .slice none 0 0], .agg #[.int .i64 0, .slice none 0 0, .slice none 0 0, .slice none 0 0, .slice none 0 0, .slice none 0 0], .agg #[.int .i64 0, .int .i64 0, .int .i64 0, .int .i64 0, .int .i64 0, .int .i64 0, .int .i64 0, .int .i64 0, .int .i64 0]], []⟩ 12 (by kernel_rfl) (by kernel_rfl) (by kernel_rfl) (by kernel_rfl)) ?_
 intro W base args ds gs before hval0 hW hcnd _
 have hval : ∀ (j : Nat) t v, Tryz.f6.params[j]? = some t → args[j]? = some v → Value.okWide Tryz.prog W .any base t v := hval0
 have hW' := hW
 obtain ⟨p, q, hA0, hV, rfl, hfz, hnd⟩ := hW
 have hA : DataW.TrodAll enc Tryz.prog W 0 (fun _ => true) true Tryz.f6.params.toList args.toList ds p := hA0
 obtain ⟨rfl, rfl⟩ := trodVars_none hV
 have hlen : ds.length = 4 := Fw.trodAll_len hA
 rcases ds with _ | ⟨d1, _ | ⟨d2, _ | ⟨d3, _ | ⟨d4, _ | ⟨d5, ds⟩⟩⟩⟩⟩ <;> first | (simp at hlen; done) | skip
 refine (Fw.yes_call Fw.F6_ok (fun _ _ => trivial) (fun _ _ => rfl) (ts := Tryz.f6.params.toList) (by kernel_rfl) hA (fun j t v h1 h2 => hval j t v (by simpa using h1) (by simpa using h2))).mono fun e W' ⟨he, hfr⟩ => ?_
 subst he
 exact ⟨_, rfl, Fw.post_yes Tryz.laidOut (by kernel_rfl) rfl rfl rfl Tryz.underlying4 hW' hfr⟩
theorem fnExactJudgeRedacted_q0 : (Rows.fnExactJudgeRedactedRow.wf (OpenSpec.ofChange Rows.fnExactJudgeRedactedSpec) : Bool) = true := by kernel_rfl
theorem fnExactJudgeRedacted_q1 : (laidOutB Tryz.pinned.checked.prog : Bool) = true := by kernel_rfl
theorem fnExactJudgeRedacted_q2 : (mapsRowed Tryz.pinned.checked.prog : Bool) = true := by kernel_rfl
theorem fnExactJudgeRedacted_q3 : (Tryz.f6.params.all (Tryz.pinned.checked.prog.readableRec ·) : Bool) = true := by kernel_rfl
theorem fnExactJudgeRedacted_q4 : (namedTie Tryz.pinned.checked.prog Rows.fnExactJudgeRedactedRow.named Rows.fnExactJudgeRedactedSpec.vars : Bool) = true := by kernel_rfl
theorem fnExactJudgeRedacted_q5 : ((Rows.fnExactJudgeRedactedRow.stops == []) : Bool) = true := by kernel_rfl
theorem fnExactJudgeRedacted_q6 : ((Tryz.pinned.checked.prog.stops == []) : Bool) = true := by kernel_rfl
theorem fnExactJudgeRedacted_q7 : ((Rows.fnExactJudgeRedactedRow.knobs == []) : Bool) = true := by kernel_rfl
theorem fnExactJudgeRedacted_q8 : ((Tryz.pinned.checked.prog.stopKnobs == []) : Bool) = true := by kernel_rfl
theorem fnExactJudgeRedacted_q9 : ((Rows.fnExactJudgeRedactedRow.inPlace == Tryz.pinned.checked.prog.inPlace 6) : Bool) = true := by kernel_rfl
theorem fnExactJudgeRedacted_q10 : ((Rows.fnExactJudgeRedactedRow.unfollowed == Tryz.pinned.checked.prog.unfollowed 6) : Bool) = true := by kernel_rfl
theorem fnExactJudgeRedacted_q11 : ((Rows.fnExactJudgeRedactedRow.recurses == Tryz.pinned.checked.prog.recurses 6) : Bool) = true := by kernel_rfl
theorem fnExactJudgeRedacted_q12 : ((Rows.fnExactJudgeRedactedRow.named == Tryz.pinned.checked.prog.varsNamed 6) : Bool) = true := by kernel_rfl
theorem fnExactJudgeRedacted_q13 : ((Rows.fnExactJudgeRedactedRow.maps == (Tryz.f6.params.toList ++ Rows.fnExactJudgeRedactedSpec.plain.varTypes Tryz.pinned.checked.prog).any (Tryz.pinned.checked.prog.mapsRec ·)) : Bool) = true := by kernel_rfl
theorem fnExactJudgeRedacted_q14 : ((Rows.fnExactJudgeRedactedRow.ifaces == (Tryz.f6.params.toList ++ Rows.fnExactJudgeRedactedSpec.plain.varTypes Tryz.pinned.checked.prog).any (Tryz.pinned.checked.prog.ifacesRec ·)) : Bool) = true := by kernel_rfl
theorem fnExactJudgeRedacted_q15 : ((Rows.fnExactJudgeRedactedRow.mapsOut == Tryz.pinned.checked.prog.mapsAmong Tryz.f6.resultTypes.toList) : Bool) = true := by kernel_rfl
theorem fnExactJudgeRedacted_q16 : ((Rows.fnExactJudgeRedactedRow.loops == (Tryz.f6.params.toList ++ Rows.fnExactJudgeRedactedSpec.plain.varTypes Tryz.pinned.checked.prog).any (Tryz.pinned.checked.prog.loopsFrom ·)) : Bool) = true := by kernel_rfl
theorem fnExactJudgeRedacted_q17 : ((Rows.fnExactJudgeRedactedRow.wideKeys == (Tryz.f6.params.toList ++ Rows.fnExactJudgeRedactedSpec.plain.varTypes Tryz.pinned.checked.prog ++ Tryz.f6.resultTypes.toList).any (Tryz.pinned.checked.prog.wideKeysFrom ·)) : Bool) = true := by kernel_rfl
theorem fnExactJudgeRedacted_q18 : (Rows.fnExactJudgeRedactedSpec.vars.all (Tryz.pinned.checked.prog.varReadable ·) : Bool) = true := by kernel_rfl
theorem fnExactJudgeRedacted_q19 : (Tryz.f6.resultTypes.all (fun t => Tryz.pinned.checked.prog.readableRec t && decide (t < Tryz.pinned.checked.prog.types.size)) : Bool) = true := by kernel_rfl
theorem fnExactJudgeRedacted_q20 : ((Rows.fnExactJudgeRedactedRow.ifacesOut == Tryz.f6.resultTypes.toList.any (Tryz.pinned.checked.prog.ifacesRec ·)) : Bool) = true := by kernel_rfl
theorem fnExactJudgeRedacted_q21 : ((Rows.fnExactJudgeRedactedRow.loopsOut == Tryz.f6.resultTypes.toList.any (Tryz.pinned.checked.prog.loopsFrom ·)) : Bool) = true := by kernel_rfl
theorem fnExactJudgeRedacted_q22 : ((Rows.fnExactJudgeRedactedRow.plainKeys == Tryz.pinned.checked.prog.plainKeys) : Bool) = true := by kernel_rfl
theorem fnExactJudgeRedacted_q23 : (Rows.fnExactJudgeRedactedRow.shortTexts.isNone : Bool) = true := by kernel_rfl
theorem fnExactJudgeRedacted_q24 : (Tryz.pinned.checked.prog.stopsHeard : Bool) = true := by kernel_rfl
theorem fnExactJudgeRedacted_q25 : (Tryz.pinned.checked.prog.mayEnter : Bool) = true := by kernel_rfl
theorem fnExactJudgeRedacted_q26 : ((Rows.fnExactJudgeRedactedRow.lifted == Tryz.pinned.checked.prog.liftsFinal) : Bool) = true := by kernel_rfl
theorem fnExactJudgeRedacted_q27 : ((Tryz.pinned.checked.prog.make == some Rows.fnExactJudgeRedactedRow.make) : Bool) = true := by kernel_rfl
theorem fnExactJudgeRedacted_q28 : ((Rows.fnExactJudgeRedactedRow.kinds == (if Rows.fnExactJudgeRedactedRow.domain.isEmpty then [] else Tryz.f6.params.toList.map fun t => match Tryz.pinned.checked.prog.underlying t with | some (.int k) => some k | _ => none)) : Bool) = true := by kernel_rfl
theorem fnExactJudgeRedacted_q29 : ((Rows.fnExactJudgeRedactedRow.pinned == Rows.fnExactJudgeRedactedRow.pinnedBy) : Bool) = true := by kernel_rfl
theorem fnExactJudgeRedacted_q30 : ((Rows.fnExactJudgeRedactedRow.veiled == (Tryz.f6.params.toList ++ Rows.fnExactJudgeRedactedSpec.plain.varTypes Tryz.pinned.checked.prog ++ Tryz.f6.resultTypes.toList).any (Tryz.pinned.checked.prog.veiledRec ·)) : Bool) = true := by kernel_rfl
theorem fnExactJudgeRedacted_q31 : (Rows.fnExactJudgeRedactedRow.veiledFits Tryz.pinned.checked.prog Tryz.f6.params.toList (Tryz.f6.params.toList ++ Rows.fnExactJudgeRedactedSpec.plain.varTypes Tryz.pinned.checked.prog ++ Tryz.f6.resultTypes.toList) : Bool) = true := by kernel_rfl
set_option maxRecDepth 100000 in
theorem fnExactJudgeRedacted_joined : joinedFacts Tryz.pinned.checked.prog 6 Tryz.f6 Rows.fnExactJudgeRedactedSpec Rows.fnExactJudgeRedactedRow = true :=
 (and_mk (and_mk (and_mk (and_mk (and_mk (and_mk (and_mk (and_mk (and_mk (and_mk (and_mk (and_mk (and_mk (and_mk (and_mk (and_mk (and_mk (and_mk (and_mk (and_mk (and_mk (and_mk (and_mk (and_mk (and_mk (and_mk (and_mk (and_mk (and_mk (and_mk (and_mk fnExactJudgeRedacted_q0 fnExactJudgeRedacted_q1) fnExactJudgeRedacted_q2) fnExactJudgeRedacted_q3) fnExactJudgeRedacted_q4) fnExactJudgeRedacted_q5) fnExactJudgeRedacted_q6) fnExactJudgeRedacted_q7) fnExactJudgeRedacted_q8) fnExactJudgeRedacted_q9) fnExactJudgeRedacted_q10) fnExactJudgeRedacted_q11) fnExactJudgeRedacted_q12) fnExactJudgeRedacted_q13) fnExactJudgeRedacted_q14) fnExactJudgeRedacted_q15) fnExactJudgeRedacted_q16) fnExactJudgeRedacted_q17) fnExactJudgeRedacted_q18) fnExactJudgeRedacted_q19) fnExactJudgeRedacted_q20) fnExactJudgeRedacted_q21) fnExactJudgeRedacted_q22) fnExactJudgeRedacted_q23) fnExactJudgeRedacted_q24) fnExactJudgeRedacted_q25) fnExactJudgeRedacted_q26) fnExactJudgeRedacted_q27) fnExactJudgeRedacted_q28) fnExactJudgeRedacted_q29) fnExactJudgeRedacted_q30) fnExactJudgeRedacted_q31)
theorem fnExactJudgeRedacted_holds : Rows.FnExactJudgeRedactedSaid :=
 OpenClaim.holds_of_wide 6 Tryz.f6 rfl rfl rfl rfl rfl rfl rfl ⟨rfl, rfl, rfl, rfl, rfl⟩ rfl rfl rfl rfl rfl (by kernel_rfl) Tryz.func6 fnExactJudgeRedacted_joined
   (of_decide_eq_true (by kernel_rfl)) (by unfold Func.isWrapper; first | (rw [if_pos (by decide +kernel)]; kernel_rfl) | (rw [if_neg (by decide +kernel)]; exact ⟨rfl, rfl⟩))
   (fun os started H enc _ => fnExactJudgeRedacted_lifted os started H enc)
end Go.Proofs.YtoccddagjnebbaaGreat
