/- FnExactJudgeHidden: each law function of these statements answers true, for all arguments that can be read. Conditions: none. -/
import Derived.Test.YtoccddagjnebbaaGreatRows
import Derived.Test.YtoccddagjnebbaaGreatW15z0
import Derived.Test.YtoccddagjnebbaaGreatP2
namespace Go.Proofs.YtoccddagjnebbaaGreat
open Go.ChangeShapes Go.WideShapes Go.ChangeAt Go.RowKit
theorem Tryz.own : ownKnob Tryz.prog.godebug = none := by kernel_rfl
theorem Tryz.laidOut : laidOutB Tryz.prog = true := by kernel_rfl
theorem and_mk {a b : Bool} (h : a = true) (k : b = true) : (a && b) = true := by rw [h, k]; rfl
set_option maxRecDepth 100000 in
theorem fnExactJudgeHidden_lifted (os : Os) (started : os.Started) (H : Type) (enc : TypeId × Value → H) :
   ReturnsInHanded {} Tryz.checked os 9 .any (Rows.fnExactJudgeHiddenSpec.pre6 enc Tryz.prog Tryz.f9 Rows.fnExactJudgeHiddenRow.domain false) (Rows.fnExactJudgeHiddenSpec.post enc Tryz.prog Tryz.f9 false true false false) := by
 refine returnsInHanded_of_change (C := Tryz.checked) Tryz.own started (by kernel_rfl) Tryz.func9
   (ChangeSpec.witness6 (enc := enc) (C := Tryz.checked) false ⟨#[], #[.agg #[.slice none 0 0, .slice none 0 0, .slice none 0 0, .int .i64 0, .int .i64 0], .agg #[.int .i64 0, .int .i64 0, .int .i64 0, .slice none 0 0, .slice none 0 0, .int .i64 0, .int .i64 0, .int .i64 0, .int .i64 0, .int .i64 0, .int .i64 0, .int .i64 0, .int .i64 0, .int .i64 0, .slice none 0 0, .slice none 0 0], .agg #[.int .i64 0, .slice none 0 0, .slice none 0 0, .slice none 0 0, .slice none 0 0, .slice none 0 0]], []⟩ 12 (by kernel_rfl) (by kernel_rfl) (by kernel_rfl) (by kernel_rfl)) ?_
 intro W base args ds gs before hval0 hW hcnd _
 have hval : ∀ (j : Nat) t v, Tryz.f9.params[j]? = some t → args[j]? = some v → Value.okWide Tryz.prog W .any base t v := hval0
 have hW' := hW
 obtain ⟨p, q, hA0, hV, rfl, hfz, hnd⟩ := hW
 have hA : DataW.TrodAll enc Tryz.prog W 0 (fun _ => true) true Tryz.f9.params.toList args.toList ds p := hA0
 obtain ⟨rfl, rfl⟩ := trodVars_none hV
 have hlen : ds.length = 3 := Fw.trodAll_len hA
 rcases ds with _ | ⟨d1, _ | ⟨d2, _ | ⟨d3, _ | ⟨d4, ds⟩⟩⟩⟩ <;> first | (simp at hlen; done) | skip
 refine (Fw.yes_call Fw.F9_ok (fun _ _ => trivial) (fun _ _ => rfl) (ts := Tryz.f9.params.toList) (by kernel_rfl) hA (fun j t v h1 h2 => hval j t v (by simpa using h1) (by simpa using h2))).mono fun e W' ⟨he, hfr⟩ => ?_
 subst he
 exact ⟨_, rfl, Fw.post_yes Tryz.laidOut (by kernel_rfl) rfl rfl rfl Tryz.underlying4 hW' hfr⟩
theorem fnExactJudgeHidden_q0 : (Rows.fnExactJudgeHiddenRow.wf (OpenSpec.ofChange Rows.fnExactJudgeHiddenSpec) : Bool) = true := by kernel_rfl
theorem fnExactJudgeHidden_q1 : (laidOutB Tryz.pinned.checked.prog : Bool) = true := by kernel_rfl
theorem fnExactJudgeHidden_q2 : (mapsRowed Tryz.pinned.checked.prog : Bool) = true := by kernel_rfl
theorem fnExactJudgeHidden_q3 : (Tryz.f9.params.all (Tryz.pinned.checked.prog.readableRec ·) : Bool) = true := by kernel_rfl
theorem fnExactJudgeHidden_q4 : (namedTie Tryz.pinned.checked.prog Rows.fnExactJudgeHiddenRow.named Rows.fnExactJudgeHiddenSpec.vars : Bool) = true := by kernel_rfl
theorem fnExactJudgeHidden_q5 : ((Rows.fnExactJudgeHiddenRow.stops == []) : Bool) = true := by kernel_rfl
theorem fnExactJudgeHidden_q6 : ((Tryz.pinned.checked.prog.stops == []) : Bool) = true := by kernel_rfl
theorem fnExactJudgeHidden_q7 : ((Rows.fnExactJudgeHiddenRow.knobs == []) : Bool) = true := by kernel_rfl
theorem fnExactJudgeHidden_q8 : ((Tryz.pinned.checked.prog.stopKnobs == []) : Bool) = true := by kernel_rfl
theorem fnExactJudgeHidden_q9 : ((Rows.fnExactJudgeHiddenRow.inPlace == Tryz.pinned.checked.prog.inPlace 9) : Bool) = true := by kernel_rfl
theorem fnExactJudgeHidden_q10 : ((Rows.fnExactJudgeHiddenRow.unfollowed == Tryz.pinned.checked.prog.unfollowed 9) : Bool) = true := by kernel_rfl
theorem fnExactJudgeHidden_q11 : ((Rows.fnExactJudgeHiddenRow.recurses == Tryz.pinned.checked.prog.recurses 9) : Bool) = true := by kernel_rfl
theorem fnExactJudgeHidden_q12 : ((Rows.fnExactJudgeHiddenRow.named == Tryz.pinned.checked.prog.varsNamed 9) : Bool) = true := by kernel_rfl
theorem fnExactJudgeHidden_q13 : ((Rows.fnExactJudgeHiddenRow.maps == (Tryz.f9.params.toList ++ Rows.fnExactJudgeHiddenSpec.plain.varTypes Tryz.pinned.checked.prog).any (Tryz.pinned.checked.prog.mapsRec ·)) : Bool) = true := by kernel_rfl
theorem fnExactJudgeHidden_q14 : ((Rows.fnExactJudgeHiddenRow.ifaces == (Tryz.f9.params.toList ++ Rows.fnExactJudgeHiddenSpec.plain.varTypes Tryz.pinned.checked.prog).any (Tryz.pinned.checked.prog.ifacesRec ·)) : Bool) = true := by kernel_rfl
theorem fnExactJudgeHidden_q15 : ((Rows.fnExactJudgeHiddenRow.mapsOut == Tryz.pinned.checked.prog.mapsAmong Tryz.f9.resultTypes.toList) : Bool) = true := by kernel_rfl
theorem fnExactJudgeHidden_q16 : ((Rows.fnExactJudgeHiddenRow.loops == (Tryz.f9.params.toList ++ Rows.fnExactJudgeHiddenSpec.plain.varTypes Tryz.pinned.checked.prog).any (Tryz.pinned.checked.prog.loopsFrom ·)) : Bool) = true := by kernel_rfl
theorem fnExactJudgeHidden_q17 : ((Rows.fnExactJudgeHiddenRow.wideKeys == (Tryz.f9.params.toList ++ Rows.fnExactJudgeHiddenSpec.plain.varTypes Tryz.pinned.checked.prog ++ Tryz.f9.resultTypes.toList).any (Tryz.pinned.checked.prog.wideKeysFrom ·)) : Bool) = true := by kernel_rfl
theorem fnExactJudgeHidden_q18 : (Rows.fnExactJudgeHiddenSpec.vars.all (Tryz.pinned.checked.prog.varReadable ·) : Bool) = true := by kernel_rfl
theorem fnExactJudgeHidden_q19 : (Tryz.f9.resultTypes.all (fun t => Tryz.pinned.checked.prog.readableRec t && decide (t < Tryz.pinned.checked.prog.types.size)) : Bool) = true := by kernel_rfl
theorem fnExactJudgeHidden_q20 : ((Rows.fnExactJudgeHiddenRow.ifacesOut == Tryz.f9.resultTypes.toList.any (Tryz.pinned.checked.prog.ifacesRec ·)) : Bool) = true := by kernel_rfl
theorem fnExactJudgeHidden_q21 : ((Rows.fnExactJudgeHiddenRow.loopsOut == Tryz.f9.resultTypes.toList.any (Tryz.pinned.checked.prog.loopsFrom ·)) : Bool) = true := by kernel_rfl
theorem fnExactJudgeHidden_q22 : ((Rows.fnExactJudgeHiddenRow.plainKeys == Tryz.pinned.checked.prog.plainKeys) : Bool) = true := by kernel_rfl
theorem fnExactJudgeHidden_q23 : (Rows.fnExactJudgeHiddenRow.shortTexts.isNone : Bool) = true := by kernel_rfl
theorem fnExactJudgeHidden_q24 : (Tryz.pinned.checked.prog.stopsHeard : Bool) = true := by kernel_rfl
theorem fnExactJudgeHidden_q25 : (Tryz.pinned.checked.prog.mayEnter : Bool) = true := by kernel_rfl
theorem fnExactJudgeHidden_q26 : ((Rows.fnExactJudgeHiddenRow.lifted == Tryz.pinned.checked.prog.liftsFinal) : Bool) = true := by kernel_rfl
theorem fnExactJudgeHidden_q27 : ((Tryz.pinned.checked.prog.make == some Rows.fnExactJudgeHiddenRow.make) : Bool) = true := by kernel_rfl
theorem fnExactJudgeHidden_q28 : ((Rows.fnExactJudgeHiddenRow.kinds == (if Rows.fnExactJudgeHiddenRow.domain.isEmpty then [] else Tryz.f9.params.toList.map fun t => match Tryz.pinned.checked.prog.underlying t with | some (.int k) => some k | _ => none)) : Bool) = true := by kernel_rfl
theorem fnExactJudgeHidden_q29 : ((Rows.fnExactJudgeHiddenRow.pinned == Rows.fnExactJudgeHiddenRow.pinnedBy) : Bool) = true := by kernel_rfl
theorem fnExactJudgeHidden_q30 : ((Rows.fnExactJudgeHiddenRow.veiled == (Tryz.f9.params.toList ++ Rows.fnExactJudgeHiddenSpec.plain.varTypes Tryz.pinned.checked.prog ++ Tryz.f9.resultTypes.toList).any (Tryz.pinned.checked.prog.veiledRec ·)) : Bool) = true := by kernel_rfl
theorem fnExactJudgeHidden_q31 : (Rows.fnExactJudgeHiddenRow.veiledFits Tryz.pinned.checked.prog Tryz.f9.params.toList (Tryz.f9.params.toList ++ Rows.fnExactJudgeHiddenSpec.plain.varTypes Tryz.pinned.checked.prog ++ Tryz.f9.resultTypes.toList) : Bool) = true := by kernel_rfl
set_option maxRecDepth 100000 in
theorem fnExactJudgeHidden_joined : joinedFacts Tryz.pinned.checked.prog 9 Tryz.f9 Rows.fnExactJudgeHiddenSpec Rows.fnExactJudgeHiddenRow = true :=
 (and_mk (and_mk (and_mk (and_mk (and_mk (and_mk (and_mk (and_mk (and_mk (and_mk (and_mk (and_mk (and_mk (and_mk (and_mk (and_mk (and_mk (and_mk (and_mk (and_mk (and_mk (and_mk (and_mk (and_mk (and_mk (and_mk (and_mk (and_mk (and_mk (and_mk (and_mk fnExactJudgeHidden_q0 fnExactJudgeHidden_q1) fnExactJudgeHidden_q2) fnExactJudgeHidden_q3) fnExactJudgeHidden_q4) fnExactJudgeHidden_q5) fnExactJudgeHidden_q6) fnExactJudgeHidden_q7) fnExactJudgeHidden_q8) fnExactJudgeHidden_q9) fnExactJudgeHidden_q10) fnExactJudgeHidden_q11) fnExactJudgeHidden_q12) fnExactJudgeHidden_q13) fnExactJudgeHidden_q14) fnExactJudgeHidden_q15) fnExactJudgeHidden_q16) fnExactJudgeHidden_q17) fnExactJudgeHidden_q18) fnExactJudgeHidden_q19) fnExactJudgeHidden_q20) fnExactJudgeHidden_q21) fnExactJudgeHidden_q22) fnExactJudgeHidden_q23) fnExactJudgeHidden_q24) fnExactJudgeHidden_q25) fnExactJudgeHidden_q26) fnExactJudgeHidden_q27) fnExactJudgeHidden_q28) fnExactJudgeHidden_q29) fnExactJudgeHidden_q30) fnExactJudgeHidden_q31)
theorem fnExactJudgeHidden_holds : Rows.FnExactJudgeHiddenSaid :=
 OpenClaim.holds_of_wide 9 Tryz.f9 rfl rfl rfl rfl rfl rfl rfl ⟨rfl, rfl, rfl, rfl, rfl⟩ rfl rfl rfl rfl rfl (by kernel_rfl) Tryz.func9 fnExactJudgeHidden_joined
   (of_decide_eq_true (by kernel_rfl)) (by unfold Func.isWrapper; first | (rw [if_pos (by decide +kernel)]; kernel_rfl) | (rw [if_neg (by decide +kernel)]; exact ⟨rfl, rfl⟩))
   (fun os started H enc _ => fnExactJudgeHidden_lifted os started H enc)
end Go.Proofs.YtoccddagjnebbaaGreat
