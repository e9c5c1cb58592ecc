/- FnExactJudgeBoth: each law function of these statements answers true, for all arguments that can be read. Conditions: none. -/
import Derived.Test.YtoccddagjnebbaaGreatRows
import Derived.Test.YtoccddagjnebbaaGreatW60z0
import Derived.Test.YtoccddagjnebbaaGreatP2
namespace Go.Proofs.YtoccddagjnebbaaGreat
open Go.ChangeShapes Go.WideShapes Go.ChangeAt Go.RowKit
theorem Tryz.own : ownKnob Tryz.prog.godebug = none := by kernel_rfl
theorem Tryz.laidOut : laidOutB Tryz.prog = true := by kernel_rfl
theorem and_mk {a b : Bool} (h : a = true) (k : b = true) : (a && b) = true := by rw [h, k]; rfl
set_option maxRecDepth 100000 in
theorem fnExactJudgeBoth_lifted (os : Os) (started : os.Started) (H : Type) (enc : TypeId × Value → H) :
   ReturnsInHanded {} Tryz.checked os 7 .any (Rows.fnExactJudgeBothSpec.pre6 enc Tryz.prog Tryz.f7 Rows.fnExactJudgeBothRow.domain false) (Rows.fnExactJudgeBothSpec.post enc Tryz.prog Tryz.f7 false true false false) := by
 refine returnsInHanded_of_change (C := Tryz.checked) Tryz.own started (by kernel_rfl) Tryz.func7
   (ChangeSpec.witness6 (enc := enc) (C := Tryz.checked) false ⟨#[], #[.agg #[.slice none 0 0, .slice none 0 0, .slice none 0 0, .int .i64 0, .int .i64 0], .agg #[.slice none 0 0, .slice none 0 0], .agg #[.slice none 0 0, .slice none 0 0], .agg #[.int .i64 0, .slice none 0 0, .slice none 0 0], .agg #[.int .i64 0, .int .i64 0, .int .i64 0, .int .i64 0, .int .i64 0, .int .i64 0, .int .i64 0, .int .i64 0, .int .i64 0]], []⟩ 12 (by kernel_rfl) (by kernel_rfl) (by kernel_rfl) (by kernel_rfl)) ?_
 intro W base args ds gs before hval0 hW hcnd _
 have hval : ∀ (j : Nat) t v, Tryz.f7.params[j]? = some t → args[j]? = some v → Value.okWide Tryz.prog W .any base t v := hval0
 have hW' := hW
 obtain ⟨p, q, hA0, hV, rfl, hfz, hnd⟩ := hW
 have hA : DataW.TrodAll enc Tryz.prog W 0 (fun _ => true) true Tryz.f7.params.toList args.toList ds p := hA0
 obtain ⟨rfl, rfl⟩ := trodVars_none hV
 have hlen : ds.length = 5 := Fw.trodAll_len hA
 rcases ds with _ | ⟨d1, _ | ⟨d2, _ | ⟨d3, _ | ⟨d4, _ | ⟨d5, _ | ⟨d6, ds⟩⟩⟩⟩⟩⟩ <;> first | (simp at hlen; done) | skip
 refine (Fw.yes_call Fw.F7_ok (fun _ _ => trivial) (fun _ _ => rfl) (ts := Tryz.f7.params.toList) (by kernel_rfl) hA (fun j t v h1 h2 => hval j t v (by simpa using h1) (by simpa using h2))).mono fun e W' ⟨he, hfr⟩ => ?_
 subst he
 exact ⟨_, rfl, Fw.post_yes Tryz.laidOut (by kernel_rfl) rfl rfl rfl Tryz.underlying4 hW' hfr⟩
theorem fnExactJudgeBoth_q0 : (Rows.fnExactJudgeBothRow.wf (OpenSpec.ofChange Rows.fnExactJudgeBothSpec) : Bool) = true := by kernel_rfl
theorem fnExactJudgeBoth_q1 : (laidOutB Tryz.pinned.checked.prog : Bool) = true := by kernel_rfl
theorem fnExactJudgeBoth_q2 : (mapsRowed Tryz.pinned.checked.prog : Bool) = true := by kernel_rfl
theorem fnExactJudgeBoth_q3 : (Tryz.f7.params.all (Tryz.pinned.checked.prog.readableRec ·) : Bool) = true := by kernel_rfl
theorem fnExactJudgeBoth_q4 : (namedTie Tryz.pinned.checked.prog Rows.fnExactJudgeBothRow.named Rows.fnExactJudgeBothSpec.vars : Bool) = true := by kernel_rfl
theorem fnExactJudgeBoth_q5 : ((Rows.fnExactJudgeBothRow.stops == []) : Bool) = true := by kernel_rfl
theorem fnExactJudgeBoth_q6 : ((Tryz.pinned.checked.prog.stops == []) : Bool) = true := by kernel_rfl
theorem fnExactJudgeBoth_q7 : ((Rows.fnExactJudgeBothRow.knobs == []) : Bool) = true := by kernel_rfl
theorem fnExactJudgeBoth_q8 : ((Tryz.pinned.checked.prog.stopKnobs == []) : Bool) = true := by kernel_rfl
theorem fnExactJudgeBoth_q9 : ((Rows.fnExactJudgeBothRow.inPlace == Tryz.pinned.checked.prog.inPlace 7) : Bool) = true := by kernel_rfl
theorem fnExactJudgeBoth_q10 : ((Rows.fnExactJudgeBothRow.unfollowed == Tryz.pinned.checked.prog.unfollowed 7) : Bool) = true := by kernel_rfl
theorem fnExactJudgeBoth_q11 : ((Rows.fnExactJudgeBothRow.recurses == Tryz.pinned.checked.prog.recurses 7) : Bool) = true := by kernel_rfl
theorem fnExactJudgeBoth_q12 : ((Rows.fnExactJudgeBothRow.named == Tryz.pinned.checked.prog.varsNamed 7) : Bool) = true := by kernel_rfl
theorem fnExactJudgeBoth_q13 : ((Rows.fnExactJudgeBothRow.maps == (Tryz.f7.params.toList ++ Rows.fnExactJudgeBothSpec.plain.varTypes Tryz.pinned.checked.prog).any (Tryz.pinned.checked.prog.mapsRec ·)) : Bool) = true := by kernel_rfl
theorem fnExactJudgeBoth_q14 : ((Rows.fnExactJudgeBothRow.ifaces == (Tryz.f7.params.toList ++ Rows.fnExactJudgeBothSpec.plain.varTypes Tryz.pinned.checked.prog).any (Tryz.pinned.checked.prog.ifacesRec ·)) : Bool) = true := by kernel_rfl
theorem fnExactJudgeBoth_q15 : ((Rows.fnExactJudgeBothRow.mapsOut == Tryz.pinned.checked.prog.mapsAmong Tryz.f7.resultTypes.toList) : Bool) = true := by kernel_rfl
theorem fnExactJudgeBoth_q16 : ((Rows.fnExactJudgeBothRow.loops == (Tryz.f7.params.toList ++ Rows.fnExactJudgeBothSpec.plain.varTypes Tryz.pinned.checked.prog).any (Tryz.pinned.checked.prog.loopsFrom ·)) : Bool) = true := by kernel_rfl
theorem fnExactJudgeBoth_q17 : ((Rows.fnExactJudgeBothRow.wideKeys == (Tryz.f7.params.toList ++ Rows.fnExactJudgeBothSpec.plain.varTypes Tryz.pinned.checked.prog ++ Tryz.f7.resultTypes.toList).any (Tryz.pinned.checked.prog.wideKeysFrom ·)) : Bool) = true := by kernel_rfl
theorem fnExactJudgeBoth_q18 : (Rows.fnExactJudgeBothSpec.vars.all (Tryz.pinned.checked.prog.varReadable ·) : Bool) = true := by kernel_rfl
theorem fnExactJudgeBoth_q19 : (Tryz.f7.resultTypes.all (fun t => Tryz.pinned.checked.prog.readableRec t && decide (t < Tryz.pinned.checked.prog.types.size)) : Bool) = true := by kernel_rfl
theorem fnExactJudgeBoth_q20 : ((Rows.fnExactJudgeBothRow.ifacesOut == Tryz.f7.resultTypes.toList.any (Tryz.pinned.checked.prog.ifacesRec ·)) : Bool) = true := by kernel_rfl
theorem fnExactJudgeBoth_q21 : ((Rows.fnExactJudgeBothRow.loopsOut == Tryz.f7.resultTypes.toList.any (Tryz.pinned.checked.prog.loopsFrom ·)) : Bool) = true := by kernel_rfl
theorem fnExactJudgeBoth_q22 : ((Rows.fnExactJudgeBothRow.plainKeys == Tryz.pinned.checked.prog.plainKeys) : Bool) = true := by kernel_rfl
theorem fnExactJudgeBoth_q23 : (Rows.fnExactJudgeBothRow.shortTexts.isNone : Bool) = true := by kernel_rfl
theorem fnExactJudgeBoth_q24 : (Tryz.pinned.checked.prog.stopsHeard : Bool) = true := by kernel_rfl
theorem fnExactJudgeBoth_q25 : (Tryz.pinned.checked.prog.mayEnter : Bool) = true := by kernel_rfl
theorem fnExactJudgeBoth_q26 : ((Rows.fnExactJudgeBothRow.lifted == Tryz.pinned.checked.prog.liftsFinal) : Bool) = true := by kernel_rfl
theorem fnExactJudgeBoth_q27 : ((Tryz.pinned.checked.prog.make == some Rows.fnExactJudgeBothRow.make) : Bool) = true := by kernel_rfl
theorem fnExactJudgeBoth_q28 : ((Rows.fnExactJudgeBothRow.kinds == (if Rows.fnExactJudgeBothRow.domain.isEmpty then [] else Tryz.f7.params.toList.map fun t => match Tryz.pinned.checked.prog.underlying t with | some (.int k) => some k | _ => none)) : Bool) = true := by kernel_rfl
theorem fnExactJudgeBoth_q29 : ((Rows.fnExactJudgeBothRow.pinned == Rows.fnExactJudgeBothRow.pinnedBy) : Bool) = true := by kernel_rfl
theorem fnExactJudgeBoth_q30 : ((Rows.fnExactJudgeBothRow.veiled == (Tryz.f7.params.toList ++ Rows.fnExactJudgeBothSpec.plain.varTypes Tryz.pinned.checked.prog ++ Tryz.f7.resultTypes.toList).any (Tryz.pinned.checked.prog.veiledRec ·)) : Bool) = true := by kernel_rfl
theorem fnExactJudgeBoth_q31 : (Rows.fnExactJudgeBothRow.veiledFits Tryz.pinned.checked.prog Tryz.f7.params.toList (Tryz.f7.params.toList ++ Rows.fnExactJudgeBothSpec.plain.varTypes Tryz.pinned.checked.prog ++ Tryz.f7.resultTypes.toList) : Bool) = true := by kernel_rfl
set_option maxRecDepth 100000 in
theorem fnExactJudgeBoth_joined : joinedFacts Tryz.pinned.checked.prog 7 Tryz.f7 Rows.fnExactJudgeBothSpec Rows.fnExactJudgeBothRow = true :=
 (and_mk (and_mk (and_mk (and_mk (and_mk (and_mk (and_mk (and_mk (and_mk (and_mk (and_mk (and_mk (and_mk (and_mk (and_mk (and_mk (and_mk (and_mk (and_mk (and_mk (and_mk (and_mk (and_mk (and_mk (and_mk (and_mk (and_mk (and_mk (and_mk (and_mk (and_mk fnExactJudgeBoth_q0 fnExactJudgeBoth_q1) fnExactJudgeBoth_q2) fnExactJudgeBoth_q3) fnExactJudgeBoth_q4) fnExactJudgeBoth_q5) fnExactJudgeBoth_q6) fnExactJudgeBoth_q7) fnExactJudgeBoth_q8) fnExactJudgeBoth_q9) fnExactJudgeBoth_q10) fnExactJudgeBoth_q11) fnExactJudgeBoth_q12) fnExactJudgeBoth_q13) fnExactJudgeBoth_q14) fnExactJudgeBoth_q15) fnExactJudgeBoth_q16) fnExactJudgeBoth_q17) fnExactJudgeBoth_q18) fnExactJudgeBoth_q19) fnExactJudgeBoth_q20) fnExactJudgeBoth_q21) fnExactJudgeBoth_q22) fnExactJudgeBoth_q23) fnExactJudgeBoth_q24) fnExactJudgeBoth_q25) fnExactJudgeBoth_q26) fnExactJudgeBoth_q27) fnExactJudgeBoth_q28) fnExactJudgeBoth_q29) fnExactJudgeBoth_q30) fnExactJudgeBoth_q31)
theorem fnExactJudgeBoth_holds : Rows.FnExactJudgeBothSaid :=
 OpenClaim.holds_of_wide 7 Tryz.f7 rfl rfl rfl rfl rfl rfl rfl ⟨rfl, rfl, rfl, rfl, rfl⟩ rfl rfl rfl rfl rfl (by kernel_rfl) Tryz.func7 fnExactJudgeBoth_joined
   (of_decide_eq_true (by kernel_rfl)) (by unfold Func.isWrapper; first | (rw [if_pos (by decide +kernel)]; kernel_rfl) | (rw [if_neg (by decide +kernel)]; exact ⟨rfl, rfl⟩))
   (fun os started H enc _ => fnExactJudgeBoth_lifted os started H enc)
end Go.Proofs.YtoccddagjnebbaaGreat
