/- FnExactJudge: each law function of these statements answers true, for all arguments that can be read. Conditions: none. -/
import Derived.Test.YtoccddagjnebbaaGreatRows
import Derived.Test.YtoccddagjnebbaaGreatW57z0
import Derived.Test.YtoccddagjnebbaaGreatP2
namespace Go.Proofs.YtoccddagjnebbaaGreat
open Go.ChangeShapes Go.WideShapes Go.ChangeAt Go.RowKit
theorem Tryz.own : ownKnob Tryz.prog.godebug = none := by kernel_rfl
theorem Tryz.laidOut : laidOutB Tryz.prog = true := by kernel_rfl
theorem and_mk {a b : Bool} (h : a = true) (k : b = true) : (a && b) = true := by rw [h, k]; rfl
set_option maxRecDepth 100000 in
theorem fnExactJudge_lifted (os : Os) (started : os.Started) (H : Type) (enc : TypeId × Value → H) :
   ReturnsInHanded {} Tryz.checked os 4 .any (Rows.fnExactJudgeSpec.pre6 enc Tryz.prog Tryz.f4 Rows.fnExactJudgeRow.domain false) (Rows.fnExactJudgeSpec.post enc Tryz.prog Tryz.f4 false true false false) := by
 refine returnsInHanded_of_change (C := Tryz.checked) Tryz.own started (by kernel_rfl) Tryz.func4
   (ChangeSpec.witness6 (enc := enc) (C := Tryz.checked) false ⟨#[], #[.agg #[.slice none 0 0, .slice none 0 0, .slice none 0 0, .int .i64 0, .int .i64 0], .agg #[.slice none 0 0, .slice none 0 0], .agg #[.int .i64 0, .slice none 0 0, .slice none 0 0], .agg #[.int .i64 0, .int .i64 0, .int .i64 0, .int .i64 0, .int .i64 0, .int .i64 0, .int .i64 0, .int .i64 0, .int .i64 0]], []⟩ 12 (by kernel_rfl) (by kernel_rfl) (by kernel_rfl) (by kernel_rfl)) ?_
 intro W base args ds gs before hval0 hW hcnd _
 have hval : ∀ (j : Nat) t v, Tryz.f4.params[j]? = some t → args[j]? = some v → Value.okWide Tryz.prog W .any base t v := hval0
 have hW' := hW
 obtain ⟨p, q, hA0, hV, rfl, hfz, hnd⟩ := hW
 have hA : DataW.TrodAll enc Tryz.prog W 0 (fun _ => true) true Tryz.f4.params.toList args.toList ds p := hA0
 obtain ⟨rfl, rfl⟩ := trodVars_none hV
 have hlen : ds.length = 4 := Fw.trodAll_len hA
 rcases ds with _ | ⟨d1, _ | ⟨d2, _ | ⟨d3, _ | ⟨d4, _ | ⟨d5, ds⟩⟩⟩⟩⟩ <;> first | (simp at hlen; done) | skip
 refine (Fw.yes_call Fw.F4_ok (fun _ _ => trivial) (fun _ _ => rfl) (ts := Tryz.f4.params.toList) (by kernel_rfl) hA (fun j t v h1 h2 => hval j t v (by simpa using h1) (by simpa using h2))).mono fun e W' ⟨he, hfr⟩ => ?_
 subst he
 exact ⟨_, rfl, Fw.post_yes Tryz.laidOut (by kernel_rfl) rfl rfl rfl Tryz.underlying4 hW' hfr⟩
theorem fnExactJudge_q0 : (Rows.fnExactJudgeRow.wf (OpenSpec.ofChange Rows.fnExactJudgeSpec) : Bool) = true := by kernel_rfl
theorem fnExactJudge_q1 : (laidOutB Tryz.pinned.checked.prog : Bool) = true := by kernel_rfl
theorem fnExactJudge_q2 : (mapsRowed Tryz.pinned.checked.prog : Bool) = true := by kernel_rfl
theorem fnExactJudge_q3 : (Tryz.f4.params.all (Tryz.pinned.checked.prog.readableRec ·) : Bool) = true := by kernel_rfl
theorem fnExactJudge_q4 : (namedTie Tryz.pinned.checked.prog Rows.fnExactJudgeRow.named Rows.fnExactJudgeSpec.vars : Bool) = true := by kernel_rfl
theorem fnExactJudge_q5 : ((Rows.fnExactJudgeRow.stops == []) : Bool) = true := by kernel_rfl
theorem fnExactJudge_q6 : ((Tryz.pinned.checked.prog.stops == []) : Bool) = true := by kernel_rfl
theorem fnExactJudge_q7 : ((Rows.fnExactJudgeRow.knobs == []) : Bool) = true := by kernel_rfl
theorem fnExactJudge_q8 : ((Tryz.pinned.checked.prog.stopKnobs == []) : Bool) = true := by kernel_rfl
theorem fnExactJudge_q9 : ((Rows.fnExactJudgeRow.inPlace == Tryz.pinned.checked.prog.inPlace 4) : Bool) = true := by kernel_rfl
theorem fnExactJudge_q10 : ((Rows.fnExactJudgeRow.unfollowed == Tryz.pinned.checked.prog.unfollowed 4) : Bool) = true := by kernel_rfl
theorem fnExactJudge_q11 : ((Rows.fnExactJudgeRow.recurses == Tryz.pinned.checked.prog.recurses 4) : Bool) = true := by kernel_rfl
theorem fnExactJudge_q12 : ((Rows.fnExactJudgeRow.named == Tryz.pinned.checked.prog.varsNamed 4) : Bool) = true := by kernel_rfl
theorem fnExactJudge_q13 : ((Rows.fnExactJudgeRow.maps == (Tryz.f4.params.toList ++ Rows.fnExactJudgeSpec.plain.varTypes Tryz.pinned.checked.prog).any (Tryz.pinned.checked.prog.mapsRec ·)) : Bool) = true := by kernel_rfl
theorem fnExactJudge_q14 : ((Rows.fnExactJudgeRow.ifaces == (Tryz.f4.params.toList ++ Rows.fnExactJudgeSpec.plain.varTypes Tryz.pinned.checked.prog).any (Tryz.pinned.checked.prog.ifacesRec ·)) : Bool) = true := by kernel_rfl
theorem fnExactJudge_q15 : ((Rows.fnExactJudgeRow.mapsOut == Tryz.pinned.checked.prog.mapsAmong Tryz.f4.resultTypes.toList) : Bool) = true := by kernel_rfl
theorem fnExactJudge_q16 : ((Rows.fnExactJudgeRow.loops == (Tryz.f4.params.toList ++ Rows.fnExactJudgeSpec.plain.varTypes Tryz.pinned.checked.prog).any (Tryz.pinned.checked.prog.loopsFrom ·)) : Bool) = true := by kernel_rfl
theorem fnExactJudge_q17 : ((Rows.fnExactJudgeRow.wideKeys == (Tryz.f4.params.toList ++ Rows.fnExactJudgeSpec.plain.varTypes Tryz.pinned.checked.prog ++ Tryz.f4.resultTypes.toList).any (Tryz.pinned.checked.prog.wideKeysFrom ·)) : Bool) = true := by kernel_rfl
theorem fnExactJudge_q18 : (Rows.fnExactJudgeSpec.vars.all (Tryz.pinned.checked.prog.varReadable ·) : Bool) = true := by kernel_rfl
theorem fnExactJudge_q19 : (Tryz.f4.resultTypes.all (fun t => Tryz.pinned.checked.prog.readableRec t && decide (t < Tryz.pinned.checked.prog.types.size)) : Bool) = true := by kernel_rfl
theorem fnExactJudge_q20 : ((Rows.fnExactJudgeRow.ifacesOut == Tryz.f4.resultTypes.toList.any (Tryz.pinned.checked.prog.ifacesRec ·)) : Bool) = true := by kernel_rfl
theorem fnExactJudge_q21 : ((Rows.fnExactJudgeRow.loopsOut == Tryz.f4.resultTypes.toList.any (Tryz.pinned.checked.prog.loopsFrom ·)) : Bool) = true := by kernel_rfl
theorem fnExactJudge_q22 : ((Rows.fnExactJudgeRow.plainKeys == Tryz.pinned.checked.prog.plainKeys) : Bool) = true := by kernel_rfl
theorem fnExactJudge_q23 : (Rows.fnExactJudgeRow.shortTexts.isNone : Bool) = true := by kernel_rfl
theorem fnExactJudge_q24 : (Tryz.pinned.checked.prog.stopsHeard : Bool) = true := by kernel_rfl
theorem fnExactJudge_q25 : (Tryz.pinned.checked.prog.mayEnter : Bool) = true := by kernel_rfl
theorem fnExactJudge_q26 : ((Rows.fnExactJudgeRow.lifted == Tryz.pinned.checked.prog.liftsFinal) : Bool) = true := by kernel_rfl
theorem fnExactJudge_q27 : ((Tryz.pinned.checked.prog.make == some Rows.fnExactJudgeRow.make) : Bool) = true := by kernel_rfl
theorem fnExactJudge_q28 : ((Rows.fnExactJudgeRow.kinds == (if Rows.fnExactJudgeRow.domain.isEmpty then [] else Tryz.f4.params.toList.map fun t => match Tryz.pinned.checked.prog.underlying t with | some (.int k) => some k | _ => none)) : Bool) = true := by kernel_rfl
theorem fnExactJudge_q29 : ((Rows.fnExactJudgeRow.pinned == Rows.fnExactJudgeRow.pinnedBy) : Bool) = true := by kernel_rfl
theorem fnExactJudge_q30 : ((Rows.fnExactJudgeRow.veiled == (Tryz.f4.params.toList ++ Rows.fnExactJudgeSpec.plain.varTypes Tryz.pinned.checked.prog ++ Tryz.f4.resultTypes.toList).any (Tryz.pinned.checked.prog.veiledRec ·)) : Bool) = true := by kernel_rfl
theorem fnExactJudge_q31 : (Rows.fnExactJudgeRow.veiledFits Tryz.pinned.checked.prog Tryz.f4.params.toList (Tryz.f4.params.toList ++ Rows.fnExactJudgeSpec.plain.varTypes Tryz.pinned.checked.prog ++ Tryz.f4.resultTypes.toList) : Bool) = true := by kernel_rfl
set_option maxRecDepth 100000 in
theorem fnExactJudge_joined : joinedFacts Tryz.pinned.checked.prog 4 Tryz.f4 Rows.fnExactJudgeSpec Rows.fnExactJudgeRow = true :=
 (and_mk (and_mk (and_mk (and_mk (and_mk (and_mk (and_mk (and_mk (and_mk (and_mk (and_mk (and_mk (and_mk (and_mk (and_mk (and_mk (and_mk (and_mk (and_mk (and_mk (and_mk (and_mk (and_mk (and_mk (and_mk (and_mk (and_mk (and_mk (and_mk (and_mk (and_mk fnExactJudge_q0 fnExactJudge_q1) fnExactJudge_q2) fnExactJudge_q3) fnExactJudge_q4) fnExactJudge_q5) fnExactJudge_q6) fnExactJudge_q7) fnExactJudge_q8) fnExactJudge_q9) fnExactJudge_q10) fnExactJudge_q11) fnExactJudge_q12) fnExactJudge_q13) fnExactJudge_q14) fnExactJudge_q15) fnExactJudge_q16) fnExactJudge_q17) fnExactJudge_q18) fnExactJudge_q19) fnExactJudge_q20) fnExactJudge_q21) fnExactJudge_q22) fnExactJudge_q23) fnExactJudge_q24) fnExactJudge_q25) fnExactJudge_q26) fnExactJudge_q27) fnExactJudge_q28) fnExactJudge_q29) fnExactJudge_q30) fnExactJudge_q31)
theorem fnExactJudge_holds : Rows.FnExactJudgeSaid :=
 OpenClaim.holds_of_wide 4 Tryz.f4 rfl rfl rfl rfl rfl rfl rfl ⟨rfl, rfl, rfl, rfl, rfl⟩ rfl rfl rfl rfl rfl (by kernel_rfl) Tryz.func4 fnExactJudge_joined
   (of_decide_eq_true (by kernel_rfl)) (by unfold Func.isWrapper; first | (rw [if_pos (by decide +kernel)]; kernel_rfl) | (rw [if_neg (by decide +kernel)]; exact ⟨rfl, rfl⟩))
   (fun os started H enc _ => fnExactJudge_lifted os started H enc)
end Go.Proofs.YtoccddagjnebbaaGreat
