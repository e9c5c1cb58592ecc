/- FnExactEnoughOf: each law function of these statements answers true, for all arguments that can be read. Conditions: none. -/
import Derived.Test.YtoccddagjnebbaaGreatRows
import Derived.Test.YtoccddagjnebbaaGreatW8z0
import Derived.Test.YtoccddagjnebbaaGreatP2
namespace Go.Proofs.YtoccddagjnebbaaGreat
open Go.ChangeShapes Go.WideShapes Go.ChangeAt Go.RowKit
theorem Tryz.own : ownKnob Tryz.prog.godebug = none := by kernel_rfl
theorem Tryz.laidOut : laidOutB Tryz.prog = true := by kernel_rfl
theorem and_mk {a b : Bool} (h : a = true) (k : b = true) : (a && b) = true := by rw [h, k]; rfl
set_option maxRecDepth 100000 in
theorem fnExactEnoughOf_lifted (os : Os) (started : os.Started) (H : Type) (enc : TypeId × Value → H) :
   ReturnsInHanded {} Tryz.checked os 8 .any (Rows.fnExactEnoughOfSpec.pre6 enc Tryz.prog Tryz.f8 Rows.fnExactEnoughOfRow.domain false) (Rows.fnExactEnoughOfSpec.post enc Tryz.prog Tryz.f8 false true false false) := by
 refine returnsInHanded_of_change (C := Tryz.checked) Tryz.own started (by kernel_rfl) Tryz.func8
   (ChangeSpec.witness6 (enc := enc) (C := Tryz.checked) false ⟨#[], #[.agg #[.slice none 0 0, .slice none 0 0, .slice none 0 0, .int .i64 0, .int .i64 0], .agg #[.slice none 0 0, .slice none 0 0], .agg #[.slice none 0 0, .slice none 0 0], .agg #[.int .i64 0, .slice none 0 0, .slice none 0 0], .agg #[.int .i64 0, .int .i64 0, .int .i64 0, .int .i64 0, .int .i64 0, .int .i64 0, .int .i64 0, .int .i64 0, .int .i64 0]], []⟩ 12 (by kernel_rfl) (by kernel_rfl) (by kernel_rfl) (by kernel_rfl)) ?_
 intro W base args ds gs before hval0 hW hcnd _
 have hval : ∀ (j : Nat) t v, Tryz.f8.params[j]? = some t → args[j]? = some v → Value.okWide Tryz.prog W .any base t v := hval0
 have hW' := hW
 obtain ⟨p, q, hA0, hV, rfl, hfz, hnd⟩ := hW
 have hA : DataW.TrodAll enc Tryz.prog W 0 (fun _ => true) true Tryz.f8.params.toList args.toList ds p := hA0
 obtain ⟨rfl, rfl⟩ := trodVars_none hV
 have hlen : ds.length = 5 := Fw.trodAll_len hA
 rcases ds with _ | ⟨d1, _ | ⟨d2, _ | ⟨d3, _ | ⟨d4, _ | ⟨d5, _ | ⟨d6, ds⟩⟩⟩⟩⟩⟩ <;> first | (simp at hlen; done) | skip
 refine (Fw.yes_call Fw.F8_ok (fun _ _ => trivial) (fun _ _ => rfl) (ts := Tryz.f8.params.toList) (by kernel_rfl) hA (fun j t v h1 h2 => hval j t v (by simpa using h1) (by simpa using h2))).mono fun e W' ⟨he, hfr⟩ => ?_
 subst he
 exact ⟨_, rfl, Fw.post_yes Tryz.laidOut (by kernel_rfl) rfl rfl rfl Tryz.underlying4 hW' hfr⟩
theorem fnExactEnoughOf_q0 : (Rows.fnExactEnoughOfRow.wf (OpenSpec.ofChange Rows.fnExactEnoughOfSpec) : Bool) = true := by kernel_rfl
theorem fnExactEnoughOf_q1 : (laidOutB Tryz.pinned.checked.prog : Bool) = true := by kernel_rfl
theorem fnExactEnoughOf_q2 : (mapsRowed Tryz.pinned.checked.prog : Bool) = true := by kernel_rfl
theorem fnExactEnoughOf_q3 : (Tryz.f8.params.all (Tryz.pinned.checked.prog.readableRec ·) : Bool) = true := by kernel_rfl
theorem fnExactEnoughOf_q4 : (namedTie Tryz.pinned.checked.prog Rows.fnExactEnoughOfRow.named Rows.fnExactEnoughOfSpec.vars : Bool) = true := by kernel_rfl
theorem fnExactEnoughOf_q5 : ((Rows.fnExactEnoughOfRow.stops == []) : Bool) = true := by kernel_rfl
theorem fnExactEnoughOf_q6 : ((Tryz.pinned.checked.prog.stops == []) : Bool) = true := by kernel_rfl
theorem fnExactEnoughOf_q7 : ((Rows.fnExactEnoughOfRow.knobs == []) : Bool) = true := by kernel_rfl
theorem fnExactEnoughOf_q8 : ((Tryz.pinned.checked.prog.stopKnobs == []) : Bool) = true := by kernel_rfl
theorem fnExactEnoughOf_q9 : ((Rows.fnExactEnoughOfRow.inPlace == Tryz.pinned.checked.prog.inPlace 8) : Bool) = true := by kernel_rfl
theorem fnExactEnoughOf_q10 : ((Rows.fnExactEnoughOfRow.unfollowed == Tryz.pinned.checked.prog.unfollowed 8) : Bool) = true := by kernel_rfl
theorem fnExactEnoughOf_q11 : ((Rows.fnExactEnoughOfRow.recurses == Tryz.pinned.checked.prog.recurses 8) : Bool) = true := by kernel_rfl
theorem fnExactEnoughOf_q12 : ((Rows.fnExactEnoughOfRow.named == Tryz.pinned.checked.prog.varsNamed 8) : Bool) = true := by kernel_rfl
theorem fnExactEnoughOf_q13 : ((Rows.fnExactEnoughOfRow.maps == (Tryz.f8.params.toList ++ Rows.fnExactEnoughOfSpec.plain.varTypes Tryz.pinned.checked.prog).any (Tryz.pinned.checked.prog.mapsRec ·)) : Bool) = true := by kernel_rfl
theorem fnExactEnoughOf_q14 : ((Rows.fnExactEnoughOfRow.ifaces == (Tryz.f8.params.toList ++ Rows.fnExactEnoughOfSpec.plain.varTypes Tryz.pinned.checked.prog).any (Tryz.pinned.checked.prog.ifacesRec ·)) : Bool) = true := by kernel_rfl
theorem fnExactEnoughOf_q15 : ((Rows.fnExactEnoughOfRow.mapsOut == Tryz.pinned.checked.prog.mapsAmong Tryz.f8.resultTypes.toList) : Bool) = true := by kernel_rfl
theorem fnExactEnoughOf_q16 : ((Rows.fnExactEnoughOfRow.loops == (Tryz.f8.params.toList ++ Rows.fnExactEnoughOfSpec.plain.varTypes Tryz.pinned.checked.prog).any (Tryz.pinned.checked.prog.loopsFrom ·)) : Bool) = true := by kernel_rfl
theorem fnExactEnoughOf_q17 : ((Rows.fnExactEnoughOfRow.wideKeys == (Tryz.f8.params.toList ++ Rows.fnExactEnoughOfSpec.plain.varTypes Tryz.pinned.checked.prog ++ Tryz.f8.resultTypes.toList).any (Tryz.pinned.checked.prog.wideKeysFrom ·)) : Bool) = true := by kernel_rfl
theorem fnExactEnoughOf_q18 : (Rows.fnExactEnoughOfSpec.vars.all (Tryz.pinned.checked.prog.varReadable ·) : Bool) = true := by kernel_rfl
theorem fnExactEnoughOf_q19 : (Tryz.f8.resultTypes.all (fun t => Tryz.pinned.checked.prog.readableRec t && decide (t < Tryz.pinned.checked.prog.types.size)) : Bool) = true := by kernel_rfl
theorem fnExactEnoughOf_q20 : ((Rows.fnExactEnoughOfRow.ifacesOut == Tryz.f8.resultTypes.toList.any (Tryz.pinned.checked.prog.ifacesRec ·)) : Bool) = true := by kernel_rfl
theorem fnExactEnoughOf_q21 : ((Rows.fnExactEnoughOfRow.loopsOut == Tryz.f8.resultTypes.toList.any (Tryz.pinned.checked.prog.loopsFrom ·)) : Bool) = true := by kernel_rfl
theorem fnExactEnoughOf_q22 : ((Rows.fnExactEnoughOfRow.plainKeys == Tryz.pinned.checked.prog.plainKeys) : Bool) = true := by kernel_rfl
theorem fnExactEnoughOf_q23 : (Rows.fnExactEnoughOfRow.shortTexts.isNone : Bool) = true := by kernel_rfl
theorem fnExactEnoughOf_q24 : (Tryz.pinned.checked.prog.stopsHeard : Bool) = true := by kernel_rfl
theorem fnExactEnoughOf_q25 : (Tryz.pinned.checked.prog.mayEnter : Bool) = true := by kernel_rfl
theorem fnExactEnoughOf_q26 : ((Rows.fnExactEnoughOfRow.lifted == Tryz.pinned.checked.prog.liftsFinal) : Bool) = true := by kernel_rfl
theorem fnExactEnoughOf_q27 : ((Tryz.pinned.checked.prog.make == some Rows.fnExactEnoughOfRow.make) : Bool) = true := by kernel_rfl
theorem fnExactEnoughOf_q28 : ((Rows.fnExactEnoughOfRow.kinds == (if Rows.fnExactEnoughOfRow.domain.isEmpty then [] else Tryz.f8.params.toList.map fun t => match Tryz.pinned.checked.prog.underlying t with | some (.int k) => some k | _ => none)) : Bool) = true := by kernel_rfl
theorem fnExactEnoughOf_q29 : ((Rows.fnExactEnoughOfRow.pinned == Rows.fnExactEnoughOfRow.pinnedBy) : Bool) = true := by kernel_rfl
theorem fnExactEnoughOf_q30 : ((Rows.fnExactEnoughOfRow.veiled == (Tryz.f8.params.toList ++ Rows.fnExactEnoughOfSpec.plain.varTypes Tryz.pinned.checked.prog ++ Tryz.f8.resultTypes.toList).any (Tryz.pinned.checked.prog.veiledRec ·)) : Bool) = true := by kernel_rfl
theorem fnExactEnoughOf_q31 : (Rows.fnExactEnoughOfRow.veiledFits Tryz.pinned.checked.prog Tryz.f8.params.toList (Tryz.f8.params.toList ++ Rows.fnExactEnoughOfSpec.plain.varTypes Tryz.pinned.checked.prog ++ Tryz.f8.resultTypes.toList) : Bool) = true := by kernel_rfl
set_option maxRecDepth 100000 in
theorem fnExactEnoughOf_joined : joinedFacts Tryz.pinned.checked.prog 8 Tryz.f8 Rows.fnExactEnoughOfSpec Rows.fnExactEnoughOfRow = true :=
 (and_mk (and_mk (and_mk (and_mk (and_mk (and_mk (and_mk (and_mk (and_mk (and_mk (and_mk (and_mk (and_mk (and_mk (and_mk (and_mk (and_mk (and_mk (and_mk (and_mk (and_mk (and_mk (and_mk (and_mk (and_mk (and_mk (and_mk (and_mk (and_mk (and_mk (and_mk fnExactEnoughOf_q0 fnExactEnoughOf_q1) fnExactEnoughOf_q2) fnExactEnoughOf_q3) fnExactEnoughOf_q4) fnExactEnoughOf_q5) fnExactEnoughOf_q6) fnExactEnoughOf_q7) fnExactEnoughOf_q8) fnExactEnoughOf_q9) fnExactEnoughOf_q10) fnExactEnoughOf_q11) fnExactEnoughOf_q12) fnExactEnoughOf_q13) fnExactEnoughOf_q14) fnExactEnoughOf_q15) fnExactEnoughOf_q16) fnExactEnoughOf_q17) fnExactEnoughOf_q18) fnExactEnoughOf_q19) fnExactEnoughOf_q20) fnExactEnoughOf_q21) fnExactEnoughOf_q22) fnExactEnoughOf_q23) fnExactEnoughOf_q24) fnExactEnoughOf_q25) fnExactEnoughOf_q26) fnExactEnoughOf_q27) fnExactEnoughOf_q28) fnExactEnoughOf_q29) fnExactEnoughOf_q30) fnExactEnoughOf_q31)
theorem fnExactEnoughOf_holds : Rows.FnExactEnoughOfSaid :=
 OpenClaim.holds_of_wide 8 Tryz.f8 rfl rfl rfl rfl rfl rfl rfl ⟨rfl, rfl, rfl, rfl, rfl⟩ rfl rfl rfl rfl rfl (by kernel_rfl) Tryz.func8 fnExactEnoughOf_joined
   (of_decide_eq_true (by kernel_rfl)) (by unfold Func.isWrapper; first | (rw [if_pos (by decide +kernel)]; kernel_rfl) | (rw [if_neg (by decide +kernel)]; exact ⟨rfl, rfl⟩))
   (fun os started H enc _ => fnExactEnoughOf_lifted os started H enc)
end Go.Proofs.YtoccddagjnebbaaGreat
