/- FnExactRedactItem: each law function of these statements answers true, for all arguments that can be read. Conditions: none. -/
import Derived.Test.YtlfmjohahkeejaaRows
import Derived.Test.YtlfmjohahkeejaaW35z0
import Derived.Test.YtlfmjohahkeejaaP2
namespace Go.Proofs.Ytlfmjohahkeejaa
open Go.ChangeShapes Go.WideShapes Go.ChangeAt Go.RowKit

theorem Try.own : ownKnob Try.prog.godebug = none := by kernel_rfl
theorem Try.laidOut : laidOutB Try.prog = true := by kernel_rfl
theorem and_mk {a b : Bool} (h : a = true) (k : b = true) : (a && b) = true := by rw [h, k]; rfl
set_option maxRecDepth 100000 in
theorem fnExactRedactItem_lifted (os : Os) (started : os.Started) (H : Type) (enc : TypeId × Value → H) :
    ReturnsInHanded {} Try.checked os 5 .any (Rows.fnExactRedactItemSpec.pre6 enc Try.prog Try.f5 Rows.fnExactRedactItemRow.domain false) (Rows.fnExactRedactItemSpec.post enc Try.prog Try.f5 false true false false) := by
  refine returnsInHanded_of_change (C := Try.checked) Try.own started (by kernel_rfl) Try.func5
    (ChangeSpec.witness6 (enc := enc) (C := Try.checked) false ⟨#[], #[.agg #[.int .i64 0, .int .i64 0, .int .i64 0, .slice none 0 0, .slice none 0 0, .int .i64 0, .int .i64 0, .int .i64 0, .int .i64 0, .int .i64 0, .int .i64 0, .int .i64 0, .int .i64 0, .int .i64 0, .slice none 0 0, .slice none 0 0], .slice none 0 0], []⟩ 12 (by kernel_rfl) (by kernel_rfl) (by kernel_rfl) (by kernel_rfl)) ?_
  intro W base args ds gs before hval0 hW hcnd _
  have hval : ∀ (j : Nat) t v, Try.f5.params[j]? = some t → args[j]? = some v → Value.okWide Try.prog W .any base t v := hval0
  have hW' := hW
  obtain ⟨p, q, hA0, hV, rfl, hfz, hnd⟩ := hW
  have hA : DataW.TrodAll enc Try.prog W 0 (fun _ => true) true Try.f5.params.toList args.toList ds p := hA0
  obtain ⟨rfl, rfl⟩ := trodVars_none hV
  have hlen : ds.length = 2 := Fw.trodAll_len hA
  rcases ds with _ | ⟨d1, _ | ⟨d2, _ | ⟨d3, ds⟩⟩⟩ <;> first | (simp at hlen; done) | skip
  refine (Fw.yes_call Fw.F5_ok (fun _ _ => trivial) (fun _ _ => rfl) (ts := Try.f5.params.toList) (by kernel_rfl) hA (fun j t v h1 h2 => hval j t v (by simpa using h1) (by simpa using h2))).mono fun e W' ⟨he, hfr⟩ => ?_
  subst he
  exact ⟨_, rfl, Fw.post_yes Try.laidOut (by kernel_rfl) rfl rfl rfl Try.underlying4 hW' hfr⟩

theorem fnExactRedactItem_q0 : (Rows.fnExactRedactItemRow.wf (OpenSpec.ofChange Rows.fnExactRedactItemSpec) : Bool) = true := by kernel_rfl
theorem fnExactRedactItem_q1 : (laidOutB Try.pinned.checked.prog : Bool) = true := by kernel_rfl
theorem fnExactRedactItem_q2 : (mapsRowed Try.pinned.checked.prog : Bool) = true := by kernel_rfl
theorem fnExactRedactItem_q3 : (Try.f5.params.all (Try.pinned.checked.prog.readableRec ·) : Bool) = true := by kernel_rfl
theorem fnExactRedactItem_q4 : (namedTie Try.pinned.checked.prog Rows.fnExactRedactItemRow.named Rows.fnExactRedactItemSpec.vars : Bool) = true := by kernel_rfl
theorem fnExactRedactItem_q5 : ((Rows.fnExactRedactItemRow.stops == []) : Bool) = true := by kernel_rfl
theorem fnExactRedactItem_q6 : ((Try.pinned.checked.prog.stops == []) : Bool) = true := by kernel_rfl
theorem fnExactRedactItem_q7 : ((Rows.fnExactRedactItemRow.knobs == []) : Bool) = true := by kernel_rfl
theorem fnExactRedactItem_q8 : ((Try.pinned.checked.prog.stopKnobs == []) : Bool) = true := by kernel_rfl
theorem fnExactRedactItem_q9 : ((Rows.fnExactRedactItemRow.inPlace == Try.pinned.checked.prog.inPlace 5) : Bool) = true := by kernel_rfl
theorem fnExactRedactItem_q10 : ((Rows.fnExactRedactItemRow.unfollowed == Try.pinned.checked.prog.unfollowed 5) : Bool) = true := by kernel_rfl
theorem fnExactRedactItem_q11 : ((Rows.fnExactRedactItemRow.recurses == Try.pinned.checked.prog.recurses 5) : Bool) = true := by kernel_rfl
theorem fnExactRedactItem_q12 : ((Rows.fnExactRedactItemRow.named == Try.pinned.checked.prog.varsNamed 5) : Bool) = true := by kernel_rfl
theorem fnExactRedactItem_q13 : ((Rows.fnExactRedactItemRow.maps == (Try.f5.params.toList ++ Rows.fnExactRedactItemSpec.plain.varTypes Try.pinned.checked.prog).any (Try.pinned.checked.prog.mapsRec ·)) : Bool) = true := by kernel_rfl
theorem fnExactRedactItem_q14 : ((Rows.fnExactRedactItemRow.ifaces == (Try.f5.params.toList ++ Rows.fnExactRedactItemSpec.plain.varTypes Try.pinned.checked.prog).any (Try.pinned.checked.prog.ifacesRec ·)) : Bool) = true := by kernel_rfl
theorem fnExactRedactItem_q15 : ((Rows.fnExactRedactItemRow.mapsOut == Try.pinned.checked.prog.mapsAmong Try.f5.resultTypes.toList) : Bool) = true := by kernel_rfl
theorem fnExactRedactItem_q16 : ((Rows.fnExactRedactItemRow.loops == (Try.f5.params.toList ++ Rows.fnExactRedactItemSpec.plain.varTypes Try.pinned.checked.prog).any (Try.pinned.checked.prog.loopsFrom ·)) : Bool) = true := by kernel_rfl
theorem fnExactRedactItem_q17 : ((Rows.fnExactRedactItemRow.wideKeys == (Try.f5.params.toList ++ Rows.fnExactRedactItemSpec.plain.varTypes Try.pinned.checked.prog ++ Try.f5.resultTypes.toList).any (Try.pinned.checked.prog.wideKeysFrom ·)) : Bool) = true := by kernel_rfl
theorem fnExactRedactItem_q18 : (Rows.fnExactRedactItemSpec.vars.all (Try.pinned.checked.prog.varReadable ·) : Bool) = true := by kernel_rfl
theorem fnExactRedactItem_q19 : (Try.f5.resultTypes.all (fun t => Try.pinned.checked.prog.readableRec t && decide (t < Try.pinned.checked.prog.types.size)) : Bool) = true := by kernel_rfl
theorem fnExactRedactItem_q20 : ((Rows.fnExactRedactItemRow.ifacesOut == Try.f5.resultTypes.toList.any (Try.pinned.checked.prog.ifacesRec ·)) : Bool) = true := by kernel_rfl
theorem fnExactRedactItem_q21 : ((Rows.fnExactRedactItemRow.loopsOut == Try.f5.resultTypes.toList.any (Try.pinned.checked.prog.loopsFrom ·)) : Bool) = true := by kernel_rfl
theorem fnExactRedactItem_q22 : ((Rows.fnExactRedactItemRow.plainKeys == Try.pinned.checked.prog.plainKeys) : Bool) = true := by kernel_rfl
theorem fnExactRedactItem_q23 : (Rows.fnExactRedactItemRow.shortTexts.isNone : Bool) = true := by kernel_rfl
theorem fnExactRedactItem_q24 : (Try.pinned.checked.prog.stopsHeard : Bool) = true := by kernel_rfl
theorem fnExactRedactItem_q25 : (Try.pinned.checked.prog.mayEnter : Bool) = true := by kernel_rfl
theorem fnExactRedactItem_q26 : ((Rows.fnExactRedactItemRow.lifted == Try.pinned.checked.prog.liftsFinal) : Bool) = true := by kernel_rfl
theorem fnExactRedactItem_q27 : ((Try.pinned.checked.prog.make == some Rows.fnExactRedactItemRow.make) : Bool) = true := by kernel_rfl
theorem fnExactRedactItem_q28 : ((Rows.fnExactRedactItemRow.kinds == (if Rows.fnExactRedactItemRow.domain.isEmpty then [] else Try.f5.params.toList.map fun t => match Try.pinned.checked.prog.underlying t with | some (.int k) => some k | _ => none)) : Bool) = true := by kernel_rfl
theorem fnExactRedactItem_q29 : ((Rows.fnExactRedactItemRow.pinned == Rows.fnExactRedactItemRow.pinnedBy) : Bool) = true := by kernel_rfl
theorem fnExactRedactItem_q30 : ((Rows.fnExactRedactItemRow.veiled == (Try.f5.params.toList ++ Rows.fnExactRedactItemSpec.plain.varTypes Try.pinned.checked.prog ++ Try.f5.resultTypes.toList).any (Try.pinned.checked.prog.veiledRec ·)) : Bool) = true := by kernel_rfl
theorem fnExactRedactItem_q31 : (Rows.fnExactRedactItemRow.veiledFits Try.pinned.checked.prog Try.f5.params.toList (Try.f5.params.toList ++ Rows.fnExactRedactItemSpec.plain.varTypes Try.pinned.checked.prog ++ Try.f5.resultTypes.toList) : Bool) = true := by kernel_rfl
set_option maxRecDepth 100000 in
theorem fnExactRedactItem_joined : joinedFacts Try.pinned.checked.prog 5 Try.f5 Rows.fnExactRedactItemSpec Rows.fnExactRedactItemRow = true :=
  (and_mk (and_mk (and_mk (and_mk (and_mk (and_mk (and_mk (and_mk (and_mk (and_mk (and_mk (and_mk (and_mk (and_mk (and_mk (and_mk (and_mk (and_mk (and_mk (and_mk (and_mk (and_mk (and_mk (and_mk (and_mk (and_mk (and_mk (and_mk (and_mk (and_mk (and_mk fnExactRedactItem_q0 fnExactRedactItem_q1) fnExactRedactItem_q2) fnExactRedactItem_q3) fnExactRedactItem_q4) fnExactRedactItem_q5) fnExactRedactItem_q6) fnExactRedactItem_q7) fnExactRedactItem_q8) fnExactRedactItem_q9) fnExactRedactItem_q10) fnExactRedactItem_q11) fnExactRedactItem_q12) fnExactRedactItem_q13) fnExactRedactItem_q14) fnExactRedactItem_q15) fnExactRedactItem_q16) fnExactRedactItem_q17) fnExactRedactItem_q18) fnExactRedactItem_q19) fnExactRedactItem_q20) fnExactRedactItem_q21) fnExactRedactItem_q22) fnExactRedactItem_q23) fnExactRedactItem_q24) fnExactRedactItem_q25) fnExactRedactItem_q26) fnExactRedactItem_q27) fnExactRedactItem_q28) fnExactRedactItem_q29) fnExactRedactItem_q30) fnExactRedactItem_q31)
theorem fnExactRedactItem_holds : Rows.FnExactRedactItemSaid :=
  OpenClaim.holds_of_wide 5 Try.f5 rfl rfl rfl rfl rfl rfl rfl ⟨rfl, rfl, rfl, rfl, rfl⟩ rfl rfl rfl rfl rfl (by kernel_rfl) Try.func5 fnExactRedactItem_joined
    (of_decide_eq_true (by kernel_rfl)) (by unfold Func.isWrapper; first | (rw [if_pos (by decide +kernel)]; kernel_rfl) | (rw [if_neg (by decide +kernel)]; exact ⟨rfl, rfl⟩))
    (fun os started H enc _ => fnExactRedactItem_lifted os started H enc)
end Go.Proofs.Ytlfmjohahkeejaa
