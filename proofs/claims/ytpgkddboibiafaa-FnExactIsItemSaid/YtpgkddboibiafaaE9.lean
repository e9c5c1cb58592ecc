/- FnExactIsItem: each law function of these statements answers true, for all arguments that can be read. Conditions: none. -/
import Derived.Test.YtpgkddboibiafaaRows
import Derived.Test.YtpgkddboibiafaaW9
namespace Go.Proofs.Ytpgkddboibiafaa
open Go.ChangeShapes Go.WideShapes Go.ChangeAt Go.RowKit

theorem Try.own : ownKnob Try.prog.godebug = none := by kernel_rfl
theorem Try.laidOut : laidOutB Try.prog = true := by kernel_rfl
theorem and_mk {a b : Bool} (h : a = true) (k : b = true) : (a && b) = true := by rw [h, k]; rfl
set_option maxRecDepth 100000 in
theorem fnExactIsItem_lifted (os : Os) (started : os.Started) (H : Type) (enc : TypeId × Value → H) :
    ReturnsInHanded {} Try.checked os 9 .any (Rows.fnExactIsItemSpec.pre6 enc Try.prog Try.f9 Rows.fnExactIsItemRow.domain false) (Rows.fnExactIsItemSpec.post enc Try.prog Try.f9 false true false false) := by
  refine returnsInHanded_of_change (C := Try.checked) Try.own started (by kernel_rfl) Try.func9
    (ChangeSpec.witness6 (enc := enc) (C := Try.checked) false ⟨#[], #[.agg #[.int .i64 0, .int .i64 0, .int .i64 0, .slice none 0 0, .slice none 0 0, .int .i64 0, .int .i64 0, .int .i64 0, .int .i64 0, .int .i64 0, .int .i64 0, .int .i64 0, .int .i64 0, .int .i64 0, .slice none 0 0, .slice none 0 0]], []⟩ 12 (by kernel_rfl) (by kernel_rfl) (by kernel_rfl) (by kernel_rfl)) ?_
  intro W base args ds gs before hval0 hW hcnd _
  have hval : ∀ (j : Nat) t v, Try.f9.params[j]? = some t → args[j]? = some v → Value.okWide Try.prog W .any base t v := hval0
  have hW' := hW
  obtain ⟨p, q, hA0, hV, rfl, hfz, hnd⟩ := hW
  have hA : DataW.TrodAll enc Try.prog W 0 (fun _ => true) true Try.f9.params.toList args.toList ds p := hA0
  obtain ⟨rfl, rfl⟩ := trodVars_none hV
  have hlen : ds.length = 1 := Fw.trodAll_len hA
  rcases ds with _ | ⟨d1, _ | ⟨d2, ds⟩⟩ <;> first | (simp at hlen; done) | skip
  refine (Fw.yes_call Fw.F9_ok (fun _ _ => trivial) (fun _ _ => rfl) (ts := Try.f9.params.toList) (by kernel_rfl) hA (fun j t v h1 h2 => hval j t v (by simpa using h1) (by simpa using h2))).mono fun e W' ⟨he, hfr⟩ => ?_
  subst he
  exact ⟨_, rfl, Fw.post_yes Try.laidOut (by kernel_rfl) rfl rfl rfl Try.underlying4 hW' hfr⟩

theorem fnExactIsItem_q0 : (Rows.fnExactIsItemRow.wf (OpenSpec.ofChange Rows.fnExactIsItemSpec) : Bool) = true := by kernel_rfl
theorem fnExactIsItem_q1 : (laidOutB Try.pinned.checked.prog : Bool) = true := by kernel_rfl
theorem fnExactIsItem_q2 : (mapsRowed Try.pinned.checked.prog : Bool) = true := by kernel_rfl
theorem fnExactIsItem_q3 : (Try.f9.params.all (Try.pinned.checked.prog.readableRec ·) : Bool) = true := by kernel_rfl
theorem fnExactIsItem_q4 : (namedTie Try.pinned.checked.prog Rows.fnExactIsItemRow.named Rows.fnExactIsItemSpec.vars : Bool) = true := by kernel_rfl
theorem fnExactIsItem_q5 : ((Rows.fnExactIsItemRow.stops == []) : Bool) = true := by kernel_rfl
theorem fnExactIsItem_q6 : ((Try.pinned.checked.prog.stops == []) : Bool) = true := by kernel_rfl
theorem fnExactIsItem_q7 : ((Rows.fnExactIsItemRow.knobs == []) : Bool) = true := by kernel_rfl
theorem fnExactIsItem_q8 : ((Try.pinned.checked.prog.stopKnobs == []) : Bool) = true := by kernel_rfl
theorem fnExactIsItem_q9 : ((Rows.fnExactIsItemRow.inPlace == Try.pinned.checked.prog.inPlace 9) : Bool) = true := by kernel_rfl
theorem fnExactIsItem_q10 : ((Rows.fnExactIsItemRow.unfollowed == Try.pinned.checked.prog.unfollowed 9) : Bool) = true := by kernel_rfl
theorem fnExactIsItem_q11 : ((Rows.fnExactIsItemRow.recurses == Try.pinned.checked.prog.recurses 9) : Bool) = true := by kernel_rfl
theorem fnExactIsItem_q12 : ((Rows.fnExactIsItemRow.named == Try.pinned.checked.prog.varsNamed 9) : Bool) = true := by kernel_rfl
theorem fnExactIsItem_q13 : ((Rows.fnExactIsItemRow.maps == (Try.f9.params.toList ++ Rows.fnExactIsItemSpec.plain.varTypes Try.pinned.checked.prog).any (Try.pinned.checked.prog.mapsRec ·)) : Bool) = true := by kernel_rfl
theorem fnExactIsItem_q14 : ((Rows.fnExactIsItemRow.ifaces == (Try.f9.params.toList ++ Rows.fnExactIsItemSpec.plain.varTypes Try.pinned.checked.prog).any (Try.pinned.checked.prog.ifacesRec ·)) : Bool) = true := by kernel_rfl
theorem fnExactIsItem_q15 : ((Rows.fnExactIsItemRow.mapsOut == Try.pinned.checked.prog.mapsAmong Try.f9.resultTypes.toList) : Bool) = true := by kernel_rfl
theorem fnExactIsItem_q16 : ((Rows.fnExactIsItemRow.loops == (Try.f9.params.toList ++ Rows.fnExactIsItemSpec.plain.varTypes Try.pinned.checked.prog).any (Try.pinned.checked.prog.loopsFrom ·)) : Bool) = true := by kernel_rfl
theorem fnExactIsItem_q17 : ((Rows.fnExactIsItemRow.wideKeys == (Try.f9.params.toList ++ Rows.fnExactIsItemSpec.plain.varTypes Try.pinned.checked.prog ++ Try.f9.resultTypes.toList).any (Try.pinned.checked.prog.wideKeysFrom ·)) : Bool) = true := by kernel_rfl
theorem fnExactIsItem_q18 : (Rows.fnExactIsItemSpec.vars.all (Try.pinned.checked.prog.varReadable ·) : Bool) = true := by kernel_rfl
theorem fnExactIsItem_q19 : (Try.f9.resultTypes.all (fun t => Try.pinned.checked.prog.readableRec t && decide (t < Try.pinned.checked.prog.types.size)) : Bool) = true := by kernel_rfl
theorem fnExactIsItem_q20 : ((Rows.fnExactIsItemRow.ifacesOut == Try.f9.resultTypes.toList.any (Try.pinned.checked.prog.ifacesRec ·)) : Bool) = true := by kernel_rfl
theorem fnExactIsItem_q21 : ((Rows.fnExactIsItemRow.loopsOut == Try.f9.resultTypes.toList.any (Try.pinned.checked.prog.loopsFrom ·)) : Bool) = true := by kernel_rfl
theorem fnExactIsItem_q22 : ((Rows.fnExactIsItemRow.plainKeys == Try.pinned.checked.prog.plainKeys) : Bool) = true := by kernel_rfl
theorem fnExactIsItem_q23 : (Rows.fnExactIsItemRow.shortTexts.isNone : Bool) = true := by kernel_rfl
theorem fnExactIsItem_q24 : (Try.pinned.checked.prog.stopsHeard : Bool) = true := by kernel_rfl
theorem fnExactIsItem_q25 : (Try.pinned.checked.prog.mayEnter : Bool) = true := by kernel_rfl
theorem fnExactIsItem_q26 : ((Rows.fnExactIsItemRow.lifted == Try.pinned.checked.prog.liftsFinal) : Bool) = true := by kernel_rfl
theorem fnExactIsItem_q27 : ((Try.pinned.checked.prog.make == some Rows.fnExactIsItemRow.make) : Bool) = true := by kernel_rfl
theorem fnExactIsItem_q28 : ((Rows.fnExactIsItemRow.kinds == (if Rows.fnExactIsItemRow.domain.isEmpty then [] else Try.f9.params.toList.map fun t => match Try.pinned.checked.prog.underlying t with | some (.int k) => some k | _ => none)) : Bool) = true := by kernel_rfl
theorem fnExactIsItem_q29 : ((Rows.fnExactIsItemRow.pinned == Rows.fnExactIsItemRow.pinnedBy) : Bool) = true := by kernel_rfl
theorem fnExactIsItem_q30 : ((Rows.fnExactIsItemRow.veiled == (Try.f9.params.toList ++ Rows.fnExactIsItemSpec.plain.varTypes Try.pinned.checked.prog ++ Try.f9.resultTypes.toList).any (Try.pinned.checked.prog.veiledRec ·)) : Bool) = true := by kernel_rfl
theorem fnExactIsItem_q31 : (Rows.fnExactIsItemRow.veiledFits Try.pinned.checked.prog Try.f9.params.toList (Try.f9.params.toList ++ Rows.fnExactIsItemSpec.plain.varTypes Try.pinned.checked.prog ++ Try.f9.resultTypes.toList) : Bool) = true := by kernel_rfl
set_option maxRecDepth 100000 in
theorem fnExactIsItem_joined : joinedFacts Try.pinned.checked.prog 9 Try.f9 Rows.fnExactIsItemSpec Rows.fnExactIsItemRow = true :=
  (and_mk (and_mk (and_mk (and_mk (and_mk (and_mk (and_mk (and_mk (and_mk (and_mk (and_mk (and_mk (and_mk (and_mk (and_mk (and_mk (and_mk (and_mk (and_mk (and_mk (and_mk (and_mk (and_mk (and_mk (and_mk (and_mk (and_mk (and_mk (and_mk (and_mk (and_mk fnExactIsItem_q0 fnExactIsItem_q1) fnExactIsItem_q2) fnExactIsItem_q3) fnExactIsItem_q4) fnExactIsItem_q5) fnExactIsItem_q6) fnExactIsItem_q7) fnExactIsItem_q8) fnExactIsItem_q9) fnExactIsItem_q10) fnExactIsItem_q11) fnExactIsItem_q12) fnExactIsItem_q13) fnExactIsItem_q14) fnExactIsItem_q15) fnExactIsItem_q16) fnExactIsItem_q17) fnExactIsItem_q18) fnExactIsItem_q19) fnExactIsItem_q20) fnExactIsItem_q21) fnExactIsItem_q22) fnExactIsItem_q23) fnExactIsItem_q24) fnExactIsItem_q25) fnExactIsItem_q26) fnExactIsItem_q27) fnExactIsItem_q28) fnExactIsItem_q29) fnExactIsItem_q30) fnExactIsItem_q31)
theorem fnExactIsItem_holds : Rows.FnExactIsItemSaid :=
  OpenClaim.holds_of_wide 9 Try.f9 rfl rfl rfl rfl rfl rfl rfl ⟨rfl, rfl, rfl, rfl, rfl⟩ rfl rfl rfl rfl rfl (by kernel_rfl) Try.func9 fnExactIsItem_joined
    (of_decide_eq_true (by kernel_rfl)) (by unfold Func.isWrapper; first | (rw [if_pos (by decide +kernel)]; kernel_rfl) | (rw [if_neg (by decide +kernel)]; exact ⟨rfl, rfl⟩))
    (fun os started H enc _ => fnExactIsItem_lifted os started H enc)
end Go.Proofs.Ytpgkddboibiafaa
