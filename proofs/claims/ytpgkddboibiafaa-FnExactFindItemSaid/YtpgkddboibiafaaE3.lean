/- FnExactFindItem: each law function of these statements answers true, for all arguments that can be read. Conditions: none. -/
import Derived.Test.YtpgkddboibiafaaRows
import Derived.Test.YtpgkddboibiafaaW3
namespace Go.Proofs.Ytpgkddboibiafaa
open Go.ChangeShapes Go.WideShapes Go.ChangeAt Go.RowKit

theorem Try.own : ownKnob Try.prog.godebug = none := by kernel_rfl
theorem Try.laidOut : laidOutB Try.prog = true := by kernel_rfl
theorem and_mk {a b : Bool} (h : a = true) (k : b = true) : (a && b) = true := by rw [h, k]; rfl
set_option maxRecDepth 100000 in
theorem fnExactFindItem_lifted (os : Os) (started : os.Started) (H : Type) (enc : TypeId × Value → H) :
    ReturnsInHanded {} Try.checked os 8 .any (Rows.fnExactFindItemSpec.pre6 enc Try.prog Try.f8 Rows.fnExactFindItemRow.domain false) (Rows.fnExactFindItemSpec.post enc Try.prog Try.f8 false true false false) := by
  refine returnsInHanded_of_change (C := Try.checked) Try.own started (by kernel_rfl) Try.func8
    (ChangeSpec.witness6 (enc := enc) (C := Try.checked) false ⟨#[], #[.agg #[.int .i64 0, .slice none 0 0], .int .i64 0], []⟩ 12 (by kernel_rfl) (by kernel_rfl) (by kernel_rfl) (by kernel_rfl)) ?_
  intro W base args ds gs before hval0 hW hcnd _
  have hval : ∀ (j : Nat) t v, Try.f8.params[j]? = some t → args[j]? = some v → Value.okWide Try.prog W .any base t v := hval0
  have hW' := hW
  obtain ⟨p, q, hA0, hV, rfl, hfz, hnd⟩ := hW
  have hA : DataW.TrodAll enc Try.prog W 0 (fun _ => true) true Try.f8.params.toList args.toList ds p := hA0
  obtain ⟨rfl, rfl⟩ := trodVars_none hV
  have hlen : ds.length = 2 := Fw.trodAll_len hA
  rcases ds with _ | ⟨d1, _ | ⟨d2, _ | ⟨d3, ds⟩⟩⟩ <;> first | (simp at hlen; done) | skip
  refine (Fw.yes_call Fw.F8_ok (fun _ _ => trivial) (fun _ _ => rfl) (ts := Try.f8.params.toList) (by kernel_rfl) hA (fun j t v h1 h2 => hval j t v (by simpa using h1) (by simpa using h2))).mono fun e W' ⟨he, hfr⟩ => ?_
  subst he
  exact ⟨_, rfl, Fw.post_yes Try.laidOut (by kernel_rfl) rfl rfl rfl Try.underlying4 hW' hfr⟩

theorem fnExactFindItem_q0 : (Rows.fnExactFindItemRow.wf (OpenSpec.ofChange Rows.fnExactFindItemSpec) : Bool) = true := by kernel_rfl
theorem fnExactFindItem_q1 : (laidOutB Try.pinned.checked.prog : Bool) = true := by kernel_rfl
theorem fnExactFindItem_q2 : (mapsRowed Try.pinned.checked.prog : Bool) = true := by kernel_rfl
theorem fnExactFindItem_q3 : (Try.f8.params.all (Try.pinned.checked.prog.readableRec ·) : Bool) = true := by kernel_rfl
theorem fnExactFindItem_q4 : (namedTie Try.pinned.checked.prog Rows.fnExactFindItemRow.named Rows.fnExactFindItemSpec.vars : Bool) = true := by kernel_rfl
theorem fnExactFindItem_q5 : ((Rows.fnExactFindItemRow.stops == []) : Bool) = true := by kernel_rfl
theorem fnExactFindItem_q6 : ((Try.pinned.checked.prog.stops == []) : Bool) = true := by kernel_rfl
theorem fnExactFindItem_q7 : ((Rows.fnExactFindItemRow.knobs == []) : Bool) = true := by kernel_rfl
theorem fnExactFindItem_q8 : ((Try.pinned.checked.prog.stopKnobs == []) : Bool) = true := by kernel_rfl
theorem fnExactFindItem_q9 : ((Rows.fnExactFindItemRow.inPlace == Try.pinned.checked.prog.inPlace 8) : Bool) = true := by kernel_rfl
theorem fnExactFindItem_q10 : ((Rows.fnExactFindItemRow.unfollowed == Try.pinned.checked.prog.unfollowed 8) : Bool) = true := by kernel_rfl
theorem fnExactFindItem_q11 : ((Rows.fnExactFindItemRow.recurses == Try.pinned.checked.prog.recurses 8) : Bool) = true := by kernel_rfl
theorem fnExactFindItem_q12 : ((Rows.fnExactFindItemRow.named == Try.pinned.checked.prog.varsNamed 8) : Bool) = true := by kernel_rfl
theorem fnExactFindItem_q13 : ((Rows.fnExactFindItemRow.maps == (Try.f8.params.toList ++ Rows.fnExactFindItemSpec.plain.varTypes Try.pinned.checked.prog).any (Try.pinned.checked.prog.mapsRec ·)) : Bool) = true := by kernel_rfl
theorem fnExactFindItem_q14 : ((Rows.fnExactFindItemRow.ifaces == (Try.f8.params.toList ++ Rows.fnExactFindItemSpec.plain.varTypes Try.pinned.checked.prog).any (Try.pinned.checked.prog.ifacesRec ·)) : Bool) = true := by kernel_rfl
theorem fnExactFindItem_q15 : ((Rows.fnExactFindItemRow.mapsOut == Try.pinned.checked.prog.mapsAmong Try.f8.resultTypes.toList) : Bool) = true := by kernel_rfl
theorem fnExactFindItem_q16 : ((Rows.fnExactFindItemRow.loops == (Try.f8.params.toList ++ Rows.fnExactFindItemSpec.plain.varTypes Try.pinned.checked.prog).any (Try.pinned.checked.prog.loopsFrom ·)) : Bool) = true := by kernel_rfl
theorem fnExactFindItem_q17 : ((Rows.fnExactFindItemRow.wideKeys == (Try.f8.params.toList ++ Rows.fnExactFindItemSpec.plain.varTypes Try.pinned.checked.prog ++ Try.f8.resultTypes.toList).any (Try.pinned.checked.prog.wideKeysFrom ·)) : Bool) = true := by kernel_rfl
theorem fnExactFindItem_q18 : (Rows.fnExactFindItemSpec.vars.all (Try.pinned.checked.prog.varReadable ·) : Bool) = true := by kernel_rfl
theorem fnExactFindItem_q19 : (Try.f8.resultTypes.all (fun t => Try.pinned.checked.prog.readableRec t && decide (t < Try.pinned.checked.prog.types.size)) : Bool) = true := by kernel_rfl
theorem fnExactFindItem_q20 : ((Rows.fnExactFindItemRow.ifacesOut == Try.f8.resultTypes.toList.any (Try.pinned.checked.prog.ifacesRec ·)) : Bool) = true := by kernel_rfl
theorem fnExactFindItem_q21 : ((Rows.fnExactFindItemRow.loopsOut == Try.f8.resultTypes.toList.any (Try.pinned.checked.prog.loopsFrom ·)) : Bool) = true := by kernel_rfl
theorem fnExactFindItem_q22 : ((Rows.fnExactFindItemRow.plainKeys == Try.pinned.checked.prog.plainKeys) : Bool) = true := by kernel_rfl
theorem fnExactFindItem_q23 : (Rows.fnExactFindItemRow.shortTexts.isNone : Bool) = true := by kernel_rfl
theorem fnExactFindItem_q24 : (Try.pinned.checked.prog.stopsHeard : Bool) = true := by kernel_rfl
theorem fnExactFindItem_q25 : (Try.pinned.checked.prog.mayEnter : Bool) = true := by kernel_rfl
theorem fnExactFindItem_q26 : ((Rows.fnExactFindItemRow.lifted == Try.pinned.checked.prog.liftsFinal) : Bool) = true := by kernel_rfl
theorem fnExactFindItem_q27 : ((Try.pinned.checked.prog.make == some Rows.fnExactFindItemRow.make) : Bool) = true := by kernel_rfl
theorem fnExactFindItem_q28 : ((Rows.fnExactFindItemRow.kinds == (if Rows.fnExactFindItemRow.domain.isEmpty then [] else Try.f8.params.toList.map fun t => match Try.pinned.checked.prog.underlying t with | some (.int k) => some k | _ => none)) : Bool) = true := by kernel_rfl
theorem fnExactFindItem_q29 : ((Rows.fnExactFindItemRow.pinned == Rows.fnExactFindItemRow.pinnedBy) : Bool) = true := by kernel_rfl
theorem fnExactFindItem_q30 : ((Rows.fnExactFindItemRow.veiled == (Try.f8.params.toList ++ Rows.fnExactFindItemSpec.plain.varTypes Try.pinned.checked.prog ++ Try.f8.resultTypes.toList).any (Try.pinned.checked.prog.veiledRec ·)) : Bool) = true := by kernel_rfl
theorem fnExactFindItem_q31 : (Rows.fnExactFindItemRow.veiledFits Try.pinned.checked.prog Try.f8.params.toList (Try.f8.params.toList ++ Rows.fnExactFindItemSpec.plain.varTypes Try.pinned.checked.prog ++ Try.f8.resultTypes.toList) : Bool) = true := by kernel_rfl
set_option maxRecDepth 100000 in
theorem fnExactFindItem_joined : joinedFacts Try.pinned.checked.prog 8 Try.f8 Rows.fnExactFindItemSpec Rows.fnExactFindItemRow = true :=
  (and_mk (and_mk (and_mk (and_mk (and_mk (and_mk (and_mk (and_mk (and_mk (and_mk (and_mk (and_mk (and_mk (and_mk (and_mk (and_mk (and_mk (and_mk (and_mk (and_mk (and_mk (and_mk (and_mk (and_mk (and_mk (and_mk (and_mk (and_mk (and_mk (and_mk (and_mk fnExactFindItem_q0 fnExactFindItem_q1) fnExactFindItem_q2) fnExactFindItem_q3) fnExactFindItem_q4) fnExactFindItem_q5) fnExactFindItem_q6) fnExactFindItem_q7) fnExactFindItem_q8) fnExactFindItem_q9) fnExactFindItem_q10) fnExactFindItem_q11) fnExactFindItem_q12) fnExactFindItem_q13) fnExactFindItem_q14) fnExactFindItem_q15) fnExactFindItem_q16) fnExactFindItem_q17) fnExactFindItem_q18) fnExactFindItem_q19) fnExactFindItem_q20) fnExactFindItem_q21) fnExactFindItem_q22) fnExactFindItem_q23) fnExactFindItem_q24) fnExactFindItem_q25) fnExactFindItem_q26) fnExactFindItem_q27) fnExactFindItem_q28) fnExactFindItem_q29) fnExactFindItem_q30) fnExactFindItem_q31)
theorem fnExactFindItem_holds : Rows.FnExactFindItemSaid :=
  OpenClaim.holds_of_wide 8 Try.f8 rfl rfl rfl rfl rfl rfl rfl ⟨rfl, rfl, rfl, rfl, rfl⟩ rfl rfl rfl rfl rfl (by kernel_rfl) Try.func8 fnExactFindItem_joined
    (of_decide_eq_true (by kernel_rfl)) (by unfold Func.isWrapper; first | (rw [if_pos (by decide +kernel)]; kernel_rfl) | (rw [if_neg (by decide +kernel)]; exact ⟨rfl, rfl⟩))
    (fun os started H enc _ => fnExactFindItem_lifted os started H enc)
end Go.Proofs.Ytpgkddboibiafaa
