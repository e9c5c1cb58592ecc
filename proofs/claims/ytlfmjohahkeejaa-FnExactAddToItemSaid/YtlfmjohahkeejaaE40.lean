/- FnExactAddToItem: each law function of these statements answers true, for all arguments that can be read. Conditions: none. -/
import Derived.Test.YtlfmjohahkeejaaRows
import Derived.Test.YtlfmjohahkeejaaW40z0
import Derived.Test.YtlfmjohahkeejaaP2
namespace Go.Proofs.Ytlfmjohahkeejaa
open Go.ChangeShapes Go.WideShapes Go.ChangeAt Go.RowKit

theorem Try.own : ownKnob Try.prog.godebug = none := by kernel_rfl
theorem Try.laidOut : laidOutB Try.prog = true := by kernel_rfl
theorem and_mk {a b : Bool} (h : a = true) (k : b = true) : (a && b) = true := by rw [h, k]; rfl
set_option maxRecDepth 100000 in
theorem fnExactAddToItem_lifted (os : Os) (started : os.Started) (H : Type) (enc : TypeId × Value → H) :
    ReturnsInHanded {} Try.checked os 4 .any (Rows.fnExactAddToItemSpec.pre6 enc Try.prog Try.f4 Rows.fnExactAddToItemRow.domain false) (Rows.fnExactAddToItemSpec.post enc Try.prog Try.f4 false true false false) := by
  refine returnsInHanded_of_change (C := Try.checked) Try.own started (by kernel_rfl) Try.func4
    (ChangeSpec.witness6 (enc := enc) (C := Try.checked) false ⟨#[], #[.agg #[.int .i64 0, .slice none 0 0], .int .i64 0, .agg #[.int .i64 0, .slice none 0 0, .int .i64 0]], []⟩ 12 (by kernel_rfl) (by kernel_rfl) (by kernel_rfl) (by kernel_rfl)) ?_
  intro W base args ds gs before hval0 hW hcnd _
  have hval : ∀ (j : Nat) t v, Try.f4.params[j]? = some t → args[j]? = some v → Value.okWide Try.prog W .any base t v := hval0
  have hW' := hW
  obtain ⟨p, q, hA0, hV, rfl, hfz, hnd⟩ := hW
  have hA : DataW.TrodAll enc Try.prog W 0 (fun _ => true) true Try.f4.params.toList args.toList ds p := hA0
  obtain ⟨rfl, rfl⟩ := trodVars_none hV
  have hlen : ds.length = 3 := Fw.trodAll_len hA
  rcases ds with _ | ⟨d1, _ | ⟨d2, _ | ⟨d3, _ | ⟨d4, ds⟩⟩⟩⟩ <;> first | (simp at hlen; done) | skip
  refine (Fw.yes_call Fw.F4_ok (fun _ _ => trivial) (fun _ _ => rfl) (ts := Try.f4.params.toList) (by kernel_rfl) hA (fun j t v h1 h2 => hval j t v (by simpa using h1) (by simpa using h2))).mono fun e W' ⟨he, hfr⟩ => ?_
  subst he
  exact ⟨_, rfl, Fw.post_yes Try.laidOut (by kernel_rfl) rfl rfl rfl Try.underlying4 hW' hfr⟩

theorem fnExactAddToItem_q0 : (Rows.fnExactAddToItemRow.wf (OpenSpec.ofChange Rows.fnExactAddToItemSpec) : Bool) = true := by kernel_rfl
theorem fnExactAddToItem_q1 : (laidOutB Try.pinned.checked.prog : Bool) = true := by kernel_rfl
theorem fnExactAddToItem_q2 : (mapsRowed Try.pinned.checked.prog : Bool) = true := by kernel_rfl
theorem fnExactAddToItem_q3 : (Try.f4.params.all (Try.pinned.checked.prog.readableRec ·) : Bool) = true := by kernel_rfl
theorem fnExactAddToItem_q4 : (namedTie Try.pinned.checked.prog Rows.fnExactAddToItemRow.named Rows.fnExactAddToItemSpec.vars : Bool) = true := by kernel_rfl
theorem fnExactAddToItem_q5 : ((Rows.fnExactAddToItemRow.stops == []) : Bool) = true := by kernel_rfl
theorem fnExactAddToItem_q6 : ((Try.pinned.checked.prog.stops == []) : Bool) = true := by kernel_rfl
theorem fnExactAddToItem_q7 : ((Rows.fnExactAddToItemRow.knobs == []) : Bool) = true := by kernel_rfl
theorem fnExactAddToItem_q8 : ((Try.pinned.checked.prog.stopKnobs == []) : Bool) = true := by kernel_rfl
theorem fnExactAddToItem_q9 : ((Rows.fnExactAddToItemRow.inPlace == Try.pinned.checked.prog.inPlace 4) : Bool) = true := by kernel_rfl
theorem fnExactAddToItem_q10 : ((Rows.fnExactAddToItemRow.unfollowed == Try.pinned.checked.prog.unfollowed 4) : Bool) = true := by kernel_rfl
theorem fnExactAddToItem_q11 : ((Rows.fnExactAddToItemRow.recurses == Try.pinned.checked.prog.recurses 4) : Bool) = true := by kernel_rfl
theorem fnExactAddToItem_q12 : ((Rows.fnExactAddToItemRow.named == Try.pinned.checked.prog.varsNamed 4) : Bool) = true := by kernel_rfl
theorem fnExactAddToItem_q13 : ((Rows.fnExactAddToItemRow.maps == (Try.f4.params.toList ++ Rows.fnExactAddToItemSpec.plain.varTypes Try.pinned.checked.prog).any (Try.pinned.checked.prog.mapsRec ·)) : Bool) = true := by kernel_rfl
theorem fnExactAddToItem_q14 : ((Rows.fnExactAddToItemRow.ifaces == (Try.f4.params.toList ++ Rows.fnExactAddToItemSpec.plain.varTypes Try.pinned.checked.prog).any (Try.pinned.checked.prog.ifacesRec ·)) : Bool) = true := by kernel_rfl
theorem fnExactAddToItem_q15 : ((Rows.fnExactAddToItemRow.mapsOut == Try.pinned.checked.prog.mapsAmong Try.f4.resultTypes.toList) : Bool) = true := by kernel_rfl
theorem fnExactAddToItem_q16 : ((Rows.fnExactAddToItemRow.loops == (Try.f4.params.toList ++ Rows.fnExactAddToItemSpec.plain.varTypes Try.pinned.checked.prog).any (Try.pinned.checked.prog.loopsFrom ·)) : Bool) = true := by kernel_rfl
theorem fnExactAddToItem_q17 : ((Rows.fnExactAddToItemRow.wideKeys == (Try.f4.params.toList ++ Rows.fnExactAddToItemSpec.plain.varTypes Try.pinned.checked.prog ++ Try.f4.resultTypes.toList).any (Try.pinned.checked.prog.wideKeysFrom ·)) : Bool) = true := by kernel_rfl
theorem fnExactAddToItem_q18 : (Rows.fnExactAddToItemSpec.vars.all (Try.pinned.checked.prog.varReadable ·) : Bool) = true := by kernel_rfl
theorem fnExactAddToItem_q19 : (Try.f4.resultTypes.all (fun t => Try.pinned.checked.prog.readableRec t && decide (t < Try.pinned.checked.prog.types.size)) : Bool) = true := by kernel_rfl
theorem fnExactAddToItem_q20 : ((Rows.fnExactAddToItemRow.ifacesOut == Try.f4.resultTypes.toList.any (Try.pinned.checked.prog.ifacesRec ·)) : Bool) = true := by kernel_rfl
theorem fnExactAddToItem_q21 : ((Rows.fnExactAddToItemRow.loopsOut == Try.f4.resultTypes.toList.any (Try.pinned.checked.prog.loopsFrom ·)) : Bool) = true := by kernel_rfl
theorem fnExactAddToItem_q22 : ((Rows.fnExactAddToItemRow.plainKeys == Try.pinned.checked.prog.plainKeys) : Bool) = true := by kernel_rfl
theorem fnExactAddToItem_q23 : (Rows.fnExactAddToItemRow.shortTexts.isNone : Bool) = true := by kernel_rfl
theorem fnExactAddToItem_q24 : (Try.pinned.checked.prog.stopsHeard : Bool) = true := by kernel_rfl
theorem fnExactAddToItem_q25 : (Try.pinned.checked.prog.mayEnter : Bool) = true := by kernel_rfl
theorem fnExactAddToItem_q26 : ((Rows.fnExactAddToItemRow.lifted == Try.pinned.checked.prog.liftsFinal) : Bool) = true := by kernel_rfl
theorem fnExactAddToItem_q27 : ((Try.pinned.checked.prog.make == some Rows.fnExactAddToItemRow.make) : Bool) = true := by kernel_rfl
theorem fnExactAddToItem_q28 : ((Rows.fnExactAddToItemRow.kinds == (if Rows.fnExactAddToItemRow.domain.isEmpty then [] else Try.f4.params.toList.map fun t => match Try.pinned.checked.prog.underlying t with | some (.int k) => some k | _ => none)) : Bool) = true := by kernel_rfl
theorem fnExactAddToItem_q29 : ((Rows.fnExactAddToItemRow.pinned == Rows.fnExactAddToItemRow.pinnedBy) : Bool) = true := by kernel_rfl
theorem fnExactAddToItem_q30 : ((Rows.fnExactAddToItemRow.veiled == (Try.f4.params.toList ++ Rows.fnExactAddToItemSpec.plain.varTypes Try.pinned.checked.prog ++ Try.f4.resultTypes.toList).any (Try.pinned.checked.prog.veiledRec ·)) : Bool) = true := by kernel_rfl
theorem fnExactAddToItem_q31 : (Rows.fnExactAddToItemRow.veiledFits Try.pinned.checked.prog Try.f4.params.toList (Try.f4.params.toList ++ Rows.fnExactAddToItemSpec.plain.varTypes Try.pinned.checked.prog ++ Try.f4.resultTypes.toList) : Bool) = true := by kernel_rfl
set_option maxRecDepth 100000 in
theorem fnExactAddToItem_joined : joinedFacts Try.pinned.checked.prog 4 Try.f4 Rows.fnExactAddToItemSpec Rows.fnExactAddToItemRow = true :=
  (and_mk (and_mk (and_mk (and_mk (and_mk (and_mk (and_mk (and_mk (and_mk (and_mk (and_mk (and_mk (and_mk (and_mk (and_mk (and_mk (and_mk (and_mk (and_mk (and_mk (and_mk (and_mk (and_mk (and_mk (and_mk (and_mk (and_mk (and_mk (and_mk (and_mk (and_mk fnExactAddToItem_q0 fnExactAddToItem_q1) fnExactAddToItem_q2) fnExactAddToItem_q3) fnExactAddToItem_q4) fnExactAddToItem_q5) fnExactAddToItem_q6) fnExactAddToItem_q7) fnExactAddToItem_q8) fnExactAddToItem_q9) fnExactAddToItem_q10) fnExactAddToItem_q11) fnExactAddToItem_q12) fnExactAddToItem_q13) fnExactAddToItem_q14) fnExactAddToItem_q15) fnExactAddToItem_q16) fnExactAddToItem_q17) fnExactAddToItem_q18) fnExactAddToItem_q19) fnExactAddToItem_q20) fnExactAddToItem_q21) fnExactAddToItem_q22) fnExactAddToItem_q23) fnExactAddToItem_q24) fnExactAddToItem_q25) fnExactAddToItem_q26) fnExactAddToItem_q27) fnExactAddToItem_q28) fnExactAddToItem_q29) fnExactAddToItem_q30) fnExactAddToItem_q31)
theorem fnExactAddToItem_holds : Rows.FnExactAddToItemSaid :=
  OpenClaim.holds_of_wide 4 Try.f4 rfl rfl rfl rfl rfl rfl rfl ⟨rfl, rfl, rfl, rfl, rfl⟩ rfl rfl rfl rfl rfl (by kernel_rfl) Try.func4 fnExactAddToItem_joined
    (of_decide_eq_true (by kernel_rfl)) (by unfold Func.isWrapper; first | (rw [if_pos (by decide +kernel)]; kernel_rfl) | (rw [if_neg (by decide +kernel)]; exact ⟨rfl, rfl⟩))
    (fun os started H enc _ => fnExactAddToItem_lifted os started H enc)
end Go.Proofs.Ytlfmjohahkeejaa
