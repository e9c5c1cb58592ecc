/- FnExactDropItem: each law function of these statements answers true, for all arguments that can be read. Conditions: none. -/
import Derived.Test.YtlfmjohahkeejaaRows
import Derived.Test.YtlfmjohahkeejaaW38z0
import Derived.Test.YtlfmjohahkeejaaP2
namespace Go.Proofs.Ytlfmjohahkeejaa
open Go.ChangeShapes Go.WideShapes Go.ChangeAt Go.RowKit

theorem Try.own : ownKnob Try.prog.godebug = none := by kernel_rfl
theorem Try.laidOut : laidOutB Try.prog = true := by kernel_rfl
theorem and_mk {a b : Bool} (h : a = true) (k : b = true) : (a && b) = true := by rw [h, k]; rfl
set_option maxRecDepth 100000 in
theorem fnExactDropItem_lifted (os : Os) (started : os.Started) (H : Type) (enc : TypeId × Value → H) :
    ReturnsInHanded {} Try.checked os 6 .any (Rows.fnExactDropItemSpec.pre6 enc Try.prog Try.f6 Rows.fnExactDropItemRow.domain false) (Rows.fnExactDropItemSpec.post enc Try.prog Try.f6 false true false false) := by
  refine returnsInHanded_of_change (C := Try.checked) Try.own started (by kernel_rfl) Try.func6
    (ChangeSpec.witness6 (enc := enc) (C := Try.checked) false ⟨#[], #[.agg #[.int .i64 0, .slice none 0 0], .int .i64 0], []⟩ 12 (by kernel_rfl) (by kernel_rfl) (by kernel_rfl) (by kernel_rfl)) ?_
  intro W base args ds gs before hval0 hW hcnd _
  have hval : ∀ (j : Nat) t v, Try.f6.params[j]? = some t → args[j]? = some v → Value.okWide Try.prog W .any base t v := hval0
  have hW' := hW
  obtain ⟨p, q, hA0, hV, rfl, hfz, hnd⟩ := hW
  have hA : DataW.TrodAll enc Try.prog W 0 (fun _ => true) true Try.f6.params.toList args.toList ds p := hA0
  obtain ⟨rfl, rfl⟩ := trodVars_none hV
  have hlen : ds.length = 2 := Fw.trodAll_len hA
  rcases ds with _ | ⟨d1, _ | ⟨d2, _ | ⟨d3, ds⟩⟩⟩ <;> first | (simp at hlen; done) | skip
  refine (Fw.yes_call Fw.F6_ok (fun _ _ => trivial) (fun _ _ => rfl) (ts := Try.f6.params.toList) (by kernel_rfl) hA (fun j t v h1 h2 => hval j t v (by simpa using h1) (by simpa using h2))).mono fun e W' ⟨he, hfr⟩ => ?_
  subst he
  exact ⟨_, rfl, Fw.post_yes Try.laidOut (by kernel_rfl) rfl rfl rfl Try.underlying4 hW' hfr⟩

theorem fnExactDropItem_q0 : (Rows.fnExactDropItemRow.wf (OpenSpec.ofChange Rows.fnExactDropItemSpec) : Bool) = true := by kernel_rfl
theorem fnExactDropItem_q1 : (laidOutB Try.pinned.checked.prog : Bool) = true := by kernel_rfl
theorem fnExactDropItem_q2 : (mapsRowed Try.pinned.checked.prog : Bool) = true := by kernel_rfl
theorem fnExactDropItem_q3 : (Try.f6.params.all (Try.pinned.checked.prog.readableRec ·) : Bool) = true := by kernel_rfl
theorem fnExactDropItem_q4 : (namedTie Try.pinned.checked.prog Rows.fnExactDropItemRow.named Rows.fnExactDropItemSpec.vars : Bool) = true := by kernel_rfl
theorem fnExactDropItem_q5 : ((Rows.fnExactDropItemRow.stops == []) : Bool) = true := by kernel_rfl
theorem fnExactDropItem_q6 : ((Try.pinned.checked.prog.stops == []) : Bool) = true := by kernel_rfl
theorem fnExactDropItem_q7 : ((Rows.fnExactDropItemRow.knobs == []) : Bool) = true := by kernel_rfl
theorem fnExactDropItem_q8 : ((Try.pinned.checked.prog.stopKnobs == []) : Bool) = true := by kernel_rfl
theorem fnExactDropItem_q9 : ((Rows.fnExactDropItemRow.inPlace == Try.pinned.checked.prog.inPlace 6) : Bool) = true := by kernel_rfl
theorem fnExactDropItem_q10 : ((Rows.fnExactDropItemRow.unfollowed == Try.pinned.checked.prog.unfollowed 6) : Bool) = true := by kernel_rfl
theorem fnExactDropItem_q11 : ((Rows.fnExactDropItemRow.recurses == Try.pinned.checked.prog.recurses 6) : Bool) = true := by kernel_rfl
theorem fnExactDropItem_q12 : ((Rows.fnExactDropItemRow.named == Try.pinned.checked.prog.varsNamed 6) : Bool) = true := by kernel_rfl
theorem fnExactDropItem_q13 : ((Rows.fnExactDropItemRow.maps == (Try.f6.params.toList ++ Rows.fnExactDropItemSpec.plain.varTypes Try.pinned.checked.prog).any (Try.pinned.checked.prog.mapsRec ·)) : Bool) = true := by kernel_rfl
theorem fnExactDropItem_q14 : ((Rows.fnExactDropItemRow.ifaces == (Try.f6.params.toList ++ Rows.fnExactDropItemSpec.plain.varTypes Try.pinned.checked.prog).any (Try.pinned.checked.prog.ifacesRec ·)) : Bool) = true := by kernel_rfl
theorem fnExactDropItem_q15 : ((Rows.fnExactDropItemRow.mapsOut == Try.pinned.checked.prog.mapsAmong Try.f6.resultTypes.toList) : Bool) = true := by kernel_rfl
theorem fnExactDropItem_q16 : ((Rows.fnExactDropItemRow.loops == (Try.f6.params.toList ++ Rows.fnExactDropItemSpec.plain.varTypes Try.pinned.checked.prog).any (Try.pinned.checked.prog.loopsFrom ·)) : Bool) = true := by kernel_rfl
theorem fnExactDropItem_q17 : ((Rows.fnExactDropItemRow.wideKeys == (Try.f6.params.toList ++ Rows.fnExactDropItemSpec.plain.varTypes Try.pinned.checked.prog ++ Try.f6.resultTypes.toList).any (Try.pinned.checked.prog.wideKeysFrom ·)) : Bool) = true := by kernel_rfl
theorem fnExactDropItem_q18 : (Rows.fnExactDropItemSpec.vars.all (Try.pinned.checked.prog.varReadable ·) : Bool) = true := by kernel_rfl
theorem fnExactDropItem_q19 : (Try.f6.resultTypes.all (fun t => Try.pinned.checked.prog.readableRec t && decide (t < Try.pinned.checked.prog.types.size)) : Bool) = true := by kernel_rfl
theorem fnExactDropItem_q20 : ((Rows.fnExactDropItemRow.ifacesOut == Try.f6.resultTypes.toList.any (Try.pinned.checked.prog.ifacesRec ·)) : Bool) = true := by kernel_rfl
theorem fnExactDropItem_q21 : ((Rows.fnExactDropItemRow.loopsOut == Try.f6.resultTypes.toList.any (Try.pinned.checked.prog.loopsFrom ·)) : Bool) = true := by kernel_rfl
theorem fnExactDropItem_q22 : ((Rows.fnExactDropItemRow.plainKeys == Try.pinned.checked.prog.plainKeys) : Bool) = true := by kernel_rfl
theorem fnExactDropItem_q23 : (Rows.fnExactDropItemRow.shortTexts.isNone : Bool) = true := by kernel_rfl
theorem fnExactDropItem_q24 : (Try.pinned.checked.prog.stopsHeard : Bool) = true := by kernel_rfl
theorem fnExactDropItem_q25 : (Try.pinned.checked.prog.mayEnter : Bool) = true := by kernel_rfl
theorem fnExactDropItem_q26 : ((Rows.fnExactDropItemRow.lifted == Try.pinned.checked.prog.liftsFinal) : Bool) = true := by kernel_rfl
theorem fnExactDropItem_q27 : ((Try.pinned.checked.prog.make == some Rows.fnExactDropItemRow.make) : Bool) = true := by kernel_rfl
theorem fnExactDropItem_q28 : ((Rows.fnExactDropItemRow.kinds == (if Rows.fnExactDropItemRow.domain.isEmpty then [] else Try.f6.params.toList.map fun t => match Try.pinned.checked.prog.underlying t with | some (.int k) => some k | _ => none)) : Bool) = true := by kernel_rfl
theorem fnExactDropItem_q29 : ((Rows.fnExactDropItemRow.pinned == Rows.fnExactDropItemRow.pinnedBy) : Bool) = true := by kernel_rfl
theorem fnExactDropItem_q30 : ((Rows.fnExactDropItemRow.veiled == (Try.f6.params.toList ++ Rows.fnExactDropItemSpec.plain.varTypes Try.pinned.checked.prog ++ Try.f6.resultTypes.toList).any (Try.pinned.checked.prog.veiledRec ·)) : Bool) = true := by kernel_rfl
theorem fnExactDropItem_q31 : (Rows.fnExactDropItemRow.veiledFits Try.pinned.checked.prog Try.f6.params.toList (Try.f6.params.toList ++ Rows.fnExactDropItemSpec.plain.varTypes Try.pinned.checked.prog ++ Try.f6.resultTypes.toList) : Bool) = true := by kernel_rfl
set_option maxRecDepth 100000 in
theorem fnExactDropItem_joined : joinedFacts Try.pinned.checked.prog 6 Try.f6 Rows.fnExactDropItemSpec Rows.fnExactDropItemRow = true :=
  (and_mk (and_mk (and_mk (and_mk (and_mk (and_mk (and_mk (and_mk (and_mk (and_mk (and_mk (and_mk (and_mk (and_mk (and_mk (and_mk (and_mk (and_mk (and_mk (and_mk (and_mk (and_mk (and_mk (and_mk (and_mk (and_mk (and_mk (and_mk (and_mk (and_mk (and_mk fnExactDropItem_q0 fnExactDropItem_q1) fnExactDropItem_q2) fnExactDropItem_q3) fnExactDropItem_q4) fnExactDropItem_q5) fnExactDropItem_q6) fnExactDropItem_q7) fnExactDropItem_q8) fnExactDropItem_q9) fnExactDropItem_q10) fnExactDropItem_q11) fnExactDropItem_q12) fnExactDropItem_q13) fnExactDropItem_q14) fnExactDropItem_q15) fnExactDropItem_q16) fnExactDropItem_q17) fnExactDropItem_q18) fnExactDropItem_q19) fnExactDropItem_q20) fnExactDropItem_q21) fnExactDropItem_q22) fnExactDropItem_q23) fnExactDropItem_q24) fnExactDropItem_q25) fnExactDropItem_q26) fnExactDropItem_q27) fnExactDropItem_q28) fnExactDropItem_q29) fnExactDropItem_q30) fnExactDropItem_q31)
theorem fnExactDropItem_holds : Rows.FnExactDropItemSaid :=
  OpenClaim.holds_of_wide 6 Try.f6 rfl rfl rfl rfl rfl rfl rfl ⟨rfl, rfl, rfl, rfl, rfl⟩ rfl rfl rfl rfl rfl (by kernel_rfl) Try.func6 fnExactDropItem_joined
    (of_decide_eq_true (by kernel_rfl)) (by unfold Func.isWrapper; first | (rw [if_pos (by decide +kernel)]; kernel_rfl) | (rw [if_neg (by decide +kernel)]; exact ⟨rfl, rfl⟩))
    (fun os started H enc _ => fnExactDropItem_lifted os started H enc)
end Go.Proofs.Ytlfmjohahkeejaa
