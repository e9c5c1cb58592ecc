/- FnExactFindContradiction: each law function of these statements answers true, for all arguments that can be read. Conditions: none. -/
import Derived.Test.YtpgkddboibiafaaRows
import Derived.Test.YtpgkddboibiafaaW7
namespace Go.Proofs.Ytpgkddboibiafaa
open Go.ChangeShapes Go.WideShapes Go.ChangeAt Go.RowKit

theorem Try.own : ownKnob Try.prog.godebug = none := by kernel_rfl
theorem Try.laidOut : laidOutB Try.prog = true := by kernel_rfl
theorem and_mk {a b : Bool} (h : a = true) (k : b = true) : (a && b) = true := by rw [h, k]; rfl
set_option maxRecDepth 100000 in
theorem fnExactFindContradiction_lifted (os : Os) (started : os.Started) (H : Type) (enc : TypeId × Value → H) :
    ReturnsInHanded {} Try.checked os 5 .any (Rows.fnExactFindContradictionSpec.pre6 enc Try.prog Try.f5 Rows.fnExactFindContradictionRow.domain false) (Rows.fnExactFindContradictionSpec.post enc Try.prog Try.f5 false true false false) := by
  refine returnsInHanded_of_change (C := Try.checked) Try.own started (by kernel_rfl) Try.func5
    (ChangeSpec.witness6 (enc := enc) (C := Try.checked) false ⟨#[], #[.slice none 0 0, .slice none 0 0, .slice none 0 0], []⟩ 12 (by kernel_rfl) (by kernel_rfl) (by kernel_rfl) (by kernel_rfl)) ?_
  intro W base args ds gs before hval0 hW hcnd _
  have hval : ∀ (j : Nat) t v, Try.f5.params[j]? = some t → args[j]? = some v → Value.okWide Try.prog W .any base t v := hval0
  have hW' := hW
  obtain ⟨p, q, hA0, hV, rfl, hfz, hnd⟩ := hW
  have hA : DataW.TrodAll enc Try.prog W 0 (fun _ => true) true Try.f5.params.toList args.toList ds p := hA0
  obtain ⟨rfl, rfl⟩ := trodVars_none hV
  have hlen : ds.length = 3 := Fw.trodAll_len hA
  rcases ds with _ | ⟨d1, _ | ⟨d2, _ | ⟨d3, _ | ⟨d4, ds⟩⟩⟩⟩ <;> first | (simp at hlen; done) | skip
  refine (Fw.yes_call Fw.F5_ok (fun _ _ => trivial) (fun _ _ => rfl) (ts := Try.f5.params.toList) (by kernel_rfl) hA (fun j t v h1 h2 => hval j t v (by simpa using h1) (by simpa using h2))).mono fun e W' ⟨he, hfr⟩ => ?_
  subst he
  exact ⟨_, rfl, Fw.post_yes Try.laidOut (by kernel_rfl) rfl rfl rfl Try.underlying4 hW' hfr⟩

theorem fnExactFindContradiction_q0 : (Rows.fnExactFindContradictionRow.wf (OpenSpec.ofChange Rows.fnExactFindContradictionSpec) : Bool) = true := by kernel_rfl
theorem fnExactFindContradiction_q1 : (laidOutB Try.pinned.checked.prog : Bool) = true := by kernel_rfl
theorem fnExactFindContradiction_q2 : (mapsRowed Try.pinned.checked.prog : Bool) = true := by kernel_rfl
theorem fnExactFindContradiction_q3 : (Try.f5.params.all (Try.pinned.checked.prog.readableRec ·) : Bool) = true := by kernel_rfl
theorem fnExactFindContradiction_q4 : (namedTie Try.pinned.checked.prog Rows.fnExactFindContradictionRow.named Rows.fnExactFindContradictionSpec.vars : Bool) = true := by kernel_rfl
theorem fnExactFindContradiction_q5 : ((Rows.fnExactFindContradictionRow.stops == []) : Bool) = true := by kernel_rfl
theorem fnExactFindContradiction_q6 : ((Try.pinned.checked.prog.stops == []) : Bool) = true := by kernel_rfl
theorem fnExactFindContradiction_q7 : ((Rows.fnExactFindContradictionRow.knobs == []) : Bool) = true := by kernel_rfl
theorem fnExactFindContradiction_q8 : ((Try.pinned.checked.prog.stopKnobs == []) : Bool) = true := by kernel_rfl
theorem fnExactFindContradiction_q9 : ((Rows.fnExactFindContradictionRow.inPlace == Try.pinned.checked.prog.inPlace 5) : Bool) = true := by kernel_rfl
theorem fnExactFindContradiction_q10 : ((Rows.fnExactFindContradictionRow.unfollowed == Try.pinned.checked.prog.unfollowed 5) : Bool) = true := by kernel_rfl
theorem fnExactFindContradiction_q11 : ((Rows.fnExactFindContradictionRow.recurses == Try.pinned.checked.prog.recurses 5) : Bool) = true := by kernel_rfl
theorem fnExactFindContradiction_q12 : ((Rows.fnExactFindContradictionRow.named == Try.pinned.checked.prog.varsNamed 5) : Bool) = true := by kernel_rfl
theorem fnExactFindContradiction_q13 : ((Rows.fnExactFindContradictionRow.maps == (Try.f5.params.toList ++ Rows.fnExactFindContradictionSpec.plain.varTypes Try.pinned.checked.prog).any (Try.pinned.checked.prog.mapsRec ·)) : Bool) = true := by kernel_rfl
theorem fnExactFindContradiction_q14 : ((Rows.fnExactFindContradictionRow.ifaces == (Try.f5.params.toList ++ Rows.fnExactFindContradictionSpec.plain.varTypes Try.pinned.checked.prog).any (Try.pinned.checked.prog.ifacesRec ·)) : Bool) = true := by kernel_rfl
theorem fnExactFindContradiction_q15 : ((Rows.fnExactFindContradictionRow.mapsOut == Try.pinned.checked.prog.mapsAmong Try.f5.resultTypes.toList) : Bool) = true := by kernel_rfl
theorem fnExactFindContradiction_q16 : ((Rows.fnExactFindContradictionRow.loops == (Try.f5.params.toList ++ Rows.fnExactFindContradictionSpec.plain.varTypes Try.pinned.checked.prog).any (Try.pinned.checked.prog.loopsFrom ·)) : Bool) = true := by kernel_rfl
theorem fnExactFindContradiction_q17 : ((Rows.fnExactFindContradictionRow.wideKeys == (Try.f5.params.toList ++ Rows.fnExactFindContradictionSpec.plain.varTypes Try.pinned.checked.prog ++ Try.f5.resultTypes.toList).any (Try.pinned.checked.prog.wideKeysFrom ·)) : Bool) = true := by kernel_rfl
theorem fnExactFindContradiction_q18 : (Rows.fnExactFindContradictionSpec.vars.all (Try.pinned.checked.prog.varReadable ·) : Bool) = true := by kernel_rfl
theorem fnExactFindContradiction_q19 : (Try.f5.resultTypes.all (fun t => Try.pinned.checked.prog.readableRec t && decide (t < Try.pinned.checked.prog.types.size)) : Bool) = true := by kernel_rfl
theorem fnExactFindContradiction_q20 : ((Rows.fnExactFindContradictionRow.ifacesOut == Try.f5.resultTypes.toList.any (Try.pinned.checked.prog.ifacesRec ·)) : Bool) = true := by kernel_rfl
theorem fnExactFindContradiction_q21 : ((Rows.fnExactFindContradictionRow.loopsOut == Try.f5.resultTypes.toList.any (Try.pinned.checked.prog.loopsFrom ·)) : Bool) = true := by kernel_rfl
theorem fnExactFindContradiction_q22 : ((Rows.fnExactFindContradictionRow.plainKeys == Try.pinned.checked.prog.plainKeys) : Bool) = true := by kernel_rfl
theorem fnExactFindContradiction_q23 : (Rows.fnExactFindContradictionRow.shortTexts.isNone : Bool) = true := by kernel_rfl
theorem fnExactFindContradiction_q24 : (Try.pinned.checked.prog.stopsHeard : Bool) = true := by kernel_rfl
theorem fnExactFindContradiction_q25 : (Try.pinned.checked.prog.mayEnter : Bool) = true := by kernel_rfl
theorem fnExactFindContradiction_q26 : ((Rows.fnExactFindContradictionRow.lifted == Try.pinned.checked.prog.liftsFinal) : Bool) = true := by kernel_rfl
theorem fnExactFindContradiction_q27 : ((Try.pinned.checked.prog.make == some Rows.fnExactFindContradictionRow.make) : Bool) = true := by kernel_rfl
theorem fnExactFindContradiction_q28 : ((Rows.fnExactFindContradictionRow.kinds == (if Rows.fnExactFindContradictionRow.domain.isEmpty then [] else Try.f5.params.toList.map fun t => match Try.pinned.checked.prog.underlying t with | some (.int k) => some k | _ => none)) : Bool) = true := by kernel_rfl
theorem fnExactFindContradiction_q29 : ((Rows.fnExactFindContradictionRow.pinned == Rows.fnExactFindContradictionRow.pinnedBy) : Bool) = true := by kernel_rfl
theorem fnExactFindContradiction_q30 : ((Rows.fnExactFindContradictionRow.veiled == (Try.f5.params.toList ++ Rows.fnExactFindContradictionSpec.plain.varTypes Try.pinned.checked.prog ++ Try.f5.resultTypes.toList).any (Try.pinned.checked.prog.veiledRec ·)) : Bool) = true := by kernel_rfl
theorem fnExactFindContradiction_q31 : (Rows.fnExactFindContradictionRow.veiledFits Try.pinned.checked.prog Try.f5.params.toList (Try.f5.params.toList ++ Rows.fnExactFindContradictionSpec.plain.varTypes Try.pinned.checked.prog ++ Try.f5.resultTypes.toList) : Bool) = true := by kernel_rfl
set_option maxRecDepth 100000 in
theorem fnExactFindContradiction_joined : joinedFacts Try.pinned.checked.prog 5 Try.f5 Rows.fnExactFindContradictionSpec Rows.fnExactFindContradictionRow = true :=
  (and_mk (and_mk (and_mk (and_mk (and_mk (and_mk (and_mk (and_mk (and_mk (and_mk (and_mk (and_mk (and_mk (and_mk (and_mk (and_mk (and_mk (and_mk (and_mk (and_mk (and_mk (and_mk (and_mk (and_mk (and_mk (and_mk (and_mk (and_mk (and_mk (and_mk (and_mk fnExactFindContradiction_q0 fnExactFindContradiction_q1) fnExactFindContradiction_q2) fnExactFindContradiction_q3) fnExactFindContradiction_q4) fnExactFindContradiction_q5) fnExactFindContradiction_q6) fnExactFindContradiction_q7) fnExactFindContradiction_q8) fnExactFindContradiction_q9) fnExactFindContradiction_q10) fnExactFindContradiction_q11) fnExactFindContradiction_q12) fnExactFindContradiction_q13) fnExactFindContradiction_q14) fnExactFindContradiction_q15) fnExactFindContradiction_q16) fnExactFindContradiction_q17) fnExactFindContradiction_q18) fnExactFindContradiction_q19) fnExactFindContradiction_q20) fnExactFindContradiction_q21) fnExactFindContradiction_q22) fnExactFindContradiction_q23) fnExactFindContradiction_q24) fnExactFindContradiction_q25) fnExactFindContradiction_q26) fnExactFindContradiction_q27) fnExactFindContradiction_q28) fnExactFindContradiction_q29) fnExactFindContradiction_q30) fnExactFindContradiction_q31)
theorem fnExactFindContradiction_holds : Rows.FnExactFindContradictionSaid :=
  OpenClaim.holds_of_wide 5 Try.f5 rfl rfl rfl rfl rfl rfl rfl ⟨rfl, rfl, rfl, rfl, rfl⟩ rfl rfl rfl rfl rfl (by kernel_rfl) Try.func5 fnExactFindContradiction_joined
    (of_decide_eq_true (by kernel_rfl)) (by unfold Func.isWrapper; first | (rw [if_pos (by decide +kernel)]; kernel_rfl) | (rw [if_neg (by decide +kernel)]; exact ⟨rfl, rfl⟩))
    (fun os started H enc _ => fnExactFindContradiction_lifted os started H enc)
end Go.Proofs.Ytpgkddboibiafaa
