/- FnExactLiarsIn: each law function of these statements answers true, for all arguments that can be read. Conditions: none. -/
import Derived.Test.YtlfmjohahkeejaaRows
import Derived.Test.YtlfmjohahkeejaaW18z0
import Derived.Test.YtlfmjohahkeejaaP2
namespace Go.Proofs.Ytlfmjohahkeejaa
open Go.ChangeShapes Go.WideShapes Go.ChangeAt Go.RowKit

theorem Try.own : ownKnob Try.prog.godebug = none := by kernel_rfl
theorem Try.laidOut : laidOutB Try.prog = true := by kernel_rfl
theorem and_mk {a b : Bool} (h : a = true) (k : b = true) : (a && b) = true := by rw [h, k]; rfl
set_option maxRecDepth 100000 in
theorem fnExactLiarsIn_lifted (os : Os) (started : os.Started) (H : Type) (enc : TypeId × Value → H) :
    ReturnsInHanded {} Try.checked os 8 .any (Rows.fnExactLiarsInSpec.pre6 enc Try.prog Try.f8 Rows.fnExactLiarsInRow.domain false) (Rows.fnExactLiarsInSpec.post enc Try.prog Try.f8 false true false false) := by
  refine returnsInHanded_of_change (C := Try.checked) Try.own started (by kernel_rfl) Try.func8
    (ChangeSpec.witness6 (enc := enc) (C := Try.checked) false ⟨#[], #[.slice none 0 0, .slice none 0 0, .slice none 0 0], []⟩ 12 (by kernel_rfl) (by kernel_rfl) (by kernel_rfl) (by kernel_rfl)) ?_
  intro W base args ds gs before hval0 hW hcnd _
  have hval : ∀ (j : Nat) t v, Try.f8.params[j]? = some t → args[j]? = some v → Value.okWide Try.prog W .any base t v := hval0
  have hW' := hW
  obtain ⟨p, q, hA0, hV, rfl, hfz, hnd⟩ := hW
  have hA : DataW.TrodAll enc Try.prog W 0 (fun _ => true) true Try.f8.params.toList args.toList ds p := hA0
  obtain ⟨rfl, rfl⟩ := trodVars_none hV
  have hlen : ds.length = 3 := Fw.trodAll_len hA
  rcases ds with _ | ⟨d1, _ | ⟨d2, _ | ⟨d3, _ | ⟨d4, ds⟩⟩⟩⟩ <;> first | (simp at hlen; done) | skip
  refine (Fw.yes_call Fw.F8_ok (fun _ _ => trivial) (fun _ _ => rfl) (ts := Try.f8.params.toList) (by kernel_rfl) hA (fun j t v h1 h2 => hval j t v (by simpa using h1) (by simpa using h2))).mono fun e W' ⟨he, hfr⟩ => ?_
  subst he
  exact ⟨_, rfl, Fw.post_yes Try.laidOut (by kernel_rfl) rfl rfl rfl Try.underlying4 hW' hfr⟩

theorem fnExactLiarsIn_q0 : (Rows.fnExactLiarsInRow.wf (OpenSpec.ofChange Rows.fnExactLiarsInSpec) : Bool) = true := by kernel_rfl
theorem fnExactLiarsIn_q1 : (laidOutB Try.pinned.checked.prog : Bool) = true := by kernel_rfl
theorem fnExactLiarsIn_q2 : (mapsRowed Try.pinned.checked.prog : Bool) = true := by kernel_rfl
theorem fnExactLiarsIn_q3 : (Try.f8.params.all (Try.pinned.checked.prog.readableRec ·) : Bool) = true := by kernel_rfl
theorem fnExactLiarsIn_q4 : (namedTie Try.pinned.checked.prog Rows.fnExactLiarsInRow.named Rows.fnExactLiarsInSpec.vars : Bool) = true := by kernel_rfl
theorem fnExactLiarsIn_q5 : ((Rows.fnExactLiarsInRow.stops == []) : Bool) = true := by kernel_rfl
theorem fnExactLiarsIn_q6 : ((Try.pinned.checked.prog.stops == []) : Bool) = true := by kernel_rfl
theorem fnExactLiarsIn_q7 : ((Rows.fnExactLiarsInRow.knobs == []) : Bool) = true := by kernel_rfl
theorem fnExactLiarsIn_q8 : ((Try.pinned.checked.prog.stopKnobs == []) : Bool) = true := by kernel_rfl
theorem fnExactLiarsIn_q9 : ((Rows.fnExactLiarsInRow.inPlace == Try.pinned.checked.prog.inPlace 8) : Bool) = true := by kernel_rfl
theorem fnExactLiarsIn_q10 : ((Rows.fnExactLiarsInRow.unfollowed == Try.pinned.checked.prog.unfollowed 8) : Bool) = true := by kernel_rfl
theorem fnExactLiarsIn_q11 : ((Rows.fnExactLiarsInRow.recurses == Try.pinned.checked.prog.recurses 8) : Bool) = true := by kernel_rfl
theorem fnExactLiarsIn_q12 : ((Rows.fnExactLiarsInRow.named == Try.pinned.checked.prog.varsNamed 8) : Bool) = true := by kernel_rfl
theorem fnExactLiarsIn_q13 : ((Rows.fnExactLiarsInRow.maps == (Try.f8.params.toList ++ Rows.fnExactLiarsInSpec.plain.varTypes Try.pinned.checked.prog).any (Try.pinned.checked.prog.mapsRec ·)) : Bool) = true := by kernel_rfl
theorem fnExactLiarsIn_q14 : ((Rows.fnExactLiarsInRow.ifaces == (Try.f8.params.toList ++ Rows.fnExactLiarsInSpec.plain.varTypes Try.pinned.checked.prog).any (Try.pinned.checked.prog.ifacesRec ·)) : Bool) = true := by kernel_rfl
theorem fnExactLiarsIn_q15 : ((Rows.fnExactLiarsInRow.mapsOut == Try.pinned.checked.prog.mapsAmong Try.f8.resultTypes.toList) : Bool) = true := by kernel_rfl
theorem fnExactLiarsIn_q16 : ((Rows.fnExactLiarsInRow.loops == (Try.f8.params.toList ++ Rows.fnExactLiarsInSpec.plain.varTypes Try.pinned.checked.prog).any (Try.pinned.checked.prog.loopsFrom ·)) : Bool) = true := by kernel_rfl
theorem fnExactLiarsIn_q17 : ((Rows.fnExactLiarsInRow.wideKeys == (Try.f8.params.toList ++ Rows.fnExactLiarsInSpec.plain.varTypes Try.pinned.checked.prog ++ Try.f8.resultTypes.toList).any (Try.pinned.checked.prog.wideKeysFrom ·)) : Bool) = true := by kernel_rfl
theorem fnExactLiarsIn_q18 : (Rows.fnExactLiarsInSpec.vars.all (Try.pinned.checked.prog.varReadable ·) : Bool) = true := by kernel_rfl
theorem fnExactLiarsIn_q19 : (Try.f8.resultTypes.all (fun t => Try.pinned.checked.prog.readableRec t && decide (t < Try.pinned.checked.prog.types.size)) : Bool) = true := by kernel_rfl
theorem fnExactLiarsIn_q20 : ((Rows.fnExactLiarsInRow.ifacesOut == Try.f8.resultTypes.toList.any (Try.pinned.checked.prog.ifacesRec ·)) : Bool) = true := by kernel_rfl
theorem fnExactLiarsIn_q21 : ((Rows.fnExactLiarsInRow.loopsOut == Try.f8.resultTypes.toList.any (Try.pinned.checked.prog.loopsFrom ·)) : Bool) = true := by kernel_rfl
theorem fnExactLiarsIn_q22 : ((Rows.fnExactLiarsInRow.plainKeys == Try.pinned.checked.prog.plainKeys) : Bool) = true := by kernel_rfl
theorem fnExactLiarsIn_q23 : (Rows.fnExactLiarsInRow.shortTexts.isNone : Bool) = true := by kernel_rfl
theorem fnExactLiarsIn_q24 : (Try.pinned.checked.prog.stopsHeard : Bool) = true := by kernel_rfl
theorem fnExactLiarsIn_q25 : (Try.pinned.checked.prog.mayEnter : Bool) = true := by kernel_rfl
theorem fnExactLiarsIn_q26 : ((Rows.fnExactLiarsInRow.lifted == Try.pinned.checked.prog.liftsFinal) : Bool) = true := by kernel_rfl
theorem fnExactLiarsIn_q27 : ((Try.pinned.checked.prog.make == some Rows.fnExactLiarsInRow.make) : Bool) = true := by kernel_rfl
theorem fnExactLiarsIn_q28 : ((Rows.fnExactLiarsInRow.kinds == (if Rows.fnExactLiarsInRow.domain.isEmpty then [] else Try.f8.params.toList.map fun t => match Try.pinned.checked.prog.underlying t with | some (.int k) => some k | _ => none)) : Bool) = true := by kernel_rfl
theorem fnExactLiarsIn_q29 : ((Rows.fnExactLiarsInRow.pinned == Rows.fnExactLiarsInRow.pinnedBy) : Bool) = true := by kernel_rfl
theorem fnExactLiarsIn_q30 : ((Rows.fnExactLiarsInRow.veiled == (Try.f8.params.toList ++ Rows.fnExactLiarsInSpec.plain.varTypes Try.pinned.checked.prog ++ Try.f8.resultTypes.toList).any (Try.pinned.checked.prog.veiledRec ·)) : Bool) = true := by kernel_rfl
theorem fnExactLiarsIn_q31 : (Rows.fnExactLiarsInRow.veiledFits Try.pinned.checked.prog Try.f8.params.toList (Try.f8.params.toList ++ Rows.fnExactLiarsInSpec.plain.varTypes Try.pinned.checked.prog ++ Try.f8.resultTypes.toList) : Bool) = true := by kernel_rfl
set_option maxRecDepth 100000 in
theorem fnExactLiarsIn_joined : joinedFacts Try.pinned.checked.prog 8 Try.f8 Rows.fnExactLiarsInSpec Rows.fnExactLiarsInRow = true :=
  (and_mk (and_mk (and_mk (and_mk (and_mk (and_mk (and_mk (and_mk (and_mk (and_mk (and_mk (and_mk (and_mk (and_mk (and_mk (and_mk (and_mk (and_mk (and_mk (and_mk (and_mk (and_mk (and_mk (and_mk (and_mk (and_mk (and_mk (and_mk (and_mk (and_mk (and_mk fnExactLiarsIn_q0 fnExactLiarsIn_q1) fnExactLiarsIn_q2) fnExactLiarsIn_q3) fnExactLiarsIn_q4) fnExactLiarsIn_q5) fnExactLiarsIn_q6) fnExactLiarsIn_q7) fnExactLiarsIn_q8) fnExactLiarsIn_q9) fnExactLiarsIn_q10) fnExactLiarsIn_q11) fnExactLiarsIn_q12) fnExactLiarsIn_q13) fnExactLiarsIn_q14) fnExactLiarsIn_q15) fnExactLiarsIn_q16) fnExactLiarsIn_q17) fnExactLiarsIn_q18) fnExactLiarsIn_q19) fnExactLiarsIn_q20) fnExactLiarsIn_q21) fnExactLiarsIn_q22) fnExactLiarsIn_q23) fnExactLiarsIn_q24) fnExactLiarsIn_q25) fnExactLiarsIn_q26) fnExactLiarsIn_q27) fnExactLiarsIn_q28) fnExactLiarsIn_q29) fnExactLiarsIn_q30) fnExactLiarsIn_q31)
theorem fnExactLiarsIn_holds : Rows.FnExactLiarsInSaid :=
  OpenClaim.holds_of_wide 8 Try.f8 rfl rfl rfl rfl rfl rfl rfl ⟨rfl, rfl, rfl, rfl, rfl⟩ rfl rfl rfl rfl rfl (by kernel_rfl) Try.func8 fnExactLiarsIn_joined
    (of_decide_eq_true (by kernel_rfl)) (by unfold Func.isWrapper; first | (rw [if_pos (by decide +kernel)]; kernel_rfl) | (rw [if_neg (by decide +kernel)]; exact ⟨rfl, rfl⟩))
    (fun os started H enc _ => fnExactLiarsIn_lifted os started H enc)
end Go.Proofs.Ytlfmjohahkeejaa
