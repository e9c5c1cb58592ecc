/- FnExactMandatesIn: each law function of these statements answers true, for all arguments that can be read. Conditions: none. -/
import Derived.Test.YtnbpojalpdldnaaRows
import Derived.Test.YtnbpojalpdldnaaW20
namespace Go.Proofs.Ytnbpojalpdldnaa
open Go.ChangeShapes Go.WideShapes Go.ChangeAt Go.RowKit

theorem Try.own : ownKnob Try.prog.godebug = none := by kernel_rfl
theorem Try.laidOut : laidOutB Try.prog = true := by kernel_rfl
theorem and_mk {a b : Bool} (h : a = true) (k : b = true) : (a && b) = true := by rw [h, k]; rfl
set_option maxRecDepth 100000 in
theorem fnExactMandatesIn_lifted (os : Os) (started : os.Started) (H : Type) (enc : TypeId × Value → H) :
    ReturnsInHanded {} Try.checked os 3 .any (Rows.fnExactMandatesInSpec.pre6 enc Try.prog Try.f3 Rows.fnExactMandatesInRow.domain false) (Rows.fnExactMandatesInSpec.post enc Try.prog Try.f3 false true false false) := by
  refine returnsInHanded_of_change (C := Try.checked) Try.own started (by kernel_rfl) Try.func3
    (ChangeSpec.witness6 (enc := enc) (C := Try.checked) false ⟨#[], #[.slice none 0 0], []⟩ 12 (by kernel_rfl) (by kernel_rfl) (by kernel_rfl) (by kernel_rfl)) ?_
  intro W base args ds gs before hval0 hW hcnd _
  have hval : ∀ (j : Nat) t v, Try.f3.params[j]? = some t → args[j]? = some v → Value.okWide Try.prog W .any base t v := hval0
  have hW' := hW
  obtain ⟨p, q, hA0, hV, rfl, hfz, hnd⟩ := hW
  have hA : DataW.TrodAll enc Try.prog W 0 (fun _ => true) true Try.f3.params.toList args.toList ds p := hA0
  obtain ⟨rfl, rfl⟩ := trodVars_none hV
  have hlen : ds.length = 1 := Fw.trodAll_len hA
  rcases ds with _ | ⟨d1, _ | ⟨d2, ds⟩⟩ <;> first | (simp at hlen; done) | skip
  refine (Fw.yes_call Fw.F3_ok (fun _ _ => trivial) (fun _ _ => rfl) (ts := Try.f3.params.toList) (by kernel_rfl) hA (fun j t v h1 h2 => hval j t v (by simpa using h1) (by simpa using h2))).mono fun e W' ⟨he, hfr⟩ => ?_
  subst he
  exact ⟨_, rfl, Fw.post_yes Try.laidOut (by kernel_rfl) rfl rfl rfl Try.underlying4 hW' hfr⟩

theorem fnExactMandatesIn_q0 : (Rows.fnExactMandatesInRow.wf (OpenSpec.ofChange Rows.fnExactMandatesInSpec) : Bool) = true := by kernel_rfl
theorem fnExactMandatesIn_q1 : (laidOutB Try.pinned.checked.prog : Bool) = true := by kernel_rfl
theorem fnExactMandatesIn_q2 : (mapsRowed Try.pinned.checked.prog : Bool) = true := by kernel_rfl
theorem fnExactMandatesIn_q3 : (Try.f3.params.all (Try.pinned.checked.prog.readableRec ·) : Bool) = true := by kernel_rfl
theorem fnExactMandatesIn_q4 : (namedTie Try.pinned.checked.prog Rows.fnExactMandatesInRow.named Rows.fnExactMandatesInSpec.vars : Bool) = true := by kernel_rfl
theorem fnExactMandatesIn_q5 : ((Rows.fnExactMandatesInRow.stops == []) : Bool) = true := by kernel_rfl
theorem fnExactMandatesIn_q6 : ((Try.pinned.checked.prog.stops == []) : Bool) = true := by kernel_rfl
theorem fnExactMandatesIn_q7 : ((Rows.fnExactMandatesInRow.knobs == []) : Bool) = true := by kernel_rfl
theorem fnExactMandatesIn_q8 : ((Try.pinned.checked.prog.stopKnobs == []) : Bool) = true := by kernel_rfl
theorem fnExactMandatesIn_q9 : ((Rows.fnExactMandatesInRow.inPlace == Try.pinned.checked.prog.inPlace 3) : Bool) = true := by kernel_rfl
theorem fnExactMandatesIn_q10 : ((Rows.fnExactMandatesInRow.unfollowed == Try.pinned.checked.prog.unfollowed 3) : Bool) = true := by kernel_rfl
theorem fnExactMandatesIn_q11 : ((Rows.fnExactMandatesInRow.recurses == Try.pinned.checked.prog.recurses 3) : Bool) = true := by kernel_rfl
theorem fnExactMandatesIn_q12 : ((Rows.fnExactMandatesInRow.named == Try.pinned.checked.prog.varsNamed 3) : Bool) = true := by kernel_rfl
theorem fnExactMandatesIn_q13 : ((Rows.fnExactMandatesInRow.maps == (Try.f3.params.toList ++ Rows.fnExactMandatesInSpec.plain.varTypes Try.pinned.checked.prog).any (Try.pinned.checked.prog.mapsRec ·)) : Bool) = true := by kernel_rfl
theorem fnExactMandatesIn_q14 : ((Rows.fnExactMandatesInRow.ifaces == (Try.f3.params.toList ++ Rows.fnExactMandatesInSpec.plain.varTypes Try.pinned.checked.prog).any (Try.pinned.checked.prog.ifacesRec ·)) : Bool) = true := by kernel_rfl
theorem fnExactMandatesIn_q15 : ((Rows.fnExactMandatesInRow.mapsOut == Try.pinned.checked.prog.mapsAmong Try.f3.resultTypes.toList) : Bool) = true := by kernel_rfl
theorem fnExactMandatesIn_q16 : ((Rows.fnExactMandatesInRow.loops == (Try.f3.params.toList ++ Rows.fnExactMandatesInSpec.plain.varTypes Try.pinned.checked.prog).any (Try.pinned.checked.prog.loopsFrom ·)) : Bool) = true := by kernel_rfl
theorem fnExactMandatesIn_q17 : ((Rows.fnExactMandatesInRow.wideKeys == (Try.f3.params.toList ++ Rows.fnExactMandatesInSpec.plain.varTypes Try.pinned.checked.prog ++ Try.f3.resultTypes.toList).any (Try.pinned.checked.prog.wideKeysFrom ·)) : Bool) = true := by kernel_rfl
theorem fnExactMandatesIn_q18 : (Rows.fnExactMandatesInSpec.vars.all (Try.pinned.checked.prog.varReadable ·) : Bool) = true := by kernel_rfl
theorem fnExactMandatesIn_q19 : (Try.f3.resultTypes.all (fun t => Try.pinned.checked.prog.readableRec t && decide (t < Try.pinned.checked.prog.types.size)) : Bool) = true := by kernel_rfl
theorem fnExactMandatesIn_q20 : ((Rows.fnExactMandatesInRow.ifacesOut == Try.f3.resultTypes.toList.any (Try.pinned.checked.prog.ifacesRec ·)) : Bool) = true := by kernel_rfl
theorem fnExactMandatesIn_q21 : ((Rows.fnExactMandatesInRow.loopsOut == Try.f3.resultTypes.toList.any (Try.pinned.checked.prog.loopsFrom ·)) : Bool) = true := by kernel_rfl
theorem fnExactMandatesIn_q22 : ((Rows.fnExactMandatesInRow.plainKeys == Try.pinned.checked.prog.plainKeys) : Bool) = true := by kernel_rfl
theorem fnExactMandatesIn_q23 : (Rows.fnExactMandatesInRow.shortTexts.isNone : Bool) = true := by kernel_rfl
theorem fnExactMandatesIn_q24 : (Try.pinned.checked.prog.stopsHeard : Bool) = true := by kernel_rfl
theorem fnExactMandatesIn_q25 : (Try.pinned.checked.prog.mayEnter : Bool) = true := by kernel_rfl
theorem fnExactMandatesIn_q26 : ((Rows.fnExactMandatesInRow.lifted == Try.pinned.checked.prog.liftsFinal) : Bool) = true := by kernel_rfl
theorem fnExactMandatesIn_q27 : ((Try.pinned.checked.prog.make == some Rows.fnExactMandatesInRow.make) : Bool) = true := by kernel_rfl
theorem fnExactMandatesIn_q28 : ((Rows.fnExactMandatesInRow.kinds == (if Rows.fnExactMandatesInRow.domain.isEmpty then [] else Try.f3.params.toList.map fun t => match Try.pinned.checked.prog.underlying t with | some (.int k) => some k | _ => none)) : Bool) = true := by kernel_rfl
theorem fnExactMandatesIn_q29 : ((Rows.fnExactMandatesInRow.pinned == Rows.fnExactMandatesInRow.pinnedBy) : Bool) = true := by kernel_rfl
theorem fnExactMandatesIn_q30 : ((Rows.fnExactMandatesInRow.veiled == (Try.f3.params.toList ++ Rows.fnExactMandatesInSpec.plain.varTypes Try.pinned.checked.prog ++ Try.f3.resultTypes.toList).any (Try.pinned.checked.prog.veiledRec ·)) : Bool) = true := by kernel_rfl
theorem fnExactMandatesIn_q31 : (Rows.fnExactMandatesInRow.veiledFits Try.pinned.checked.prog Try.f3.params.toList (Try.f3.params.toList ++ Rows.fnExactMandatesInSpec.plain.varTypes Try.pinned.checked.prog ++ Try.f3.resultTypes.toList) : Bool) = true := by kernel_rfl
set_option maxRecDepth 100000 in
theorem fnExactMandatesIn_joined : joinedFacts Try.pinned.checked.prog 3 Try.f3 Rows.fnExactMandatesInSpec Rows.fnExactMandatesInRow = true :=
  (and_mk (and_mk (and_mk (and_mk (and_mk (and_mk (and_mk (and_mk (and_mk (and_mk (and_mk (and_mk (and_mk (and_mk (and_mk (and_mk (and_mk (and_mk (and_mk (and_mk (and_mk (and_mk (and_mk (and_mk (and_mk (and_mk (and_mk (and_mk (and_mk (and_mk (and_mk fnExactMandatesIn_q0 fnExactMandatesIn_q1) fnExactMandatesIn_q2) fnExactMandatesIn_q3) fnExactMandatesIn_q4) fnExactMandatesIn_q5) fnExactMandatesIn_q6) fnExactMandatesIn_q7) fnExactMandatesIn_q8) fnExactMandatesIn_q9) fnExactMandatesIn_q10) fnExactMandatesIn_q11) fnExactMandatesIn_q12) fnExactMandatesIn_q13) fnExactMandatesIn_q14) fnExactMandatesIn_q15) fnExactMandatesIn_q16) fnExactMandatesIn_q17) fnExactMandatesIn_q18) fnExactMandatesIn_q19) fnExactMandatesIn_q20) fnExactMandatesIn_q21) fnExactMandatesIn_q22) fnExactMandatesIn_q23) fnExactMandatesIn_q24) fnExactMandatesIn_q25) fnExactMandatesIn_q26) fnExactMandatesIn_q27) fnExactMandatesIn_q28) fnExactMandatesIn_q29) fnExactMandatesIn_q30) fnExactMandatesIn_q31)
theorem fnExactMandatesIn_holds : Rows.FnExactMandatesInSaid :=
  OpenClaim.holds_of_wide 3 Try.f3 rfl rfl rfl rfl rfl rfl rfl ⟨rfl, rfl, rfl, rfl, rfl⟩ rfl rfl rfl rfl rfl (by kernel_rfl) Try.func3 fnExactMandatesIn_joined
    (of_decide_eq_true (by kernel_rfl)) (by unfold Func.isWrapper; first | (rw [if_pos (by decide +kernel)]; kernel_rfl) | (rw [if_neg (by decide +kernel)]; exact ⟨rfl, rfl⟩))
    (fun os started H enc _ => fnExactMandatesIn_lifted os started H enc)
end Go.Proofs.Ytnbpojalpdldnaa
