/- FnExactForgetPast: each law function of these statements answers true, for all arguments that can be read. Conditions: none. -/
import Derived.Test.YtlfmjohahkeejaaRows
import Derived.Test.YtlfmjohahkeejaaW37z0
import Derived.Test.YtlfmjohahkeejaaP2
namespace Go.Proofs.Ytlfmjohahkeejaa
open Go.ChangeShapes Go.WideShapes Go.ChangeAt Go.RowKit

theorem Try.own : ownKnob Try.prog.godebug = none := by kernel_rfl
theorem Try.laidOut : laidOutB Try.prog = true := by kernel_rfl
theorem and_mk {a b : Bool} (h : a = true) (k : b = true) : (a && b) = true := by rw [h, k]; rfl
set_option maxRecDepth 100000 in
theorem fnExactForgetPast_lifted (os : Os) (started : os.Started) (H : Type) (enc : TypeId × Value → H) :
    ReturnsInHanded {} Try.checked os 3 .any (Rows.fnExactForgetPastSpec.pre6 enc Try.prog Try.f3 Rows.fnExactForgetPastRow.domain false) (Rows.fnExactForgetPastSpec.post enc Try.prog Try.f3 false true false false) := by
  refine returnsInHanded_of_change (C := Try.checked) Try.own started (by kernel_rfl) Try.func3
    (ChangeSpec.witness6 (enc := enc) (C := Try.checked) false ⟨#[], #[.agg #[.int .i64 0, .slice none 0 0], .int .i64 0], []⟩ 12 (by kernel_rfl) (by kernel_rfl) (by kernel_rfl) (by kernel_rfl)) ?_
  intro W base args ds gs before hval0 hW hcnd _
  have hval : ∀ (j : Nat) t v, Try.f3.params[j]? = some t → args[j]? = some v → Value.okWide Try.prog W .any base t v := hval0
  have hW' := hW
  obtain ⟨p, q, hA0, hV, rfl, hfz, hnd⟩ := hW
  have hA : DataW.TrodAll enc Try.prog W 0 (fun _ => true) true Try.f3.params.toList args.toList ds p := hA0
  obtain ⟨rfl, rfl⟩ := trodVars_none hV
  have hlen : ds.length = 2 := Fw.trodAll_len hA
  rcases ds with _ | ⟨d1, _ | ⟨d2, _ | ⟨d3, ds⟩⟩⟩ <;> first | (simp at hlen; done) | skip
  refine (Fw.yes_call Fw.F3_ok (fun _ _ => trivial) (fun _ _ => rfl) (ts := Try.f3.params.toList) (by kernel_rfl) hA (fun j t v h1 h2 => hval j t v (by simpa using h1) (by simpa using h2))).mono fun e W' ⟨he, hfr⟩ => ?_
  subst he
  exact ⟨_, rfl, Fw.post_yes Try.laidOut (by kernel_rfl) rfl rfl rfl Try.underlying4 hW' hfr⟩

theorem fnExactForgetPast_q0 : (Rows.fnExactForgetPastRow.wf (OpenSpec.ofChange Rows.fnExactForgetPastSpec) : Bool) = true := by kernel_rfl
theorem fnExactForgetPast_q1 : (laidOutB Try.pinned.checked.prog : Bool) = true := by kernel_rfl
theorem fnExactForgetPast_q2 : (mapsRowed Try.pinned.checked.prog : Bool) = true := by kernel_rfl
theorem fnExactForgetPast_q3 : (Try.f3.params.all (Try.pinned.checked.prog.readableRec ·) : Bool) = true := by kernel_rfl
theorem fnExactForgetPast_q4 : (namedTie Try.pinned.checked.prog Rows.fnExactForgetPastRow.named Rows.fnExactForgetPastSpec.vars : Bool) = true := by kernel_rfl
theorem fnExactForgetPast_q5 : ((Rows.fnExactForgetPastRow.stops == []) : Bool) = true := by kernel_rfl
theorem fnExactForgetPast_q6 : ((Try.pinned.checked.prog.stops == []) : Bool) = true := by kernel_rfl
theorem fnExactForgetPast_q7 : ((Rows.fnExactForgetPastRow.knobs == []) : Bool) = true := by kernel_rfl
theorem fnExactForgetPast_q8 : ((Try.pinned.checked.prog.stopKnobs == []) : Bool) = true := by kernel_rfl
theorem fnExactForgetPast_q9 : ((Rows.fnExactForgetPastRow.inPlace == Try.pinned.checked.prog.inPlace 3) : Bool) = true := by kernel_rfl
theorem fnExactForgetPast_q10 : ((Rows.fnExactForgetPastRow.unfollowed == Try.pinned.checked.prog.unfollowed 3) : Bool) = true := by kernel_rfl
theorem fnExactForgetPast_q11 : ((Rows.fnExactForgetPastRow.recurses == Try.pinned.checked.prog.recurses 3) : Bool) = true := by kernel_rfl
theorem fnExactForgetPast_q12 : ((Rows.fnExactForgetPastRow.named == Try.pinned.checked.prog.varsNamed 3) : Bool) = true := by kernel_rfl
theorem fnExactForgetPast_q13 : ((Rows.fnExactForgetPastRow.maps == (Try.f3.params.toList ++ Rows.fnExactForgetPastSpec.plain.varTypes Try.pinned.checked.prog).any (Try.pinned.checked.prog.mapsRec ·)) : Bool) = true := by kernel_rfl
theorem fnExactForgetPast_q14 : ((Rows.fnExactForgetPastRow.ifaces == (Try.f3.params.toList ++ Rows.fnExactForgetPastSpec.plain.varTypes Try.pinned.checked.prog).any (Try.pinned.checked.prog.ifacesRec ·)) : Bool) = true := by kernel_rfl
theorem fnExactForgetPast_q15 : ((Rows.fnExactForgetPastRow.mapsOut == Try.pinned.checked.prog.mapsAmong Try.f3.resultTypes.toList) : Bool) = true := by kernel_rfl
theorem fnExactForgetPast_q16 : ((Rows.fnExactForgetPastRow.loops == (Try.f3.params.toList ++ Rows.fnExactForgetPastSpec.plain.varTypes Try.pinned.checked.prog).any (Try.pinned.checked.prog.loopsFrom ·)) : Bool) = true := by kernel_rfl
theorem fnExactForgetPast_q17 : ((Rows.fnExactForgetPastRow.wideKeys == (Try.f3.params.toList ++ Rows.fnExactForgetPastSpec.plain.varTypes Try.pinned.checked.prog ++ Try.f3.resultTypes.toList).any (Try.pinned.checked.prog.wideKeysFrom ·)) : Bool) = true := by kernel_rfl
theorem fnExactForgetPast_q18 : (Rows.fnExactForgetPastSpec.vars.all (Try.pinned.checked.prog.varReadable ·) : Bool) = true := by kernel_rfl
theorem fnExactForgetPast_q19 : (Try.f3.resultTypes.all (fun t => Try.pinned.checked.prog.readableRec t && decide (t < Try.pinned.checked.prog.types.size)) : Bool) = true := by kernel_rfl
theorem fnExactForgetPast_q20 : ((Rows.fnExactForgetPastRow.ifacesOut == Try.f3.resultTypes.toList.any (Try.pinned.checked.prog.ifacesRec ·)) : Bool) = true := by kernel_rfl
theorem fnExactForgetPast_q21 : ((Rows.fnExactForgetPastRow.loopsOut == Try.f3.resultTypes.toList.any (Try.pinned.checked.prog.loopsFrom ·)) : Bool) = true := by kernel_rfl
theorem fnExactForgetPast_q22 : ((Rows.fnExactForgetPastRow.plainKeys == Try.pinned.checked.prog.plainKeys) : Bool) = true := by kernel_rfl
theorem fnExactForgetPast_q23 : (Rows.fnExactForgetPastRow.shortTexts.isNone : Bool) = true := by kernel_rfl
theorem fnExactForgetPast_q24 : (Try.pinned.checked.prog.stopsHeard : Bool) = true := by kernel_rfl
theorem fnExactForgetPast_q25 : (Try.pinned.checked.prog.mayEnter : Bool) = true := by kernel_rfl
theorem fnExactForgetPast_q26 : ((Rows.fnExactForgetPastRow.lifted == Try.pinned.checked.prog.liftsFinal) : Bool) = true := by kernel_rfl
theorem fnExactForgetPast_q27 : ((Try.pinned.checked.prog.make == some Rows.fnExactForgetPastRow.make) : Bool) = true := by kernel_rfl
theorem fnExactForgetPast_q28 : ((Rows.fnExactForgetPastRow.kinds == (if Rows.fnExactForgetPastRow.domain.isEmpty then [] else Try.f3.params.toList.map fun t => match Try.pinned.checked.prog.underlying t with | some (.int k) => some k | _ => none)) : Bool) = true := by kernel_rfl
theorem fnExactForgetPast_q29 : ((Rows.fnExactForgetPastRow.pinned == Rows.fnExactForgetPastRow.pinnedBy) : Bool) = true := by kernel_rfl
theorem fnExactForgetPast_q30 : ((Rows.fnExactForgetPastRow.veiled == (Try.f3.params.toList ++ Rows.fnExactForgetPastSpec.plain.varTypes Try.pinned.checked.prog ++ Try.f3.resultTypes.toList).any (Try.pinned.checked.prog.veiledRec ·)) : Bool) = true := by kernel_rfl
theorem fnExactForgetPast_q31 : (Rows.fnExactForgetPastRow.veiledFits Try.pinned.checked.prog Try.f3.params.toList (Try.f3.params.toList ++ Rows.fnExactForgetPastSpec.plain.varTypes Try.pinned.checked.prog ++ Try.f3.resultTypes.toList) : Bool) = true := by kernel_rfl
set_option maxRecDepth 100000 in
theorem fnExactForgetPast_joined : joinedFacts Try.pinned.checked.prog 3 Try.f3 Rows.fnExactForgetPastSpec Rows.fnExactForgetPastRow = true :=
  (and_mk (and_mk (and_mk (and_mk (and_mk (and_mk (and_mk (and_mk (and_mk (and_mk (and_mk (and_mk (and_mk (and_mk (and_mk (and_mk (and_mk (and_mk (and_mk (and_mk (and_mk (and_mk (and_mk (and_mk (and_mk (and_mk (and_mk (and_mk (and_mk (and_mk (and_mk fnExactForgetPast_q0 fnExactForgetPast_q1) fnExactForgetPast_q2) fnExactForgetPast_q3) fnExactForgetPast_q4) fnExactForgetPast_q5) fnExactForgetPast_q6) fnExactForgetPast_q7) fnExactForgetPast_q8) fnExactForgetPast_q9) fnExactForgetPast_q10) fnExactForgetPast_q11) fnExactForgetPast_q12) fnExactForgetPast_q13) fnExactForgetPast_q14) fnExactForgetPast_q15) fnExactForgetPast_q16) fnExactForgetPast_q17) fnExactForgetPast_q18) fnExactForgetPast_q19) fnExactForgetPast_q20) fnExactForgetPast_q21) fnExactForgetPast_q22) fnExactForgetPast_q23) fnExactForgetPast_q24) fnExactForgetPast_q25) fnExactForgetPast_q26) fnExactForgetPast_q27) fnExactForgetPast_q28) fnExactForgetPast_q29) fnExactForgetPast_q30) fnExactForgetPast_q31)
theorem fnExactForgetPast_holds : Rows.FnExactForgetPastSaid :=
  OpenClaim.holds_of_wide 3 Try.f3 rfl rfl rfl rfl rfl rfl rfl ⟨rfl, rfl, rfl, rfl, rfl⟩ rfl rfl rfl rfl rfl (by kernel_rfl) Try.func3 fnExactForgetPast_joined
    (of_decide_eq_true (by kernel_rfl)) (by unfold Func.isWrapper; first | (rw [if_pos (by decide +kernel)]; kernel_rfl) | (rw [if_neg (by decide +kernel)]; exact ⟨rfl, rfl⟩))
    (fun os started H enc _ => fnExactForgetPast_lifted os started H enc)
end Go.Proofs.Ytlfmjohahkeejaa
