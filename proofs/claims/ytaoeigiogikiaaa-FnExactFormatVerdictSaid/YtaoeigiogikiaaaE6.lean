/- FnExactFormatVerdict: each law function of these statements answers true, for all arguments that can be read. Conditions: none. -/
import Derived.Test.YtaoeigiogikiaaaRows
import Derived.Test.YtaoeigiogikiaaaW6
namespace Go.Proofs.Ytaoeigiogikiaaa
open Go.ChangeShapes Go.WideShapes Go.ChangeAt Go.RowKit

theorem Try.own : ownKnob Try.prog.godebug = none := by kernel_rfl
theorem Try.laidOut : laidOutB Try.prog = true := by kernel_rfl
theorem and_mk {a b : Bool} (h : a = true) (k : b = true) : (a && b) = true := by rw [h, k]; rfl
set_option maxRecDepth 100000 in
theorem fnExactFormatVerdict_lifted (os : Os) (started : os.Started) (H : Type) (enc : TypeId × Value → H) :
    ReturnsInHanded {} Try.checked os 8 .any (Rows.fnExactFormatVerdictSpec.pre6 enc Try.prog Try.f8 Rows.fnExactFormatVerdictRow.domain false) (Rows.fnExactFormatVerdictSpec.post enc Try.prog Try.f8 false true false false) := by
  refine returnsInHanded_of_change (C := Try.checked) Try.own started (by kernel_rfl) Try.func8
    (ChangeSpec.witness6 (enc := enc) (C := Try.checked) false ⟨#[], #[.agg #[.int .i64 0, .int .i64 0, .int .i64 0, .int .i64 0]], []⟩ 12 (by kernel_rfl) (by kernel_rfl) (by kernel_rfl) (by kernel_rfl)) ?_
  intro W base args ds gs before hval0 hW hcnd _
  have hval : ∀ (j : Nat) t v, Try.f8.params[j]? = some t → args[j]? = some v → Value.okWide Try.prog W .any base t v := hval0
  have hW' := hW
  obtain ⟨p, q, hA0, hV, rfl, hfz, hnd⟩ := hW
  have hA : DataW.TrodAll enc Try.prog W 0 (fun _ => true) true Try.f8.params.toList args.toList ds p := hA0
  obtain ⟨rfl, rfl⟩ := trodVars_none hV
  have hlen : ds.length = 1 := Fw.trodAll_len hA
  rcases ds with _ | ⟨d1, _ | ⟨d2, ds⟩⟩ <;> first | (simp at hlen; done) | skip
  refine (Fw.yes_call Fw.F8_ok (fun _ _ => trivial) (fun _ _ => rfl) (ts := Try.f8.params.toList) (by kernel_rfl) hA (fun j t v h1 h2 => hval j t v (by simpa using h1) (by simpa using h2))).mono fun e W' ⟨he, hfr⟩ => ?_
  subst he
  exact ⟨_, rfl, Fw.post_yes Try.laidOut (by kernel_rfl) rfl rfl rfl Try.underlying4 hW' hfr⟩

theorem fnExactFormatVerdict_q0 : (Rows.fnExactFormatVerdictRow.wf (OpenSpec.ofChange Rows.fnExactFormatVerdictSpec) : Bool) = true := by kernel_rfl
theorem fnExactFormatVerdict_q1 : (laidOutB Try.pinned.checked.prog : Bool) = true := by kernel_rfl
theorem fnExactFormatVerdict_q2 : (mapsRowed Try.pinned.checked.prog : Bool) = true := by kernel_rfl
theorem fnExactFormatVerdict_q3 : (Try.f8.params.all (Try.pinned.checked.prog.readableRec ·) : Bool) = true := by kernel_rfl
theorem fnExactFormatVerdict_q4 : (namedTie Try.pinned.checked.prog Rows.fnExactFormatVerdictRow.named Rows.fnExactFormatVerdictSpec.vars : Bool) = true := by kernel_rfl
theorem fnExactFormatVerdict_q5 : ((Rows.fnExactFormatVerdictRow.stops == []) : Bool) = true := by kernel_rfl
theorem fnExactFormatVerdict_q6 : ((Try.pinned.checked.prog.stops == []) : Bool) = true := by kernel_rfl
theorem fnExactFormatVerdict_q7 : ((Rows.fnExactFormatVerdictRow.knobs == []) : Bool) = true := by kernel_rfl
theorem fnExactFormatVerdict_q8 : ((Try.pinned.checked.prog.stopKnobs == []) : Bool) = true := by kernel_rfl
theorem fnExactFormatVerdict_q9 : ((Rows.fnExactFormatVerdictRow.inPlace == Try.pinned.checked.prog.inPlace 8) : Bool) = true := by kernel_rfl
theorem fnExactFormatVerdict_q10 : ((Rows.fnExactFormatVerdictRow.unfollowed == Try.pinned.checked.prog.unfollowed 8) : Bool) = true := by kernel_rfl
theorem fnExactFormatVerdict_q11 : ((Rows.fnExactFormatVerdictRow.recurses == Try.pinned.checked.prog.recurses 8) : Bool) = true := by kernel_rfl
theorem fnExactFormatVerdict_q12 : ((Rows.fnExactFormatVerdictRow.named == Try.pinned.checked.prog.varsNamed 8) : Bool) = true := by kernel_rfl
theorem fnExactFormatVerdict_q13 : ((Rows.fnExactFormatVerdictRow.maps == (Try.f8.params.toList ++ Rows.fnExactFormatVerdictSpec.plain.varTypes Try.pinned.checked.prog).any (Try.pinned.checked.prog.mapsRec ·)) : Bool) = true := by kernel_rfl
theorem fnExactFormatVerdict_q14 : ((Rows.fnExactFormatVerdictRow.ifaces == (Try.f8.params.toList ++ Rows.fnExactFormatVerdictSpec.plain.varTypes Try.pinned.checked.prog).any (Try.pinned.checked.prog.ifacesRec ·)) : Bool) = true := by kernel_rfl
theorem fnExactFormatVerdict_q15 : ((Rows.fnExactFormatVerdictRow.mapsOut == Try.pinned.checked.prog.mapsAmong Try.f8.resultTypes.toList) : Bool) = true := by kernel_rfl
theorem fnExactFormatVerdict_q16 : ((Rows.fnExactFormatVerdictRow.loops == (Try.f8.params.toList ++ Rows.fnExactFormatVerdictSpec.plain.varTypes Try.pinned.checked.prog).any (Try.pinned.checked.prog.loopsFrom ·)) : Bool) = true := by kernel_rfl
theorem fnExactFormatVerdict_q17 : ((Rows.fnExactFormatVerdictRow.wideKeys == (Try.f8.params.toList ++ Rows.fnExactFormatVerdictSpec.plain.varTypes Try.pinned.checked.prog ++ Try.f8.resultTypes.toList).any (Try.pinned.checked.prog.wideKeysFrom ·)) : Bool) = true := by kernel_rfl
theorem fnExactFormatVerdict_q18 : (Rows.fnExactFormatVerdictSpec.vars.all (Try.pinned.checked.prog.varReadable ·) : Bool) = true := by kernel_rfl
theorem fnExactFormatVerdict_q19 : (Try.f8.resultTypes.all (fun t => Try.pinned.checked.prog.readableRec t && decide (t < Try.pinned.checked.prog.types.size)) : Bool) = true := by kernel_rfl
theorem fnExactFormatVerdict_q20 : ((Rows.fnExactFormatVerdictRow.ifacesOut == Try.f8.resultTypes.toList.any (Try.pinned.checked.prog.ifacesRec ·)) : Bool) = true := by kernel_rfl
theorem fnExactFormatVerdict_q21 : ((Rows.fnExactFormatVerdictRow.loopsOut == Try.f8.resultTypes.toList.any (Try.pinned.checked.prog.loopsFrom ·)) : Bool) = true := by kernel_rfl
theorem fnExactFormatVerdict_q22 : ((Rows.fnExactFormatVerdictRow.plainKeys == Try.pinned.checked.prog.plainKeys) : Bool) = true := by kernel_rfl
theorem fnExactFormatVerdict_q23 : (Rows.fnExactFormatVerdictRow.shortTexts.isNone : Bool) = true := by kernel_rfl
theorem fnExactFormatVerdict_q24 : (Try.pinned.checked.prog.stopsHeard : Bool) = true := by kernel_rfl
theorem fnExactFormatVerdict_q25 : (Try.pinned.checked.prog.mayEnter : Bool) = true := by kernel_rfl
theorem fnExactFormatVerdict_q26 : ((Rows.fnExactFormatVerdictRow.lifted == Try.pinned.checked.prog.liftsFinal) : Bool) = true := by kernel_rfl
theorem fnExactFormatVerdict_q27 : ((Try.pinned.checked.prog.make == some Rows.fnExactFormatVerdictRow.make) : Bool) = true := by kernel_rfl
theorem fnExactFormatVerdict_q28 : ((Rows.fnExactFormatVerdictRow.kinds == (if Rows.fnExactFormatVerdictRow.domain.isEmpty then [] else Try.f8.params.toList.map fun t => match Try.pinned.checked.prog.underlying t with | some (.int k) => some k | _ => none)) : Bool) = true := by kernel_rfl
theorem fnExactFormatVerdict_q29 : ((Rows.fnExactFormatVerdictRow.pinned == Rows.fnExactFormatVerdictRow.pinnedBy) : Bool) = true := by kernel_rfl
theorem fnExactFormatVerdict_q30 : ((Rows.fnExactFormatVerdictRow.veiled == (Try.f8.params.toList ++ Rows.fnExactFormatVerdictSpec.plain.varTypes Try.pinned.checked.prog ++ Try.f8.resultTypes.toList).any (Try.pinned.checked.prog.veiledRec ·)) : Bool) = true := by kernel_rfl
theorem fnExactFormatVerdict_q31 : (Rows.fnExactFormatVerdictRow.veiledFits Try.pinned.checked.prog Try.f8.params.toList (Try.f8.params.toList ++ Rows.fnExactFormatVerdictSpec.plain.varTypes Try.pinned.checked.prog ++ Try.f8.resultTypes.toList) : Bool) = true := by kernel_rfl
set_option maxRecDepth 100000 in
theorem fnExactFormatVerdict_joined : joinedFacts Try.pinned.checked.prog 8 Try.f8 Rows.fnExactFormatVerdictSpec Rows.fnExactFormatVerdictRow = true :=
  (and_mk (and_mk (and_mk (and_mk (and_mk (and_mk (and_mk (and_mk (and_mk (and_mk (and_mk (and_mk (and_mk (and_mk (and_mk (and_mk (and_mk (and_mk (and_mk (and_mk (and_mk (and_mk (and_mk (and_mk (and_mk (and_mk (and_mk (and_mk (and_mk (and_mk (and_mk fnExactFormatVerdict_q0 fnExactFormatVerdict_q1) fnExactFormatVerdict_q2) fnExactFormatVerdict_q3) fnExactFormatVerdict_q4) fnExactFormatVerdict_q5) fnExactFormatVerdict_q6) fnExactFormatVerdict_q7) fnExactFormatVerdict_q8) fnExactFormatVerdict_q9) fnExactFormatVerdict_q10) fnExactFormatVerdict_q11) fnExactFormatVerdict_q12) fnExactFormatVerdict_q13) fnExactFormatVerdict_q14) fnExactFormatVerdict_q15) fnExactFormatVerdict_q16) fnExactFormatVerdict_q17) fnExactFormatVerdict_q18) fnExactFormatVerdict_q19) fnExactFormatVerdict_q20) fnExactFormatVerdict_q21) fnExactFormatVerdict_q22) fnExactFormatVerdict_q23) fnExactFormatVerdict_q24) fnExactFormatVerdict_q25) fnExactFormatVerdict_q26) fnExactFormatVerdict_q27) fnExactFormatVerdict_q28) fnExactFormatVerdict_q29) fnExactFormatVerdict_q30) fnExactFormatVerdict_q31)
theorem fnExactFormatVerdict_holds : Rows.FnExactFormatVerdictSaid :=
  OpenClaim.holds_of_wide 8 Try.f8 rfl rfl rfl rfl rfl rfl rfl ⟨rfl, rfl, rfl, rfl, rfl⟩ rfl rfl rfl rfl rfl (by kernel_rfl) Try.func8 fnExactFormatVerdict_joined
    (of_decide_eq_true (by kernel_rfl)) (by unfold Func.isWrapper; first | (rw [if_pos (by decide +kernel)]; kernel_rfl) | (rw [if_neg (by decide +kernel)]; exact ⟨rfl, rfl⟩))
    (fun os started H enc _ => fnExactFormatVerdict_lifted os started H enc)
end Go.Proofs.Ytaoeigiogikiaaa
