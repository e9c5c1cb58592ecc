/- FnExactMethodsOf: each law function of these statements answers true, for all arguments that can be read. Conditions: none. -/
import Derived.Test.YtnbpojalpdldnaaRows
import Derived.Test.YtnbpojalpdldnaaW32
namespace Go.Proofs.Ytnbpojalpdldnaa
open Go.ChangeShapes Go.WideShapes Go.ChangeAt Go.RowKit

theorem Try.own : ownKnob Try.prog.godebug = none := by kernel_rfl
theorem Try.laidOut : laidOutB Try.prog = true := by kernel_rfl
theorem and_mk {a b : Bool} (h : a = true) (k : b = true) : (a && b) = true := by rw [h, k]; rfl
set_option maxRecDepth 100000 in
theorem fnExactMethodsOf_lifted (os : Os) (started : os.Started) (H : Type) (enc : TypeId × Value → H) :
    ReturnsInHanded {} Try.checked os 10 .any (Rows.fnExactMethodsOfSpec.pre6 enc Try.prog Try.f10 Rows.fnExactMethodsOfRow.domain false) (Rows.fnExactMethodsOfSpec.post enc Try.prog Try.f10 false true false false) := by
  refine returnsInHanded_of_change (C := Try.checked) Try.own started (by kernel_rfl) Try.func10
    (ChangeSpec.witness6 (enc := enc) (C := Try.checked) false ⟨#[], #[.agg #[.int .i64 0, .int .i64 0, .int .i64 0, .slice none 0 0, .slice none 0 0, .int .i64 0, .int .i64 0, .int .i64 0, .int .i64 0, .int .i64 0, .int .i64 0, .int .i64 0, .int .i64 0, .int .i64 0, .slice none 0 0, .slice none 0 0]], []⟩ 12 (by kernel_rfl) (by kernel_rfl) (by kernel_rfl) (by kernel_rfl)) ?_
  intro W base args ds gs before hval0 hW hcnd _
  have hval : ∀ (j : Nat) t v, Try.f10.params[j]? = some t → args[j]? = some v → Value.okWide Try.prog W .any base t v := hval0
  have hW' := hW
  obtain ⟨p, q, hA0, hV, rfl, hfz, hnd⟩ := hW
  have hA : DataW.TrodAll enc Try.prog W 0 (fun _ => true) true Try.f10.params.toList args.toList ds p := hA0
  obtain ⟨rfl, rfl⟩ := trodVars_none hV
  have hlen : ds.length = 1 := Fw.trodAll_len hA
  rcases ds with _ | ⟨d1, _ | ⟨d2, ds⟩⟩ <;> first | (simp at hlen; done) | skip
  refine (Fw.yes_call Fw.F10_ok (fun _ _ => trivial) (fun _ _ => rfl) (ts := Try.f10.params.toList) (by kernel_rfl) hA (fun j t v h1 h2 => hval j t v (by simpa using h1) (by simpa using h2))).mono fun e W' ⟨he, hfr⟩ => ?_
  subst he
  exact ⟨_, rfl, Fw.post_yes Try.laidOut (by kernel_rfl) rfl rfl rfl Try.underlying4 hW' hfr⟩

theorem fnExactMethodsOf_q0 : (Rows.fnExactMethodsOfRow.wf (OpenSpec.ofChange Rows.fnExactMethodsOfSpec) : Bool) = true := by kernel_rfl
theorem fnExactMethodsOf_q1 : (laidOutB Try.pinned.checked.prog : Bool) = true := by kernel_rfl
theorem fnExactMethodsOf_q2 : (mapsRowed Try.pinned.checked.prog : Bool) = true := by kernel_rfl
theorem fnExactMethodsOf_q3 : (Try.f10.params.all (Try.pinned.checked.prog.readableRec ·) : Bool) = true := by kernel_rfl
theorem fnExactMethodsOf_q4 : (namedTie Try.pinned.checked.prog Rows.fnExactMethodsOfRow.named Rows.fnExactMethodsOfSpec.vars : Bool) = true := by kernel_rfl
theorem fnExactMethodsOf_q5 : ((Rows.fnExactMethodsOfRow.stops == []) : Bool) = true := by kernel_rfl
theorem fnExactMethodsOf_q6 : ((Try.pinned.checked.prog.stops == []) : Bool) = true := by kernel_rfl
theorem fnExactMethodsOf_q7 : ((Rows.fnExactMethodsOfRow.knobs == []) : Bool) = true := by kernel_rfl
theorem fnExactMethodsOf_q8 : ((Try.pinned.checked.prog.stopKnobs == []) : Bool) = true := by kernel_rfl
theorem fnExactMethodsOf_q9 : ((Rows.fnExactMethodsOfRow.inPlace == Try.pinned.checked.prog.inPlace 10) : Bool) = true := by kernel_rfl
theorem fnExactMethodsOf_q10 : ((Rows.fnExactMethodsOfRow.unfollowed == Try.pinned.checked.prog.unfollowed 10) : Bool) = true := by kernel_rfl
theorem fnExactMethodsOf_q11 : ((Rows.fnExactMethodsOfRow.recurses == Try.pinned.checked.prog.recurses 10) : Bool) = true := by kernel_rfl
theorem fnExactMethodsOf_q12 : ((Rows.fnExactMethodsOfRow.named == Try.pinned.checked.prog.varsNamed 10) : Bool) = true := by kernel_rfl
theorem fnExactMethodsOf_q13 : ((Rows.fnExactMethodsOfRow.maps == (Try.f10.params.toList ++ Rows.fnExactMethodsOfSpec.plain.varTypes Try.pinned.checked.prog).any (Try.pinned.checked.prog.mapsRec ·)) : Bool) = true := by kernel_rfl
theorem fnExactMethodsOf_q14 : ((Rows.fnExactMethodsOfRow.ifaces == (Try.f10.params.toList ++ Rows.fnExactMethodsOfSpec.plain.varTypes Try.pinned.checked.prog).any (Try.pinned.checked.prog.ifacesRec ·)) : Bool) = true := by kernel_rfl
theorem fnExactMethodsOf_q15 : ((Rows.fnExactMethodsOfRow.mapsOut == Try.pinned.checked.prog.mapsAmong Try.f10.resultTypes.toList) : Bool) = true := by kernel_rfl
theorem fnExactMethodsOf_q16 : ((Rows.fnExactMethodsOfRow.loops == (Try.f10.params.toList ++ Rows.fnExactMethodsOfSpec.plain.varTypes Try.pinned.checked.prog).any (Try.pinned.checked.prog.loopsFrom ·)) : Bool) = true := by kernel_rfl
theorem fnExactMethodsOf_q17 : ((Rows.fnExactMethodsOfRow.wideKeys == (Try.f10.params.toList ++ Rows.fnExactMethodsOfSpec.plain.varTypes Try.pinned.checked.prog ++ Try.f10.resultTypes.toList).any (Try.pinned.checked.prog.wideKeysFrom ·)) : Bool) = true := by kernel_rfl
theorem fnExactMethodsOf_q18 : (Rows.fnExactMethodsOfSpec.vars.all (Try.pinned.checked.prog.varReadable ·) : Bool) = true := by kernel_rfl
theorem fnExactMethodsOf_q19 : (Try.f10.resultTypes.all (fun t => Try.pinned.checked.prog.readableRec t && decide (t < Try.pinned.checked.prog.types.size)) : Bool) = true := by kernel_rfl
theorem fnExactMethodsOf_q20 : ((Rows.fnExactMethodsOfRow.ifacesOut == Try.f10.resultTypes.toList.any (Try.pinned.checked.prog.ifacesRec ·)) : Bool) = true := by kernel_rfl
theorem fnExactMethodsOf_q21 : ((Rows.fnExactMethodsOfRow.loopsOut == Try.f10.resultTypes.toList.any (Try.pinned.checked.prog.loopsFrom ·)) : Bool) = true := by kernel_rfl
theorem fnExactMethodsOf_q22 : ((Rows.fnExactMethodsOfRow.plainKeys == Try.pinned.checked.prog.plainKeys) : Bool) = true := by kernel_rfl
theorem fnExactMethodsOf_q23 : (Rows.fnExactMethodsOfRow.shortTexts.isNone : Bool) = true := by kernel_rfl
theorem fnExactMethodsOf_q24 : (Try.pinned.checked.prog.stopsHeard : Bool) = true := by kernel_rfl
theorem fnExactMethodsOf_q25 : (Try.pinned.checked.prog.mayEnter : Bool) = true := by kernel_rfl
theorem fnExactMethodsOf_q26 : ((Rows.fnExactMethodsOfRow.lifted == Try.pinned.checked.prog.liftsFinal) : Bool) = true := by kernel_rfl
theorem fnExactMethodsOf_q27 : ((Try.pinned.checked.prog.make == some Rows.fnExactMethodsOfRow.make) : Bool) = true := by kernel_rfl
theorem fnExactMethodsOf_q28 : ((Rows.fnExactMethodsOfRow.kinds == (if Rows.fnExactMethodsOfRow.domain.isEmpty then [] else Try.f10.params.toList.map fun t => match Try.pinned.checked.prog.underlying t with | some (.int k) => some k | _ => none)) : Bool) = true := by kernel_rfl
theorem fnExactMethodsOf_q29 : ((Rows.fnExactMethodsOfRow.pinned == Rows.fnExactMethodsOfRow.pinnedBy) : Bool) = true := by kernel_rfl
theorem fnExactMethodsOf_q30 : ((Rows.fnExactMethodsOfRow.veiled == (Try.f10.params.toList ++ Rows.fnExactMethodsOfSpec.plain.varTypes Try.pinned.checked.prog ++ Try.f10.resultTypes.toList).any (Try.pinned.checked.prog.veiledRec ·)) : Bool) = true := by kernel_rfl
theorem fnExactMethodsOf_q31 : (Rows.fnExactMethodsOfRow.veiledFits Try.pinned.checked.prog Try.f10.params.toList (Try.f10.params.toList ++ Rows.fnExactMethodsOfSpec.plain.varTypes Try.pinned.checked.prog ++ Try.f10.resultTypes.toList) : Bool) = true := by kernel_rfl
set_option maxRecDepth 100000 in
theorem fnExactMethodsOf_joined : joinedFacts Try.pinned.checked.prog 10 Try.f10 Rows.fnExactMethodsOfSpec Rows.fnExactMethodsOfRow = true :=
  (and_mk (and_mk (and_mk (and_mk (and_mk (and_mk (and_mk (and_mk (and_mk (and_mk (and_mk (and_mk (and_mk (and_mk (and_mk (and_mk (and_mk (and_mk (and_mk (and_mk (and_mk (and_mk (and_mk (and_mk (and_mk (and_mk (and_mk (and_mk (and_mk (and_mk (and_mk fnExactMethodsOf_q0 fnExactMethodsOf_q1) fnExactMethodsOf_q2) fnExactMethodsOf_q3) fnExactMethodsOf_q4) fnExactMethodsOf_q5) fnExactMethodsOf_q6) fnExactMethodsOf_q7) fnExactMethodsOf_q8) fnExactMethodsOf_q9) fnExactMethodsOf_q10) fnExactMethodsOf_q11) fnExactMethodsOf_q12) fnExactMethodsOf_q13) fnExactMethodsOf_q14) fnExactMethodsOf_q15) fnExactMethodsOf_q16) fnExactMethodsOf_q17) fnExactMethodsOf_q18) fnExactMethodsOf_q19) fnExactMethodsOf_q20) fnExactMethodsOf_q21) fnExactMethodsOf_q22) fnExactMethodsOf_q23) fnExactMethodsOf_q24) fnExactMethodsOf_q25) fnExactMethodsOf_q26) fnExactMethodsOf_q27) fnExactMethodsOf_q28) fnExactMethodsOf_q29) fnExactMethodsOf_q30) fnExactMethodsOf_q31)
theorem fnExactMethodsOf_holds : Rows.FnExactMethodsOfSaid :=
  OpenClaim.holds_of_wide 10 Try.f10 rfl rfl rfl rfl rfl rfl rfl ⟨rfl, rfl, rfl, rfl, rfl⟩ rfl rfl rfl rfl rfl (by kernel_rfl) Try.func10 fnExactMethodsOf_joined
    (of_decide_eq_true (by kernel_rfl)) (by unfold Func.isWrapper; first | (rw [if_pos (by decide +kernel)]; kernel_rfl) | (rw [if_neg (by decide +kernel)]; exact ⟨rfl, rfl⟩))
    (fun os started H enc _ => fnExactMethodsOf_lifted os started H enc)
end Go.Proofs.Ytnbpojalpdldnaa
