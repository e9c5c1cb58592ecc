/- FnExactStatusesFor: each law function of these statements answers true, for all arguments that can be read. Conditions: none. -/
import Derived.Test.YtnbpojalpdldnaaRows
import Derived.Test.YtnbpojalpdldnaaW21
namespace Go.Proofs.Ytnbpojalpdldnaa
open Go.ChangeShapes Go.WideShapes Go.ChangeAt Go.RowKit

theorem Try.own : ownKnob Try.prog.godebug = none := by kernel_rfl
theorem Try.laidOut : laidOutB Try.prog = true := by kernel_rfl
theorem and_mk {a b : Bool} (h : a = true) (k : b = true) : (a && b) = true := by rw [h, k]; rfl
set_option maxRecDepth 100000 in
theorem fnExactStatusesFor_lifted (os : Os) (started : os.Started) (H : Type) (enc : TypeId × Value → H) :
    ReturnsInHanded {} Try.checked os 4 .any (Rows.fnExactStatusesForSpec.pre6 enc Try.prog Try.f4 Rows.fnExactStatusesForRow.domain false) (Rows.fnExactStatusesForSpec.post enc Try.prog Try.f4 false true false false) := by
  refine returnsInHanded_of_change (C := Try.checked) Try.own started (by kernel_rfl) Try.func4
    (ChangeSpec.witness6 (enc := enc) (C := Try.checked) false ⟨#[], #[.slice none 0 0, .agg #[.int .i64 0, .int .i64 0, .int .i64 0, .int .i64 0, .int .i64 0, .int .i64 0, .int .i64 0]], []⟩ 12 (by kernel_rfl) (by kernel_rfl) (by kernel_rfl) (by kernel_rfl)) ?_
  intro W base args ds gs before hval0 hW hcnd _
  have hval : ∀ (j : Nat) t v, Try.f4.params[j]? = some t → args[j]? = some v → Value.okWide Try.prog W .any base t v := hval0
  have hW' := hW
  obtain ⟨p, q, hA0, hV, rfl, hfz, hnd⟩ := hW
  have hA : DataW.TrodAll enc Try.prog W 0 (fun _ => true) true Try.f4.params.toList args.toList ds p := hA0
  obtain ⟨rfl, rfl⟩ := trodVars_none hV
  have hlen : ds.length = 2 := Fw.trodAll_len hA
  rcases ds with _ | ⟨d1, _ | ⟨d2, _ | ⟨d3, ds⟩⟩⟩ <;> first | (simp at hlen; done) | skip
  refine (Fw.yes_call Fw.F4_ok (fun _ _ => trivial) (fun _ _ => rfl) (ts := Try.f4.params.toList) (by kernel_rfl) hA (fun j t v h1 h2 => hval j t v (by simpa using h1) (by simpa using h2))).mono fun e W' ⟨he, hfr⟩ => ?_
  subst he
  exact ⟨_, rfl, Fw.post_yes Try.laidOut (by kernel_rfl) rfl rfl rfl Try.underlying4 hW' hfr⟩

theorem fnExactStatusesFor_q0 : (Rows.fnExactStatusesForRow.wf (OpenSpec.ofChange Rows.fnExactStatusesForSpec) : Bool) = true := by kernel_rfl
theorem fnExactStatusesFor_q1 : (laidOutB Try.pinned.checked.prog : Bool) = true := by kernel_rfl
theorem fnExactStatusesFor_q2 : (mapsRowed Try.pinned.checked.prog : Bool) = true := by kernel_rfl
theorem fnExactStatusesFor_q3 : (Try.f4.params.all (Try.pinned.checked.prog.readableRec ·) : Bool) = true := by kernel_rfl
theorem fnExactStatusesFor_q4 : (namedTie Try.pinned.checked.prog Rows.fnExactStatusesForRow.named Rows.fnExactStatusesForSpec.vars : Bool) = true := by kernel_rfl
theorem fnExactStatusesFor_q5 : ((Rows.fnExactStatusesForRow.stops == []) : Bool) = true := by kernel_rfl
theorem fnExactStatusesFor_q6 : ((Try.pinned.checked.prog.stops == []) : Bool) = true := by kernel_rfl
theorem fnExactStatusesFor_q7 : ((Rows.fnExactStatusesForRow.knobs == []) : Bool) = true := by kernel_rfl
theorem fnExactStatusesFor_q8 : ((Try.pinned.checked.prog.stopKnobs == []) : Bool) = true := by kernel_rfl
theorem fnExactStatusesFor_q9 : ((Rows.fnExactStatusesForRow.inPlace == Try.pinned.checked.prog.inPlace 4) : Bool) = true := by kernel_rfl
theorem fnExactStatusesFor_q10 : ((Rows.fnExactStatusesForRow.unfollowed == Try.pinned.checked.prog.unfollowed 4) : Bool) = true := by kernel_rfl
theorem fnExactStatusesFor_q11 : ((Rows.fnExactStatusesForRow.recurses == Try.pinned.checked.prog.recurses 4) : Bool) = true := by kernel_rfl
theorem fnExactStatusesFor_q12 : ((Rows.fnExactStatusesForRow.named == Try.pinned.checked.prog.varsNamed 4) : Bool) = true := by kernel_rfl
theorem fnExactStatusesFor_q13 : ((Rows.fnExactStatusesForRow.maps == (Try.f4.params.toList ++ Rows.fnExactStatusesForSpec.plain.varTypes Try.pinned.checked.prog).any (Try.pinned.checked.prog.mapsRec ·)) : Bool) = true := by kernel_rfl
theorem fnExactStatusesFor_q14 : ((Rows.fnExactStatusesForRow.ifaces == (Try.f4.params.toList ++ Rows.fnExactStatusesForSpec.plain.varTypes Try.pinned.checked.prog).any (Try.pinned.checked.prog.ifacesRec ·)) : Bool) = true := by kernel_rfl
theorem fnExactStatusesFor_q15 : ((Rows.fnExactStatusesForRow.mapsOut == Try.pinned.checked.prog.mapsAmong Try.f4.resultTypes.toList) : Bool) = true := by kernel_rfl
theorem fnExactStatusesFor_q16 : ((Rows.fnExactStatusesForRow.loops == (Try.f4.params.toList ++ Rows.fnExactStatusesForSpec.plain.varTypes Try.pinned.checked.prog).any (Try.pinned.checked.prog.loopsFrom ·)) : Bool) = true := by kernel_rfl
theorem fnExactStatusesFor_q17 : ((Rows.fnExactStatusesForRow.wideKeys == (Try.f4.params.toList ++ Rows.fnExactStatusesForSpec.plain.varTypes Try.pinned.checked.prog ++ Try.f4.resultTypes.toList).any (Try.pinned.checked.prog.wideKeysFrom ·)) : Bool) = true := by kernel_rfl
theorem fnExactStatusesFor_q18 : (Rows.fnExactStatusesForSpec.vars.all (Try.pinned.checked.prog.varReadable ·) : Bool) = true := by kernel_rfl
theorem fnExactStatusesFor_q19 : (Try.f4.resultTypes.all (fun t => Try.pinned.checked.prog.readableRec t && decide (t < Try.pinned.checked.prog.types.size)) : Bool) = true := by kernel_rfl
theorem fnExactStatusesFor_q20 : ((Rows.fnExactStatusesForRow.ifacesOut == Try.f4.resultTypes.toList.any (Try.pinned.checked.prog.ifacesRec ·)) : Bool) = true := by kernel_rfl
theorem fnExactStatusesFor_q21 : ((Rows.fnExactStatusesForRow.loopsOut == Try.f4.resultTypes.toList.any (Try.pinned.checked.prog.loopsFrom ·)) : Bool) = true := by kernel_rfl
theorem fnExactStatusesFor_q22 : ((Rows.fnExactStatusesForRow.plainKeys == Try.pinned.checked.prog.plainKeys) : Bool) = true := by kernel_rfl
theorem fnExactStatusesFor_q23 : (Rows.fnExactStatusesForRow.shortTexts.isNone : Bool) = true := by kernel_rfl
theorem fnExactStatusesFor_q24 : (Try.pinned.checked.prog.stopsHeard : Bool) = true := by kernel_rfl
theorem fnExactStatusesFor_q25 : (Try.pinned.checked.prog.mayEnter : Bool) = true := by kernel_rfl
theorem fnExactStatusesFor_q26 : ((Rows.fnExactStatusesForRow.lifted == Try.pinned.checked.prog.liftsFinal) : Bool) = true := by kernel_rfl
theorem fnExactStatusesFor_q27 : ((Try.pinned.checked.prog.make == some Rows.fnExactStatusesForRow.make) : Bool) = true := by kernel_rfl
theorem fnExactStatusesFor_q28 : ((Rows.fnExactStatusesForRow.kinds == (if Rows.fnExactStatusesForRow.domain.isEmpty then [] else Try.f4.params.toList.map fun t => match Try.pinned.checked.prog.underlying t with | some (.int k) => some k | _ => none)) : Bool) = true := by kernel_rfl
theorem fnExactStatusesFor_q29 : ((Rows.fnExactStatusesForRow.pinned == Rows.fnExactStatusesForRow.pinnedBy) : Bool) = true := by kernel_rfl
theorem fnExactStatusesFor_q30 : ((Rows.fnExactStatusesForRow.veiled == (Try.f4.params.toList ++ Rows.fnExactStatusesForSpec.plain.varTypes Try.pinned.checked.prog ++ Try.f4.resultTypes.toList).any (Try.pinned.checked.prog.veiledRec ·)) : Bool) = true := by kernel_rfl
theorem fnExactStatusesFor_q31 : (Rows.fnExactStatusesForRow.veiledFits Try.pinned.checked.prog Try.f4.params.toList (Try.f4.params.toList ++ Rows.fnExactStatusesForSpec.plain.varTypes Try.pinned.checked.prog ++ Try.f4.resultTypes.toList) : Bool) = true := by kernel_rfl
set_option maxRecDepth 100000 in
theorem fnExactStatusesFor_joined : joinedFacts Try.pinned.checked.prog 4 Try.f4 Rows.fnExactStatusesForSpec Rows.fnExactStatusesForRow = true :=
  (and_mk (and_mk (and_mk (and_mk (and_mk (and_mk (and_mk (and_mk (and_mk (and_mk (and_mk (and_mk (and_mk (and_mk (and_mk (and_mk (and_mk (and_mk (and_mk (and_mk (and_mk (and_mk (and_mk (and_mk (and_mk (and_mk (and_mk (and_mk (and_mk (and_mk (and_mk fnExactStatusesFor_q0 fnExactStatusesFor_q1) fnExactStatusesFor_q2) fnExactStatusesFor_q3) fnExactStatusesFor_q4) fnExactStatusesFor_q5) fnExactStatusesFor_q6) fnExactStatusesFor_q7) fnExactStatusesFor_q8) fnExactStatusesFor_q9) fnExactStatusesFor_q10) fnExactStatusesFor_q11) fnExactStatusesFor_q12) fnExactStatusesFor_q13) fnExactStatusesFor_q14) fnExactStatusesFor_q15) fnExactStatusesFor_q16) fnExactStatusesFor_q17) fnExactStatusesFor_q18) fnExactStatusesFor_q19) fnExactStatusesFor_q20) fnExactStatusesFor_q21) fnExactStatusesFor_q22) fnExactStatusesFor_q23) fnExactStatusesFor_q24) fnExactStatusesFor_q25) fnExactStatusesFor_q26) fnExactStatusesFor_q27) fnExactStatusesFor_q28) fnExactStatusesFor_q29) fnExactStatusesFor_q30) fnExactStatusesFor_q31)
theorem fnExactStatusesFor_holds : Rows.FnExactStatusesForSaid :=
  OpenClaim.holds_of_wide 4 Try.f4 rfl rfl rfl rfl rfl rfl rfl ⟨rfl, rfl, rfl, rfl, rfl⟩ rfl rfl rfl rfl rfl (by kernel_rfl) Try.func4 fnExactStatusesFor_joined
    (of_decide_eq_true (by kernel_rfl)) (by unfold Func.isWrapper; first | (rw [if_pos (by decide +kernel)]; kernel_rfl) | (rw [if_neg (by decide +kernel)]; exact ⟨rfl, rfl⟩))
    (fun os started H enc _ => fnExactStatusesFor_lifted os started H enc)
end Go.Proofs.Ytnbpojalpdldnaa
