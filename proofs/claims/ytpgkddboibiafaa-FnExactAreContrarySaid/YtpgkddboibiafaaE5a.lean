/- FnExactAreContrary: each law function of these statements answers true, for all arguments that can be read. Conditions: none. -/
import Derived.Test.YtpgkddboibiafaaRows
import Derived.Test.YtpgkddboibiafaaW5a
namespace Go.Proofs.Ytpgkddboibiafaa
open Go.ChangeShapes Go.WideShapes Go.ChangeAt Go.RowKit

theorem Try.own : ownKnob Try.prog.godebug = none := by kernel_rfl
theorem Try.laidOut : laidOutB Try.prog = true := by kernel_rfl
theorem and_mk {a b : Bool} (h : a = true) (k : b = true) : (a && b) = true := by rw [h, k]; rfl
set_option maxRecDepth 100000 in
theorem fnExactAreContrary_lifted (os : Os) (started : os.Started) (H : Type) (enc : TypeId × Value → H) :
    ReturnsInHanded {} Try.checked os 3 .any (Rows.fnExactAreContrarySpec.pre6 enc Try.prog Try.f3 Rows.fnExactAreContraryRow.domain false) (Rows.fnExactAreContrarySpec.post enc Try.prog Try.f3 false true false false) := by
  refine returnsInHanded_of_change (C := Try.checked) Try.own started (by kernel_rfl) Try.func3
    (ChangeSpec.witness6 (enc := enc) (C := Try.checked) false ⟨#[], #[.slice none 0 0, .slice none 0 0, .agg #[.int .i64 0, .int .i64 0, .int .i64 0, .int .i64 0, .int .i64 0], .agg #[.int .i64 0, .int .i64 0, .int .i64 0, .int .i64 0, .int .i64 0]], []⟩ 12 (by kernel_rfl) (by kernel_rfl) (by kernel_rfl) (by kernel_rfl)) ?_
  intro W base args ds gs before hval0 hW hcnd _
  have hval : ∀ (j : Nat) t v, Try.f3.params[j]? = some t → args[j]? = some v → Value.okWide Try.prog W .any base t v := hval0
  have hW' := hW
  obtain ⟨p, q, hA0, hV, rfl, hfz, hnd⟩ := hW
  have hA : DataW.TrodAll enc Try.prog W 0 (fun _ => true) true Try.f3.params.toList args.toList ds p := hA0
  obtain ⟨rfl, rfl⟩ := trodVars_none hV
  have hlen : ds.length = 4 := Fw.trodAll_len hA
  rcases ds with _ | ⟨d1, _ | ⟨d2, _ | ⟨d3, _ | ⟨d4, _ | ⟨d5, ds⟩⟩⟩⟩⟩ <;> first | (simp at hlen; done) | skip
  refine (Fw.yes_call Fw.F3_ok (fun _ _ => trivial) (fun _ _ => rfl) (ts := Try.f3.params.toList) (by kernel_rfl) hA (fun j t v h1 h2 => hval j t v (by simpa using h1) (by simpa using h2))).mono fun e W' ⟨he, hfr⟩ => ?_
  subst he
  exact ⟨_, rfl, Fw.post_yes Try.laidOut (by kernel_rfl) rfl rfl rfl Try.underlying4 hW' hfr⟩

theorem fnExactAreContrary_q0 : (Rows.fnExactAreContraryRow.wf (OpenSpec.ofChange Rows.fnExactAreContrarySpec) : Bool) = true := by kernel_rfl
theorem fnExactAreContrary_q1 : (laidOutB Try.pinned.checked.prog : Bool) = true := by kernel_rfl
theorem fnExactAreContrary_q2 : (mapsRowed Try.pinned.checked.prog : Bool) = true := by kernel_rfl
theorem fnExactAreContrary_q3 : (Try.f3.params.all (Try.pinned.checked.prog.readableRec ·) : Bool) = true := by kernel_rfl
theorem fnExactAreContrary_q4 : (namedTie Try.pinned.checked.prog Rows.fnExactAreContraryRow.named Rows.fnExactAreContrarySpec.vars : Bool) = true := by kernel_rfl
theorem fnExactAreContrary_q5 : ((Rows.fnExactAreContraryRow.stops == []) : Bool) = true := by kernel_rfl
theorem fnExactAreContrary_q6 : ((Try.pinned.checked.prog.stops == []) : Bool) = true := by kernel_rfl
theorem fnExactAreContrary_q7 : ((Rows.fnExactAreContraryRow.knobs == []) : Bool) = true := by kernel_rfl
theorem fnExactAreContrary_q8 : ((Try.pinned.checked.prog.stopKnobs == []) : Bool) = true := by kernel_rfl
theorem fnExactAreContrary_q9 : ((Rows.fnExactAreContraryRow.inPlace == Try.pinned.checked.prog.inPlace 3) : Bool) = true := by kernel_rfl
theorem fnExactAreContrary_q10 : ((Rows.fnExactAreContraryRow.unfollowed == Try.pinned.checked.prog.unfollowed 3) : Bool) = true := by kernel_rfl
theorem fnExactAreContrary_q11 : ((Rows.fnExactAreContraryRow.recurses == Try.pinned.checked.prog.recurses 3) : Bool) = true := by kernel_rfl
theorem fnExactAreContrary_q12 : ((Rows.fnExactAreContraryRow.named == Try.pinned.checked.prog.varsNamed 3) : Bool) = true := by kernel_rfl
theorem fnExactAreContrary_q13 : ((Rows.fnExactAreContraryRow.maps == (Try.f3.params.toList ++ Rows.fnExactAreContrarySpec.plain.varTypes Try.pinned.checked.prog).any (Try.pinned.checked.prog.mapsRec ·)) : Bool) = true := by kernel_rfl
theorem fnExactAreContrary_q14 : ((Rows.fnExactAreContraryRow.ifaces == (Try.f3.params.toList ++ Rows.fnExactAreContrarySpec.plain.varTypes Try.pinned.checked.prog).any (Try.pinned.checked.prog.ifacesRec ·)) : Bool) = true := by kernel_rfl
theorem fnExactAreContrary_q15 : ((Rows.fnExactAreContraryRow.mapsOut == Try.pinned.checked.prog.mapsAmong Try.f3.resultTypes.toList) : Bool) = true := by kernel_rfl
theorem fnExactAreContrary_q16 : ((Rows.fnExactAreContraryRow.loops == (Try.f3.params.toList ++ Rows.fnExactAreContrarySpec.plain.varTypes Try.pinned.checked.prog).any (Try.pinned.checked.prog.loopsFrom ·)) : Bool) = true := by kernel_rfl
theorem fnExactAreContrary_q17 : ((Rows.fnExactAreContraryRow.wideKeys == (Try.f3.params.toList ++ Rows.fnExactAreContrarySpec.plain.varTypes Try.pinned.checked.prog ++ Try.f3.resultTypes.toList).any (Try.pinned.checked.prog.wideKeysFrom ·)) : Bool) = true := by kernel_rfl
theorem fnExactAreContrary_q18 : (Rows.fnExactAreContrarySpec.vars.all (Try.pinned.checked.prog.varReadable ·) : Bool) = true := by kernel_rfl
theorem fnExactAreContrary_q19 : (Try.f3.resultTypes.all (fun t => Try.pinned.checked.prog.readableRec t && decide (t < Try.pinned.checked.prog.types.size)) : Bool) = true := by kernel_rfl
theorem fnExactAreContrary_q20 : ((Rows.fnExactAreContraryRow.ifacesOut == Try.f3.resultTypes.toList.any (Try.pinned.checked.prog.ifacesRec ·)) : Bool) = true := by kernel_rfl
theorem fnExactAreContrary_q21 : ((Rows.fnExactAreContraryRow.loopsOut == Try.f3.resultTypes.toList.any (Try.pinned.checked.prog.loopsFrom ·)) : Bool) = true := by kernel_rfl
theorem fnExactAreContrary_q22 : ((Rows.fnExactAreContraryRow.plainKeys == Try.pinned.checked.prog.plainKeys) : Bool) = true := by kernel_rfl
theorem fnExactAreContrary_q23 : (Rows.fnExactAreContraryRow.shortTexts.isNone : Bool) = true := by kernel_rfl
theorem fnExactAreContrary_q24 : (Try.pinned.checked.prog.stopsHeard : Bool) = true := by kernel_rfl
theorem fnExactAreContrary_q25 : (Try.pinned.checked.prog.mayEnter : Bool) = true := by kernel_rfl
theorem fnExactAreContrary_q26 : ((Rows.fnExactAreContraryRow.lifted == Try.pinned.checked.prog.liftsFinal) : Bool) = true := by kernel_rfl
theorem fnExactAreContrary_q27 : ((Try.pinned.checked.prog.make == some Rows.fnExactAreContraryRow.make) : Bool) = true := by kernel_rfl
theorem fnExactAreContrary_q28 : ((Rows.fnExactAreContraryRow.kinds == (if Rows.fnExactAreContraryRow.domain.isEmpty then [] else Try.f3.params.toList.map fun t => match Try.pinned.checked.prog.underlying t with | some (.int k) => some k | _ => none)) : Bool) = true := by kernel_rfl
theorem fnExactAreContrary_q29 : ((Rows.fnExactAreContraryRow.pinned == Rows.fnExactAreContraryRow.pinnedBy) : Bool) = true := by kernel_rfl
theorem fnExactAreContrary_q30 : ((Rows.fnExactAreContraryRow.veiled == (Try.f3.params.toList ++ Rows.fnExactAreContrarySpec.plain.varTypes Try.pinned.checked.prog ++ Try.f3.resultTypes.toList).any (Try.pinned.checked.prog.veiledRec ·)) : Bool) = true := by kernel_rfl
theorem fnExactAreContrary_q31 : (Rows.fnExactAreContraryRow.veiledFits Try.pinned.checked.prog Try.f3.params.toList (Try.f3.params.toList ++ Rows.fnExactAreContrarySpec.plain.varTypes Try.pinned.checked.prog ++ Try.f3.resultTypes.toList) : Bool) = true := by kernel_rfl
set_option maxRecDepth 100000 in
theorem fnExactAreContrary_joined : joinedFacts Try.pinned.checked.prog 3 Try.f3 Rows.fnExactAreContrarySpec Rows.fnExactAreContraryRow = true :=
  (and_mk (and_mk (and_mk (and_mk (and_mk (and_mk (and_mk (and_mk (and_mk (and_mk (and_mk (and_mk (and_mk (and_mk (and_mk (and_mk (and_mk (and_mk (and_mk (and_mk (and_mk (and_mk (and_mk (and_mk (and_mk (and_mk (and_mk (and_mk (and_mk (and_mk (and_mk fnExactAreContrary_q0 fnExactAreContrary_q1) fnExactAreContrary_q2) fnExactAreContrary_q3) fnExactAreContrary_q4) fnExactAreContrary_q5) fnExactAreContrary_q6) fnExactAreContrary_q7) fnExactAreContrary_q8) fnExactAreContrary_q9) fnExactAreContrary_q10) fnExactAreContrary_q11) fnExactAreContrary_q12) fnExactAreContrary_q13) fnExactAreContrary_q14) fnExactAreContrary_q15) fnExactAreContrary_q16) fnExactAreContrary_q17) fnExactAreContrary_q18) fnExactAreContrary_q19) fnExactAreContrary_q20) fnExactAreContrary_q21) fnExactAreContrary_q22) fnExactAreContrary_q23) fnExactAreContrary_q24) fnExactAreContrary_q25) fnExactAreContrary_q26) fnExactAreContrary_q27) fnExactAreContrary_q28) fnExactAreContrary_q29) fnExactAreContrary_q30) fnExactAreContrary_q31)
theorem fnExactAreContrary_holds : Rows.FnExactAreContrarySaid :=
  OpenClaim.holds_of_wide 3 Try.f3 rfl rfl rfl rfl rfl rfl rfl ⟨rfl, rfl, rfl, rfl, rfl⟩ rfl rfl rfl rfl rfl (by kernel_rfl) Try.func3 fnExactAreContrary_joined
    (of_decide_eq_true (by kernel_rfl)) (by unfold Func.isWrapper; first | (rw [if_pos (by decide +kernel)]; kernel_rfl) | (rw [if_neg (by decide +kernel)]; exact ⟨rfl, rfl⟩))
    (fun os started H enc _ => fnExactAreContrary_lifted os started H enc)
end Go.Proofs.Ytpgkddboibiafaa
