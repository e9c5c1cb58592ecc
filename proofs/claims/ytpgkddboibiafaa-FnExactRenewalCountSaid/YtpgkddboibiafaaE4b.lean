/- FnExactRenewalCount: each law function of these statements answers true, for all arguments that can be read. Conditions: none. -/
import Derived.Test.YtpgkddboibiafaaRows
import Derived.Test.YtpgkddboibiafaaW4b
namespace Go.Proofs.Ytpgkddboibiafaa
open Go.ChangeShapes Go.WideShapes Go.ChangeAt Go.RowKit

theorem Try.own : ownKnob Try.prog.godebug = none := by kernel_rfl
theorem Try.laidOut : laidOutB Try.prog = true := by kernel_rfl
theorem and_mk {a b : Bool} (h : a = true) (k : b = true) : (a && b) = true := by rw [h, k]; rfl
set_option maxRecDepth 100000 in
theorem fnExactRenewalCount_lifted (os : Os) (started : os.Started) (H : Type) (enc : TypeId × Value → H) :
    ReturnsInHanded {} Try.checked os 13 .any (Rows.fnExactRenewalCountSpec.pre6 enc Try.prog Try.f13 Rows.fnExactRenewalCountRow.domain false) (Rows.fnExactRenewalCountSpec.post enc Try.prog Try.f13 false true false false) := by
  refine returnsInHanded_of_change (C := Try.checked) Try.own started (by kernel_rfl) Try.func13
    (ChangeSpec.witness6 (enc := enc) (C := Try.checked) false ⟨#[], #[.agg #[.int .i64 0, .slice none 0 0]], []⟩ 12 (by kernel_rfl) (by kernel_rfl) (by kernel_rfl) (by kernel_rfl)) ?_
  intro W base args ds gs before hval0 hW hcnd _
  have hval : ∀ (j : Nat) t v, Try.f13.params[j]? = some t → args[j]? = some v → Value.okWide Try.prog W .any base t v := hval0
  have hW' := hW
  obtain ⟨p, q, hA0, hV, rfl, hfz, hnd⟩ := hW
  have hA : DataW.TrodAll enc Try.prog W 0 (fun _ => true) true Try.f13.params.toList args.toList ds p := hA0
  obtain ⟨rfl, rfl⟩ := trodVars_none hV
  have hlen : ds.length = 1 := Fw.trodAll_len hA
  rcases ds with _ | ⟨d1, _ | ⟨d2, ds⟩⟩ <;> first | (simp at hlen; done) | skip
  refine (Fw.yes_call Fw.F13_ok (fun _ _ => trivial) (fun _ _ => rfl) (ts := Try.f13.params.toList) (by kernel_rfl) hA (fun j t v h1 h2 => hval j t v (by simpa using h1) (by simpa using h2))).mono fun e W' ⟨he, hfr⟩ => ?_
  subst he
  exact ⟨_, rfl, Fw.post_yes Try.laidOut (by kernel_rfl) rfl rfl rfl Try.underlying4 hW' hfr⟩

theorem fnExactRenewalCount_q0 : (Rows.fnExactRenewalCountRow.wf (OpenSpec.ofChange Rows.fnExactRenewalCountSpec) : Bool) = true := by kernel_rfl
theorem fnExactRenewalCount_q1 : (laidOutB Try.pinned.checked.prog : Bool) = true := by kernel_rfl
theorem fnExactRenewalCount_q2 : (mapsRowed Try.pinned.checked.prog : Bool) = true := by kernel_rfl
theorem fnExactRenewalCount_q3 : (Try.f13.params.all (Try.pinned.checked.prog.readableRec ·) : Bool) = true := by kernel_rfl
theorem fnExactRenewalCount_q4 : (namedTie Try.pinned.checked.prog Rows.fnExactRenewalCountRow.named Rows.fnExactRenewalCountSpec.vars : Bool) = true := by kernel_rfl
theorem fnExactRenewalCount_q5 : ((Rows.fnExactRenewalCountRow.stops == []) : Bool) = true := by kernel_rfl
theorem fnExactRenewalCount_q6 : ((Try.pinned.checked.prog.stops == []) : Bool) = true := by kernel_rfl
theorem fnExactRenewalCount_q7 : ((Rows.fnExactRenewalCountRow.knobs == []) : Bool) = true := by kernel_rfl
theorem fnExactRenewalCount_q8 : ((Try.pinned.checked.prog.stopKnobs == []) : Bool) = true := by kernel_rfl
theorem fnExactRenewalCount_q9 : ((Rows.fnExactRenewalCountRow.inPlace == Try.pinned.checked.prog.inPlace 13) : Bool) = true := by kernel_rfl
theorem fnExactRenewalCount_q10 : ((Rows.fnExactRenewalCountRow.unfollowed == Try.pinned.checked.prog.unfollowed 13) : Bool) = true := by kernel_rfl
theorem fnExactRenewalCount_q11 : ((Rows.fnExactRenewalCountRow.recurses == Try.pinned.checked.prog.recurses 13) : Bool) = true := by kernel_rfl
theorem fnExactRenewalCount_q12 : ((Rows.fnExactRenewalCountRow.named == Try.pinned.checked.prog.varsNamed 13) : Bool) = true := by kernel_rfl
theorem fnExactRenewalCount_q13 : ((Rows.fnExactRenewalCountRow.maps == (Try.f13.params.toList ++ Rows.fnExactRenewalCountSpec.plain.varTypes Try.pinned.checked.prog).any (Try.pinned.checked.prog.mapsRec ·)) : Bool) = true := by kernel_rfl
theorem fnExactRenewalCount_q14 : ((Rows.fnExactRenewalCountRow.ifaces == (Try.f13.params.toList ++ Rows.fnExactRenewalCountSpec.plain.varTypes Try.pinned.checked.prog).any (Try.pinned.checked.prog.ifacesRec ·)) : Bool) = true := by kernel_rfl
theorem fnExactRenewalCount_q15 : ((Rows.fnExactRenewalCountRow.mapsOut == Try.pinned.checked.prog.mapsAmong Try.f13.resultTypes.toList) : Bool) = true := by kernel_rfl
theorem fnExactRenewalCount_q16 : ((Rows.fnExactRenewalCountRow.loops == (Try.f13.params.toList ++ Rows.fnExactRenewalCountSpec.plain.varTypes Try.pinned.checked.prog).any (Try.pinned.checked.prog.loopsFrom ·)) : Bool) = true := by kernel_rfl
theorem fnExactRenewalCount_q17 : ((Rows.fnExactRenewalCountRow.wideKeys == (Try.f13.params.toList ++ Rows.fnExactRenewalCountSpec.plain.varTypes Try.pinned.checked.prog ++ Try.f13.resultTypes.toList).any (Try.pinned.checked.prog.wideKeysFrom ·)) : Bool) = true := by kernel_rfl
theorem fnExactRenewalCount_q18 : (Rows.fnExactRenewalCountSpec.vars.all (Try.pinned.checked.prog.varReadable ·) : Bool) = true := by kernel_rfl
theorem fnExactRenewalCount_q19 : (Try.f13.resultTypes.all (fun t => Try.pinned.checked.prog.readableRec t && decide (t < Try.pinned.checked.prog.types.size)) : Bool) = true := by kernel_rfl
theorem fnExactRenewalCount_q20 : ((Rows.fnExactRenewalCountRow.ifacesOut == Try.f13.resultTypes.toList.any (Try.pinned.checked.prog.ifacesRec ·)) : Bool) = true := by kernel_rfl
theorem fnExactRenewalCount_q21 : ((Rows.fnExactRenewalCountRow.loopsOut == Try.f13.resultTypes.toList.any (Try.pinned.checked.prog.loopsFrom ·)) : Bool) = true := by kernel_rfl
theorem fnExactRenewalCount_q22 : ((Rows.fnExactRenewalCountRow.plainKeys == Try.pinned.checked.prog.plainKeys) : Bool) = true := by kernel_rfl
theorem fnExactRenewalCount_q23 : (Rows.fnExactRenewalCountRow.shortTexts.isNone : Bool) = true := by kernel_rfl
theorem fnExactRenewalCount_q24 : (Try.pinned.checked.prog.stopsHeard : Bool) = true := by kernel_rfl
theorem fnExactRenewalCount_q25 : (Try.pinned.checked.prog.mayEnter : Bool) = true := by kernel_rfl
theorem fnExactRenewalCount_q26 : ((Rows.fnExactRenewalCountRow.lifted == Try.pinned.checked.prog.liftsFinal) : Bool) = true := by kernel_rfl
theorem fnExactRenewalCount_q27 : ((Try.pinned.checked.prog.make == some Rows.fnExactRenewalCountRow.make) : Bool) = true := by kernel_rfl
theorem fnExactRenewalCount_q28 : ((Rows.fnExactRenewalCountRow.kinds == (if Rows.fnExactRenewalCountRow.domain.isEmpty then [] else Try.f13.params.toList.map fun t => match Try.pinned.checked.prog.underlying t with | some (.int k) => some k | _ => none)) : Bool) = true := by kernel_rfl
theorem fnExactRenewalCount_q29 : ((Rows.fnExactRenewalCountRow.pinned == Rows.fnExactRenewalCountRow.pinnedBy) : Bool) = true := by kernel_rfl
theorem fnExactRenewalCount_q30 : ((Rows.fnExactRenewalCountRow.veiled == (Try.f13.params.toList ++ Rows.fnExactRenewalCountSpec.plain.varTypes Try.pinned.checked.prog ++ Try.f13.resultTypes.toList).any (Try.pinned.checked.prog.veiledRec ·)) : Bool) = true := by kernel_rfl
theorem fnExactRenewalCount_q31 : (Rows.fnExactRenewalCountRow.veiledFits Try.pinned.checked.prog Try.f13.params.toList (Try.f13.params.toList ++ Rows.fnExactRenewalCountSpec.plain.varTypes Try.pinned.checked.prog ++ Try.f13.resultTypes.toList) : Bool) = true := by kernel_rfl
set_option maxRecDepth 100000 in
theorem fnExactRenewalCount_joined : joinedFacts Try.pinned.checked.prog 13 Try.f13 Rows.fnExactRenewalCountSpec Rows.fnExactRenewalCountRow = true :=
  (and_mk (and_mk (and_mk (and_mk (and_mk (and_mk (and_mk (and_mk (and_mk (and_mk (and_mk (and_mk (and_mk (and_mk (and_mk (and_mk (and_mk (and_mk (and_mk (and_mk (and_mk (and_mk (and_mk (and_mk (and_mk (and_mk (and_mk (and_mk (and_mk (and_mk (and_mk fnExactRenewalCount_q0 fnExactRenewalCount_q1) fnExactRenewalCount_q2) fnExactRenewalCount_q3) fnExactRenewalCount_q4) fnExactRenewalCount_q5) fnExactRenewalCount_q6) fnExactRenewalCount_q7) fnExactRenewalCount_q8) fnExactRenewalCount_q9) fnExactRenewalCount_q10) fnExactRenewalCount_q11) fnExactRenewalCount_q12) fnExactRenewalCount_q13) fnExactRenewalCount_q14) fnExactRenewalCount_q15) fnExactRenewalCount_q16) fnExactRenewalCount_q17) fnExactRenewalCount_q18) fnExactRenewalCount_q19) fnExactRenewalCount_q20) fnExactRenewalCount_q21) fnExactRenewalCount_q22) fnExactRenewalCount_q23) fnExactRenewalCount_q24) fnExactRenewalCount_q25) fnExactRenewalCount_q26) fnExactRenewalCount_q27) fnExactRenewalCount_q28) fnExactRenewalCount_q29) fnExactRenewalCount_q30) fnExactRenewalCount_q31)
theorem fnExactRenewalCount_holds : Rows.FnExactRenewalCountSaid :=
  OpenClaim.holds_of_wide 13 Try.f13 rfl rfl rfl rfl rfl rfl rfl ⟨rfl, rfl, rfl, rfl, rfl⟩ rfl rfl rfl rfl rfl (by kernel_rfl) Try.func13 fnExactRenewalCount_joined
    (of_decide_eq_true (by kernel_rfl)) (by unfold Func.isWrapper; first | (rw [if_pos (by decide +kernel)]; kernel_rfl) | (rw [if_neg (by decide +kernel)]; exact ⟨rfl, rfl⟩))
    (fun os started H enc _ => fnExactRenewalCount_lifted os started H enc)
end Go.Proofs.Ytpgkddboibiafaa
