/- FnExactPlanAuthorities: each law function of these statements answers true, for all arguments that can be read. Conditions: none. -/
import Derived.Test.YtnbpojalpdldnaaRows
import Derived.Test.YtnbpojalpdldnaaW23
namespace Go.Proofs.Ytnbpojalpdldnaa
open Go.ChangeShapes Go.WideShapes Go.ChangeAt Go.RowKit

theorem Try.own : ownKnob Try.prog.godebug = none := by kernel_rfl
theorem Try.laidOut : laidOutB Try.prog = true := by kernel_rfl
theorem and_mk {a b : Bool} (h : a = true) (k : b = true) : (a && b) = true := by rw [h, k]; rfl
set_option maxRecDepth 100000 in
theorem fnExactPlanAuthorities_lifted (os : Os) (started : os.Started) (H : Type) (enc : TypeId × Value → H) :
    ReturnsInHanded {} Try.checked os 5 .any (Rows.fnExactPlanAuthoritiesSpec.pre6 enc Try.prog Try.f5 Rows.fnExactPlanAuthoritiesRow.domain false) (Rows.fnExactPlanAuthoritiesSpec.post enc Try.prog Try.f5 false true false false) := by
  refine returnsInHanded_of_change (C := Try.checked) Try.own started (by kernel_rfl) Try.func5
    (ChangeSpec.witness6 (enc := enc) (C := Try.checked) false ⟨#[], #[.agg #[.slice none 0 0, .slice none 0 0, .slice none 0 0, .int .i64 0, .int .i64 0]], []⟩ 12 (by kernel_rfl) (by kernel_rfl) (by kernel_rfl) (by kernel_rfl)) ?_
  intro W base args ds gs before hval0 hW hcnd _
  have hval : ∀ (j : Nat) t v, Try.f5.params[j]? = some t → args[j]? = some v → Value.okWide Try.prog W .any base t v := hval0
  have hW' := hW
  obtain ⟨p, q, hA0, hV, rfl, hfz, hnd⟩ := hW
  have hA : DataW.TrodAll enc Try.prog W 0 (fun _ => true) true Try.f5.params.toList args.toList ds p := hA0
  obtain ⟨rfl, rfl⟩ := trodVars_none hV
  have hlen : ds.length = 1 := Fw.trodAll_len hA
  rcases ds with _ | ⟨d1, _ | ⟨d2, ds⟩⟩ <;> first | (simp at hlen; done) | skip
  refine (Fw.yes_call Fw.F5_ok (fun _ _ => trivial) (fun _ _ => rfl) (ts := Try.f5.params.toList) (by kernel_rfl) hA (fun j t v h1 h2 => hval j t v (by simpa using h1) (by simpa using h2))).mono fun e W' ⟨he, hfr⟩ => ?_
  subst he
  exact ⟨_, rfl, Fw.post_yes Try.laidOut (by kernel_rfl) rfl rfl rfl Try.underlying4 hW' hfr⟩

theorem fnExactPlanAuthorities_q0 : (Rows.fnExactPlanAuthoritiesRow.wf (OpenSpec.ofChange Rows.fnExactPlanAuthoritiesSpec) : Bool) = true := by kernel_rfl
theorem fnExactPlanAuthorities_q1 : (laidOutB Try.pinned.checked.prog : Bool) = true := by kernel_rfl
theorem fnExactPlanAuthorities_q2 : (mapsRowed Try.pinned.checked.prog : Bool) = true := by kernel_rfl
theorem fnExactPlanAuthorities_q3 : (Try.f5.params.all (Try.pinned.checked.prog.readableRec ·) : Bool) = true := by kernel_rfl
theorem fnExactPlanAuthorities_q4 : (namedTie Try.pinned.checked.prog Rows.fnExactPlanAuthoritiesRow.named Rows.fnExactPlanAuthoritiesSpec.vars : Bool) = true := by kernel_rfl
theorem fnExactPlanAuthorities_q5 : ((Rows.fnExactPlanAuthoritiesRow.stops == []) : Bool) = true := by kernel_rfl
theorem fnExactPlanAuthorities_q6 : ((Try.pinned.checked.prog.stops == []) : Bool) = true := by kernel_rfl
theorem fnExactPlanAuthorities_q7 : ((Rows.fnExactPlanAuthoritiesRow.knobs == []) : Bool) = true := by kernel_rfl
theorem fnExactPlanAuthorities_q8 : ((Try.pinned.checked.prog.stopKnobs == []) : Bool) = true := by kernel_rfl
theorem fnExactPlanAuthorities_q9 : ((Rows.fnExactPlanAuthoritiesRow.inPlace == Try.pinned.checked.prog.inPlace 5) : Bool) = true := by kernel_rfl
theorem fnExactPlanAuthorities_q10 : ((Rows.fnExactPlanAuthoritiesRow.unfollowed == Try.pinned.checked.prog.unfollowed 5) : Bool) = true := by kernel_rfl
theorem fnExactPlanAuthorities_q11 : ((Rows.fnExactPlanAuthoritiesRow.recurses == Try.pinned.checked.prog.recurses 5) : Bool) = true := by kernel_rfl
theorem fnExactPlanAuthorities_q12 : ((Rows.fnExactPlanAuthoritiesRow.named == Try.pinned.checked.prog.varsNamed 5) : Bool) = true := by kernel_rfl
theorem fnExactPlanAuthorities_q13 : ((Rows.fnExactPlanAuthoritiesRow.maps == (Try.f5.params.toList ++ Rows.fnExactPlanAuthoritiesSpec.plain.varTypes Try.pinned.checked.prog).any (Try.pinned.checked.prog.mapsRec ·)) : Bool) = true := by kernel_rfl
theorem fnExactPlanAuthorities_q14 : ((Rows.fnExactPlanAuthoritiesRow.ifaces == (Try.f5.params.toList ++ Rows.fnExactPlanAuthoritiesSpec.plain.varTypes Try.pinned.checked.prog).any (Try.pinned.checked.prog.ifacesRec ·)) : Bool) = true := by kernel_rfl
theorem fnExactPlanAuthorities_q15 : ((Rows.fnExactPlanAuthoritiesRow.mapsOut == Try.pinned.checked.prog.mapsAmong Try.f5.resultTypes.toList) : Bool) = true := by kernel_rfl
theorem fnExactPlanAuthorities_q16 : ((Rows.fnExactPlanAuthoritiesRow.loops == (Try.f5.params.toList ++ Rows.fnExactPlanAuthoritiesSpec.plain.varTypes Try.pinned.checked.prog).any (Try.pinned.checked.prog.loopsFrom ·)) : Bool) = true := by kernel_rfl
theorem fnExactPlanAuthorities_q17 : ((Rows.fnExactPlanAuthoritiesRow.wideKeys == (Try.f5.params.toList ++ Rows.fnExactPlanAuthoritiesSpec.plain.varTypes Try.pinned.checked.prog ++ Try.f5.resultTypes.toList).any (Try.pinned.checked.prog.wideKeysFrom ·)) : Bool) = true := by kernel_rfl
theorem fnExactPlanAuthorities_q18 : (Rows.fnExactPlanAuthoritiesSpec.vars.all (Try.pinned.checked.prog.varReadable ·) : Bool) = true := by kernel_rfl
theorem fnExactPlanAuthorities_q19 : (Try.f5.resultTypes.all (fun t => Try.pinned.checked.prog.readableRec t && decide (t < Try.pinned.checked.prog.types.size)) : Bool) = true := by kernel_rfl
theorem fnExactPlanAuthorities_q20 : ((Rows.fnExactPlanAuthoritiesRow.ifacesOut == Try.f5.resultTypes.toList.any (Try.pinned.checked.prog.ifacesRec ·)) : Bool) = true := by kernel_rfl
theorem fnExactPlanAuthorities_q21 : ((Rows.fnExactPlanAuthoritiesRow.loopsOut == Try.f5.resultTypes.toList.any (Try.pinned.checked.prog.loopsFrom ·)) : Bool) = true := by kernel_rfl
theorem fnExactPlanAuthorities_q22 : ((Rows.fnExactPlanAuthoritiesRow.plainKeys == Try.pinned.checked.prog.plainKeys) : Bool) = true := by kernel_rfl
theorem fnExactPlanAuthorities_q23 : (Rows.fnExactPlanAuthoritiesRow.shortTexts.isNone : Bool) = true := by kernel_rfl
theorem fnExactPlanAuthorities_q24 : (Try.pinned.checked.prog.stopsHeard : Bool) = true := by kernel_rfl
theorem fnExactPlanAuthorities_q25 : (Try.pinned.checked.prog.mayEnter : Bool) = true := by kernel_rfl
theorem fnExactPlanAuthorities_q26 : ((Rows.fnExactPlanAuthoritiesRow.lifted == Try.pinned.checked.prog.liftsFinal) : Bool) = true := by kernel_rfl
theorem fnExactPlanAuthorities_q27 : ((Try.pinned.checked.prog.make == some Rows.fnExactPlanAuthoritiesRow.make) : Bool) = true := by kernel_rfl
theorem fnExactPlanAuthorities_q28 : ((Rows.fnExactPlanAuthoritiesRow.kinds == (if Rows.fnExactPlanAuthoritiesRow.domain.isEmpty then [] else Try.f5.params.toList.map fun t => match Try.pinned.checked.prog.underlying t with | some (.int k) => some k | _ => none)) : Bool) = true := by kernel_rfl
theorem fnExactPlanAuthorities_q29 : ((Rows.fnExactPlanAuthoritiesRow.pinned == Rows.fnExactPlanAuthoritiesRow.pinnedBy) : Bool) = true := by kernel_rfl
theorem fnExactPlanAuthorities_q30 : ((Rows.fnExactPlanAuthoritiesRow.veiled == (Try.f5.params.toList ++ Rows.fnExactPlanAuthoritiesSpec.plain.varTypes Try.pinned.checked.prog ++ Try.f5.resultTypes.toList).any (Try.pinned.checked.prog.veiledRec ·)) : Bool) = true := by kernel_rfl
theorem fnExactPlanAuthorities_q31 : (Rows.fnExactPlanAuthoritiesRow.veiledFits Try.pinned.checked.prog Try.f5.params.toList (Try.f5.params.toList ++ Rows.fnExactPlanAuthoritiesSpec.plain.varTypes Try.pinned.checked.prog ++ Try.f5.resultTypes.toList) : Bool) = true := by kernel_rfl
set_option maxRecDepth 100000 in
theorem fnExactPlanAuthorities_joined : joinedFacts Try.pinned.checked.prog 5 Try.f5 Rows.fnExactPlanAuthoritiesSpec Rows.fnExactPlanAuthoritiesRow = true :=
  (and_mk (and_mk (and_mk (and_mk (and_mk (and_mk (and_mk (and_mk (and_mk (and_mk (and_mk (and_mk (and_mk (and_mk (and_mk (and_mk (and_mk (and_mk (and_mk (and_mk (and_mk (and_mk (and_mk (and_mk (and_mk (and_mk (and_mk (and_mk (and_mk (and_mk (and_mk fnExactPlanAuthorities_q0 fnExactPlanAuthorities_q1) fnExactPlanAuthorities_q2) fnExactPlanAuthorities_q3) fnExactPlanAuthorities_q4) fnExactPlanAuthorities_q5) fnExactPlanAuthorities_q6) fnExactPlanAuthorities_q7) fnExactPlanAuthorities_q8) fnExactPlanAuthorities_q9) fnExactPlanAuthorities_q10) fnExactPlanAuthorities_q11) fnExactPlanAuthorities_q12) fnExactPlanAuthorities_q13) fnExactPlanAuthorities_q14) fnExactPlanAuthorities_q15) fnExactPlanAuthorities_q16) fnExactPlanAuthorities_q17) fnExactPlanAuthorities_q18) fnExactPlanAuthorities_q19) fnExactPlanAuthorities_q20) fnExactPlanAuthorities_q21) fnExactPlanAuthorities_q22) fnExactPlanAuthorities_q23) fnExactPlanAuthorities_q24) fnExactPlanAuthorities_q25) fnExactPlanAuthorities_q26) fnExactPlanAuthorities_q27) fnExactPlanAuthorities_q28) fnExactPlanAuthorities_q29) fnExactPlanAuthorities_q30) fnExactPlanAuthorities_q31)
theorem fnExactPlanAuthorities_holds : Rows.FnExactPlanAuthoritiesSaid :=
  OpenClaim.holds_of_wide 5 Try.f5 rfl rfl rfl rfl rfl rfl rfl ⟨rfl, rfl, rfl, rfl, rfl⟩ rfl rfl rfl rfl rfl (by kernel_rfl) Try.func5 fnExactPlanAuthorities_joined
    (of_decide_eq_true (by kernel_rfl)) (by unfold Func.isWrapper; first | (rw [if_pos (by decide +kernel)]; kernel_rfl) | (rw [if_neg (by decide +kernel)]; exact ⟨rfl, rfl⟩))
    (fun os started H enc _ => fnExactPlanAuthorities_lifted os started H enc)
end Go.Proofs.Ytnbpojalpdldnaa
