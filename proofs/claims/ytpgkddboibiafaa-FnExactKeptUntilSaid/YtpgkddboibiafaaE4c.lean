/- FnExactKeptUntil: each law function of these statements answers true, for all arguments that can be read. Conditions: none. -/
import Derived.Test.YtpgkddboibiafaaRows
import Derived.Test.YtpgkddboibiafaaW4c
namespace Go.Proofs.Ytpgkddboibiafaa
open Go.ChangeShapes Go.WideShapes Go.ChangeAt Go.RowKit

theorem Try.own : ownKnob Try.prog.godebug = none := by kernel_rfl
theorem Try.laidOut : laidOutB Try.prog = true := by kernel_rfl
theorem and_mk {a b : Bool} (h : a = true) (k : b = true) : (a && b) = true := by rw [h, k]; rfl
set_option maxRecDepth 100000 in
theorem fnExactKeptUntil_lifted (os : Os) (started : os.Started) (H : Type) (enc : TypeId × Value → H) :
    ReturnsInHanded {} Try.checked os 14 .any (Rows.fnExactKeptUntilSpec.pre6 enc Try.prog Try.f14 Rows.fnExactKeptUntilRow.domain false) (Rows.fnExactKeptUntilSpec.post enc Try.prog Try.f14 false true false false) := by
  refine returnsInHanded_of_change (C := Try.checked) Try.own started (by kernel_rfl) Try.func14
    (ChangeSpec.witness6 (enc := enc) (C := Try.checked) false ⟨#[], #[.agg #[.int .i64 0, .slice none 0 0]], []⟩ 12 (by kernel_rfl) (by kernel_rfl) (by kernel_rfl) (by kernel_rfl)) ?_
  intro W base args ds gs before hval0 hW hcnd _
  have hval : ∀ (j : Nat) t v, Try.f14.params[j]? = some t → args[j]? = some v → Value.okWide Try.prog W .any base t v := hval0
  have hW' := hW
  obtain ⟨p, q, hA0, hV, rfl, hfz, hnd⟩ := hW
  have hA : DataW.TrodAll enc Try.prog W 0 (fun _ => true) true Try.f14.params.toList args.toList ds p := hA0
  obtain ⟨rfl, rfl⟩ := trodVars_none hV
  have hlen : ds.length = 1 := Fw.trodAll_len hA
  rcases ds with _ | ⟨d1, _ | ⟨d2, ds⟩⟩ <;> first | (simp at hlen; done) | skip
  refine (Fw.yes_call Fw.F14_ok (fun _ _ => trivial) (fun _ _ => rfl) (ts := Try.f14.params.toList) (by kernel_rfl) hA (fun j t v h1 h2 => hval j t v (by simpa using h1) (by simpa using h2))).mono fun e W' ⟨he, hfr⟩ => ?_
  subst he
  exact ⟨_, rfl, Fw.post_yes Try.laidOut (by kernel_rfl) rfl rfl rfl Try.underlying4 hW' hfr⟩

theorem fnExactKeptUntil_q0 : (Rows.fnExactKeptUntilRow.wf (OpenSpec.ofChange Rows.fnExactKeptUntilSpec) : Bool) = true := by kernel_rfl
theorem fnExactKeptUntil_q1 : (laidOutB Try.pinned.checked.prog : Bool) = true := by kernel_rfl
theorem fnExactKeptUntil_q2 : (mapsRowed Try.pinned.checked.prog : Bool) = true := by kernel_rfl
theorem fnExactKeptUntil_q3 : (Try.f14.params.all (Try.pinned.checked.prog.readableRec ·) : Bool) = true := by kernel_rfl
theorem fnExactKeptUntil_q4 : (namedTie Try.pinned.checked.prog Rows.fnExactKeptUntilRow.named Rows.fnExactKeptUntilSpec.vars : Bool) = true := by kernel_rfl
theorem fnExactKeptUntil_q5 : ((Rows.fnExactKeptUntilRow.stops == []) : Bool) = true := by kernel_rfl
theorem fnExactKeptUntil_q6 : ((Try.pinned.checked.prog.stops == []) : Bool) = true := by kernel_rfl
theorem fnExactKeptUntil_q7 : ((Rows.fnExactKeptUntilRow.knobs == []) : Bool) = true := by kernel_rfl
theorem fnExactKeptUntil_q8 : ((Try.pinned.checked.prog.stopKnobs == []) : Bool) = true := by kernel_rfl
theorem fnExactKeptUntil_q9 : ((Rows.fnExactKeptUntilRow.inPlace == Try.pinned.checked.prog.inPlace 14) : Bool) = true := by kernel_rfl
theorem fnExactKeptUntil_q10 : ((Rows.fnExactKeptUntilRow.unfollowed == Try.pinned.checked.prog.unfollowed 14) : Bool) = true := by kernel_rfl
theorem fnExactKeptUntil_q11 : ((Rows.fnExactKeptUntilRow.recurses == Try.pinned.checked.prog.recurses 14) : Bool) = true := by kernel_rfl
theorem fnExactKeptUntil_q12 : ((Rows.fnExactKeptUntilRow.named == Try.pinned.checked.prog.varsNamed 14) : Bool) = true := by kernel_rfl
theorem fnExactKeptUntil_q13 : ((Rows.fnExactKeptUntilRow.maps == (Try.f14.params.toList ++ Rows.fnExactKeptUntilSpec.plain.varTypes Try.pinned.checked.prog).any (Try.pinned.checked.prog.mapsRec ·)) : Bool) = true := by kernel_rfl
theorem fnExactKeptUntil_q14 : ((Rows.fnExactKeptUntilRow.ifaces == (Try.f14.params.toList ++ Rows.fnExactKeptUntilSpec.plain.varTypes Try.pinned.checked.prog).any (Try.pinned.checked.prog.ifacesRec ·)) : Bool) = true := by kernel_rfl
theorem fnExactKeptUntil_q15 : ((Rows.fnExactKeptUntilRow.mapsOut == Try.pinned.checked.prog.mapsAmong Try.f14.resultTypes.toList) : Bool) = true := by kernel_rfl
theorem fnExactKeptUntil_q16 : ((Rows.fnExactKeptUntilRow.loops == (Try.f14.params.toList ++ Rows.fnExactKeptUntilSpec.plain.varTypes Try.pinned.checked.prog).any (Try.pinned.checked.prog.loopsFrom ·)) : Bool) = true := by kernel_rfl
theorem fnExactKeptUntil_q17 : ((Rows.fnExactKeptUntilRow.wideKeys == (Try.f14.params.toList ++ Rows.fnExactKeptUntilSpec.plain.varTypes Try.pinned.checked.prog ++ Try.f14.resultTypes.toList).any (Try.pinned.checked.prog.wideKeysFrom ·)) : Bool) = true := by kernel_rfl
theorem fnExactKeptUntil_q18 : (Rows.fnExactKeptUntilSpec.vars.all (Try.pinned.checked.prog.varReadable ·) : Bool) = true := by kernel_rfl
theorem fnExactKeptUntil_q19 : (Try.f14.resultTypes.all (fun t => Try.pinned.checked.prog.readableRec t && decide (t < Try.pinned.checked.prog.types.size)) : Bool) = true := by kernel_rfl
theorem fnExactKeptUntil_q20 : ((Rows.fnExactKeptUntilRow.ifacesOut == Try.f14.resultTypes.toList.any (Try.pinned.checked.prog.ifacesRec ·)) : Bool) = true := by kernel_rfl
theorem fnExactKeptUntil_q21 : ((Rows.fnExactKeptUntilRow.loopsOut == Try.f14.resultTypes.toList.any (Try.pinned.checked.prog.loopsFrom ·)) : Bool) = true := by kernel_rfl
theorem fnExactKeptUntil_q22 : ((Rows.fnExactKeptUntilRow.plainKeys == Try.pinned.checked.prog.plainKeys) : Bool) = true := by kernel_rfl
theorem fnExactKeptUntil_q23 : (Rows.fnExactKeptUntilRow.shortTexts.isNone : Bool) = true := by kernel_rfl
theorem fnExactKeptUntil_q24 : (Try.pinned.checked.prog.stopsHeard : Bool) = true := by kernel_rfl
theorem fnExactKeptUntil_q25 : (Try.pinned.checked.prog.mayEnter : Bool) = true := by kernel_rfl
theorem fnExactKeptUntil_q26 : ((Rows.fnExactKeptUntilRow.lifted == Try.pinned.checked.prog.liftsFinal) : Bool) = true := by kernel_rfl
theorem fnExactKeptUntil_q27 : ((Try.pinned.checked.prog.make == some Rows.fnExactKeptUntilRow.make) : Bool) = true := by kernel_rfl
theorem fnExactKeptUntil_q28 : ((Rows.fnExactKeptUntilRow.kinds == (if Rows.fnExactKeptUntilRow.domain.isEmpty then [] else Try.f14.params.toList.map fun t => match Try.pinned.checked.prog.underlying t with | some (.int k) => some k | _ => none)) : Bool) = true := by kernel_rfl
theorem fnExactKeptUntil_q29 : ((Rows.fnExactKeptUntilRow.pinned == Rows.fnExactKeptUntilRow.pinnedBy) : Bool) = true := by kernel_rfl
theorem fnExactKeptUntil_q30 : ((Rows.fnExactKeptUntilRow.veiled == (Try.f14.params.toList ++ Rows.fnExactKeptUntilSpec.plain.varTypes Try.pinned.checked.prog ++ Try.f14.resultTypes.toList).any (Try.pinned.checked.prog.veiledRec ·)) : Bool) = true := by kernel_rfl
theorem fnExactKeptUntil_q31 : (Rows.fnExactKeptUntilRow.veiledFits Try.pinned.checked.prog Try.f14.params.toList (Try.f14.params.toList ++ Rows.fnExactKeptUntilSpec.plain.varTypes Try.pinned.checked.prog ++ Try.f14.resultTypes.toList) : Bool) = true := by kernel_rfl
set_option maxRecDepth 100000 in
theorem fnExactKeptUntil_joined : joinedFacts Try.pinned.checked.prog 14 Try.f14 Rows.fnExactKeptUntilSpec Rows.fnExactKeptUntilRow = true :=
  (and_mk (and_mk (and_mk (and_mk (and_mk (and_mk (and_mk (and_mk (and_mk (and_mk (and_mk (and_mk (and_mk (and_mk (and_mk (and_mk (and_mk (and_mk (and_mk (and_mk (and_mk (and_mk (and_mk (and_mk (and_mk (and_mk (and_mk (and_mk (and_mk (and_mk (and_mk fnExactKeptUntil_q0 fnExactKeptUntil_q1) fnExactKeptUntil_q2) fnExactKeptUntil_q3) fnExactKeptUntil_q4) fnExactKeptUntil_q5) fnExactKeptUntil_q6) fnExactKeptUntil_q7) fnExactKeptUntil_q8) fnExactKeptUntil_q9) fnExactKeptUntil_q10) fnExactKeptUntil_q11) fnExactKeptUntil_q12) fnExactKeptUntil_q13) fnExactKeptUntil_q14) fnExactKeptUntil_q15) fnExactKeptUntil_q16) fnExactKeptUntil_q17) fnExactKeptUntil_q18) fnExactKeptUntil_q19) fnExactKeptUntil_q20) fnExactKeptUntil_q21) fnExactKeptUntil_q22) fnExactKeptUntil_q23) fnExactKeptUntil_q24) fnExactKeptUntil_q25) fnExactKeptUntil_q26) fnExactKeptUntil_q27) fnExactKeptUntil_q28) fnExactKeptUntil_q29) fnExactKeptUntil_q30) fnExactKeptUntil_q31)
theorem fnExactKeptUntil_holds : Rows.FnExactKeptUntilSaid :=
  OpenClaim.holds_of_wide 14 Try.f14 rfl rfl rfl rfl rfl rfl rfl ⟨rfl, rfl, rfl, rfl, rfl⟩ rfl rfl rfl rfl rfl (by kernel_rfl) Try.func14 fnExactKeptUntil_joined
    (of_decide_eq_true (by kernel_rfl)) (by unfold Func.isWrapper; first | (rw [if_pos (by decide +kernel)]; kernel_rfl) | (rw [if_neg (by decide +kernel)]; exact ⟨rfl, rfl⟩))
    (fun os started H enc _ => fnExactKeptUntil_lifted os started H enc)
end Go.Proofs.Ytpgkddboibiafaa
