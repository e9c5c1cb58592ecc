/- FnExactRootFor: each law function of these statements answers true, for all arguments that can be read. Conditions: none. -/
import Derived.Test.YtdnmahkbhobooaaRows
import Derived.Test.YtdnmahkbhobooaaW26
namespace Go.Proofs.Ytdnmahkbhobooaa
open Go.ChangeShapes Go.WideShapes Go.ChangeAt Go.RowKit

theorem Try.own : ownKnob Try.prog.godebug = none := by kernel_rfl
theorem Try.laidOut : laidOutB Try.prog = true := by kernel_rfl
theorem and_mk {a b : Bool} (h : a = true) (k : b = true) : (a && b) = true := by rw [h, k]; rfl
set_option maxRecDepth 100000 in
theorem fnExactRootFor_lifted (os : Os) (started : os.Started) (H : Type) (enc : TypeId × Value → H) :
    ReturnsInHanded {} Try.checked os 6 .any (Rows.fnExactRootForSpec.pre6 enc Try.prog Try.f6 Rows.fnExactRootForRow.domain false) (Rows.fnExactRootForSpec.post enc Try.prog Try.f6 false true false false) := by
  refine returnsInHanded_of_change (C := Try.checked) Try.own started (by kernel_rfl) Try.func6
    (ChangeSpec.witness6 (enc := enc) (C := Try.checked) false ⟨#[], #[.agg #[.int .i64 0, .slice none 0 0], .int .i64 0], []⟩ 12 (by kernel_rfl) (by kernel_rfl) (by kernel_rfl) (by kernel_rfl)) ?_
  intro W base args ds gs before hval0 hW hcnd _
  have hval : ∀ (j : Nat) t v, Try.f6.params[j]? = some t → args[j]? = some v → Value.okWide Try.prog W .any base t v := hval0
  have hW' := hW
  obtain ⟨p, q, hA0, hV, rfl, hfz, hnd⟩ := hW
  have hA : DataW.TrodAll enc Try.prog W 0 (fun _ => true) true Try.f6.params.toList args.toList ds p := hA0
  obtain ⟨rfl, rfl⟩ := trodVars_none hV
  have hlen : ds.length = 2 := Fw.trodAll_len hA
  rcases ds with _ | ⟨d1, _ | ⟨d2, _ | ⟨d3, ds⟩⟩⟩ <;> first | (simp at hlen; done) | skip
  refine (Fw.yes_call Fw.F6_ok (fun _ _ => trivial) (fun _ _ => rfl) (ts := Try.f6.params.toList) (by kernel_rfl) hA (fun j t v h1 h2 => hval j t v (by simpa using h1) (by simpa using h2))).mono fun e W' ⟨he, hfr⟩ => ?_
  subst he
  exact ⟨_, rfl, Fw.post_yes Try.laidOut (by kernel_rfl) rfl rfl rfl Try.underlying4 hW' hfr⟩

theorem fnExactRootFor_q0 : (Rows.fnExactRootForRow.wf (OpenSpec.ofChange Rows.fnExactRootForSpec) : Bool) = true := by kernel_rfl
theorem fnExactRootFor_q1 : (laidOutB Try.pinned.checked.prog : Bool) = true := by kernel_rfl
theorem fnExactRootFor_q2 : (mapsRowed Try.pinned.checked.prog : Bool) = true := by kernel_rfl
theorem fnExactRootFor_q3 : (Try.f6.params.all (Try.pinned.checked.prog.readableRec ·) : Bool) = true := by kernel_rfl
theorem fnExactRootFor_q4 : (namedTie Try.pinned.checked.prog Rows.fnExactRootForRow.named Rows.fnExactRootForSpec.vars : Bool) = true := by kernel_rfl
theorem fnExactRootFor_q5 : ((Rows.fnExactRootForRow.stops == []) : Bool) = true := by kernel_rfl
theorem fnExactRootFor_q6 : ((Try.pinned.checked.prog.stops == []) : Bool) = true := by kernel_rfl
theorem fnExactRootFor_q7 : ((Rows.fnExactRootForRow.knobs == []) : Bool) = true := by kernel_rfl
theorem fnExactRootFor_q8 : ((Try.pinned.checked.prog.stopKnobs == []) : Bool) = true := by kernel_rfl
theorem fnExactRootFor_q9 : ((Rows.fnExactRootForRow.inPlace == Try.pinned.checked.prog.inPlace 6) : Bool) = true := by kernel_rfl
theorem fnExactRootFor_q10 : ((Rows.fnExactRootForRow.unfollowed == Try.pinned.checked.prog.unfollowed 6) : Bool) = true := by kernel_rfl
theorem fnExactRootFor_q11 : ((Rows.fnExactRootForRow.recurses == Try.pinned.checked.prog.recurses 6) : Bool) = true := by kernel_rfl
theorem fnExactRootFor_q12 : ((Rows.fnExactRootForRow.named == Try.pinned.checked.prog.varsNamed 6) : Bool) = true := by kernel_rfl
theorem fnExactRootFor_q13 : ((Rows.fnExactRootForRow.maps == (Try.f6.params.toList ++ Rows.fnExactRootForSpec.plain.varTypes Try.pinned.checked.prog).any (Try.pinned.checked.prog.mapsRec ·)) : Bool) = true := by kernel_rfl
theorem fnExactRootFor_q14 : ((Rows.fnExactRootForRow.ifaces == (Try.f6.params.toList ++ Rows.fnExactRootForSpec.plain.varTypes Try.pinned.checked.prog).any (Try.pinned.checked.prog.ifacesRec ·)) : Bool) = true := by kernel_rfl
theorem fnExactRootFor_q15 : ((Rows.fnExactRootForRow.mapsOut == Try.pinned.checked.prog.mapsAmong Try.f6.resultTypes.toList) : Bool) = true := by kernel_rfl
theorem fnExactRootFor_q16 : ((Rows.fnExactRootForRow.loops == (Try.f6.params.toList ++ Rows.fnExactRootForSpec.plain.varTypes Try.pinned.checked.prog).any (Try.pinned.checked.prog.loopsFrom ·)) : Bool) = true := by kernel_rfl
theorem fnExactRootFor_q17 : ((Rows.fnExactRootForRow.wideKeys == (Try.f6.params.toList ++ Rows.fnExactRootForSpec.plain.varTypes Try.pinned.checked.prog ++ Try.f6.resultTypes.toList).any (Try.pinned.checked.prog.wideKeysFrom ·)) : Bool) = true := by kernel_rfl
theorem fnExactRootFor_q18 : (Rows.fnExactRootForSpec.vars.all (Try.pinned.checked.prog.varReadable ·) : Bool) = true := by kernel_rfl
theorem fnExactRootFor_q19 : (Try.f6.resultTypes.all (fun t => Try.pinned.checked.prog.readableRec t && decide (t < Try.pinned.checked.prog.types.size)) : Bool) = true := by kernel_rfl
theorem fnExactRootFor_q20 : ((Rows.fnExactRootForRow.ifacesOut == Try.f6.resultTypes.toList.any (Try.pinned.checked.prog.ifacesRec ·)) : Bool) = true := by kernel_rfl
theorem fnExactRootFor_q21 : ((Rows.fnExactRootForRow.loopsOut == Try.f6.resultTypes.toList.any (Try.pinned.checked.prog.loopsFrom ·)) : Bool) = true := by kernel_rfl
theorem fnExactRootFor_q22 : ((Rows.fnExactRootForRow.plainKeys == Try.pinned.checked.prog.plainKeys) : Bool) = true := by kernel_rfl
theorem fnExactRootFor_q23 : (Rows.fnExactRootForRow.shortTexts.isNone : Bool) = true := by kernel_rfl
theorem fnExactRootFor_q24 : (Try.pinned.checked.prog.stopsHeard : Bool) = true := by kernel_rfl
theorem fnExactRootFor_q25 : (Try.pinned.checked.prog.mayEnter : Bool) = true := by kernel_rfl
theorem fnExactRootFor_q26 : ((Rows.fnExactRootForRow.lifted == Try.pinned.checked.prog.liftsFinal) : Bool) = true := by kernel_rfl
theorem fnExactRootFor_q27 : ((Try.pinned.checked.prog.make == some Rows.fnExactRootForRow.make) : Bool) = true := by kernel_rfl
theorem fnExactRootFor_q28 : ((Rows.fnExactRootForRow.kinds == (if Rows.fnExactRootForRow.domain.isEmpty then [] else Try.f6.params.toList.map fun t => match Try.pinned.checked.prog.underlying t with | some (.int k) => some k | _ => none)) : Bool) = true := by kernel_rfl
theorem fnExactRootFor_q29 : ((Rows.fnExactRootForRow.pinned == Rows.fnExactRootForRow.pinnedBy) : Bool) = true := by kernel_rfl
theorem fnExactRootFor_q30 : ((Rows.fnExactRootForRow.veiled == (Try.f6.params.toList ++ Rows.fnExactRootForSpec.plain.varTypes Try.pinned.checked.prog ++ Try.f6.resultTypes.toList).any (Try.pinned.checked.prog.veiledRec ·)) : Bool) = true := by kernel_rfl
theorem fnExactRootFor_q31 : (Rows.fnExactRootForRow.veiledFits Try.pinned.checked.prog Try.f6.params.toList (Try.f6.params.toList ++ Rows.fnExactRootForSpec.plain.varTypes Try.pinned.checked.prog ++ Try.f6.resultTypes.toList) : Bool) = true := by kernel_rfl
set_option maxRecDepth 100000 in
theorem fnExactRootFor_joined : joinedFacts Try.pinned.checked.prog 6 Try.f6 Rows.fnExactRootForSpec Rows.fnExactRootForRow = true :=
  (and_mk (and_mk (and_mk (and_mk (and_mk (and_mk (and_mk (and_mk (and_mk (and_mk (and_mk (and_mk (and_mk (and_mk (and_mk (and_mk (and_mk (and_mk (and_mk (and_mk (and_mk (and_mk (and_mk (and_mk (and_mk (and_mk (and_mk (and_mk (and_mk (and_mk (and_mk fnExactRootFor_q0 fnExactRootFor_q1) fnExactRootFor_q2) fnExactRootFor_q3) fnExactRootFor_q4) fnExactRootFor_q5) fnExactRootFor_q6) fnExactRootFor_q7) fnExactRootFor_q8) fnExactRootFor_q9) fnExactRootFor_q10) fnExactRootFor_q11) fnExactRootFor_q12) fnExactRootFor_q13) fnExactRootFor_q14) fnExactRootFor_q15) fnExactRootFor_q16) fnExactRootFor_q17) fnExactRootFor_q18) fnExactRootFor_q19) fnExactRootFor_q20) fnExactRootFor_q21) fnExactRootFor_q22) fnExactRootFor_q23) fnExactRootFor_q24) fnExactRootFor_q25) fnExactRootFor_q26) fnExactRootFor_q27) fnExactRootFor_q28) fnExactRootFor_q29) fnExactRootFor_q30) fnExactRootFor_q31)
theorem fnExactRootFor_holds : Rows.FnExactRootForSaid :=
  OpenClaim.holds_of_wide 6 Try.f6 rfl rfl rfl rfl rfl rfl rfl ⟨rfl, rfl, rfl, rfl, rfl⟩ rfl rfl rfl rfl rfl (by kernel_rfl) Try.func6 fnExactRootFor_joined
    (of_decide_eq_true (by kernel_rfl)) (by unfold Func.isWrapper; first | (rw [if_pos (by decide +kernel)]; kernel_rfl) | (rw [if_neg (by decide +kernel)]; exact ⟨rfl, rfl⟩))
    (fun os started H enc _ => fnExactRootFor_lifted os started H enc)
end Go.Proofs.Ytdnmahkbhobooaa
