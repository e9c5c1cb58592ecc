/- FnExactCertFor: each law function of these statements answers true, for all arguments that can be read. Conditions: none. -/
import Derived.Test.YtpgkddboibiafaaRows
import Derived.Test.YtpgkddboibiafaaW11
namespace Go.Proofs.Ytpgkddboibiafaa
open Go.ChangeShapes Go.WideShapes Go.ChangeAt Go.RowKit

theorem Try.own : ownKnob Try.prog.godebug = none := by kernel_rfl
theorem Try.laidOut : laidOutB Try.prog = true := by kernel_rfl
theorem and_mk {a b : Bool} (h : a = true) (k : b = true) : (a && b) = true := by rw [h, k]; rfl
set_option maxRecDepth 100000 in
theorem fnExactCertFor_lifted (os : Os) (started : os.Started) (H : Type) (enc : TypeId × Value → H) :
    ReturnsInHanded {} Try.checked os 7 .any (Rows.fnExactCertForSpec.pre6 enc Try.prog Try.f7 Rows.fnExactCertForRow.domain false) (Rows.fnExactCertForSpec.post enc Try.prog Try.f7 false true false false) := by
  refine returnsInHanded_of_change (C := Try.checked) Try.own started (by kernel_rfl) Try.func7
    (ChangeSpec.witness6 (enc := enc) (C := Try.checked) false ⟨#[], #[.agg #[.slice none 0 0, .slice none 0 0, .slice none 0 0, .int .i64 0, .int .i64 0], .slice none 0 0, .agg #[.int .i64 0, .int .i64 0, .int .i64 0, .int .i64 0, .int .i64 0, .int .i64 0, .int .i64 0, .int .i64 0, .int .i64 0]], []⟩ 12 (by kernel_rfl) (by kernel_rfl) (by kernel_rfl) (by kernel_rfl)) ?_
  intro W base args ds gs before hval0 hW hcnd _
  have hval : ∀ (j : Nat) t v, Try.f7.params[j]? = some t → args[j]? = some v → Value.okWide Try.prog W .any base t v := hval0
  have hW' := hW
  obtain ⟨p, q, hA0, hV, rfl, hfz, hnd⟩ := hW
  have hA : DataW.TrodAll enc Try.prog W 0 (fun _ => true) true Try.f7.params.toList args.toList ds p := hA0
  obtain ⟨rfl, rfl⟩ := trodVars_none hV
  have hlen : ds.length = 3 := Fw.trodAll_len hA
  rcases ds with _ | ⟨d1, _ | ⟨d2, _ | ⟨d3, _ | ⟨d4, ds⟩⟩⟩⟩ <;> first | (simp at hlen; done) | skip
  refine (Fw.yes_call Fw.F7_ok (fun _ _ => trivial) (fun _ _ => rfl) (ts := Try.f7.params.toList) (by kernel_rfl) hA (fun j t v h1 h2 => hval j t v (by simpa using h1) (by simpa using h2))).mono fun e W' ⟨he, hfr⟩ => ?_
  subst he
  exact ⟨_, rfl, Fw.post_yes Try.laidOut (by kernel_rfl) rfl rfl rfl Try.underlying4 hW' hfr⟩

theorem fnExactCertFor_q0 : (Rows.fnExactCertForRow.wf (OpenSpec.ofChange Rows.fnExactCertForSpec) : Bool) = true := by kernel_rfl
theorem fnExactCertFor_q1 : (laidOutB Try.pinned.checked.prog : Bool) = true := by kernel_rfl
theorem fnExactCertFor_q2 : (mapsRowed Try.pinned.checked.prog : Bool) = true := by kernel_rfl
theorem fnExactCertFor_q3 : (Try.f7.params.all (Try.pinned.checked.prog.readableRec ·) : Bool) = true := by kernel_rfl
theorem fnExactCertFor_q4 : (namedTie Try.pinned.checked.prog Rows.fnExactCertForRow.named Rows.fnExactCertForSpec.vars : Bool) = true := by kernel_rfl
theorem fnExactCertFor_q5 : ((Rows.fnExactCertForRow.stops == []) : Bool) = true := by kernel_rfl
theorem fnExactCertFor_q6 : ((Try.pinned.checked.prog.stops == []) : Bool) = true := by kernel_rfl
theorem fnExactCertFor_q7 : ((Rows.fnExactCertForRow.knobs == []) : Bool) = true := by kernel_rfl
theorem fnExactCertFor_q8 : ((Try.pinned.checked.prog.stopKnobs == []) : Bool) = true := by kernel_rfl
theorem fnExactCertFor_q9 : ((Rows.fnExactCertForRow.inPlace == Try.pinned.checked.prog.inPlace 7) : Bool) = true := by kernel_rfl
theorem fnExactCertFor_q10 : ((Rows.fnExactCertForRow.unfollowed == Try.pinned.checked.prog.unfollowed 7) : Bool) = true := by kernel_rfl
theorem fnExactCertFor_q11 : ((Rows.fnExactCertForRow.recurses == Try.pinned.checked.prog.recurses 7) : Bool) = true := by kernel_rfl
theorem fnExactCertFor_q12 : ((Rows.fnExactCertForRow.named == Try.pinned.checked.prog.varsNamed 7) : Bool) = true := by kernel_rfl
theorem fnExactCertFor_q13 : ((Rows.fnExactCertForRow.maps == (Try.f7.params.toList ++ Rows.fnExactCertForSpec.plain.varTypes Try.pinned.checked.prog).any (Try.pinned.checked.prog.mapsRec ·)) : Bool) = true := by kernel_rfl
theorem fnExactCertFor_q14 : ((Rows.fnExactCertForRow.ifaces == (Try.f7.params.toList ++ Rows.fnExactCertForSpec.plain.varTypes Try.pinned.checked.prog).any (Try.pinned.checked.prog.ifacesRec ·)) : Bool) = true := by kernel_rfl
theorem fnExactCertFor_q15 : ((Rows.fnExactCertForRow.mapsOut == Try.pinned.checked.prog.mapsAmong Try.f7.resultTypes.toList) : Bool) = true := by kernel_rfl
theorem fnExactCertFor_q16 : ((Rows.fnExactCertForRow.loops == (Try.f7.params.toList ++ Rows.fnExactCertForSpec.plain.varTypes Try.pinned.checked.prog).any (Try.pinned.checked.prog.loopsFrom ·)) : Bool) = true := by kernel_rfl
theorem fnExactCertFor_q17 : ((Rows.fnExactCertForRow.wideKeys == (Try.f7.params.toList ++ Rows.fnExactCertForSpec.plain.varTypes Try.pinned.checked.prog ++ Try.f7.resultTypes.toList).any (Try.pinned.checked.prog.wideKeysFrom ·)) : Bool) = true := by kernel_rfl
theorem fnExactCertFor_q18 : (Rows.fnExactCertForSpec.vars.all (Try.pinned.checked.prog.varReadable ·) : Bool) = true := by kernel_rfl
theorem fnExactCertFor_q19 : (Try.f7.resultTypes.all (fun t => Try.pinned.checked.prog.readableRec t && decide (t < Try.pinned.checked.prog.types.size)) : Bool) = true := by kernel_rfl
theorem fnExactCertFor_q20 : ((Rows.fnExactCertForRow.ifacesOut == Try.f7.resultTypes.toList.any (Try.pinned.checked.prog.ifacesRec ·)) : Bool) = true := by kernel_rfl
theorem fnExactCertFor_q21 : ((Rows.fnExactCertForRow.loopsOut == Try.f7.resultTypes.toList.any (Try.pinned.checked.prog.loopsFrom ·)) : Bool) = true := by kernel_rfl
theorem fnExactCertFor_q22 : ((Rows.fnExactCertForRow.plainKeys == Try.pinned.checked.prog.plainKeys) : Bool) = true := by kernel_rfl
theorem fnExactCertFor_q23 : (Rows.fnExactCertForRow.shortTexts.isNone : Bool) = true := by kernel_rfl
theorem fnExactCertFor_q24 : (Try.pinned.checked.prog.stopsHeard : Bool) = true := by kernel_rfl
theorem fnExactCertFor_q25 : (Try.pinned.checked.prog.mayEnter : Bool) = true := by kernel_rfl
theorem fnExactCertFor_q26 : ((Rows.fnExactCertForRow.lifted == Try.pinned.checked.prog.liftsFinal) : Bool) = true := by kernel_rfl
theorem fnExactCertFor_q27 : ((Try.pinned.checked.prog.make == some Rows.fnExactCertForRow.make) : Bool) = true := by kernel_rfl
theorem fnExactCertFor_q28 : ((Rows.fnExactCertForRow.kinds == (if Rows.fnExactCertForRow.domain.isEmpty then [] else Try.f7.params.toList.map fun t => match Try.pinned.checked.prog.underlying t with | some (.int k) => some k | _ => none)) : Bool) = true := by kernel_rfl
theorem fnExactCertFor_q29 : ((Rows.fnExactCertForRow.pinned == Rows.fnExactCertForRow.pinnedBy) : Bool) = true := by kernel_rfl
theorem fnExactCertFor_q30 : ((Rows.fnExactCertForRow.veiled == (Try.f7.params.toList ++ Rows.fnExactCertForSpec.plain.varTypes Try.pinned.checked.prog ++ Try.f7.resultTypes.toList).any (Try.pinned.checked.prog.veiledRec ·)) : Bool) = true := by kernel_rfl
theorem fnExactCertFor_q31 : (Rows.fnExactCertForRow.veiledFits Try.pinned.checked.prog Try.f7.params.toList (Try.f7.params.toList ++ Rows.fnExactCertForSpec.plain.varTypes Try.pinned.checked.prog ++ Try.f7.resultTypes.toList) : Bool) = true := by kernel_rfl
set_option maxRecDepth 100000 in
theorem fnExactCertFor_joined : joinedFacts Try.pinned.checked.prog 7 Try.f7 Rows.fnExactCertForSpec Rows.fnExactCertForRow = true :=
  (and_mk (and_mk (and_mk (and_mk (and_mk (and_mk (and_mk (and_mk (and_mk (and_mk (and_mk (and_mk (and_mk (and_mk (and_mk (and_mk (and_mk (and_mk (and_mk (and_mk (and_mk (and_mk (and_mk (and_mk (and_mk (and_mk (and_mk (and_mk (and_mk (and_mk (and_mk fnExactCertFor_q0 fnExactCertFor_q1) fnExactCertFor_q2) fnExactCertFor_q3) fnExactCertFor_q4) fnExactCertFor_q5) fnExactCertFor_q6) fnExactCertFor_q7) fnExactCertFor_q8) fnExactCertFor_q9) fnExactCertFor_q10) fnExactCertFor_q11) fnExactCertFor_q12) fnExactCertFor_q13) fnExactCertFor_q14) fnExactCertFor_q15) fnExactCertFor_q16) fnExactCertFor_q17) fnExactCertFor_q18) fnExactCertFor_q19) fnExactCertFor_q20) fnExactCertFor_q21) fnExactCertFor_q22) fnExactCertFor_q23) fnExactCertFor_q24) fnExactCertFor_q25) fnExactCertFor_q26) fnExactCertFor_q27) fnExactCertFor_q28) fnExactCertFor_q29) fnExactCertFor_q30) fnExactCertFor_q31)
theorem fnExactCertFor_holds : Rows.FnExactCertForSaid :=
  OpenClaim.holds_of_wide 7 Try.f7 rfl rfl rfl rfl rfl rfl rfl ⟨rfl, rfl, rfl, rfl, rfl⟩ rfl rfl rfl rfl rfl (by kernel_rfl) Try.func7 fnExactCertFor_joined
    (of_decide_eq_true (by kernel_rfl)) (by unfold Func.isWrapper; first | (rw [if_pos (by decide +kernel)]; kernel_rfl) | (rw [if_neg (by decide +kernel)]; exact ⟨rfl, rfl⟩))
    (fun os started H enc _ => fnExactCertFor_lifted os started H enc)
end Go.Proofs.Ytpgkddboibiafaa
