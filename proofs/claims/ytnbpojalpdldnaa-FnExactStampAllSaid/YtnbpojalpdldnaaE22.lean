/- FnExactStampAll: each law function of these statements answers true, for all arguments that can be read. Conditions: none. -/
import Derived.Test.YtnbpojalpdldnaaRows
import Derived.Test.YtnbpojalpdldnaaW22
namespace Go.Proofs.Ytnbpojalpdldnaa
open Go.ChangeShapes Go.WideShapes Go.ChangeAt Go.RowKit

theorem Try.own : ownKnob Try.prog.godebug = none := by kernel_rfl
theorem Try.laidOut : laidOutB Try.prog = true := by kernel_rfl
theorem and_mk {a b : Bool} (h : a = true) (k : b = true) : (a && b) = true := by rw [h, k]; rfl
set_option maxRecDepth 100000 in
theorem fnExactStampAll_lifted (os : Os) (started : os.Started) (H : Type) (enc : TypeId × Value → H) :
    ReturnsInHanded {} Try.checked os 6 .any (Rows.fnExactStampAllSpec.pre6 enc Try.prog Try.f6 Rows.fnExactStampAllRow.domain false) (Rows.fnExactStampAllSpec.post enc Try.prog Try.f6 false true false false) := by
  refine returnsInHanded_of_change (C := Try.checked) Try.own started (by kernel_rfl) Try.func6
    (ChangeSpec.witness6 (enc := enc) (C := Try.checked) false ⟨#[], #[.slice none 0 0, .slice none 0 0, .slice none 0 0, .int .i64 0, .slice none 0 0, .int .i64 0], []⟩ 12 (by kernel_rfl) (by kernel_rfl) (by kernel_rfl) (by kernel_rfl)) ?_
  intro W base args ds gs before hval0 hW hcnd _
  have hval : ∀ (j : Nat) t v, Try.f6.params[j]? = some t → args[j]? = some v → Value.okWide Try.prog W .any base t v := hval0
  have hW' := hW
  obtain ⟨p, q, hA0, hV, rfl, hfz, hnd⟩ := hW
  have hA : DataW.TrodAll enc Try.prog W 0 (fun _ => true) true Try.f6.params.toList args.toList ds p := hA0
  obtain ⟨rfl, rfl⟩ := trodVars_none hV
  have hlen : ds.length = 6 := Fw.trodAll_len hA
  rcases ds with _ | ⟨d1, _ | ⟨d2, _ | ⟨d3, _ | ⟨d4, _ | ⟨d5, _ | ⟨d6, _ | ⟨d7, ds⟩⟩⟩⟩⟩⟩⟩ <;> first | (simp at hlen; done) | skip
  refine (Fw.yes_call Fw.F6_ok (fun _ _ => trivial) (fun _ _ => rfl) (ts := Try.f6.params.toList) (by kernel_rfl) hA (fun j t v h1 h2 => hval j t v (by simpa using h1) (by simpa using h2))).mono fun e W' ⟨he, hfr⟩ => ?_
  subst he
  exact ⟨_, rfl, Fw.post_yes Try.laidOut (by kernel_rfl) rfl rfl rfl Try.underlying4 hW' hfr⟩

theorem fnExactStampAll_q0 : (Rows.fnExactStampAllRow.wf (OpenSpec.ofChange Rows.fnExactStampAllSpec) : Bool) = true := by kernel_rfl
theorem fnExactStampAll_q1 : (laidOutB Try.pinned.checked.prog : Bool) = true := by kernel_rfl
theorem fnExactStampAll_q2 : (mapsRowed Try.pinned.checked.prog : Bool) = true := by kernel_rfl
theorem fnExactStampAll_q3 : (Try.f6.params.all (Try.pinned.checked.prog.readableRec ·) : Bool) = true := by kernel_rfl
theorem fnExactStampAll_q4 : (namedTie Try.pinned.checked.prog Rows.fnExactStampAllRow.named Rows.fnExactStampAllSpec.vars : Bool) = true := by kernel_rfl
theorem fnExactStampAll_q5 : ((Rows.fnExactStampAllRow.stops == []) : Bool) = true := by kernel_rfl
theorem fnExactStampAll_q6 : ((Try.pinned.checked.prog.stops == []) : Bool) = true := by kernel_rfl
theorem fnExactStampAll_q7 : ((Rows.fnExactStampAllRow.knobs == []) : Bool) = true := by kernel_rfl
theorem fnExactStampAll_q8 : ((Try.pinned.checked.prog.stopKnobs == []) : Bool) = true := by kernel_rfl
theorem fnExactStampAll_q9 : ((Rows.fnExactStampAllRow.inPlace == Try.pinned.checked.prog.inPlace 6) : Bool) = true := by kernel_rfl
theorem fnExactStampAll_q10 : ((Rows.fnExactStampAllRow.unfollowed == Try.pinned.checked.prog.unfollowed 6) : Bool) = true := by kernel_rfl
theorem fnExactStampAll_q11 : ((Rows.fnExactStampAllRow.recurses == Try.pinned.checked.prog.recurses 6) : Bool) = true := by kernel_rfl
theorem fnExactStampAll_q12 : ((Rows.fnExactStampAllRow.named == Try.pinned.checked.prog.varsNamed 6) : Bool) = true := by kernel_rfl
theorem fnExactStampAll_q13 : ((Rows.fnExactStampAllRow.maps == (Try.f6.params.toList ++ Rows.fnExactStampAllSpec.plain.varTypes Try.pinned.checked.prog).any (Try.pinned.checked.prog.mapsRec ·)) : Bool) = true := by kernel_rfl
theorem fnExactStampAll_q14 : ((Rows.fnExactStampAllRow.ifaces == (Try.f6.params.toList ++ Rows.fnExactStampAllSpec.plain.varTypes Try.pinned.checked.prog).any (Try.pinned.checked.prog.ifacesRec ·)) : Bool) = true := by kernel_rfl
theorem fnExactStampAll_q15 : ((Rows.fnExactStampAllRow.mapsOut == Try.pinned.checked.prog.mapsAmong Try.f6.resultTypes.toList) : Bool) = true := by kernel_rfl
theorem fnExactStampAll_q16 : ((Rows.fnExactStampAllRow.loops == (Try.f6.params.toList ++ Rows.fnExactStampAllSpec.plain.varTypes Try.pinned.checked.prog).any (Try.pinned.checked.prog.loopsFrom ·)) : Bool) = true := by kernel_rfl
theorem fnExactStampAll_q17 : ((Rows.fnExactStampAllRow.wideKeys == (Try.f6.params.toList ++ Rows.fnExactStampAllSpec.plain.varTypes Try.pinned.checked.prog ++ Try.f6.resultTypes.toList).any (Try.pinned.checked.prog.wideKeysFrom ·)) : Bool) = true := by kernel_rfl
theorem fnExactStampAll_q18 : (Rows.fnExactStampAllSpec.vars.all (Try.pinned.checked.prog.varReadable ·) : Bool) = true := by kernel_rfl
theorem fnExactStampAll_q19 : (Try.f6.resultTypes.all (fun t => Try.pinned.checked.prog.readableRec t && decide (t < Try.pinned.checked.prog.types.size)) : Bool) = true := by kernel_rfl
theorem fnExactStampAll_q20 : ((Rows.fnExactStampAllRow.ifacesOut == Try.f6.resultTypes.toList.any (Try.pinned.checked.prog.ifacesRec ·)) : Bool) = true := by kernel_rfl
theorem fnExactStampAll_q21 : ((Rows.fnExactStampAllRow.loopsOut == Try.f6.resultTypes.toList.any (Try.pinned.checked.prog.loopsFrom ·)) : Bool) = true := by kernel_rfl
theorem fnExactStampAll_q22 : ((Rows.fnExactStampAllRow.plainKeys == Try.pinned.checked.prog.plainKeys) : Bool) = true := by kernel_rfl
theorem fnExactStampAll_q23 : (Rows.fnExactStampAllRow.shortTexts.isNone : Bool) = true := by kernel_rfl
theorem fnExactStampAll_q24 : (Try.pinned.checked.prog.stopsHeard : Bool) = true := by kernel_rfl
theorem fnExactStampAll_q25 : (Try.pinned.checked.prog.mayEnter : Bool) = true := by kernel_rfl
theorem fnExactStampAll_q26 : ((Rows.fnExactStampAllRow.lifted == Try.pinned.checked.prog.liftsFinal) : Bool) = true := by kernel_rfl
theorem fnExactStampAll_q27 : ((Try.pinned.checked.prog.make == some Rows.fnExactStampAllRow.make) : Bool) = true := by kernel_rfl
theorem fnExactStampAll_q28 : ((Rows.fnExactStampAllRow.kinds == (if Rows.fnExactStampAllRow.domain.isEmpty then [] else Try.f6.params.toList.map fun t => match Try.pinned.checked.prog.underlying t with | some (.int k) => some k | _ => none)) : Bool) = true := by kernel_rfl
theorem fnExactStampAll_q29 : ((Rows.fnExactStampAllRow.pinned == Rows.fnExactStampAllRow.pinnedBy) : Bool) = true := by kernel_rfl
theorem fnExactStampAll_q30 : ((Rows.fnExactStampAllRow.veiled == (Try.f6.params.toList ++ Rows.fnExactStampAllSpec.plain.varTypes Try.pinned.checked.prog ++ Try.f6.resultTypes.toList).any (Try.pinned.checked.prog.veiledRec ·)) : Bool) = true := by kernel_rfl
theorem fnExactStampAll_q31 : (Rows.fnExactStampAllRow.veiledFits Try.pinned.checked.prog Try.f6.params.toList (Try.f6.params.toList ++ Rows.fnExactStampAllSpec.plain.varTypes Try.pinned.checked.prog ++ Try.f6.resultTypes.toList) : Bool) = true := by kernel_rfl
set_option maxRecDepth 100000 in
theorem fnExactStampAll_joined : joinedFacts Try.pinned.checked.prog 6 Try.f6 Rows.fnExactStampAllSpec Rows.fnExactStampAllRow = true :=
  (and_mk (and_mk (and_mk (and_mk (and_mk (and_mk (and_mk (and_mk (and_mk (and_mk (and_mk (and_mk (and_mk (and_mk (and_mk (and_mk (and_mk (and_mk (and_mk (and_mk (and_mk (and_mk (and_mk (and_mk (and_mk (and_mk (and_mk (and_mk (and_mk (and_mk (and_mk fnExactStampAll_q0 fnExactStampAll_q1) fnExactStampAll_q2) fnExactStampAll_q3) fnExactStampAll_q4) fnExactStampAll_q5) fnExactStampAll_q6) fnExactStampAll_q7) fnExactStampAll_q8) fnExactStampAll_q9) fnExactStampAll_q10) fnExactStampAll_q11) fnExactStampAll_q12) fnExactStampAll_q13) fnExactStampAll_q14) fnExactStampAll_q15) fnExactStampAll_q16) fnExactStampAll_q17) fnExactStampAll_q18) fnExactStampAll_q19) fnExactStampAll_q20) fnExactStampAll_q21) fnExactStampAll_q22) fnExactStampAll_q23) fnExactStampAll_q24) fnExactStampAll_q25) fnExactStampAll_q26) fnExactStampAll_q27) fnExactStampAll_q28) fnExactStampAll_q29) fnExactStampAll_q30) fnExactStampAll_q31)
theorem fnExactStampAll_holds : Rows.FnExactStampAllSaid :=
  OpenClaim.holds_of_wide 6 Try.f6 rfl rfl rfl rfl rfl rfl rfl ⟨rfl, rfl, rfl, rfl, rfl⟩ rfl rfl rfl rfl rfl (by kernel_rfl) Try.func6 fnExactStampAll_joined
    (of_decide_eq_true (by kernel_rfl)) (by unfold Func.isWrapper; first | (rw [if_pos (by decide +kernel)]; kernel_rfl) | (rw [if_neg (by decide +kernel)]; exact ⟨rfl, rfl⟩))
    (fun os started H enc _ => fnExactStampAll_lifted os started H enc)
end Go.Proofs.Ytnbpojalpdldnaa
