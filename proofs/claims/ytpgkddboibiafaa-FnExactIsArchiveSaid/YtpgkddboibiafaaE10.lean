/- FnExactIsArchive: each law function of these statements answers true, for all arguments that can be read. Conditions: none. -/
import Derived.Test.YtpgkddboibiafaaRows
import Derived.Test.YtpgkddboibiafaaW10
namespace Go.Proofs.Ytpgkddboibiafaa
open Go.ChangeShapes Go.WideShapes Go.ChangeAt Go.RowKit

theorem Try.own : ownKnob Try.prog.godebug = none := by kernel_rfl
theorem Try.laidOut : laidOutB Try.prog = true := by kernel_rfl
theorem and_mk {a b : Bool} (h : a = true) (k : b = true) : (a && b) = true := by rw [h, k]; rfl
set_option maxRecDepth 100000 in
theorem fnExactIsArchive_lifted (os : Os) (started : os.Started) (H : Type) (enc : TypeId × Value → H) :
    ReturnsInHanded {} Try.checked os 11 .any (Rows.fnExactIsArchiveSpec.pre6 enc Try.prog Try.f11 Rows.fnExactIsArchiveRow.domain false) (Rows.fnExactIsArchiveSpec.post enc Try.prog Try.f11 false true false false) := by
  refine returnsInHanded_of_change (C := Try.checked) Try.own started (by kernel_rfl) Try.func11
    (ChangeSpec.witness6 (enc := enc) (C := Try.checked) false ⟨#[], #[.agg #[.int .i64 0, .slice none 0 0]], []⟩ 12 (by kernel_rfl) (by kernel_rfl) (by kernel_rfl) (by kernel_rfl)) ?_
  intro W base args ds gs before hval0 hW hcnd _
  have hval : ∀ (j : Nat) t v, Try.f11.params[j]? = some t → args[j]? = some v → Value.okWide Try.prog W .any base t v := hval0
  have hW' := hW
  obtain ⟨p, q, hA0, hV, rfl, hfz, hnd⟩ := hW
  have hA : DataW.TrodAll enc Try.prog W 0 (fun _ => true) true Try.f11.params.toList args.toList ds p := hA0
  obtain ⟨rfl, rfl⟩ := trodVars_none hV
  have hlen : ds.length = 1 := Fw.trodAll_len hA
  rcases ds with _ | ⟨d1, _ | ⟨d2, ds⟩⟩ <;> first | (simp at hlen; done) | skip
  refine (Fw.yes_call Fw.F11_ok (fun _ _ => trivial) (fun _ _ => rfl) (ts := Try.f11.params.toList) (by kernel_rfl) hA (fun j t v h1 h2 => hval j t v (by simpa using h1) (by simpa using h2))).mono fun e W' ⟨he, hfr⟩ => ?_
  subst he
  exact ⟨_, rfl, Fw.post_yes Try.laidOut (by kernel_rfl) rfl rfl rfl Try.underlying4 hW' hfr⟩

theorem fnExactIsArchive_q0 : (Rows.fnExactIsArchiveRow.wf (OpenSpec.ofChange Rows.fnExactIsArchiveSpec) : Bool) = true := by kernel_rfl
theorem fnExactIsArchive_q1 : (laidOutB Try.pinned.checked.prog : Bool) = true := by kernel_rfl
theorem fnExactIsArchive_q2 : (mapsRowed Try.pinned.checked.prog : Bool) = true := by kernel_rfl
theorem fnExactIsArchive_q3 : (Try.f11.params.all (Try.pinned.checked.prog.readableRec ·) : Bool) = true := by kernel_rfl
theorem fnExactIsArchive_q4 : (namedTie Try.pinned.checked.prog Rows.fnExactIsArchiveRow.named Rows.fnExactIsArchiveSpec.vars : Bool) = true := by kernel_rfl
theorem fnExactIsArchive_q5 : ((Rows.fnExactIsArchiveRow.stops == []) : Bool) = true := by kernel_rfl
theorem fnExactIsArchive_q6 : ((Try.pinned.checked.prog.stops == []) : Bool) = true := by kernel_rfl
theorem fnExactIsArchive_q7 : ((Rows.fnExactIsArchiveRow.knobs == []) : Bool) = true := by kernel_rfl
theorem fnExactIsArchive_q8 : ((Try.pinned.checked.prog.stopKnobs == []) : Bool) = true := by kernel_rfl
theorem fnExactIsArchive_q9 : ((Rows.fnExactIsArchiveRow.inPlace == Try.pinned.checked.prog.inPlace 11) : Bool) = true := by kernel_rfl
theorem fnExactIsArchive_q10 : ((Rows.fnExactIsArchiveRow.unfollowed == Try.pinned.checked.prog.unfollowed 11) : Bool) = true := by kernel_rfl
theorem fnExactIsArchive_q11 : ((Rows.fnExactIsArchiveRow.recurses == Try.pinned.checked.prog.recurses 11) : Bool) = true := by kernel_rfl
theorem fnExactIsArchive_q12 : ((Rows.fnExactIsArchiveRow.named == Try.pinned.checked.prog.varsNamed 11) : Bool) = true := by kernel_rfl
theorem fnExactIsArchive_q13 : ((Rows.fnExactIsArchiveRow.maps == (Try.f11.params.toList ++ Rows.fnExactIsArchiveSpec.plain.varTypes Try.pinned.checked.prog).any (Try.pinned.checked.prog.mapsRec ·)) : Bool) = true := by kernel_rfl
theorem fnExactIsArchive_q14 : ((Rows.fnExactIsArchiveRow.ifaces == (Try.f11.params.toList ++ Rows.fnExactIsArchiveSpec.plain.varTypes Try.pinned.checked.prog).any (Try.pinned.checked.prog.ifacesRec ·)) : Bool) = true := by kernel_rfl
theorem fnExactIsArchive_q15 : ((Rows.fnExactIsArchiveRow.mapsOut == Try.pinned.checked.prog.mapsAmong Try.f11.resultTypes.toList) : Bool) = true := by kernel_rfl
theorem fnExactIsArchive_q16 : ((Rows.fnExactIsArchiveRow.loops == (Try.f11.params.toList ++ Rows.fnExactIsArchiveSpec.plain.varTypes Try.pinned.checked.prog).any (Try.pinned.checked.prog.loopsFrom ·)) : Bool) = true := by kernel_rfl
theorem fnExactIsArchive_q17 : ((Rows.fnExactIsArchiveRow.wideKeys == (Try.f11.params.toList ++ Rows.fnExactIsArchiveSpec.plain.varTypes Try.pinned.checked.prog ++ Try.f11.resultTypes.toList).any (Try.pinned.checked.prog.wideKeysFrom ·)) : Bool) = true := by kernel_rfl
theorem fnExactIsArchive_q18 : (Rows.fnExactIsArchiveSpec.vars.all (Try.pinned.checked.prog.varReadable ·) : Bool) = true := by kernel_rfl
theorem fnExactIsArchive_q19 : (Try.f11.resultTypes.all (fun t => Try.pinned.checked.prog.readableRec t && decide (t < Try.pinned.checked.prog.types.size)) : Bool) = true := by kernel_rfl
theorem fnExactIsArchive_q20 : ((Rows.fnExactIsArchiveRow.ifacesOut == Try.f11.resultTypes.toList.any (Try.pinned.checked.prog.ifacesRec ·)) : Bool) = true := by kernel_rfl
theorem fnExactIsArchive_q21 : ((Rows.fnExactIsArchiveRow.loopsOut == Try.f11.resultTypes.toList.any (Try.pinned.checked.prog.loopsFrom ·)) : Bool) = true := by kernel_rfl
theorem fnExactIsArchive_q22 : ((Rows.fnExactIsArchiveRow.plainKeys == Try.pinned.checked.prog.plainKeys) : Bool) = true := by kernel_rfl
theorem fnExactIsArchive_q23 : (Rows.fnExactIsArchiveRow.shortTexts.isNone : Bool) = true := by kernel_rfl
theorem fnExactIsArchive_q24 : (Try.pinned.checked.prog.stopsHeard : Bool) = true := by kernel_rfl
theorem fnExactIsArchive_q25 : (Try.pinned.checked.prog.mayEnter : Bool) = true := by kernel_rfl
theorem fnExactIsArchive_q26 : ((Rows.fnExactIsArchiveRow.lifted == Try.pinned.checked.prog.liftsFinal) : Bool) = true := by kernel_rfl
theorem fnExactIsArchive_q27 : ((Try.pinned.checked.prog.make == some Rows.fnExactIsArchiveRow.make) : Bool) = true := by kernel_rfl
theorem fnExactIsArchive_q28 : ((Rows.fnExactIsArchiveRow.kinds == (if Rows.fnExactIsArchiveRow.domain.isEmpty then [] else Try.f11.params.toList.map fun t => match Try.pinned.checked.prog.underlying t with | some (.int k) => some k | _ => none)) : Bool) = true := by kernel_rfl
theorem fnExactIsArchive_q29 : ((Rows.fnExactIsArchiveRow.pinned == Rows.fnExactIsArchiveRow.pinnedBy) : Bool) = true := by kernel_rfl
theorem fnExactIsArchive_q30 : ((Rows.fnExactIsArchiveRow.veiled == (Try.f11.params.toList ++ Rows.fnExactIsArchiveSpec.plain.varTypes Try.pinned.checked.prog ++ Try.f11.resultTypes.toList).any (Try.pinned.checked.prog.veiledRec ·)) : Bool) = true := by kernel_rfl
theorem fnExactIsArchive_q31 : (Rows.fnExactIsArchiveRow.veiledFits Try.pinned.checked.prog Try.f11.params.toList (Try.f11.params.toList ++ Rows.fnExactIsArchiveSpec.plain.varTypes Try.pinned.checked.prog ++ Try.f11.resultTypes.toList) : Bool) = true := by kernel_rfl
set_option maxRecDepth 100000 in
theorem fnExactIsArchive_joined : joinedFacts Try.pinned.checked.prog 11 Try.f11 Rows.fnExactIsArchiveSpec Rows.fnExactIsArchiveRow = true :=
  (and_mk (and_mk (and_mk (and_mk (and_mk (and_mk (and_mk (and_mk (and_mk (and_mk (and_mk (and_mk (and_mk (and_mk (and_mk (and_mk (and_mk (and_mk (and_mk (and_mk (and_mk (and_mk (and_mk (and_mk (and_mk (and_mk (and_mk (and_mk (and_mk (and_mk (and_mk fnExactIsArchive_q0 fnExactIsArchive_q1) fnExactIsArchive_q2) fnExactIsArchive_q3) fnExactIsArchive_q4) fnExactIsArchive_q5) fnExactIsArchive_q6) fnExactIsArchive_q7) fnExactIsArchive_q8) fnExactIsArchive_q9) fnExactIsArchive_q10) fnExactIsArchive_q11) fnExactIsArchive_q12) fnExactIsArchive_q13) fnExactIsArchive_q14) fnExactIsArchive_q15) fnExactIsArchive_q16) fnExactIsArchive_q17) fnExactIsArchive_q18) fnExactIsArchive_q19) fnExactIsArchive_q20) fnExactIsArchive_q21) fnExactIsArchive_q22) fnExactIsArchive_q23) fnExactIsArchive_q24) fnExactIsArchive_q25) fnExactIsArchive_q26) fnExactIsArchive_q27) fnExactIsArchive_q28) fnExactIsArchive_q29) fnExactIsArchive_q30) fnExactIsArchive_q31)
theorem fnExactIsArchive_holds : Rows.FnExactIsArchiveSaid :=
  OpenClaim.holds_of_wide 11 Try.f11 rfl rfl rfl rfl rfl rfl rfl ⟨rfl, rfl, rfl, rfl, rfl⟩ rfl rfl rfl rfl rfl (by kernel_rfl) Try.func11 fnExactIsArchive_joined
    (of_decide_eq_true (by kernel_rfl)) (by unfold Func.isWrapper; first | (rw [if_pos (by decide +kernel)]; kernel_rfl) | (rw [if_neg (by decide +kernel)]; exact ⟨rfl, rfl⟩))
    (fun os started H enc _ => fnExactIsArchive_lifted os started H enc)
end Go.Proofs.Ytpgkddboibiafaa
