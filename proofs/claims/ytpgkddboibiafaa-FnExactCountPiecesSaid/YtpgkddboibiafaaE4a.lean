/- FnExactCountPieces: each law function of these statements answers true, for all arguments that can be read. Conditions: none. -/
import Derived.Test.YtpgkddboibiafaaRows
import Derived.Test.YtpgkddboibiafaaW4a
namespace Go.Proofs.Ytpgkddboibiafaa
open Go.ChangeShapes Go.WideShapes Go.ChangeAt Go.RowKit

theorem Try.own : ownKnob Try.prog.godebug = none := by kernel_rfl
theorem Try.laidOut : laidOutB Try.prog = true := by kernel_rfl
theorem and_mk {a b : Bool} (h : a = true) (k : b = true) : (a && b) = true := by rw [h, k]; rfl
set_option maxRecDepth 100000 in
theorem fnExactCountPieces_lifted (os : Os) (started : os.Started) (H : Type) (enc : TypeId × Value → H) :
    ReturnsInHanded {} Try.checked os 6 .any (Rows.fnExactCountPiecesSpec.pre6 enc Try.prog Try.f6 Rows.fnExactCountPiecesRow.domain false) (Rows.fnExactCountPiecesSpec.post enc Try.prog Try.f6 false true false false) := by
  refine returnsInHanded_of_change (C := Try.checked) Try.own started (by kernel_rfl) Try.func6
    (ChangeSpec.witness6 (enc := enc) (C := Try.checked) false ⟨#[], #[.agg #[.slice none 0 0, .slice none 0 0]], []⟩ 12 (by kernel_rfl) (by kernel_rfl) (by kernel_rfl) (by kernel_rfl)) ?_
  intro W base args ds gs before hval0 hW hcnd _
  have hval : ∀ (j : Nat) t v, Try.f6.params[j]? = some t → args[j]? = some v → Value.okWide Try.prog W .any base t v := hval0
  have hW' := hW
  obtain ⟨p, q, hA0, hV, rfl, hfz, hnd⟩ := hW
  have hA : DataW.TrodAll enc Try.prog W 0 (fun _ => true) true Try.f6.params.toList args.toList ds p := hA0
  obtain ⟨rfl, rfl⟩ := trodVars_none hV
  have hlen : ds.length = 1 := Fw.trodAll_len hA
  rcases ds with _ | ⟨d1, _ | ⟨d2, ds⟩⟩ <;> first | (simp at hlen; done) | skip
  refine (Fw.yes_call Fw.F6_ok (fun _ _ => trivial) (fun _ _ => rfl) (ts := Try.f6.params.toList) (by kernel_rfl) hA (fun j t v h1 h2 => hval j t v (by simpa using h1) (by simpa using h2))).mono fun e W' ⟨he, hfr⟩ => ?_
  subst he
  exact ⟨_, rfl, Fw.post_yes Try.laidOut (by kernel_rfl) rfl rfl rfl Try.underlying4 hW' hfr⟩

theorem fnExactCountPieces_q0 : (Rows.fnExactCountPiecesRow.wf (OpenSpec.ofChange Rows.fnExactCountPiecesSpec) : Bool) = true := by kernel_rfl
theorem fnExactCountPieces_q1 : (laidOutB Try.pinned.checked.prog : Bool) = true := by kernel_rfl
theorem fnExactCountPieces_q2 : (mapsRowed Try.pinned.checked.prog : Bool) = true := by kernel_rfl
theorem fnExactCountPieces_q3 : (Try.f6.params.all (Try.pinned.checked.prog.readableRec ·) : Bool) = true := by kernel_rfl
theorem fnExactCountPieces_q4 : (namedTie Try.pinned.checked.prog Rows.fnExactCountPiecesRow.named Rows.fnExactCountPiecesSpec.vars : Bool) = true := by kernel_rfl
theorem fnExactCountPieces_q5 : ((Rows.fnExactCountPiecesRow.stops == []) : Bool) = true := by kernel_rfl
theorem fnExactCountPieces_q6 : ((Try.pinned.checked.prog.stops == []) : Bool) = true := by kernel_rfl
theorem fnExactCountPieces_q7 : ((Rows.fnExactCountPiecesRow.knobs == []) : Bool) = true := by kernel_rfl
theorem fnExactCountPieces_q8 : ((Try.pinned.checked.prog.stopKnobs == []) : Bool) = true := by kernel_rfl
theorem fnExactCountPieces_q9 : ((Rows.fnExactCountPiecesRow.inPlace == Try.pinned.checked.prog.inPlace 6) : Bool) = true := by kernel_rfl
theorem fnExactCountPieces_q10 : ((Rows.fnExactCountPiecesRow.unfollowed == Try.pinned.checked.prog.unfollowed 6) : Bool) = true := by kernel_rfl
theorem fnExactCountPieces_q11 : ((Rows.fnExactCountPiecesRow.recurses == Try.pinned.checked.prog.recurses 6) : Bool) = true := by kernel_rfl
theorem fnExactCountPieces_q12 : ((Rows.fnExactCountPiecesRow.named == Try.pinned.checked.prog.varsNamed 6) : Bool) = true := by kernel_rfl
theorem fnExactCountPieces_q13 : ((Rows.fnExactCountPiecesRow.maps == (Try.f6.params.toList ++ Rows.fnExactCountPiecesSpec.plain.varTypes Try.pinned.checked.prog).any (Try.pinned.checked.prog.mapsRec ·)) : Bool) = true := by kernel_rfl
theorem fnExactCountPieces_q14 : ((Rows.fnExactCountPiecesRow.ifaces == (Try.f6.params.toList ++ Rows.fnExactCountPiecesSpec.plain.varTypes Try.pinned.checked.prog).any (Try.pinned.checked.prog.ifacesRec ·)) : Bool) = true := by kernel_rfl
theorem fnExactCountPieces_q15 : ((Rows.fnExactCountPiecesRow.mapsOut == Try.pinned.checked.prog.mapsAmong Try.f6.resultTypes.toList) : Bool) = true := by kernel_rfl
theorem fnExactCountPieces_q16 : ((Rows.fnExactCountPiecesRow.loops == (Try.f6.params.toList ++ Rows.fnExactCountPiecesSpec.plain.varTypes Try.pinned.checked.prog).any (Try.pinned.checked.prog.loopsFrom ·)) : Bool) = true := by kernel_rfl
theorem fnExactCountPieces_q17 : ((Rows.fnExactCountPiecesRow.wideKeys == (Try.f6.params.toList ++ Rows.fnExactCountPiecesSpec.plain.varTypes Try.pinned.checked.prog ++ Try.f6.resultTypes.toList).any (Try.pinned.checked.prog.wideKeysFrom ·)) : Bool) = true := by kernel_rfl
theorem fnExactCountPieces_q18 : (Rows.fnExactCountPiecesSpec.vars.all (Try.pinned.checked.prog.varReadable ·) : Bool) = true := by kernel_rfl
theorem fnExactCountPieces_q19 : (Try.f6.resultTypes.all (fun t => Try.pinned.checked.prog.readableRec t && decide (t < Try.pinned.checked.prog.types.size)) : Bool) = true := by kernel_rfl
theorem fnExactCountPieces_q20 : ((Rows.fnExactCountPiecesRow.ifacesOut == Try.f6.resultTypes.toList.any (Try.pinned.checked.prog.ifacesRec ·)) : Bool) = true := by kernel_rfl
theorem fnExactCountPieces_q21 : ((Rows.fnExactCountPiecesRow.loopsOut == Try.f6.resultTypes.toList.any (Try.pinned.checked.prog.loopsFrom ·)) : Bool) = true := by kernel_rfl
theorem fnExactCountPieces_q22 : ((Rows.fnExactCountPiecesRow.plainKeys == Try.pinned.checked.prog.plainKeys) : Bool) = true := by kernel_rfl
theorem fnExactCountPieces_q23 : (Rows.fnExactCountPiecesRow.shortTexts.isNone : Bool) = true := by kernel_rfl
theorem fnExactCountPieces_q24 : (Try.pinned.checked.prog.stopsHeard : Bool) = true := by kernel_rfl
theorem fnExactCountPieces_q25 : (Try.pinned.checked.prog.mayEnter : Bool) = true := by kernel_rfl
theorem fnExactCountPieces_q26 : ((Rows.fnExactCountPiecesRow.lifted == Try.pinned.checked.prog.liftsFinal) : Bool) = true := by kernel_rfl
theorem fnExactCountPieces_q27 : ((Try.pinned.checked.prog.make == some Rows.fnExactCountPiecesRow.make) : Bool) = true := by kernel_rfl
theorem fnExactCountPieces_q28 : ((Rows.fnExactCountPiecesRow.kinds == (if Rows.fnExactCountPiecesRow.domain.isEmpty then [] else Try.f6.params.toList.map fun t => match Try.pinned.checked.prog.underlying t with | some (.int k) => some k | _ => none)) : Bool) = true := by kernel_rfl
theorem fnExactCountPieces_q29 : ((Rows.fnExactCountPiecesRow.pinned == Rows.fnExactCountPiecesRow.pinnedBy) : Bool) = true := by kernel_rfl
theorem fnExactCountPieces_q30 : ((Rows.fnExactCountPiecesRow.veiled == (Try.f6.params.toList ++ Rows.fnExactCountPiecesSpec.plain.varTypes Try.pinned.checked.prog ++ Try.f6.resultTypes.toList).any (Try.pinned.checked.prog.veiledRec ·)) : Bool) = true := by kernel_rfl
theorem fnExactCountPieces_q31 : (Rows.fnExactCountPiecesRow.veiledFits Try.pinned.checked.prog Try.f6.params.toList (Try.f6.params.toList ++ Rows.fnExactCountPiecesSpec.plain.varTypes Try.pinned.checked.prog ++ Try.f6.resultTypes.toList) : Bool) = true := by kernel_rfl
set_option maxRecDepth 100000 in
theorem fnExactCountPieces_joined : joinedFacts Try.pinned.checked.prog 6 Try.f6 Rows.fnExactCountPiecesSpec Rows.fnExactCountPiecesRow = true :=
  (and_mk (and_mk (and_mk (and_mk (and_mk (and_mk (and_mk (and_mk (and_mk (and_mk (and_mk (and_mk (and_mk (and_mk (and_mk (and_mk (and_mk (and_mk (and_mk (and_mk (and_mk (and_mk (and_mk (and_mk (and_mk (and_mk (and_mk (and_mk (and_mk (and_mk (and_mk fnExactCountPieces_q0 fnExactCountPieces_q1) fnExactCountPieces_q2) fnExactCountPieces_q3) fnExactCountPieces_q4) fnExactCountPieces_q5) fnExactCountPieces_q6) fnExactCountPieces_q7) fnExactCountPieces_q8) fnExactCountPieces_q9) fnExactCountPieces_q10) fnExactCountPieces_q11) fnExactCountPieces_q12) fnExactCountPieces_q13) fnExactCountPieces_q14) fnExactCountPieces_q15) fnExactCountPieces_q16) fnExactCountPieces_q17) fnExactCountPieces_q18) fnExactCountPieces_q19) fnExactCountPieces_q20) fnExactCountPieces_q21) fnExactCountPieces_q22) fnExactCountPieces_q23) fnExactCountPieces_q24) fnExactCountPieces_q25) fnExactCountPieces_q26) fnExactCountPieces_q27) fnExactCountPieces_q28) fnExactCountPieces_q29) fnExactCountPieces_q30) fnExactCountPieces_q31)
theorem fnExactCountPieces_holds : Rows.FnExactCountPiecesSaid :=
  OpenClaim.holds_of_wide 6 Try.f6 rfl rfl rfl rfl rfl rfl rfl ⟨rfl, rfl, rfl, rfl, rfl⟩ rfl rfl rfl rfl rfl (by kernel_rfl) Try.func6 fnExactCountPieces_joined
    (of_decide_eq_true (by kernel_rfl)) (by unfold Func.isWrapper; first | (rw [if_pos (by decide +kernel)]; kernel_rfl) | (rw [if_neg (by decide +kernel)]; exact ⟨rfl, rfl⟩))
    (fun os started H enc _ => fnExactCountPieces_lifted os started H enc)
end Go.Proofs.Ytpgkddboibiafaa
