/- FnExactUsablePieces: each law function of these statements answers true, for all arguments that can be read. Conditions: none. -/
import Derived.Test.YtadkcilmknpkhaaGreatRows
import Derived.Test.YtadkcilmknpkhaaGreatW50z0
import Derived.Test.YtadkcilmknpkhaaGreatP2
namespace Go.Proofs.YtadkcilmknpkhaaGreat
open Go.ChangeShapes Go.WideShapes Go.ChangeAt Go.RowKit

theorem Tryz.own : ownKnob Tryz.prog.godebug = none := by kernel_rfl
theorem Tryz.laidOut : laidOutB Tryz.prog = true := by kernel_rfl
theorem and_mk {a b : Bool} (h : a = true) (k : b = true) : (a && b) = true := by rw [h, k]; rfl
set_option maxRecDepth 100000 in
theorem fnExactUsablePieces_lifted (os : Os) (started : os.Started) (H : Type) (enc : TypeId × Value → H) :
    ReturnsInHanded {} Tryz.checked os 4 .any (Rows.fnExactUsablePiecesSpec.pre6 enc Tryz.prog Tryz.f4 Rows.fnExactUsablePiecesRow.domain false) (Rows.fnExactUsablePiecesSpec.post enc Tryz.prog Tryz.f4 false true false false) := by
  refine returnsInHanded_of_change (C := Tryz.checked) Tryz.own started (by kernel_rfl) Tryz.func4
    (ChangeSpec.witness6 (enc := enc) (C := Tryz.checked) false ⟨#[], #[.agg #[.slice none 0 0, .slice none 0 0, .slice none 0 0, .int .i64 0, .int .i64 0], .agg #[.slice none 0 0, .slice none 0 0], .slice none 0 0], []⟩ 12 (by kernel_rfl) (by kernel_rfl) (by kernel_rfl) (by kernel_rfl)) ?_
  intro W base args ds gs before hval0 hW hcnd _
  have hval : ∀ (j : Nat) t v, Tryz.f4.params[j]? = some t → args[j]? = some v → Value.okWide Tryz.prog W .any base t v := hval0
  have hW' := hW
  obtain ⟨p, q, hA0, hV, rfl, hfz, hnd⟩ := hW
  have hA : DataW.TrodAll enc Tryz.prog W 0 (fun _ => true) true Tryz.f4.params.toList args.toList ds p := hA0
  obtain ⟨rfl, rfl⟩ := trodVars_none hV
  have hlen : ds.length = 3 := Fw.trodAll_len hA
  rcases ds with _ | ⟨d1, _ | ⟨d2, _ | ⟨d3, _ | ⟨d4, ds⟩⟩⟩⟩ <;> first | (simp at hlen; done) | skip
  refine (Fw.yes_call Fw.F4_ok (fun _ _ => trivial) (fun _ _ => rfl) (ts := Tryz.f4.params.toList) (by kernel_rfl) hA (fun j t v h1 h2 => hval j t v (by simpa using h1) (by simpa using h2))).mono fun e W' ⟨he, hfr⟩ => ?_
  subst he
  exact ⟨_, rfl, Fw.post_yes Tryz.laidOut (by kernel_rfl) rfl rfl rfl Tryz.underlying4 hW' hfr⟩

theorem fnExactUsablePieces_q0 : (Rows.fnExactUsablePiecesRow.wf (OpenSpec.ofChange Rows.fnExactUsablePiecesSpec) : Bool) = true := by kernel_rfl
theorem fnExactUsablePieces_q1 : (laidOutB Tryz.pinned.checked.prog : Bool) = true := by kernel_rfl
theorem fnExactUsablePieces_q2 : (mapsRowed Tryz.pinned.checked.prog : Bool) = true := by kernel_rfl
theorem fnExactUsablePieces_q3 : (Tryz.f4.params.all (Tryz.pinned.checked.prog.readableRec ·) : Bool) = true := by kernel_rfl
theorem fnExactUsablePieces_q4 : (namedTie Tryz.pinned.checked.prog Rows.fnExactUsablePiecesRow.named Rows.fnExactUsablePiecesSpec.vars : Bool) = true := by kernel_rfl
theorem fnExactUsablePieces_q5 : ((Rows.fnExactUsablePiecesRow.stops == []) : Bool) = true := by kernel_rfl
theorem fnExactUsablePieces_q6 : ((Tryz.pinned.checked.prog.stops == []) : Bool) = true := by kernel_rfl
theorem fnExactUsablePieces_q7 : ((Rows.fnExactUsablePiecesRow.knobs == []) : Bool) = true := by kernel_rfl
theorem fnExactUsablePieces_q8 : ((Tryz.pinned.checked.prog.stopKnobs == []) : Bool) = true := by kernel_rfl
theorem fnExactUsablePieces_q9 : ((Rows.fnExactUsablePiecesRow.inPlace == Tryz.pinned.checked.prog.inPlace 4) : Bool) = true := by kernel_rfl
theorem fnExactUsablePieces_q10 : ((Rows.fnExactUsablePiecesRow.unfollowed == Tryz.pinned.checked.prog.unfollowed 4) : Bool) = true := by kernel_rfl
theorem fnExactUsablePieces_q11 : ((Rows.fnExactUsablePiecesRow.recurses == Tryz.pinned.checked.prog.recurses 4) : Bool) = true := by kernel_rfl
theorem fnExactUsablePieces_q12 : ((Rows.fnExactUsablePiecesRow.named == Tryz.pinned.checked.prog.varsNamed 4) : Bool) = true := by kernel_rfl
theorem fnExactUsablePieces_q13 : ((Rows.fnExactUsablePiecesRow.maps == (Tryz.f4.params.toList ++ Rows.fnExactUsablePiecesSpec.plain.varTypes Tryz.pinned.checked.prog).any (Tryz.pinned.checked.prog.mapsRec ·)) : Bool) = true := by kernel_rfl
theorem fnExactUsablePieces_q14 : ((Rows.fnExactUsablePiecesRow.ifaces == (Tryz.f4.params.toList ++ Rows.fnExactUsablePiecesSpec.plain.varTypes Tryz.pinned.checked.prog).any (Tryz.pinned.checked.prog.ifacesRec ·)) : Bool) = true := by kernel_rfl
theorem fnExactUsablePieces_q15 : ((Rows.fnExactUsablePiecesRow.mapsOut == Tryz.pinned.checked.prog.mapsAmong Tryz.f4.resultTypes.toList) : Bool) = true := by kernel_rfl
theorem fnExactUsablePieces_q16 : ((Rows.fnExactUsablePiecesRow.loops == (Tryz.f4.params.toList ++ Rows.fnExactUsablePiecesSpec.plain.varTypes Tryz.pinned.checked.prog).any (Tryz.pinned.checked.prog.loopsFrom ·)) : Bool) = true := by kernel_rfl
theorem fnExactUsablePieces_q17 : ((Rows.fnExactUsablePiecesRow.wideKeys == (Tryz.f4.params.toList ++ Rows.fnExactUsablePiecesSpec.plain.varTypes Tryz.pinned.checked.prog ++ Tryz.f4.resultTypes.toList).any (Tryz.pinned.checked.prog.wideKeysFrom ·)) : Bool) = true := by kernel_rfl
theorem fnExactUsablePieces_q18 : (Rows.fnExactUsablePiecesSpec.vars.all (Tryz.pinned.checked.prog.varReadable ·) : Bool) = true := by kernel_rfl
theorem fnExactUsablePieces_q19 : (Tryz.f4.resultTypes.all (fun t => Tryz.pinned.checked.prog.readableRec t && decide (t < Tryz.pinned.checked.prog.types.size)) : Bool) = true := by kernel_rfl
theorem fnExactUsablePieces_q20 : ((Rows.fnExactUsablePiecesRow.ifacesOut == Tryz.f4.resultTypes.toList.any (Tryz.pinned.checked.prog.ifacesRec ·)) : Bool) = true := by kernel_rfl
theorem fnExactUsablePieces_q21 : ((Rows.fnExactUsablePiecesRow.loopsOut == Tryz.f4.resultTypes.toList.any (Tryz.pinned.checked.prog.loopsFrom ·)) : Bool) = true := by kernel_rfl
theorem fnExactUsablePieces_q22 : ((Rows.fnExactUsablePiecesRow.plainKeys == Tryz.pinned.checked.prog.plainKeys) : Bool) = true := by kernel_rfl
theorem fnExactUsablePieces_q23 : (Rows.fnExactUsablePiecesRow.shortTexts.isNone : Bool) = true := by kernel_rfl
theorem fnExactUsablePieces_q24 : (Tryz.pinned.checked.prog.stopsHeard : Bool) = true := by kernel_rfl
theorem fnExactUsablePieces_q25 : (Tryz.pinned.checked.prog.mayEnter : Bool) = true := by kernel_rfl
theorem fnExactUsablePieces_q26 : ((Rows.fnExactUsablePiecesRow.lifted == Tryz.pinned.checked.prog.liftsFinal) : Bool) = true := by kernel_rfl
theorem fnExactUsablePieces_q27 : ((Tryz.pinned.checked.prog.make == some Rows.fnExactUsablePiecesRow.make) : Bool) = true := by kernel_rfl
theorem fnExactUsablePieces_q28 : ((Rows.fnExactUsablePiecesRow.kinds == (if Rows.fnExactUsablePiecesRow.domain.isEmpty then [] else Tryz.f4.params.toList.map fun t => match Tryz.pinned.checked.prog.underlying t with | some (.int k) => some k | _ => none)) : Bool) = true := by kernel_rfl
theorem fnExactUsablePieces_q29 : ((Rows.fnExactUsablePiecesRow.pinned == Rows.fnExactUsablePiecesRow.pinnedBy) : Bool) = true := by kernel_rfl
theorem fnExactUsablePieces_q30 : ((Rows.fnExactUsablePiecesRow.veiled == (Tryz.f4.params.toList ++ Rows.fnExactUsablePiecesSpec.plain.varTypes Tryz.pinned.checked.prog ++ Tryz.f4.resultTypes.toList).any (Tryz.pinned.checked.prog.veiledRec ·)) : Bool) = true := by kernel_rfl
theorem fnExactUsablePieces_q31 : (Rows.fnExactUsablePiecesRow.veiledFits Tryz.pinned.checked.prog Tryz.f4.params.toList (Tryz.f4.params.toList ++ Rows.fnExactUsablePiecesSpec.plain.varTypes Tryz.pinned.checked.prog ++ Tryz.f4.resultTypes.toList) : Bool) = true := by kernel_rfl
set_option maxRecDepth 100000 in
theorem fnExactUsablePieces_joined : joinedFacts Tryz.pinned.checked.prog 4 Tryz.f4 Rows.fnExactUsablePiecesSpec Rows.fnExactUsablePiecesRow = true :=
  (and_mk (and_mk (and_mk (and_mk (and_mk (and_mk (and_mk (and_mk (and_mk (and_mk (and_mk (and_mk (and_mk (and_mk (and_mk (and_mk (and_mk (and_mk (and_mk (and_mk (and_mk (and_mk (and_mk (and_mk (and_mk (and_mk (and_mk (and_mk (and_mk (and_mk (and_mk fnExactUsablePieces_q0 fnExactUsablePieces_q1) fnExactUsablePieces_q2) fnExactUsablePieces_q3) fnExactUsablePieces_q4) fnExactUsablePieces_q5) fnExactUsablePieces_q6) fnExactUsablePieces_q7) fnExactUsablePieces_q8) fnExactUsablePieces_q9) fnExactUsablePieces_q10) fnExactUsablePieces_q11) fnExactUsablePieces_q12) fnExactUsablePieces_q13) fnExactUsablePieces_q14) fnExactUsablePieces_q15) fnExactUsablePieces_q16) fnExactUsablePieces_q17) fnExactUsablePieces_q18) fnExactUsablePieces_q19) fnExactUsablePieces_q20) fnExactUsablePieces_q21) fnExactUsablePieces_q22) fnExactUsablePieces_q23) fnExactUsablePieces_q24) fnExactUsablePieces_q25) fnExactUsablePieces_q26) fnExactUsablePieces_q27) fnExactUsablePieces_q28) fnExactUsablePieces_q29) fnExactUsablePieces_q30) fnExactUsablePieces_q31)
theorem fnExactUsablePieces_holds : Rows.FnExactUsablePiecesSaid :=
  OpenClaim.holds_of_wide 4 Tryz.f4 rfl rfl rfl rfl rfl rfl rfl ⟨rfl, rfl, rfl, rfl, rfl⟩ rfl rfl rfl rfl rfl (by kernel_rfl) Tryz.func4 fnExactUsablePieces_joined
    (of_decide_eq_true (by kernel_rfl)) (by unfold Func.isWrapper; first | (rw [if_pos (by decide +kernel)]; kernel_rfl) | (rw [if_neg (by decide +kernel)]; exact ⟨rfl, rfl⟩))
    (fun os started H enc _ => fnExactUsablePieces_lifted os started H enc)
end Go.Proofs.YtadkcilmknpkhaaGreat
