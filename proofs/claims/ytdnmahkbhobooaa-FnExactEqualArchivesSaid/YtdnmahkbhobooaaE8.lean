/- FnExactEqualArchives: each law function of these statements answers true, for all arguments that can be read. Conditions: none. -/
import Derived.Test.YtdnmahkbhobooaaRows
import Derived.Test.YtdnmahkbhobooaaW8
namespace Go.Proofs.Ytdnmahkbhobooaa
open Go.ChangeShapes Go.WideShapes Go.ChangeAt Go.RowKit

theorem Try.own : ownKnob Try.prog.godebug = none := by kernel_rfl
theorem Try.laidOut : laidOutB Try.prog = true := by kernel_rfl
theorem and_mk {a b : Bool} (h : a = true) (k : b = true) : (a && b) = true := by rw [h, k]; rfl
set_option maxRecDepth 100000 in
theorem fnExactEqualArchives_lifted (os : Os) (started : os.Started) (H : Type) (enc : TypeId × Value → H) :
    ReturnsInHanded {} Try.checked os 3 .any (Rows.fnExactEqualArchivesSpec.pre6 enc Try.prog Try.f3 Rows.fnExactEqualArchivesRow.domain false) (Rows.fnExactEqualArchivesSpec.post enc Try.prog Try.f3 false true false false) := by
  refine returnsInHanded_of_change (C := Try.checked) Try.own started (by kernel_rfl) Try.func3
    (ChangeSpec.witness6 (enc := enc) (C := Try.checked) false ⟨#[], #[.agg #[.int .i64 0, .slice none 0 0], .agg #[.int .i64 0, .slice none 0 0]], []⟩ 12 (by kernel_rfl) (by kernel_rfl) (by kernel_rfl) (by kernel_rfl)) ?_
  intro W base args ds gs before hval0 hW hcnd _
  have hval : ∀ (j : Nat) t v, Try.f3.params[j]? = some t → args[j]? = some v → Value.okWide Try.prog W .any base t v := hval0
  have hW' := hW
  obtain ⟨p, q, hA0, hV, rfl, hfz, hnd⟩ := hW
  have hA : DataW.TrodAll enc Try.prog W 0 (fun _ => true) true Try.f3.params.toList args.toList ds p := hA0
  obtain ⟨rfl, rfl⟩ := trodVars_none hV
  have hlen : ds.length = 2 := Fw.trodAll_len hA
  rcases ds with _ | ⟨d1, _ | ⟨d2, _ | ⟨d3, ds⟩⟩⟩ <;> first | (simp at hlen; done) | skip
  refine (Fw.yes_call Fw.F3_ok (fun _ _ => trivial) (fun _ _ => rfl) (ts := Try.f3.params.toList) (by kernel_rfl) hA (fun j t v h1 h2 => hval j t v (by simpa using h1) (by simpa using h2))).mono fun e W' ⟨he, hfr⟩ => ?_
  subst he
  exact ⟨_, rfl, Fw.post_yes Try.laidOut (by kernel_rfl) rfl rfl rfl Try.underlying4 hW' hfr⟩

theorem fnExactEqualArchives_q0 : (Rows.fnExactEqualArchivesRow.wf (OpenSpec.ofChange Rows.fnExactEqualArchivesSpec) : Bool) = true := by kernel_rfl
theorem fnExactEqualArchives_q1 : (laidOutB Try.pinned.checked.prog : Bool) = true := by kernel_rfl
theorem fnExactEqualArchives_q2 : (mapsRowed Try.pinned.checked.prog : Bool) = true := by kernel_rfl
theorem fnExactEqualArchives_q3 : (Try.f3.params.all (Try.pinned.checked.prog.readableRec ·) : Bool) = true := by kernel_rfl
theorem fnExactEqualArchives_q4 : (namedTie Try.pinned.checked.prog Rows.fnExactEqualArchivesRow.named Rows.fnExactEqualArchivesSpec.vars : Bool) = true := by kernel_rfl
theorem fnExactEqualArchives_q5 : ((Rows.fnExactEqualArchivesRow.stops == []) : Bool) = true := by kernel_rfl
theorem fnExactEqualArchives_q6 : ((Try.pinned.checked.prog.stops == []) : Bool) = true := by kernel_rfl
theorem fnExactEqualArchives_q7 : ((Rows.fnExactEqualArchivesRow.knobs == []) : Bool) = true := by kernel_rfl
theorem fnExactEqualArchives_q8 : ((Try.pinned.checked.prog.stopKnobs == []) : Bool) = true := by kernel_rfl
theorem fnExactEqualArchives_q9 : ((Rows.fnExactEqualArchivesRow.inPlace == Try.pinned.checked.prog.inPlace 3) : Bool) = true := by kernel_rfl
theorem fnExactEqualArchives_q10 : ((Rows.fnExactEqualArchivesRow.unfollowed == Try.pinned.checked.prog.unfollowed 3) : Bool) = true := by kernel_rfl
theorem fnExactEqualArchives_q11 : ((Rows.fnExactEqualArchivesRow.recurses == Try.pinned.checked.prog.recurses 3) : Bool) = true := by kernel_rfl
theorem fnExactEqualArchives_q12 : ((Rows.fnExactEqualArchivesRow.named == Try.pinned.checked.prog.varsNamed 3) : Bool) = true := by kernel_rfl
theorem fnExactEqualArchives_q13 : ((Rows.fnExactEqualArchivesRow.maps == (Try.f3.params.toList ++ Rows.fnExactEqualArchivesSpec.plain.varTypes Try.pinned.checked.prog).any (Try.pinned.checked.prog.mapsRec ·)) : Bool) = true := by kernel_rfl
theorem fnExactEqualArchives_q14 : ((Rows.fnExactEqualArchivesRow.ifaces == (Try.f3.params.toList ++ Rows.fnExactEqualArchivesSpec.plain.varTypes Try.pinned.checked.prog).any (Try.pinned.checked.prog.ifacesRec ·)) : Bool) = true := by kernel_rfl
theorem fnExactEqualArchives_q15 : ((Rows.fnExactEqualArchivesRow.mapsOut == Try.pinned.checked.prog.mapsAmong Try.f3.resultTypes.toList) : Bool) = true := by kernel_rfl
theorem fnExactEqualArchives_q16 : ((Rows.fnExactEqualArchivesRow.loops == (Try.f3.params.toList ++ Rows.fnExactEqualArchivesSpec.plain.varTypes Try.pinned.checked.prog).any (Try.pinned.checked.prog.loopsFrom ·)) : Bool) = true := by kernel_rfl
theorem fnExactEqualArchives_q17 : ((Rows.fnExactEqualArchivesRow.wideKeys == (Try.f3.params.toList ++ Rows.fnExactEqualArchivesSpec.plain.varTypes Try.pinned.checked.prog ++ Try.f3.resultTypes.toList).any (Try.pinned.checked.prog.wideKeysFrom ·)) : Bool) = true := by kernel_rfl
theorem fnExactEqualArchives_q18 : (Rows.fnExactEqualArchivesSpec.vars.all (Try.pinned.checked.prog.varReadable ·) : Bool) = true := by kernel_rfl
theorem fnExactEqualArchives_q19 : (Try.f3.resultTypes.all (fun t => Try.pinned.checked.prog.readableRec t && decide (t < Try.pinned.checked.prog.types.size)) : Bool) = true := by kernel_rfl
theorem fnExactEqualArchives_q20 : ((Rows.fnExactEqualArchivesRow.ifacesOut == Try.f3.resultTypes.toList.any (Try.pinned.checked.prog.ifacesRec ·)) : Bool) = true := by kernel_rfl
theorem fnExactEqualArchives_q21 : ((Rows.fnExactEqualArchivesRow.loopsOut == Try.f3.resultTypes.toList.any (Try.pinned.checked.prog.loopsFrom ·)) : Bool) = true := by kernel_rfl
theorem fnExactEqualArchives_q22 : ((Rows.fnExactEqualArchivesRow.plainKeys == Try.pinned.checked.prog.plainKeys) : Bool) = true := by kernel_rfl
theorem fnExactEqualArchives_q23 : (Rows.fnExactEqualArchivesRow.shortTexts.isNone : Bool) = true := by kernel_rfl
theorem fnExactEqualArchives_q24 : (Try.pinned.checked.prog.stopsHeard : Bool) = true := by kernel_rfl
theorem fnExactEqualArchives_q25 : (Try.pinned.checked.prog.mayEnter : Bool) = true := by kernel_rfl
theorem fnExactEqualArchives_q26 : ((Rows.fnExactEqualArchivesRow.lifted == Try.pinned.checked.prog.liftsFinal) : Bool) = true := by kernel_rfl
theorem fnExactEqualArchives_q27 : ((Try.pinned.checked.prog.make == some Rows.fnExactEqualArchivesRow.make) : Bool) = true := by kernel_rfl
theorem fnExactEqualArchives_q28 : ((Rows.fnExactEqualArchivesRow.kinds == (if Rows.fnExactEqualArchivesRow.domain.isEmpty then [] else Try.f3.params.toList.map fun t => match Try.pinned.checked.prog.underlying t with | some (.int k) => some k | _ => none)) : Bool) = true := by kernel_rfl
theorem fnExactEqualArchives_q29 : ((Rows.fnExactEqualArchivesRow.pinned == Rows.fnExactEqualArchivesRow.pinnedBy) : Bool) = true := by kernel_rfl
theorem fnExactEqualArchives_q30 : ((Rows.fnExactEqualArchivesRow.veiled == (Try.f3.params.toList ++ Rows.fnExactEqualArchivesSpec.plain.varTypes Try.pinned.checked.prog ++ Try.f3.resultTypes.toList).any (Try.pinned.checked.prog.veiledRec ·)) : Bool) = true := by kernel_rfl
theorem fnExactEqualArchives_q31 : (Rows.fnExactEqualArchivesRow.veiledFits Try.pinned.checked.prog Try.f3.params.toList (Try.f3.params.toList ++ Rows.fnExactEqualArchivesSpec.plain.varTypes Try.pinned.checked.prog ++ Try.f3.resultTypes.toList) : Bool) = true := by kernel_rfl
set_option maxRecDepth 100000 in
theorem fnExactEqualArchives_joined : joinedFacts Try.pinned.checked.prog 3 Try.f3 Rows.fnExactEqualArchivesSpec Rows.fnExactEqualArchivesRow = true :=
  (and_mk (and_mk (and_mk (and_mk (and_mk (and_mk (and_mk (and_mk (and_mk (and_mk (and_mk (and_mk (and_mk (and_mk (and_mk (and_mk (and_mk (and_mk (and_mk (and_mk (and_mk (and_mk (and_mk (and_mk (and_mk (and_mk (and_mk (and_mk (and_mk (and_mk (and_mk fnExactEqualArchives_q0 fnExactEqualArchives_q1) fnExactEqualArchives_q2) fnExactEqualArchives_q3) fnExactEqualArchives_q4) fnExactEqualArchives_q5) fnExactEqualArchives_q6) fnExactEqualArchives_q7) fnExactEqualArchives_q8) fnExactEqualArchives_q9) fnExactEqualArchives_q10) fnExactEqualArchives_q11) fnExactEqualArchives_q12) fnExactEqualArchives_q13) fnExactEqualArchives_q14) fnExactEqualArchives_q15) fnExactEqualArchives_q16) fnExactEqualArchives_q17) fnExactEqualArchives_q18) fnExactEqualArchives_q19) fnExactEqualArchives_q20) fnExactEqualArchives_q21) fnExactEqualArchives_q22) fnExactEqualArchives_q23) fnExactEqualArchives_q24) fnExactEqualArchives_q25) fnExactEqualArchives_q26) fnExactEqualArchives_q27) fnExactEqualArchives_q28) fnExactEqualArchives_q29) fnExactEqualArchives_q30) fnExactEqualArchives_q31)
theorem fnExactEqualArchives_holds : Rows.FnExactEqualArchivesSaid :=
  OpenClaim.holds_of_wide 3 Try.f3 rfl rfl rfl rfl rfl rfl rfl ⟨rfl, rfl, rfl, rfl, rfl⟩ rfl rfl rfl rfl rfl (by kernel_rfl) Try.func3 fnExactEqualArchives_joined
    (of_decide_eq_true (by kernel_rfl)) (by unfold Func.isWrapper; first | (rw [if_pos (by decide +kernel)]; kernel_rfl) | (rw [if_neg (by decide +kernel)]; exact ⟨rfl, rfl⟩))
    (fun os started H enc _ => fnExactEqualArchives_lifted os started H enc)
end Go.Proofs.Ytdnmahkbhobooaa
