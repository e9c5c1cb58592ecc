/- FnExactSealArchive: each law function of these statements answers true, for all arguments that can be read. Conditions: none. -/
import Derived.Test.YtlfmjohahkeejaaGreatRows
import Derived.Test.YtlfmjohahkeejaaGreatW46z0
import Derived.Test.YtlfmjohahkeejaaGreatP2
namespace Go.Proofs.YtlfmjohahkeejaaGreat
open Go.ChangeShapes Go.WideShapes Go.ChangeAt Go.RowKit

theorem Tryz.own : ownKnob Tryz.prog.godebug = none := by kernel_rfl
theorem Tryz.laidOut : laidOutB Tryz.prog = true := by kernel_rfl
theorem and_mk {a b : Bool} (h : a = true) (k : b = true) : (a && b) = true := by rw [h, k]; rfl
set_option maxRecDepth 100000 in
theorem fnExactSealArchive_lifted (os : Os) (started : os.Started) (H : Type) (enc : TypeId × Value → H) :
    ReturnsInHanded {} Tryz.checked os 5 .any (Rows.fnExactSealArchiveSpec.pre6 enc Tryz.prog Tryz.f5 Rows.fnExactSealArchiveRow.domain false) (Rows.fnExactSealArchiveSpec.post enc Tryz.prog Tryz.f5 false true false false) := by
  refine returnsInHanded_of_change (C := Tryz.checked) Tryz.own started (by kernel_rfl) Tryz.func5
    (ChangeSpec.witness6 (enc := enc) (C := Tryz.checked) false ⟨#[], #[.agg #[.int .i64 0, .slice none 0 0], .int .i64 0, .slice none 0 0], []⟩ 12 (by kernel_rfl) (by kernel_rfl) (by kernel_rfl) (by kernel_rfl)) ?_
  intro W base args ds gs before hval0 hW hcnd _
  have hval : ∀ (j : Nat) t v, Tryz.f5.params[j]? = some t → args[j]? = some v → Value.okWide Tryz.prog W .any base t v := hval0
  have hW' := hW
  obtain ⟨p, q, hA0, hV, rfl, hfz, hnd⟩ := hW
  have hA : DataW.TrodAll enc Tryz.prog W 0 (fun _ => true) true Tryz.f5.params.toList args.toList ds p := hA0
  obtain ⟨rfl, rfl⟩ := trodVars_none hV
  have hlen : ds.length = 3 := Fw.trodAll_len hA
  rcases ds with _ | ⟨d1, _ | ⟨d2, _ | ⟨d3, _ | ⟨d4, ds⟩⟩⟩⟩ <;> first | (simp at hlen; done) | skip
  refine (Fw.yes_call Fw.F5_ok (fun _ _ => trivial) (fun _ _ => rfl) (ts := Tryz.f5.params.toList) (by kernel_rfl) hA (fun j t v h1 h2 => hval j t v (by simpa using h1) (by simpa using h2))).mono fun e W' ⟨he, hfr⟩ => ?_
  subst he
  exact ⟨_, rfl, Fw.post_yes Tryz.laidOut (by kernel_rfl) rfl rfl rfl Tryz.underlying4 hW' hfr⟩

theorem fnExactSealArchive_q0 : (Rows.fnExactSealArchiveRow.wf (OpenSpec.ofChange Rows.fnExactSealArchiveSpec) : Bool) = true := by kernel_rfl
theorem fnExactSealArchive_q1 : (laidOutB Tryz.pinned.checked.prog : Bool) = true := by kernel_rfl
theorem fnExactSealArchive_q2 : (mapsRowed Tryz.pinned.checked.prog : Bool) = true := by kernel_rfl
theorem fnExactSealArchive_q3 : (Tryz.f5.params.all (Tryz.pinned.checked.prog.readableRec ·) : Bool) = true := by kernel_rfl
theorem fnExactSealArchive_q4 : (namedTie Tryz.pinned.checked.prog Rows.fnExactSealArchiveRow.named Rows.fnExactSealArchiveSpec.vars : Bool) = true := by kernel_rfl
theorem fnExactSealArchive_q5 : ((Rows.fnExactSealArchiveRow.stops == []) : Bool) = true := by kernel_rfl
theorem fnExactSealArchive_q6 : ((Tryz.pinned.checked.prog.stops == []) : Bool) = true := by kernel_rfl
theorem fnExactSealArchive_q7 : ((Rows.fnExactSealArchiveRow.knobs == []) : Bool) = true := by kernel_rfl
theorem fnExactSealArchive_q8 : ((Tryz.pinned.checked.prog.stopKnobs == []) : Bool) = true := by kernel_rfl
theorem fnExactSealArchive_q9 : ((Rows.fnExactSealArchiveRow.inPlace == Tryz.pinned.checked.prog.inPlace 5) : Bool) = true := by kernel_rfl
theorem fnExactSealArchive_q10 : ((Rows.fnExactSealArchiveRow.unfollowed == Tryz.pinned.checked.prog.unfollowed 5) : Bool) = true := by kernel_rfl
theorem fnExactSealArchive_q11 : ((Rows.fnExactSealArchiveRow.recurses == Tryz.pinned.checked.prog.recurses 5) : Bool) = true := by kernel_rfl
theorem fnExactSealArchive_q12 : ((Rows.fnExactSealArchiveRow.named == Tryz.pinned.checked.prog.varsNamed 5) : Bool) = true := by kernel_rfl
theorem fnExactSealArchive_q13 : ((Rows.fnExactSealArchiveRow.maps == (Tryz.f5.params.toList ++ Rows.fnExactSealArchiveSpec.plain.varTypes Tryz.pinned.checked.prog).any (Tryz.pinned.checked.prog.mapsRec ·)) : Bool) = true := by kernel_rfl
theorem fnExactSealArchive_q14 : ((Rows.fnExactSealArchiveRow.ifaces == (Tryz.f5.params.toList ++ Rows.fnExactSealArchiveSpec.plain.varTypes Tryz.pinned.checked.prog).any (Tryz.pinned.checked.prog.ifacesRec ·)) : Bool) = true := by kernel_rfl
theorem fnExactSealArchive_q15 : ((Rows.fnExactSealArchiveRow.mapsOut == Tryz.pinned.checked.prog.mapsAmong Tryz.f5.resultTypes.toList) : Bool) = true := by kernel_rfl
theorem fnExactSealArchive_q16 : ((Rows.fnExactSealArchiveRow.loops == (Tryz.f5.params.toList ++ Rows.fnExactSealArchiveSpec.plain.varTypes Tryz.pinned.checked.prog).any (Tryz.pinned.checked.prog.loopsFrom ·)) : Bool) = true := by kernel_rfl
theorem fnExactSealArchive_q17 : ((Rows.fnExactSealArchiveRow.wideKeys == (Tryz.f5.params.toList ++ Rows.fnExactSealArchiveSpec.plain.varTypes Tryz.pinned.checked.prog ++ Tryz.f5.resultTypes.toList).any (Tryz.pinned.checked.prog.wideKeysFrom ·)) : Bool) = true := by kernel_rfl
theorem fnExactSealArchive_q18 : (Rows.fnExactSealArchiveSpec.vars.all (Tryz.pinned.checked.prog.varReadable ·) : Bool) = true := by kernel_rfl
theorem fnExactSealArchive_q19 : (Tryz.f5.resultTypes.all (fun t => Tryz.pinned.checked.prog.readableRec t && decide (t < Tryz.pinned.checked.prog.types.size)) : Bool) = true := by kernel_rfl
theorem fnExactSealArchive_q20 : ((Rows.fnExactSealArchiveRow.ifacesOut == Tryz.f5.resultTypes.toList.any (Tryz.pinned.checked.prog.ifacesRec ·)) : Bool) = true := by kernel_rfl
theorem fnExactSealArchive_q21 : ((Rows.fnExactSealArchiveRow.loopsOut == Tryz.f5.resultTypes.toList.any (Tryz.pinned.checked.prog.loopsFrom ·)) : Bool) = true := by kernel_rfl
theorem fnExactSealArchive_q22 : ((Rows.fnExactSealArchiveRow.plainKeys == Tryz.pinned.checked.prog.plainKeys) : Bool) = true := by kernel_rfl
theorem fnExactSealArchive_q23 : (Rows.fnExactSealArchiveRow.shortTexts.isNone : Bool) = true := by kernel_rfl
theorem fnExactSealArchive_q24 : (Tryz.pinned.checked.prog.stopsHeard : Bool) = true := by kernel_rfl
theorem fnExactSealArchive_q25 : (Tryz.pinned.checked.prog.mayEnter : Bool) = true := by kernel_rfl
theorem fnExactSealArchive_q26 : ((Rows.fnExactSealArchiveRow.lifted == Tryz.pinned.checked.prog.liftsFinal) : Bool) = true := by kernel_rfl
theorem fnExactSealArchive_q27 : ((Tryz.pinned.checked.prog.make == some Rows.fnExactSealArchiveRow.make) : Bool) = true := by kernel_rfl
theorem fnExactSealArchive_q28 : ((Rows.fnExactSealArchiveRow.kinds == (if Rows.fnExactSealArchiveRow.domain.isEmpty then [] else Tryz.f5.params.toList.map fun t => match Tryz.pinned.checked.prog.underlying t with | some (.int k) => some k | _ => none)) : Bool) = true := by kernel_rfl
theorem fnExactSealArchive_q29 : ((Rows.fnExactSealArchiveRow.pinned == Rows.fnExactSealArchiveRow.pinnedBy) : Bool) = true := by kernel_rfl
theorem fnExactSealArchive_q30 : ((Rows.fnExactSealArchiveRow.veiled == (Tryz.f5.params.toList ++ Rows.fnExactSealArchiveSpec.plain.varTypes Tryz.pinned.checked.prog ++ Tryz.f5.resultTypes.toList).any (Tryz.pinned.checked.prog.veiledRec ·)) : Bool) = true := by kernel_rfl
theorem fnExactSealArchive_q31 : (Rows.fnExactSealArchiveRow.veiledFits Tryz.pinned.checked.prog Tryz.f5.params.toList (Tryz.f5.params.toList ++ Rows.fnExactSealArchiveSpec.plain.varTypes Tryz.pinned.checked.prog ++ Tryz.f5.resultTypes.toList) : Bool) = true := by kernel_rfl
set_option maxRecDepth 100000 in
theorem fnExactSealArchive_joined : joinedFacts Tryz.pinned.checked.prog 5 Tryz.f5 Rows.fnExactSealArchiveSpec Rows.fnExactSealArchiveRow = true :=
  (and_mk (and_mk (and_mk (and_mk (and_mk (and_mk (and_mk (and_mk (and_mk (and_mk (and_mk (and_mk (and_mk (and_mk (and_mk (and_mk (and_mk (and_mk (and_mk (and_mk (and_mk (and_mk (and_mk (and_mk (and_mk (and_mk (and_mk (and_mk (and_mk (and_mk (and_mk fnExactSealArchive_q0 fnExactSealArchive_q1) fnExactSealArchive_q2) fnExactSealArchive_q3) fnExactSealArchive_q4) fnExactSealArchive_q5) fnExactSealArchive_q6) fnExactSealArchive_q7) fnExactSealArchive_q8) fnExactSealArchive_q9) fnExactSealArchive_q10) fnExactSealArchive_q11) fnExactSealArchive_q12) fnExactSealArchive_q13) fnExactSealArchive_q14) fnExactSealArchive_q15) fnExactSealArchive_q16) fnExactSealArchive_q17) fnExactSealArchive_q18) fnExactSealArchive_q19) fnExactSealArchive_q20) fnExactSealArchive_q21) fnExactSealArchive_q22) fnExactSealArchive_q23) fnExactSealArchive_q24) fnExactSealArchive_q25) fnExactSealArchive_q26) fnExactSealArchive_q27) fnExactSealArchive_q28) fnExactSealArchive_q29) fnExactSealArchive_q30) fnExactSealArchive_q31)
theorem fnExactSealArchive_holds : Rows.FnExactSealArchiveSaid :=
  OpenClaim.holds_of_wide 5 Tryz.f5 rfl rfl rfl rfl rfl rfl rfl ⟨rfl, rfl, rfl, rfl, rfl⟩ rfl rfl rfl rfl rfl (by kernel_rfl) Tryz.func5 fnExactSealArchive_joined
    (of_decide_eq_true (by kernel_rfl)) (by unfold Func.isWrapper; first | (rw [if_pos (by decide +kernel)]; kernel_rfl) | (rw [if_neg (by decide +kernel)]; exact ⟨rfl, rfl⟩))
    (fun os started H enc _ => fnExactSealArchive_lifted os started H enc)
end Go.Proofs.YtlfmjohahkeejaaGreat
