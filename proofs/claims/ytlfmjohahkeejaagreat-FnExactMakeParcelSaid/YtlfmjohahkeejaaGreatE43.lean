/- FnExactMakeParcel: each law function of these statements answers true, for all arguments that can be read. Conditions: none. -/
import Derived.Test.YtlfmjohahkeejaaGreatRows
import Derived.Test.YtlfmjohahkeejaaGreatW43z0
import Derived.Test.YtlfmjohahkeejaaGreatP2
namespace Go.Proofs.YtlfmjohahkeejaaGreat
open Go.ChangeShapes Go.WideShapes Go.ChangeAt Go.RowKit

theorem Tryz.own : ownKnob Tryz.prog.godebug = none := by kernel_rfl
theorem Tryz.laidOut : laidOutB Tryz.prog = true := by kernel_rfl
theorem and_mk {a b : Bool} (h : a = true) (k : b = true) : (a && b) = true := by rw [h, k]; rfl
set_option maxRecDepth 100000 in
theorem fnExactMakeParcel_lifted (os : Os) (started : os.Started) (H : Type) (enc : TypeId × Value → H) :
    ReturnsInHanded {} Tryz.checked os 4 .any (Rows.fnExactMakeParcelSpec.pre6 enc Tryz.prog Tryz.f4 Rows.fnExactMakeParcelRow.domain false) (Rows.fnExactMakeParcelSpec.post enc Tryz.prog Tryz.f4 false true false false) := by
  refine returnsInHanded_of_change (C := Tryz.checked) Tryz.own started (by kernel_rfl) Tryz.func4
    (ChangeSpec.witness6 (enc := enc) (C := Tryz.checked) false ⟨#[], #[.agg #[.int .i64 0, .slice none 0 0], .int .i64 0, .slice none 0 0, .int .i64 0], []⟩ 12 (by kernel_rfl) (by kernel_rfl) (by kernel_rfl) (by kernel_rfl)) ?_
  intro W base args ds gs before hval0 hW hcnd _
  have hval : ∀ (j : Nat) t v, Tryz.f4.params[j]? = some t → args[j]? = some v → Value.okWide Tryz.prog W .any base t v := hval0
  have hW' := hW
  obtain ⟨p, q, hA0, hV, rfl, hfz, hnd⟩ := hW
  have hA : DataW.TrodAll enc Tryz.prog W 0 (fun _ => true) true Tryz.f4.params.toList args.toList ds p := hA0
  obtain ⟨rfl, rfl⟩ := trodVars_none hV
  have hlen : ds.length = 4 := Fw.trodAll_len hA
  rcases ds with _ | ⟨d1, _ | ⟨d2, _ | ⟨d3, _ | ⟨d4, _ | ⟨d5, ds⟩⟩⟩⟩⟩ <;> first | (simp at hlen; done) | skip
  refine (Fw.yes_call Fw.F4_ok (fun _ _ => trivial) (fun _ _ => rfl) (ts := Tryz.f4.params.toList) (by kernel_rfl) hA (fun j t v h1 h2 => hval j t v (by simpa using h1) (by simpa using h2))).mono fun e W' ⟨he, hfr⟩ => ?_
  subst he
  exact ⟨_, rfl, Fw.post_yes Tryz.laidOut (by kernel_rfl) rfl rfl rfl Tryz.underlying4 hW' hfr⟩

theorem fnExactMakeParcel_q0 : (Rows.fnExactMakeParcelRow.wf (OpenSpec.ofChange Rows.fnExactMakeParcelSpec) : Bool) = true := by kernel_rfl
theorem fnExactMakeParcel_q1 : (laidOutB Tryz.pinned.checked.prog : Bool) = true := by kernel_rfl
theorem fnExactMakeParcel_q2 : (mapsRowed Tryz.pinned.checked.prog : Bool) = true := by kernel_rfl
theorem fnExactMakeParcel_q3 : (Tryz.f4.params.all (Tryz.pinned.checked.prog.readableRec ·) : Bool) = true := by kernel_rfl
theorem fnExactMakeParcel_q4 : (namedTie Tryz.pinned.checked.prog Rows.fnExactMakeParcelRow.named Rows.fnExactMakeParcelSpec.vars : Bool) = true := by kernel_rfl
theorem fnExactMakeParcel_q5 : ((Rows.fnExactMakeParcelRow.stops == []) : Bool) = true := by kernel_rfl
theorem fnExactMakeParcel_q6 : ((Tryz.pinned.checked.prog.stops == []) : Bool) = true := by kernel_rfl
theorem fnExactMakeParcel_q7 : ((Rows.fnExactMakeParcelRow.knobs == []) : Bool) = true := by kernel_rfl
theorem fnExactMakeParcel_q8 : ((Tryz.pinned.checked.prog.stopKnobs == []) : Bool) = true := by kernel_rfl
theorem fnExactMakeParcel_q9 : ((Rows.fnExactMakeParcelRow.inPlace == Tryz.pinned.checked.prog.inPlace 4) : Bool) = true := by kernel_rfl
theorem fnExactMakeParcel_q10 : ((Rows.fnExactMakeParcelRow.unfollowed == Tryz.pinned.checked.prog.unfollowed 4) : Bool) = true := by kernel_rfl
theorem fnExactMakeParcel_q11 : ((Rows.fnExactMakeParcelRow.recurses == Tryz.pinned.checked.prog.recurses 4) : Bool) = true := by kernel_rfl
theorem fnExactMakeParcel_q12 : ((Rows.fnExactMakeParcelRow.named == Tryz.pinned.checked.prog.varsNamed 4) : Bool) = true := by kernel_rfl
theorem fnExactMakeParcel_q13 : ((Rows.fnExactMakeParcelRow.maps == (Tryz.f4.params.toList ++ Rows.fnExactMakeParcelSpec.plain.varTypes Tryz.pinned.checked.prog).any (Tryz.pinned.checked.prog.mapsRec ·)) : Bool) = true := by kernel_rfl
theorem fnExactMakeParcel_q14 : ((Rows.fnExactMakeParcelRow.ifaces == (Tryz.f4.params.toList ++ Rows.fnExactMakeParcelSpec.plain.varTypes Tryz.pinned.checked.prog).any (Tryz.pinned.checked.prog.ifacesRec ·)) : Bool) = true := by kernel_rfl
theorem fnExactMakeParcel_q15 : ((Rows.fnExactMakeParcelRow.mapsOut == Tryz.pinned.checked.prog.mapsAmong Tryz.f4.resultTypes.toList) : Bool) = true := by kernel_rfl
theorem fnExactMakeParcel_q16 : ((Rows.fnExactMakeParcelRow.loops == (Tryz.f4.params.toList ++ Rows.fnExactMakeParcelSpec.plain.varTypes Tryz.pinned.checked.prog).any (Tryz.pinned.checked.prog.loopsFrom ·)) : Bool) = true := by kernel_rfl
theorem fnExactMakeParcel_q17 : ((Rows.fnExactMakeParcelRow.wideKeys == (Tryz.f4.params.toList ++ Rows.fnExactMakeParcelSpec.plain.varTypes Tryz.pinned.checked.prog ++ Tryz.f4.resultTypes.toList).any (Tryz.pinned.checked.prog.wideKeysFrom ·)) : Bool) = true := by kernel_rfl
theorem fnExactMakeParcel_q18 : (Rows.fnExactMakeParcelSpec.vars.all (Tryz.pinned.checked.prog.varReadable ·) : Bool) = true := by kernel_rfl
theorem fnExactMakeParcel_q19 : (Tryz.f4.resultTypes.all (fun t => Tryz.pinned.checked.prog.readableRec t && decide (t < Tryz.pinned.checked.prog.types.size)) : Bool) = true := by kernel_rfl
theorem fnExactMakeParcel_q20 : ((Rows.fnExactMakeParcelRow.ifacesOut == Tryz.f4.resultTypes.toList.any (Tryz.pinned.checked.prog.ifacesRec ·)) : Bool) = true := by kernel_rfl
theorem fnExactMakeParcel_q21 : ((Rows.fnExactMakeParcelRow.loopsOut == Tryz.f4.resultTypes.toList.any (Tryz.pinned.checked.prog.loopsFrom ·)) : Bool) = true := by kernel_rfl
theorem fnExactMakeParcel_q22 : ((Rows.fnExactMakeParcelRow.plainKeys == Tryz.pinned.checked.prog.plainKeys) : Bool) = true := by kernel_rfl
theorem fnExactMakeParcel_q23 : (Rows.fnExactMakeParcelRow.shortTexts.isNone : Bool) = true := by kernel_rfl
theorem fnExactMakeParcel_q24 : (Tryz.pinned.checked.prog.stopsHeard : Bool) = true := by kernel_rfl
theorem fnExactMakeParcel_q25 : (Tryz.pinned.checked.prog.mayEnter : Bool) = true := by kernel_rfl
theorem fnExactMakeParcel_q26 : ((Rows.fnExactMakeParcelRow.lifted == Tryz.pinned.checked.prog.liftsFinal) : Bool) = true := by kernel_rfl
theorem fnExactMakeParcel_q27 : ((Tryz.pinned.checked.prog.make == some Rows.fnExactMakeParcelRow.make) : Bool) = true := by kernel_rfl
theorem fnExactMakeParcel_q28 : ((Rows.fnExactMakeParcelRow.kinds == (if Rows.fnExactMakeParcelRow.domain.isEmpty then [] else Tryz.f4.params.toList.map fun t => match Tryz.pinned.checked.prog.underlying t with | some (.int k) => some k | _ => none)) : Bool) = true := by kernel_rfl
theorem fnExactMakeParcel_q29 : ((Rows.fnExactMakeParcelRow.pinned == Rows.fnExactMakeParcelRow.pinnedBy) : Bool) = true := by kernel_rfl
theorem fnExactMakeParcel_q30 : ((Rows.fnExactMakeParcelRow.veiled == (Tryz.f4.params.toList ++ Rows.fnExactMakeParcelSpec.plain.varTypes Tryz.pinned.checked.prog ++ Tryz.f4.resultTypes.toList).any (Tryz.pinned.checked.prog.veiledRec ·)) : Bool) = true := by kernel_rfl
theorem fnExactMakeParcel_q31 : (Rows.fnExactMakeParcelRow.veiledFits Tryz.pinned.checked.prog Tryz.f4.params.toList (Tryz.f4.params.toList ++ Rows.fnExactMakeParcelSpec.plain.varTypes Tryz.pinned.checked.prog ++ Tryz.f4.resultTypes.toList) : Bool) = true := by kernel_rfl
set_option maxRecDepth 100000 in
theorem fnExactMakeParcel_joined : joinedFacts Tryz.pinned.checked.prog 4 Tryz.f4 Rows.fnExactMakeParcelSpec Rows.fnExactMakeParcelRow = true :=
  (and_mk (and_mk (and_mk (and_mk (and_mk (and_mk (and_mk (and_mk (and_mk (and_mk (and_mk (and_mk (and_mk (and_mk (and_mk (and_mk (and_mk (and_mk (and_mk (and_mk (and_mk (and_mk (and_mk (and_mk (and_mk (and_mk (and_mk (and_mk (and_mk (and_mk (and_mk fnExactMakeParcel_q0 fnExactMakeParcel_q1) fnExactMakeParcel_q2) fnExactMakeParcel_q3) fnExactMakeParcel_q4) fnExactMakeParcel_q5) fnExactMakeParcel_q6) fnExactMakeParcel_q7) fnExactMakeParcel_q8) fnExactMakeParcel_q9) fnExactMakeParcel_q10) fnExactMakeParcel_q11) fnExactMakeParcel_q12) fnExactMakeParcel_q13) fnExactMakeParcel_q14) fnExactMakeParcel_q15) fnExactMakeParcel_q16) fnExactMakeParcel_q17) fnExactMakeParcel_q18) fnExactMakeParcel_q19) fnExactMakeParcel_q20) fnExactMakeParcel_q21) fnExactMakeParcel_q22) fnExactMakeParcel_q23) fnExactMakeParcel_q24) fnExactMakeParcel_q25) fnExactMakeParcel_q26) fnExactMakeParcel_q27) fnExactMakeParcel_q28) fnExactMakeParcel_q29) fnExactMakeParcel_q30) fnExactMakeParcel_q31)
theorem fnExactMakeParcel_holds : Rows.FnExactMakeParcelSaid :=
  OpenClaim.holds_of_wide 4 Tryz.f4 rfl rfl rfl rfl rfl rfl rfl ⟨rfl, rfl, rfl, rfl, rfl⟩ rfl rfl rfl rfl rfl (by kernel_rfl) Tryz.func4 fnExactMakeParcel_joined
    (of_decide_eq_true (by kernel_rfl)) (by unfold Func.isWrapper; first | (rw [if_pos (by decide +kernel)]; kernel_rfl) | (rw [if_neg (by decide +kernel)]; exact ⟨rfl, rfl⟩))
    (fun os started H enc _ => fnExactMakeParcel_lifted os started H enc)
end Go.Proofs.YtlfmjohahkeejaaGreat
