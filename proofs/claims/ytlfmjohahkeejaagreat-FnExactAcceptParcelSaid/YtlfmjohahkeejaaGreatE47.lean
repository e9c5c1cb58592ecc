/- FnExactAcceptParcel: each law function of these statements answers true, for all arguments that can be read. Conditions: none. -/
import Derived.Test.YtlfmjohahkeejaaGreatRows
import Derived.Test.YtlfmjohahkeejaaGreatW47z0
import Derived.Test.YtlfmjohahkeejaaGreatP2
namespace Go.Proofs.YtlfmjohahkeejaaGreat
open Go.ChangeShapes Go.WideShapes Go.ChangeAt Go.RowKit

theorem Tryz.own : ownKnob Tryz.prog.godebug = none := by kernel_rfl
theorem Tryz.laidOut : laidOutB Tryz.prog = true := by kernel_rfl
theorem and_mk {a b : Bool} (h : a = true) (k : b = true) : (a && b) = true := by rw [h, k]; rfl
set_option maxRecDepth 100000 in
theorem fnExactAcceptParcel_lifted (os : Os) (started : os.Started) (H : Type) (enc : TypeId × Value → H) :
    ReturnsInHanded {} Tryz.checked os 6 .any (Rows.fnExactAcceptParcelSpec.pre6 enc Tryz.prog Tryz.f6 Rows.fnExactAcceptParcelRow.domain false) (Rows.fnExactAcceptParcelSpec.post enc Tryz.prog Tryz.f6 false true false false) := by
  refine returnsInHanded_of_change (C := Tryz.checked) Tryz.own started (by kernel_rfl) Tryz.func6
    (ChangeSpec.witness6 (enc := enc) (C := Tryz.checked) false ⟨#[], #[.agg #[.int .i64 0, .slice none 0 0], .agg #[.int .i64 0, .int .i64 0, .slice none 0 0, .int .i64 0], .int .i64 0], []⟩ 12 (by kernel_rfl) (by kernel_rfl) (by kernel_rfl) (by kernel_rfl)) ?_
  intro W base args ds gs before hval0 hW hcnd _
  have hval : ∀ (j : Nat) t v, Tryz.f6.params[j]? = some t → args[j]? = some v → Value.okWide Tryz.prog W .any base t v := hval0
  have hW' := hW
  obtain ⟨p, q, hA0, hV, rfl, hfz, hnd⟩ := hW
  have hA : DataW.TrodAll enc Tryz.prog W 0 (fun _ => true) true Tryz.f6.params.toList args.toList ds p := hA0
  obtain ⟨rfl, rfl⟩ := trodVars_none hV
  have hlen : ds.length = 3 := Fw.trodAll_len hA
  rcases ds with _ | ⟨d1, _ | ⟨d2, _ | ⟨d3, _ | ⟨d4, ds⟩⟩⟩⟩ <;> first | (simp at hlen; done) | skip
  refine (Fw.yes_call Fw.F6_ok (fun _ _ => trivial) (fun _ _ => rfl) (ts := Tryz.f6.params.toList) (by kernel_rfl) hA (fun j t v h1 h2 => hval j t v (by simpa using h1) (by simpa using h2))).mono fun e W' ⟨he, hfr⟩ => ?_
  subst he
  exact ⟨_, rfl, Fw.post_yes Tryz.laidOut (by kernel_rfl) rfl rfl rfl Tryz.underlying4 hW' hfr⟩

theorem fnExactAcceptParcel_q0 : (Rows.fnExactAcceptParcelRow.wf (OpenSpec.ofChange Rows.fnExactAcceptParcelSpec) : Bool) = true := by kernel_rfl
theorem fnExactAcceptParcel_q1 : (laidOutB Tryz.pinned.checked.prog : Bool) = true := by kernel_rfl
theorem fnExactAcceptParcel_q2 : (mapsRowed Tryz.pinned.checked.prog : Bool) = true := by kernel_rfl
theorem fnExactAcceptParcel_q3 : (Tryz.f6.params.all (Tryz.pinned.checked.prog.readableRec ·) : Bool) = true := by kernel_rfl
theorem fnExactAcceptParcel_q4 : (namedTie Tryz.pinned.checked.prog Rows.fnExactAcceptParcelRow.named Rows.fnExactAcceptParcelSpec.vars : Bool) = true := by kernel_rfl
theorem fnExactAcceptParcel_q5 : ((Rows.fnExactAcceptParcelRow.stops == []) : Bool) = true := by kernel_rfl
theorem fnExactAcceptParcel_q6 : ((Tryz.pinned.checked.prog.stops == []) : Bool) = true := by kernel_rfl
theorem fnExactAcceptParcel_q7 : ((Rows.fnExactAcceptParcelRow.knobs == []) : Bool) = true := by kernel_rfl
theorem fnExactAcceptParcel_q8 : ((Tryz.pinned.checked.prog.stopKnobs == []) : Bool) = true := by kernel_rfl
theorem fnExactAcceptParcel_q9 : ((Rows.fnExactAcceptParcelRow.inPlace == Tryz.pinned.checked.prog.inPlace 6) : Bool) = true := by kernel_rfl
theorem fnExactAcceptParcel_q10 : ((Rows.fnExactAcceptParcelRow.unfollowed == Tryz.pinned.checked.prog.unfollowed 6) : Bool) = true := by kernel_rfl
theorem fnExactAcceptParcel_q11 : ((Rows.fnExactAcceptParcelRow.recurses == Tryz.pinned.checked.prog.recurses 6) : Bool) = true := by kernel_rfl
theorem fnExactAcceptParcel_q12 : ((Rows.fnExactAcceptParcelRow.named == Tryz.pinned.checked.prog.varsNamed 6) : Bool) = true := by kernel_rfl
theorem fnExactAcceptParcel_q13 : ((Rows.fnExactAcceptParcelRow.maps == (Tryz.f6.params.toList ++ Rows.fnExactAcceptParcelSpec.plain.varTypes Tryz.pinned.checked.prog).any (Tryz.pinned.checked.prog.mapsRec ·)) : Bool) = true := by kernel_rfl
theorem fnExactAcceptParcel_q14 : ((Rows.fnExactAcceptParcelRow.ifaces == (Tryz.f6.params.toList ++ Rows.fnExactAcceptParcelSpec.plain.varTypes Tryz.pinned.checked.prog).any (Tryz.pinned.checked.prog.ifacesRec ·)) : Bool) = true := by kernel_rfl
theorem fnExactAcceptParcel_q15 : ((Rows.fnExactAcceptParcelRow.mapsOut == Tryz.pinned.checked.prog.mapsAmong Tryz.f6.resultTypes.toList) : Bool) = true := by kernel_rfl
theorem fnExactAcceptParcel_q16 : ((Rows.fnExactAcceptParcelRow.loops == (Tryz.f6.params.toList ++ Rows.fnExactAcceptParcelSpec.plain.varTypes Tryz.pinned.checked.prog).any (Tryz.pinned.checked.prog.loopsFrom ·)) : Bool) = true := by kernel_rfl
theorem fnExactAcceptParcel_q17 : ((Rows.fnExactAcceptParcelRow.wideKeys == (Tryz.f6.params.toList ++ Rows.fnExactAcceptParcelSpec.plain.varTypes Tryz.pinned.checked.prog ++ Tryz.f6.resultTypes.toList).any (Tryz.pinned.checked.prog.wideKeysFrom ·)) : Bool) = true := by kernel_rfl
theorem fnExactAcceptParcel_q18 : (Rows.fnExactAcceptParcelSpec.vars.all (Tryz.pinned.checked.prog.varReadable ·) : Bool) = true := by kernel_rfl
theorem fnExactAcceptParcel_q19 : (Tryz.f6.resultTypes.all (fun t => Tryz.pinned.checked.prog.readableRec t && decide (t < Tryz.pinned.checked.prog.types.size)) : Bool) = true := by kernel_rfl
theorem fnExactAcceptParcel_q20 : ((Rows.fnExactAcceptParcelRow.ifacesOut == Tryz.f6.resultTypes.toList.any (Tryz.pinned.checked.prog.ifacesRec ·)) : Bool) = true := by kernel_rfl
theorem fnExactAcceptParcel_q21 : ((Rows.fnExactAcceptParcelRow.loopsOut == Tryz.f6.resultTypes.toList.any (Tryz.pinned.checked.prog.loopsFrom ·)) : Bool) = true := by kernel_rfl
theorem fnExactAcceptParcel_q22 : ((Rows.fnExactAcceptParcelRow.plainKeys == Tryz.pinned.checked.prog.plainKeys) : Bool) = true := by kernel_rfl
theorem fnExactAcceptParcel_q23 : (Rows.fnExactAcceptParcelRow.shortTexts.isNone : Bool) = true := by kernel_rfl
theorem fnExactAcceptParcel_q24 : (Tryz.pinned.checked.prog.stopsHeard : Bool) = true := by kernel_rfl
theorem fnExactAcceptParcel_q25 : (Tryz.pinned.checked.prog.mayEnter : Bool) = true := by kernel_rfl
theorem fnExactAcceptParcel_q26 : ((Rows.fnExactAcceptParcelRow.lifted == Tryz.pinned.checked.prog.liftsFinal) : Bool) = true := by kernel_rfl
theorem fnExactAcceptParcel_q27 : ((Tryz.pinned.checked.prog.make == some Rows.fnExactAcceptParcelRow.make) : Bool) = true := by kernel_rfl
theorem fnExactAcceptParcel_q28 : ((Rows.fnExactAcceptParcelRow.kinds == (if Rows.fnExactAcceptParcelRow.domain.isEmpty then [] else Tryz.f6.params.toList.map fun t => match Tryz.pinned.checked.prog.underlying t with | some (.int k) => some k | _ => none)) : Bool) = true := by kernel_rfl
theorem fnExactAcceptParcel_q29 : ((Rows.fnExactAcceptParcelRow.pinned == Rows.fnExactAcceptParcelRow.pinnedBy) : Bool) = true := by kernel_rfl
theorem fnExactAcceptParcel_q30 : ((Rows.fnExactAcceptParcelRow.veiled == (Tryz.f6.params.toList ++ Rows.fnExactAcceptParcelSpec.plain.varTypes Tryz.pinned.checked.prog ++ Tryz.f6.resultTypes.toList).any (Tryz.pinned.checked.prog.veiledRec ·)) : Bool) = true := by kernel_rfl
theorem fnExactAcceptParcel_q31 : (Rows.fnExactAcceptParcelRow.veiledFits Tryz.pinned.checked.prog Tryz.f6.params.toList (Tryz.f6.params.toList ++ Rows.fnExactAcceptParcelSpec.plain.varTypes Tryz.pinned.checked.prog ++ Tryz.f6.resultTypes.toList) : Bool) = true := by kernel_rfl
set_option maxRecDepth 100000 in
theorem fnExactAcceptParcel_joined : joinedFacts Tryz.pinned.checked.prog 6 Tryz.f6 Rows.fnExactAcceptParcelSpec Rows.fnExactAcceptParcelRow = true :=
  (and_mk (and_mk (and_mk (and_mk (and_mk (and_mk (and_mk (and_mk (and_mk (and_mk (and_mk (and_mk (and_mk (and_mk (and_mk (and_mk (and_mk (and_mk (and_mk (and_mk (and_mk (and_mk (and_mk (and_mk (and_mk (and_mk (and_mk (and_mk (and_mk (and_mk (and_mk fnExactAcceptParcel_q0 fnExactAcceptParcel_q1) fnExactAcceptParcel_q2) fnExactAcceptParcel_q3) fnExactAcceptParcel_q4) fnExactAcceptParcel_q5) fnExactAcceptParcel_q6) fnExactAcceptParcel_q7) fnExactAcceptParcel_q8) fnExactAcceptParcel_q9) fnExactAcceptParcel_q10) fnExactAcceptParcel_q11) fnExactAcceptParcel_q12) fnExactAcceptParcel_q13) fnExactAcceptParcel_q14) fnExactAcceptParcel_q15) fnExactAcceptParcel_q16) fnExactAcceptParcel_q17) fnExactAcceptParcel_q18) fnExactAcceptParcel_q19) fnExactAcceptParcel_q20) fnExactAcceptParcel_q21) fnExactAcceptParcel_q22) fnExactAcceptParcel_q23) fnExactAcceptParcel_q24) fnExactAcceptParcel_q25) fnExactAcceptParcel_q26) fnExactAcceptParcel_q27) fnExactAcceptParcel_q28) fnExactAcceptParcel_q29) fnExactAcceptParcel_q30) fnExactAcceptParcel_q31)
theorem fnExactAcceptParcel_holds : Rows.FnExactAcceptParcelSaid :=
  OpenClaim.holds_of_wide 6 Tryz.f6 rfl rfl rfl rfl rfl rfl rfl ⟨rfl, rfl, rfl, rfl, rfl⟩ rfl rfl rfl rfl rfl (by kernel_rfl) Tryz.func6 fnExactAcceptParcel_joined
    (of_decide_eq_true (by kernel_rfl)) (by unfold Func.isWrapper; first | (rw [if_pos (by decide +kernel)]; kernel_rfl) | (rw [if_neg (by decide +kernel)]; exact ⟨rfl, rfl⟩))
    (fun os started H enc _ => fnExactAcceptParcel_lifted os started H enc)
end Go.Proofs.YtlfmjohahkeejaaGreat
