/- FnLies: each law function of these statements answers true, for all arguments that can be read. Conditions: none. -/
import Derived.Test.YtacmkmcclbpolaaGreatRows
import Derived.Test.YtacmkmcclbpolaaGreatW36z0
import Derived.Test.YtacmkmcclbpolaaGreatP2
namespace Go.Proofs.YtacmkmcclbpolaaGreat
open Go.ChangeShapes Go.WideShapes Go.ChangeAt Go.RowKit
theorem Tryz.own : ownKnob Tryz.prog.godebug = none := by kernel_rfl
theorem Tryz.laidOut : laidOutB Tryz.prog = true := by kernel_rfl
theorem and_mk {a b : Bool} (h : a = true) (k : b = true) : (a && b) = true := by rw [h, k]; rfl
set_option maxRecDepth 100000 in
theorem fnLies_lifted (os : Os) (started : os.Started) (H : Type) (enc : TypeId × Value → H) :
   ReturnsInHanded {} Tryz.checked os 4 .any (Rows.fnLiesSpec.pre6 enc Tryz.prog Tryz.f4 Rows.fnLiesRow.domain false) (Rows.fnLiesSpec.post enc Tryz.prog Tryz.f4 false true false false) := by
 refine returnsInHanded_of_change (C := Tryz.checked) Tryz.own started (by kernel_rfl) Tryz.func4
   (ChangeSpec.witness6 (enc := enc) (C := Tryz.checked) false ⟨#[], #[.slice none 0 0], []⟩ 12 (by kernel_rfl) (by kernel_rfl) (by kernel_rfl) (by kernel_rfl)) ?_
 intro W base args ds gs before hval0 hW hcnd _
 have hval : ∀ (j : Nat) t v, Tryz.f4.params[j]? = some t → args[j]? = some v → Value.okWide Tryz.prog W .any base t v := hval0
 have hW' := hW
 obtain ⟨p, q, hA0, hV, rfl, hfz, hnd⟩ := hW
 have hA : DataW.TrodAll enc Tryz.prog W 0 (fun _ => true) true Tryz.f4.params.toList args.toList ds p := hA0
 obtain ⟨rfl, rfl⟩ := trodVars_none hV
 have hlen : ds.length = 1 := Fw.trodAll_len hA
 rcases ds with _ | ⟨d1, _ | ⟨d2, ds⟩⟩ <;> first | (simp at hlen; done) | skip
 refine (Fw.yes_call Fw.F4_ok (fun _ _ => trivial) (fun _ _ => rfl) (ts := Tryz.f4.params.toList) (by kernel_rfl) hA (fun j t v h1 h2 => hval j t v (by simpa using h1) (by simpa using h2))).mono fun e W' ⟨he, hfr⟩ => ?_
 subst he
 exact ⟨_, rfl, Fw.post_yes Tryz.laidOut (by kernel_rfl) rfl rfl rfl Tryz.underlying4 hW' hfr⟩
theorem fnLies_q0 : (Rows.fnLiesRow.wf (OpenSpec.ofChange Rows.fnLiesSpec) : Bool) = true := by kernel_rfl
theorem fnLies_q1 : (laidOutB Tryz.pinned.checked.prog : Bool) = true := by kernel_rfl
theorem fnLies_q2 : (mapsRowed Tryz.pinned.checked.prog : Bool) = true := by kernel_rfl
theorem fnLies_q3 : (Tryz.f4.params.all (Tryz.pinned.checked.prog.readableRec ·) : Bool) = true := by kernel_rfl
theorem fnLies_q4 : (namedTie Tryz.pinned.checked.prog Rows.fnLiesRow.named Rows.fnLiesSpec.vars : Bool) = true := by kernel_rfl
theorem fnLies_q5 : ((Rows.fnLiesRow.stops == []) : Bool) = true := by kernel_rfl
theorem fnLies_q6 : ((Tryz.pinned.checked.prog.stops == []) : Bool) = true := by kernel_rfl
theorem fnLies_q7 : ((Rows.fnLiesRow.knobs == []) : Bool) = true := by kernel_rfl
theorem fnLies_q8 : ((Tryz.pinned.checked.prog.stopKnobs == []) : Bool) = true := by kernel_rfl
theorem fnLies_q9 : ((Rows.fnLiesRow.inPlace == Tryz.pinned.checked.prog.inPlace 4) : Bool) = true := by kernel_rfl
theorem fnLies_q10 : ((Rows.fnLiesRow.unfollowed == Tryz.pinned.checked.prog.unfollowed 4) : Bool) = true := by kernel_rfl
theorem fnLies_q11 : ((Rows.fnLiesRow.recurses == Tryz.pinned.checked.prog.recurses 4) : Bool) = true := by kernel_rfl
theorem fnLies_q12 : ((Rows.fnLiesRow.named == Tryz.pinned.checked.prog.varsNamed 4) : Bool) = true := by kernel_rfl
theorem fnLies_q13 : ((Rows.fnLiesRow.maps == (Tryz.f4.params.toList ++ Rows.fnLiesSpec.plain.varTypes Tryz.pinned.checked.prog).any (Tryz.pinned.checked.prog.mapsRec ·)) : Bool) = true := by kernel_rfl
theorem fnLies_q14 : ((Rows.fnLiesRow.ifaces == (Tryz.f4.params.toList ++ Rows.fnLiesSpec.plain.varTypes Tryz.pinned.checked.prog).any (Tryz.pinned.checked.prog.ifacesRec ·)) : Bool) = true := by kernel_rfl
theorem fnLies_q15 : ((Rows.fnLiesRow.mapsOut == Tryz.pinned.checked.prog.mapsAmong Tryz.f4.resultTypes.toList) : Bool) = true := by kernel_rfl
theorem fnLies_q16 : ((Rows.fnLiesRow.loops == (Tryz.f4.params.toList ++ Rows.fnLiesSpec.plain.varTypes Tryz.pinned.checked.prog).any (Tryz.pinned.checked.prog.loopsFrom ·)) : Bool) = true := by kernel_rfl
theorem fnLies_q17 : ((Rows.fnLiesRow.wideKeys == (Tryz.f4.params.toList ++ Rows.fnLiesSpec.plain.varTypes Tryz.pinned.checked.prog ++ Tryz.f4.resultTypes.toList).any (Tryz.pinned.checked.prog.wideKeysFrom ·)) : Bool) = true := by kernel_rfl
theorem fnLies_q18 : (Rows.fnLiesSpec.vars.all (Tryz.pinned.checked.prog.varReadable ·) : Bool) = true := by kernel_rfl
theorem fnLies_q19 : (Tryz.f4.resultTypes.all (fun t => Tryz.pinned.checked.prog.readableRec t && decide (t < Tryz.pinned.checked.prog.types.size)) : Bool) = true := by kernel_rfl
theorem fnLies_q20 : ((Rows.fnLiesRow.ifacesOut == Tryz.f4.resultTypes.toList.any (Tryz.pinned.checked.prog.ifacesRec ·)) : Bool) = true := by kernel_rfl
theorem fnLies_q21 : ((Rows.fnLiesRow.loopsOut == Tryz.f4.resultTypes.toList.any (Tryz.pinned.checked.prog.loopsFrom ·)) : Bool) = true := by kernel_rfl
theorem fnLies_q22 : ((Rows.fnLiesRow.plainKeys == Tryz.pinned.checked.prog.plainKeys) : Bool) = true := by kernel_rfl
theorem fnLies_q23 : (Rows.fnLiesRow.shortTexts.isNone : Bool) = true := by kernel_rfl
theorem fnLies_q24 : (Tryz.pinned.checked.prog.stopsHeard : Bool) = true := by kernel_rfl
theorem fnLies_q25 : (Tryz.pinned.checked.prog.mayEnter : Bool) = true := by kernel_rfl
theorem fnLies_q26 : ((Rows.fnLiesRow.lifted == Tryz.pinned.checked.prog.liftsFinal) : Bool) = true := by kernel_rfl
theorem fnLies_q27 : ((Tryz.pinned.checked.prog.make == some Rows.fnLiesRow.make) : Bool) = true := by kernel_rfl
theorem fnLies_q28 : ((Rows.fnLiesRow.kinds == (if Rows.fnLiesRow.domain.isEmpty then [] else Tryz.f4.params.toList.map fun t => match Tryz.pinned.checked.prog.underlying t with | some (.int k) => some k | _ => none)) : Bool) = true := by kernel_rfl
theorem fnLies_q29 : ((Rows.fnLiesRow.pinned == Rows.fnLiesRow.pinnedBy) : Bool) = true := by kernel_rfl
theorem fnLies_q30 : ((Rows.fnLiesRow.veiled == (Tryz.f4.params.toList ++ Rows.fnLiesSpec.plain.varTypes Tryz.pinned.checked.prog ++ Tryz.f4.resultTypes.toList).any (Tryz.pinned.checked.prog.veiledRec ·)) : Bool) = true := by kernel_rfl
theorem fnLies_q31 : (Rows.fnLiesRow.veiledFits Tryz.pinned.checked.prog Tryz.f4.params.toList (Tryz.f4.params.toList ++ Rows.fnLiesSpec.plain.varTypes Tryz.pinned.checked.prog ++ Tryz.f4.resultTypes.toList) : Bool) = true := by kernel_rfl
set_option maxRecDepth 100000 in
theorem fnLies_joined : joinedFacts Tryz.pinned.checked.prog 4 Tryz.f4 Rows.fnLiesSpec Rows.fnLiesRow = true :=
 (and_mk (and_mk (and_mk (and_mk (and_mk (and_mk (and_mk (and_mk (and_mk (and_mk (and_mk (and_mk (and_mk (and_mk (and_mk (and_mk (and_mk (and_mk (and_mk (and_mk (and_mk (and_mk (and_mk (and_mk (and_mk (and_mk (and_mk (and_mk (and_mk (and_mk (and_mk fnLies_q0 fnLies_q1) fnLies_q2) fnLies_q3) fnLies_q4) fnLies_q5) fnLies_q6) fnLies_q7) fnLies_q8) fnLies_q9) fnLies_q10) fnLies_q11) fnLies_q12) fnLies_q13) fnLies_q14) fnLies_q15) fnLies_q16) fnLies_q17) fnLies_q18) fnLies_q19) fnLies_q20) fnLies_q21) fnLies_q22) fnLies_q23) fnLies_q24) fnLies_q25) fnLies_q26) fnLies_q27) fnLies_q28) fnLies_q29) fnLies_q30) fnLies_q31)
theorem fnLies_holds : Rows.FnLiesSaid :=
 OpenClaim.holds_of_wide 4 Tryz.f4 rfl rfl rfl rfl rfl rfl rfl ⟨rfl, rfl, rfl, rfl, rfl⟩ rfl rfl rfl rfl rfl (by kernel_rfl) Tryz.func4 fnLies_joined
   (of_decide_eq_true (by kernel_rfl)) (by unfold Func.isWrapper; first | (rw [if_pos (by decide +kernel)]; kernel_rfl) | (rw [if_neg (by decide +kernel)]; exact ⟨rfl, rfl⟩))
   (fun os started H enc _ => fnLies_lifted os started H enc)
end Go.Proofs.YtacmkmcclbpolaaGreat
