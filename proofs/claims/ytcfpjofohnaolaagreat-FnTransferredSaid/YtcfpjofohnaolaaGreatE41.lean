/- FnTransferred: each law function of these statements answers true, for all arguments that can be read. Conditions: none. -/
import Derived.Test.YtcfpjofohnaolaaGreatRows
import Derived.Test.YtcfpjofohnaolaaGreatW41z0
import Derived.Test.YtcfpjofohnaolaaGreatP2
namespace Go.Proofs.YtcfpjofohnaolaaGreat
open Go.ChangeShapes Go.WideShapes Go.ChangeAt Go.RowKit
theorem Tryz.own : ownKnob Tryz.prog.godebug = none := by kernel_rfl
theorem Tryz.laidOut : laidOutB Tryz.prog = true := by kernel_rfl
theorem and_mk {a b : Bool} (h : a = true) (k : b = true) : (a && b) = true := by rw [h, k]; rfl
set_option maxRecDepth 100000 in
theorem fnTransferred_lifted (os : Os) (started : os.Started) (H : Type) (enc : TypeId × Value → H) :
   ReturnsInHanded {} Tryz.checked os 3 .any (Rows.fnTransferredSpec.pre6 enc Tryz.prog Tryz.f3 Rows.fnTransferredRow.domain false) (Rows.fnTransferredSpec.post enc Tryz.prog Tryz.f3 false true false false) := by
 refine returnsInHanded_of_change (C := Tryz.checked) Tryz.own started (by kernel_rfl) Tryz.func3
   (ChangeSpec.witness6 (enc := enc) (C := Tryz.checked) false ⟨#[], #[.slice none 0 0], []⟩ 12 (by kernel_rfl) (by kernel_rfl) (by kernel_rfl) (by kernel_rfl)) ?_
 intro W base args ds gs before hval0 hW hcnd _
 have hval : ∀ (j : Nat) t v, Tryz.f3.params[j]? = some t → args[j]? = some v → Value.okWide Tryz.prog W .any base t v := hval0
 have hW' := hW
 obtain ⟨p, q, hA0, hV, rfl, hfz, hnd⟩ := hW
 have hA : DataW.TrodAll enc Tryz.prog W 0 (fun _ => true) true Tryz.f3.params.toList args.toList ds p := hA0
 obtain ⟨rfl, rfl⟩ := trodVars_none hV
 have hlen : ds.length = 1 := Fw.trodAll_len hA
 rcases ds with _ | ⟨d1, _ | ⟨d2, ds⟩⟩ <;> first | (simp at hlen; done) | skip
 refine (Fw.yes_call Fw.F3_ok (fun _ _ => trivial) (fun _ _ => rfl) (ts := Tryz.f3.params.toList) (by kernel_rfl) hA (fun j t v h1 h2 => hval j t v (by simpa using h1) (by simpa using h2))).mono fun e W' ⟨he, hfr⟩ => ?_
 subst he
 exact ⟨_, rfl, Fw.post_yes Tryz.laidOut (by kernel_rfl) rfl rfl rfl Tryz.underlying4 hW' hfr⟩
theorem fnTransferred_q0 : (Rows.fnTransferredRow.wf (OpenSpec.ofChange Rows.fnTransferredSpec) : Bool) = true := by kernel_rfl
theorem fnTransferred_q1 : (laidOutB Tryz.pinned.checked.prog : Bool) = true := by kernel_rfl
theorem fnTransferred_q2 : (mapsRowed Tryz.pinned.checked.prog : Bool) = true := by kernel_rfl
theorem fnTransferred_q3 : (Tryz.f3.params.all (Tryz.pinned.checked.prog.readableRec ·) : Bool) = true := by kernel_rfl
theorem fnTransferred_q4 : (namedTie Tryz.pinned.checked.prog Rows.fnTransferredRow.named Rows.fnTransferredSpec.vars : Bool) = true := by kernel_rfl
theorem fnTransferred_q5 : ((Rows.fnTransferredRow.stops == []) : Bool) = true := by kernel_rfl
theorem fnTransferred_q6 : ((Tryz.pinned.checked.prog.stops == []) : Bool) = true := by kernel_rfl
theorem fnTransferred_q7 : ((Rows.fnTransferredRow.knobs == []) : Bool) = true := by kernel_rfl
theorem fnTransferred_q8 : ((Tryz.pinned.checked.prog.stopKnobs == []) : Bool) = true := by kernel_rfl
theorem fnTransferred_q9 : ((Rows.fnTransferredRow.inPlace == Tryz.pinned.checked.prog.inPlace 3) : Bool) = true := by kernel_rfl
theorem fnTransferred_q10 : ((Rows.fnTransferredRow.unfollowed == Tryz.pinned.checked.prog.unfollowed 3) : Bool) = true := by kernel_rfl
theorem fnTransferred_q11 : ((Rows.fnTransferredRow.recurses == Tryz.pinned.checked.prog.recurses 3) : Bool) = true := by kernel_rfl
theorem fnTransferred_q12 : ((Rows.fnTransferredRow.named == Tryz.pinned.checked.prog.varsNamed 3) : Bool) = true := by kernel_rfl
theorem fnTransferred_q13 : ((Rows.fnTransferredRow.maps == (Tryz.f3.params.toList ++ Rows.fnTransferredSpec.plain.varTypes Tryz.pinned.checked.prog).any (Tryz.pinned.checked.prog.mapsRec ·)) : Bool) = true := by kernel_rfl
theorem fnTransferred_q14 : ((Rows.fnTransferredRow.ifaces == (Tryz.f3.params.toList ++ Rows.fnTransferredSpec.plain.varTypes Tryz.pinned.checked.prog).any (Tryz.pinned.checked.prog.ifacesRec ·)) : Bool) = true := by kernel_rfl
theorem fnTransferred_q15 : ((Rows.fnTransferredRow.mapsOut == Tryz.pinned.checked.prog.mapsAmong Tryz.f3.resultTypes.toList) : Bool) = true := by kernel_rfl
theorem fnTransferred_q16 : ((Rows.fnTransferredRow.loops == (Tryz.f3.params.toList ++ Rows.fnTransferredSpec.plain.varTypes Tryz.pinned.checked.prog).any (Tryz.pinned.checked.prog.loopsFrom ·)) : Bool) = true := by kernel_rfl
theorem fnTransferred_q17 : ((Rows.fnTransferredRow.wideKeys == (Tryz.f3.params.toList ++ Rows.fnTransferredSpec.plain.varTypes Tryz.pinned.checked.prog ++ Tryz.f3.resultTypes.toList).any (Tryz.pinned.checked.prog.wideKeysFrom ·)) : Bool) = true := by kernel_rfl
theorem fnTransferred_q18 : (Rows.fnTransferredSpec.vars.all (Tryz.pinned.checked.prog.varReadable ·) : Bool) = true := by kernel_rfl
theorem fnTransferred_q19 : (Tryz.f3.resultTypes.all (fun t => Tryz.pinned.checked.prog.readableRec t && decide (t < Tryz.pinned.checked.prog.types.size)) : Bool) = true := by kernel_rfl
theorem fnTransferred_q20 : ((Rows.fnTransferredRow.ifacesOut == Tryz.f3.resultTypes.toList.any (Tryz.pinned.checked.prog.ifacesRec ·)) : Bool) = true := by kernel_rfl
theorem fnTransferred_q21 : ((Rows.fnTransferredRow.loopsOut == Tryz.f3.resultTypes.toList.any (Tryz.pinned.checked.prog.loopsFrom ·)) : Bool) = true := by kernel_rfl
theorem fnTransferred_q22 : ((Rows.fnTransferredRow.plainKeys == Tryz.pinned.checked.prog.plainKeys) : Bool) = true := by kernel_rfl
theorem fnTransferred_q23 : (Rows.fnTransferredRow.shortTexts.isNone : Bool) = true := by kernel_rfl
theorem fnTransferred_q24 : (Tryz.pinned.checked.prog.stopsHeard : Bool) = true := by kernel_rfl
theorem fnTransferred_q25 : (Tryz.pinned.checked.prog.mayEnter : Bool) = true := by kernel_rfl
theorem fnTransferred_q26 : ((Rows.fnTransferredRow.lifted == Tryz.pinned.checked.prog.liftsFinal) : Bool) = true := by kernel_rfl
theorem fnTransferred_q27 : ((Tryz.pinned.checked.prog.make == some Rows.fnTransferredRow.make) : Bool) = true := by kernel_rfl
theorem fnTransferred_q28 : ((Rows.fnTransferredRow.kinds == (if Rows.fnTransferredRow.domain.isEmpty then [] else Tryz.f3.params.toList.map fun t => match Tryz.pinned.checked.prog.underlying t with | some (.int k) => some k | _ => none)) : Bool) = true := by kernel_rfl
theorem fnTransferred_q29 : ((Rows.fnTransferredRow.pinned == Rows.fnTransferredRow.pinnedBy) : Bool) = true := by kernel_rfl
theorem fnTransferred_q30 : ((Rows.fnTransferredRow.veiled == (Tryz.f3.params.toList ++ Rows.fnTransferredSpec.plain.varTypes Tryz.pinned.checked.prog ++ Tryz.f3.resultTypes.toList).any (Tryz.pinned.checked.prog.veiledRec ·)) : Bool) = true := by kernel_rfl
theorem fnTransferred_q31 : (Rows.fnTransferredRow.veiledFits Tryz.pinned.checked.prog Tryz.f3.params.toList (Tryz.f3.params.toList ++ Rows.fnTransferredSpec.plain.varTypes Tryz.pinned.checked.prog ++ Tryz.f3.resultTypes.toList) : Bool) = true := by kernel_rfl
set_option maxRecDepth 100000 in
theorem fnTransferred_joined : joinedFacts Tryz.pinned.checked.prog 3 Tryz.f3 Rows.fnTransferredSpec Rows.fnTransferredRow = true :=
 (and_mk (and_mk (and_mk (and_mk (and_mk (and_mk (and_mk (and_mk (and_mk (and_mk (and_mk (and_mk (and_mk (and_mk (and_mk (and_mk (and_mk (and_mk (and_mk (and_mk (and_mk (and_mk (and_mk (and_mk (and_mk (and_mk (and_mk (and_mk (and_mk (and_mk (and_mk fnTransferred_q0 fnTransferred_q1) fnTransferred_q2) fnTransferred_q3) fnTransferred_q4) fnTransferred_q5) fnTransferred_q6) fnTransferred_q7) fnTransferred_q8) fnTransferred_q9) fnTransferred_q10) fnTransferred_q11) fnTransferred_q12) fnTransferred_q13) fnTransferred_q14) fnTransferred_q15) fnTransferred_q16) fnTransferred_q17) fnTransferred_q18) fnTransferred_q19) fnTransferred_q20) fnTransferred_q21) fnTransferred_q22) fnTransferred_q23) fnTransferred_q24) fnTransferred_q25) fnTransferred_q26) fnTransferred_q27) fnTransferred_q28) fnTransferred_q29) fnTransferred_q30) fnTransferred_q31)
theorem fnTransferred_holds : Rows.FnTransferredSaid :=
 OpenClaim.holds_of_wide 3 Tryz.f3 rfl rfl rfl rfl rfl rfl rfl ⟨rfl, rfl, rfl, rfl, rfl⟩ rfl rfl rfl rfl rfl (by kernel_rfl) Tryz.func3 fnTransferred_joined
   (of_decide_eq_true (by kernel_rfl)) (by unfold Func.isWrapper; first | (rw [if_pos (by decide +kernel)]; kernel_rfl) | (rw [if_neg (by decide +kernel)]; exact ⟨rfl, rfl⟩))
   (fun os started H enc _ => fnTransferred_lifted os started H enc)
end Go.Proofs.YtcfpjofohnaolaaGreat
