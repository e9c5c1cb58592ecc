/- FnReasons: each law function of these statements answers true, for all arguments that can be read. Conditions: none. -/
import Derived.Test.YtacmkmcclbpolaaRows
import Derived.Test.YtacmkmcclbpolaaW7z0
import Derived.Test.YtacmkmcclbpolaaP2
namespace Go.Proofs.Ytacmkmcclbpolaa
open Go.ChangeShapes Go.WideShapes Go.ChangeAt Go.RowKit
theorem Try.own : ownKnob Try.prog.godebug = none := by kernel_rfl
theorem Try.laidOut : laidOutB Try.prog = true := by kernel_rfl
theorem and_mk {a b : Bool} (h : a = true) (k : b = true) : (a && b) = true := by rw [h, k]; rfl
set_option maxRecDepth 100000 in
theorem fnReasons_lifted (os : Os) (started : os.Started) (H : Type) (enc : TypeId × Value → H) :
   ReturnsInHanded {} Try.checked os 3 .any (Rows.fnReasonsSpec.pre6 enc Try.prog Try.f3 Rows.fnReasonsRow.domain false) (Rows.fnReasonsSpec.post enc Try.prog Try.f3 false true false false) := by
 refine returnsInHanded_of_change (C := Try.checked) Try.own started (by kernel_rfl) Try.func3
   (ChangeSpec.witness6 (enc := enc) (C := Try.checked) false ⟨#[], #[.slice none 0 0], []⟩ 12 (by kernel_rfl) (by kernel_rfl) (by kernel_rfl) (by kernel_rfl)) ?_
 intro W base args ds gs before hval0 hW hcnd _
 have hval : ∀ (j : Nat) t v, Try.f3.params[j]? = some t → args[j]? = some v → Value.okWide Try.prog W .any base t v := hval0
 have hW' := hW
 obtain ⟨p, q, hA0, hV, rfl, hfz, hnd⟩ := hW
 have hA : DataW.TrodAll enc Try.prog W 0 (fun _ => true) true Try.f3.params.toList args.toList ds p := hA0
 obtain ⟨rfl, rfl⟩ := trodVars_none hV
 have hlen : ds.length = 1 := Fw.trodAll_len hA
 rcases ds with _ | ⟨d1, _ | ⟨d2, ds⟩⟩ <;> first | (simp at hlen; done) | skip
 refine (Fw.yes_call Fw.F3_ok (fun _ _ => trivial) (fun _ _ => rfl) (ts := Try.f3.params.toList) (by kernel_rfl) hA (fun j t v h1 h2 => hval j t v (by simpa using h1) (by simpa using h2))).mono fun e W' ⟨he, hfr⟩ => ?_
 subst he
 exact ⟨_, rfl, Fw.post_yes Try.laidOut (by kernel_rfl) rfl rfl rfl Try.underlying4 hW' hfr⟩
theorem fnReasons_q0 : (Rows.fnReasonsRow.wf (OpenSpec.ofChange Rows.fnReasonsSpec) : Bool) = true := by kernel_rfl
theorem fnReasons_q1 : (laidOutB Try.pinned.checked.prog : Bool) = true := by kernel_rfl
theorem fnReasons_q2 : (mapsRowed Try.pinned.checked.prog : Bool) = true := by kernel_rfl
theorem fnReasons_q3 : (Try.f3.params.all (Try.pinned.checked.prog.readableRec ·) : Bool) = true := by kernel_rfl
theorem fnReasons_q4 : (namedTie Try.pinned.checked.prog Rows.fnReasonsRow.named Rows.fnReasonsSpec.vars : Bool) = true := by kernel_rfl
theorem fnReasons_q5 : ((Rows.fnReasonsRow.stops == []) : Bool) = true := by kernel_rfl
theorem fnReasons_q6 : ((Try.pinned.checked.prog.stops == []) : Bool) = true := by kernel_rfl
theorem fnReasons_q7 : ((Rows.fnReasonsRow.knobs == []) : Bool) = true := by kernel_rfl
theorem fnReasons_q8 : ((Try.pinned.checked.prog.stopKnobs == []) : Bool) = true := by kernel_rfl
theorem fnReasons_q9 : ((Rows.fnReasonsRow.inPlace == Try.pinned.checked.prog.inPlace 3) : Bool) = true := by kernel_rfl
theorem fnReasons_q10 : ((Rows.fnReasonsRow.unfollowed == Try.pinned.checked.prog.unfollowed 3) : Bool) = true := by kernel_rfl
theorem fnReasons_q11 : ((Rows.fnReasonsRow.recurses == Try.pinned.checked.prog.recurses 3) : Bool) = true := by kernel_rfl
theorem fnReasons_q12 : ((Rows.fnReasonsRow.named == Try.pinned.checked.prog.varsNamed 3) : Bool) = true := by kernel_rfl
theorem fnReasons_q13 : ((Rows.fnReasonsRow.maps == (Try.f3.params.toList ++ Rows.fnReasonsSpec.plain.varTypes Try.pinned.checked.prog).any (Try.pinned.checked.prog.mapsRec ·)) : Bool) = true := by kernel_rfl
theorem fnReasons_q14 : ((Rows.fnReasonsRow.ifaces == (Try.f3.params.toList ++ Rows.fnReasonsSpec.plain.varTypes Try.pinned.checked.prog).any (Try.pinned.checked.prog.ifacesRec ·)) : Bool) = true := by kernel_rfl
theorem fnReasons_q15 : ((Rows.fnReasonsRow.mapsOut == Try.pinned.checked.prog.mapsAmong Try.f3.resultTypes.toList) : Bool) = true := by kernel_rfl
theorem fnReasons_q16 : ((Rows.fnReasonsRow.loops == (Try.f3.params.toList ++ Rows.fnReasonsSpec.plain.varTypes Try.pinned.checked.prog).any (Try.pinned.checked.prog.loopsFrom ·)) : Bool) = true := by kernel_rfl
theorem fnReasons_q17 : ((Rows.fnReasonsRow.wideKeys == (Try.f3.params.toList ++ Rows.fnReasonsSpec.plain.varTypes Try.pinned.checked.prog ++ Try.f3.resultTypes.toList).any (Try.pinned.checked.prog.wideKeysFrom ·)) : Bool) = true := by kernel_rfl
theorem fnReasons_q18 : (Rows.fnReasonsSpec.vars.all (Try.pinned.checked.prog.varReadable ·) : Bool) = true := by kernel_rfl
theorem fnReasons_q19 : (Try.f3.resultTypes.all (fun t => Try.pinned.checked.prog.readableRec t && decide (t < Try.pinned.checked.prog.types.size)) : Bool) = true := by kernel_rfl
theorem fnReasons_q20 : ((Rows.fnReasonsRow.ifacesOut == Try.f3.resultTypes.toList.any (Try.pinned.checked.prog.ifacesRec ·)) : Bool) = true := by kernel_rfl
theorem fnReasons_q21 : ((Rows.fnReasonsRow.loopsOut == Try.f3.resultTypes.toList.any (Try.pinned.checked.prog.loopsFrom ·)) : Bool) = true := by kernel_rfl
theorem fnReasons_q22 : ((Rows.fnReasonsRow.plainKeys == Try.pinned.checked.prog.plainKeys) : Bool) = true := by kernel_rfl
theorem fnReasons_q23 : (Rows.fnReasonsRow.shortTexts.isNone : Bool) = true := by kernel_rfl
theorem fnReasons_q24 : (Try.pinned.checked.prog.stopsHeard : Bool) = true := by kernel_rfl
theorem fnReasons_q25 : (Try.pinned.checked.prog.mayEnter : Bool) = true := by kernel_rfl
theorem fnReasons_q26 : ((Rows.fnReasonsRow.lifted == Try.pinned.checked.prog.liftsFinal) : Bool) = true := by kernel_rfl
theorem fnReasons_q27 : ((Try.pinned.checked.prog.make == some Rows.fnReasonsRow.make) : Bool) = true := by kernel_rfl
theorem fnReasons_q28 : ((Rows.fnReasonsRow.kinds == (if Rows.fnReasonsRow.domain.isEmpty then [] else Try.f3.params.toList.map fun t => match Try.pinned.checked.prog.underlying t with | some (.int k) => some k | _ => none)) : Bool) = true := by kernel_rfl
theorem fnReasons_q29 : ((Rows.fnReasonsRow.pinned == Rows.fnReasonsRow.pinnedBy) : Bool) = true := by kernel_rfl
theorem fnReasons_q30 : ((Rows.fnReasonsRow.veiled == (Try.f3.params.toList ++ Rows.fnReasonsSpec.plain.varTypes Try.pinned.checked.prog ++ Try.f3.resultTypes.toList).any (Try.pinned.checked.prog.veiledRec ·)) : Bool) = true := by kernel_rfl
theorem fnReasons_q31 : (Rows.fnReasonsRow.veiledFits Try.pinned.checked.prog Try.f3.params.toList (Try.f3.params.toList ++ Rows.fnReasonsSpec.plain.varTypes Try.pinned.checked.prog ++ Try.f3.resultTypes.toList) : Bool) = true := by kernel_rfl
set_option maxRecDepth 100000 in
theorem fnReasons_joined : joinedFacts Try.pinned.checked.prog 3 Try.f3 Rows.fnReasonsSpec Rows.fnReasonsRow = true :=
 (and_mk (and_mk (and_mk (and_mk (and_mk (and_mk (and_mk (and_mk (and_mk (and_mk (and_mk (and_mk (and_mk (and_mk (and_mk (and_mk (and_mk (and_mk (and_mk (and_mk (and_mk (and_mk (and_mk (and_mk (and_mk (and_mk (and_mk (and_mk (and_mk (and_mk (and_mk fnReasons_q0 fnReasons_q1) fnReasons_q2) fnReasons_q3) fnReasons_q4) fnReasons_q5) fnReasons_q6) fnReasons_q7) fnReasons_q8) fnReasons_q9) fnReasons_q10) fnReasons_q11) fnReasons_q12) fnReasons_q13) fnReasons_q14) fnReasons_q15) fnReasons_q16) fnReasons_q17) fnReasons_q18) fnReasons_q19) fnReasons_q20) fnReasons_q21) fnReasons_q22) fnReasons_q23) fnReasons_q24) fnReasons_q25) fnReasons_q26) fnReasons_q27) fnReasons_q28) fnReasons_q29) fnReasons_q30) fnReasons_q31)
theorem fnReasons_holds : Rows.FnReasonsSaid :=
 OpenClaim.holds_of_wide 3 Try.f3 rfl rfl rfl rfl rfl rfl rfl ⟨rfl, rfl, rfl, rfl, rfl⟩ rfl rfl rfl rfl rfl (by kernel_rfl) Try.func3 fnReasons_joined
   (of_decide_eq_true (by kernel_rfl)) (by unfold Func.isWrapper; first | (rw [if_pos (by decide +kernel)]; kernel_rfl) | (rw [if_neg (by decide +kernel)]; exact ⟨rfl, rfl⟩))
   (fun os started H enc _ => fnReasons_lifted os started H enc)
end Go.Proofs.Ytacmkmcclbpolaa
