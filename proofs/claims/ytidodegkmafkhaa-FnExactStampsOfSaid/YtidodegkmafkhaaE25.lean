/- FnExactStampsOf: each law function of these statements answers true, for all arguments that can be read. Conditions: none. -/
import Derived.Test.YtidodegkmafkhaaRows
import Derived.Test.YtidodegkmafkhaaW25z0
import Derived.Test.YtidodegkmafkhaaP2
namespace Go.Proofs.Ytidodegkmafkhaa
open Go.ChangeShapes Go.WideShapes Go.ChangeAt Go.RowKit
theorem Try.own : ownKnob Try.prog.godebug = none := by kernel_rfl
theorem Try.laidOut : laidOutB Try.prog = true := by kernel_rfl
theorem and_mk {a b : Bool} (h : a = true) (k : b = true) : (a && b) = true := by rw [h, k]; rfl
set_option maxRecDepth 100000 in
theorem fnExactStampsOf_lifted (os : Os) (started : os.Started) (H : Type) (enc : TypeId × Value → H) :
   ReturnsInHanded {} Try.checked os 4 .any (Rows.fnExactStampsOfSpec.pre6 enc Try.prog Try.f4 Rows.fnExactStampsOfRow.domain false) (Rows.fnExactStampsOfSpec.post enc Try.prog Try.f4 false true false false) := by
 refine returnsInHanded_of_change (C := Try.checked) Try.own started (by kernel_rfl) Try.func4
   (ChangeSpec.witness6 (enc := enc) (C := Try.checked) false ⟨#[], #[.agg #[.slice none 0 0, .slice none 0 0]], []⟩ 12 (by kernel_rfl) (by kernel_rfl) (by kernel_rfl) (by kernel_rfl)) ?_
 intro W base args ds gs before hval0 hW hcnd _
 have hval : ∀ (j : Nat) t v, Try.f4.params[j]? = some t → args[j]? = some v → Value.okWide Try.prog W .any base t v := hval0
 have hW' := hW
 obtain ⟨p, q, hA0, hV, rfl, hfz, hnd⟩ := hW
 have hA : DataW.TrodAll enc Try.prog W 0 (fun _ => true) true Try.f4.params.toList args.toList ds p := hA0
 obtain ⟨rfl, rfl⟩ := trodVars_none hV
 have hlen : ds.length = 1 := Fw.trodAll_len hA
 rcases ds with _ | ⟨d1, _ | ⟨d2, ds⟩⟩ <;> first | (simp at hlen; done) | skip
 refine (Fw.yes_call Fw.F4_ok (fun _ _ => trivial) (fun _ _ => rfl) (ts := Try.f4.params.toList) (by kernel_rfl) hA (fun j t v h1 h2 => hval j t v (by simpa using h1) (by simpa using h2))).mono fun e W' ⟨he, hfr⟩ => ?_
 subst he
 exact ⟨_, rfl, Fw.post_yes Try.laidOut (by kernel_rfl) rfl rfl rfl Try.underlying4 hW' hfr⟩
theorem fnExactStampsOf_q0 : (Rows.fnExactStampsOfRow.wf (OpenSpec.ofChange Rows.fnExactStampsOfSpec) : Bool) = true := by kernel_rfl
theorem fnExactStampsOf_q1 : (laidOutB Try.pinned.checked.prog : Bool) = true := by kernel_rfl
theorem fnExactStampsOf_q2 : (mapsRowed Try.pinned.checked.prog : Bool) = true := by kernel_rfl
theorem fnExactStampsOf_q3 : (Try.f4.params.all (Try.pinned.checked.prog.readableRec ·) : Bool) = true := by kernel_rfl
theorem fnExactStampsOf_q4 : (namedTie Try.pinned.checked.prog Rows.fnExactStampsOfRow.named Rows.fnExactStampsOfSpec.vars : Bool) = true := by kernel_rfl
theorem fnExactStampsOf_q5 : ((Rows.fnExactStampsOfRow.stops == []) : Bool) = true := by kernel_rfl
theorem fnExactStampsOf_q6 : ((Try.pinned.checked.prog.stops == []) : Bool) = true := by kernel_rfl
theorem fnExactStampsOf_q7 : ((Rows.fnExactStampsOfRow.knobs == []) : Bool) = true := by kernel_rfl
theorem fnExactStampsOf_q8 : ((Try.pinned.checked.prog.stopKnobs == []) : Bool) = true := by kernel_rfl
theorem fnExactStampsOf_q9 : ((Rows.fnExactStampsOfRow.inPlace == Try.pinned.checked.prog.inPlace 4) : Bool) = true := by kernel_rfl
theorem fnExactStampsOf_q10 : ((Rows.fnExactStampsOfRow.unfollowed == Try.pinned.checked.prog.unfollowed 4) : Bool) = true := by kernel_rfl
theorem fnExactStampsOf_q11 : ((Rows.fnExactStampsOfRow.recurses == Try.pinned.checked.prog.recurses 4) : Bool) = true := by kernel_rfl
theorem fnExactStampsOf_q12 : ((Rows.fnExactStampsOfRow.named == Try.pinned.checked.prog.varsNamed 4) : Bool) = true := by kernel_rfl
theorem fnExactStampsOf_q13 : ((Rows.fnExactStampsOfRow.maps == (Try.f4.params.toList ++ Rows.fnExactStampsOfSpec.plain.varTypes Try.pinned.checked.prog).any (Try.pinned.checked.prog.mapsRec ·)) : Bool) = true := by kernel_rfl
theorem fnExactStampsOf_q14 : ((Rows.fnExactStampsOfRow.ifaces == (Try.f4.params.toList ++ Rows.fnExactStampsOfSpec.plain.varTypes Try.pinned.checked.prog).any (Try.pinned.checked.prog.ifacesRec ·)) : Bool) = true := by kernel_rfl
theorem fnExactStampsOf_q15 : ((Rows.fnExactStampsOfRow.mapsOut == Try.pinned.checked.prog.mapsAmong Try.f4.resultTypes.toList) : Bool) = true := by kernel_rfl
theorem fnExactStampsOf_q16 : ((Rows.fnExactStampsOfRow.loops == (Try.f4.params.toList ++ Rows.fnExactStampsOfSpec.plain.varTypes Try.pinned.checked.prog).any (Try.pinned.checked.prog.loopsFrom ·)) : Bool) = true := by kernel_rfl
theorem fnExactStampsOf_q17 : ((Rows.fnExactStampsOfRow.wideKeys == (Try.f4.params.toList ++ Rows.fnExactStampsOfSpec.plain.varTypes Try.pinned.checked.prog ++ Try.f4.resultTypes.toList).any (Try.pinned.checked.prog.wideKeysFrom ·)) : Bool) = true := by kernel_rfl
theorem fnExactStampsOf_q18 : (Rows.fnExactStampsOfSpec.vars.all (Try.pinned.checked.prog.varReadable ·) : Bool) = true := by kernel_rfl
theorem fnExactStampsOf_q19 : (Try.f4.resultTypes.all (fun t => Try.pinned.checked.prog.readableRec t && decide (t < Try.pinned.checked.prog.types.size)) : Bool) = true := by kernel_rfl
theorem fnExactStampsOf_q20 : ((Rows.fnExactStampsOfRow.ifacesOut == Try.f4.resultTypes.toList.any (Try.pinned.checked.prog.ifacesRec ·)) : Bool) = true := by kernel_rfl
theorem fnExactStampsOf_q21 : ((Rows.fnExactStampsOfRow.loopsOut == Try.f4.resultTypes.toList.any (Try.pinned.checked.prog.loopsFrom ·)) : Bool) = true := by kernel_rfl
theorem fnExactStampsOf_q22 : ((Rows.fnExactStampsOfRow.plainKeys == Try.pinned.checked.prog.plainKeys) : Bool) = true := by kernel_rfl
theorem fnExactStampsOf_q23 : (Rows.fnExactStampsOfRow.shortTexts.isNone : Bool) = true := by kernel_rfl
theorem fnExactStampsOf_q24 : (Try.pinned.checked.prog.stopsHeard : Bool) = true := by kernel_rfl
theorem fnExactStampsOf_q25 : (Try.pinned.checked.prog.mayEnter : Bool) = true := by kernel_rfl
theorem fnExactStampsOf_q26 : ((Rows.fnExactStampsOfRow.lifted == Try.pinned.checked.prog.liftsFinal) : Bool) = true := by kernel_rfl
theorem fnExactStampsOf_q27 : ((Try.pinned.checked.prog.make == some Rows.fnExactStampsOfRow.make) : Bool) = true := by kernel_rfl
theorem fnExactStampsOf_q28 : ((Rows.fnExactStampsOfRow.kinds == (if Rows.fnExactStampsOfRow.domain.isEmpty then [] else Try.f4.params.toList.map fun t => match Try.pinned.checked.prog.underlying t with | some (.int k) => some k | _ => none)) : Bool) = true := by kernel_rfl
theorem fnExactStampsOf_q29 : ((Rows.fnExactStampsOfRow.pinned == Rows.fnExactStampsOfRow.pinnedBy) : Bool) = true := by kernel_rfl
theorem fnExactStampsOf_q30 : ((Rows.fnExactStampsOfRow.veiled == (Try.f4.params.toList ++ Rows.fnExactStampsOfSpec.plain.varTypes Try.pinned.checked.prog ++ Try.f4.resultTypes.toList).any (Try.pinned.checked.prog.veiledRec ·)) : Bool) = true := by kernel_rfl
theorem fnExactStampsOf_q31 : (Rows.fnExactStampsOfRow.veiledFits Try.pinned.checked.prog Try.f4.params.toList (Try.f4.params.toList ++ Rows.fnExactStampsOfSpec.plain.varTypes Try.pinned.checked.prog ++ Try.f4.resultTypes.toList) : Bool) = true := by kernel_rfl
set_option maxRecDepth 100000 in
theorem fnExactStampsOf_joined : joinedFacts Try.pinned.checked.prog 4 Try.f4 Rows.fnExactStampsOfSpec Rows.fnExactStampsOfRow = true :=
 (and_mk (and_mk (and_mk (and_mk (and_mk (and_mk (and_mk (and_mk (and_mk (and_mk (and_mk (and_mk (and_mk (and_mk (and_mk (and_mk (and_mk (and_mk (and_mk (and_mk (and_mk (and_mk (and_mk (and_mk (and_mk (and_mk (and_mk (and_mk (and_mk (and_mk (and_mk fnExactStampsOf_q0 fnExactStampsOf_q1) fnExactStampsOf_q2) fnExactStampsOf_q3) fnExactStampsOf_q4) fnExactStampsOf_q5) fnExactStampsOf_q6) fnExactStampsOf_q7) fnExactStampsOf_q8) fnExactStampsOf_q9) fnExactStampsOf_q10) fnExactStampsOf_q11) fnExactStampsOf_q12) fnExactStampsOf_q13) fnExactStampsOf_q14) fnExactStampsOf_q15) fnExactStampsOf_q16) fnExactStampsOf_q17) fnExactStampsOf_q18) fnExactStampsOf_q19) fnExactStampsOf_q20) fnExactStampsOf_q21) fnExactStampsOf_q22) fnExactStampsOf_q23) fnExactStampsOf_q24) fnExactStampsOf_q25) fnExactStampsOf_q26) fnExactStampsOf_q27) fnExactStampsOf_q28) fnExactStampsOf_q29) fnExactStampsOf_q30) fnExactStampsOf_q31)
theorem fnExactStampsOf_holds : Rows.FnExactStampsOfSaid :=
 OpenClaim.holds_of_wide 4 Try.f4 rfl rfl rfl rfl rfl rfl rfl ⟨rfl, rfl, rfl, rfl, rfl⟩ rfl rfl rfl rfl rfl (by kernel_rfl) Try.func4 fnExactStampsOf_joined
   (of_decide_eq_true (by kernel_rfl)) (by unfold Func.isWrapper; first | (rw [if_pos (by decide +kernel)]; kernel_rfl) | (rw [if_neg (by decide +kernel)]; exact ⟨rfl, rfl⟩))
   (fun os started H enc _ => fnExactStampsOf_lifted os started H enc)
end Go.Proofs.Ytidodegkmafkhaa
