/- FnExactEndsOf: each law function of these statements answers true, for all arguments that can be read. Conditions: none. -/
import Derived.Test.YtdnmahkbhobooaaRows
import Derived.Test.YtdnmahkbhobooaaW24
namespace Go.Proofs.Ytdnmahkbhobooaa
open Go.ChangeShapes Go.WideShapes Go.ChangeAt Go.RowKit

theorem Try.own : ownKnob Try.prog.godebug = none := by kernel_rfl
theorem Try.laidOut : laidOutB Try.prog = true := by kernel_rfl
theorem and_mk {a b : Bool} (h : a = true) (k : b = true) : (a && b) = true := by rw [h, k]; rfl
set_option maxRecDepth 100000 in
theorem fnExactEndsOf_lifted (os : Os) (started : os.Started) (H : Type) (enc : TypeId × Value → H) :
    ReturnsInHanded {} Try.checked os 5 .any (Rows.fnExactEndsOfSpec.pre6 enc Try.prog Try.f5 Rows.fnExactEndsOfRow.domain false) (Rows.fnExactEndsOfSpec.post enc Try.prog Try.f5 false true false false) := by
  refine returnsInHanded_of_change (C := Try.checked) Try.own started (by kernel_rfl) Try.func5
    (ChangeSpec.witness6 (enc := enc) (C := Try.checked) false ⟨#[], #[.agg #[.slice none 0 0, .slice none 0 0, .slice none 0 0, .int .i64 0, .int .i64 0], .agg #[.int .i64 0, .int .i64 0, .int .i64 0, .slice none 0 0, .slice none 0 0]], []⟩ 12 (by kernel_rfl) (by kernel_rfl) (by kernel_rfl) (by kernel_rfl)) ?_
  intro W base args ds gs before hval0 hW hcnd _
  have hval : ∀ (j : Nat) t v, Try.f5.params[j]? = some t → args[j]? = some v → Value.okWide Try.prog W .any base t v := hval0
  have hW' := hW
  obtain ⟨p, q, hA0, hV, rfl, hfz, hnd⟩ := hW
  have hA : DataW.TrodAll enc Try.prog W 0 (fun _ => true) true Try.f5.params.toList args.toList ds p := hA0
  obtain ⟨rfl, rfl⟩ := trodVars_none hV
  have hlen : ds.length = 2 := Fw.trodAll_len hA
  rcases ds with _ | ⟨d1, _ | ⟨d2, _ | ⟨d3, ds⟩⟩⟩ <;> first | (simp at hlen; done) | skip
  refine (Fw.yes_call Fw.F5_ok (fun _ _ => trivial) (fun _ _ => rfl) (ts := Try.f5.params.toList) (by kernel_rfl) hA (fun j t v h1 h2 => hval j t v (by simpa using h1) (by simpa using h2))).mono fun e W' ⟨he, hfr⟩ => ?_
  subst he
  exact ⟨_, rfl, Fw.post_yes Try.laidOut (by kernel_rfl) rfl rfl rfl Try.underlying4 hW' hfr⟩

theorem fnExactEndsOf_q0 : (Rows.fnExactEndsOfRow.wf (OpenSpec.ofChange Rows.fnExactEndsOfSpec) : Bool) = true := by kernel_rfl
theorem fnExactEndsOf_q1 : (laidOutB Try.pinned.checked.prog : Bool) = true := by kernel_rfl
theorem fnExactEndsOf_q2 : (mapsRowed Try.pinned.checked.prog : Bool) = true := by kernel_rfl
theorem fnExactEndsOf_q3 : (Try.f5.params.all (Try.pinned.checked.prog.readableRec ·) : Bool) = true := by kernel_rfl
theorem fnExactEndsOf_q4 : (namedTie Try.pinned.checked.prog Rows.fnExactEndsOfRow.named Rows.fnExactEndsOfSpec.vars : Bool) = true := by kernel_rfl
theorem fnExactEndsOf_q5 : ((Rows.fnExactEndsOfRow.stops == []) : Bool) = true := by kernel_rfl
theorem fnExactEndsOf_q6 : ((Try.pinned.checked.prog.stops == []) : Bool) = true := by kernel_rfl
theorem fnExactEndsOf_q7 : ((Rows.fnExactEndsOfRow.knobs == []) : Bool) = true := by kernel_rfl
theorem fnExactEndsOf_q8 : ((Try.pinned.checked.prog.stopKnobs == []) : Bool) = true := by kernel_rfl
theorem fnExactEndsOf_q9 : ((Rows.fnExactEndsOfRow.inPlace == Try.pinned.checked.prog.inPlace 5) : Bool) = true := by kernel_rfl
theorem fnExactEndsOf_q10 : ((Rows.fnExactEndsOfRow.unfollowed == Try.pinned.checked.prog.unfollowed 5) : Bool) = true := by kernel_rfl
theorem fnExactEndsOf_q11 : ((Rows.fnExactEndsOfRow.recurses == Try.pinned.checked.prog.recurses 5) : Bool) = true := by kernel_rfl
theorem fnExactEndsOf_q12 : ((Rows.fnExactEndsOfRow.named == Try.pinned.checked.prog.varsNamed 5) : Bool) = true := by kernel_rfl
theorem fnExactEndsOf_q13 : ((Rows.fnExactEndsOfRow.maps == (Try.f5.params.toList ++ Rows.fnExactEndsOfSpec.plain.varTypes Try.pinned.checked.prog).any (Try.pinned.checked.prog.mapsRec ·)) : Bool) = true := by kernel_rfl
theorem fnExactEndsOf_q14 : ((Rows.fnExactEndsOfRow.ifaces == (Try.f5.params.toList ++ Rows.fnExactEndsOfSpec.plain.varTypes Try.pinned.checked.prog).any (Try.pinned.checked.prog.ifacesRec ·)) : Bool) = true := by kernel_rfl
theorem fnExactEndsOf_q15 : ((Rows.fnExactEndsOfRow.mapsOut == Try.pinned.checked.prog.mapsAmong Try.f5.resultTypes.toList) : Bool) = true := by kernel_rfl
theorem fnExactEndsOf_q16 : ((Rows.fnExactEndsOfRow.loops == (Try.f5.params.toList ++ Rows.fnExactEndsOfSpec.plain.varTypes Try.pinned.checked.prog).any (Try.pinned.checked.prog.loopsFrom ·)) : Bool) = true := by kernel_rfl
theorem fnExactEndsOf_q17 : ((Rows.fnExactEndsOfRow.wideKeys == (Try.f5.params.toList ++ Rows.fnExactEndsOfSpec.plain.varTypes Try.pinned.checked.prog ++ Try.f5.resultTypes.toList).any (Try.pinned.checked.prog.wideKeysFrom ·)) : Bool) = true := by kernel_rfl
theorem fnExactEndsOf_q18 : (Rows.fnExactEndsOfSpec.vars.all (Try.pinned.checked.prog.varReadable ·) : Bool) = true := by kernel_rfl
theorem fnExactEndsOf_q19 : (Try.f5.resultTypes.all (fun t => Try.pinned.checked.prog.readableRec t && decide (t < Try.pinned.checked.prog.types.size)) : Bool) = true := by kernel_rfl
theorem fnExactEndsOf_q20 : ((Rows.fnExactEndsOfRow.ifacesOut == Try.f5.resultTypes.toList.any (Try.pinned.checked.prog.ifacesRec ·)) : Bool) = true := by kernel_rfl
theorem fnExactEndsOf_q21 : ((Rows.fnExactEndsOfRow.loopsOut == Try.f5.resultTypes.toList.any (Try.pinned.checked.prog.loopsFrom ·)) : Bool) = true := by kernel_rfl
theorem fnExactEndsOf_q22 : ((Rows.fnExactEndsOfRow.plainKeys == Try.pinned.checked.prog.plainKeys) : Bool) = true := by kernel_rfl
theorem fnExactEndsOf_q23 : (Rows.fnExactEndsOfRow.shortTexts.isNone : Bool) = true := by kernel_rfl
theorem fnExactEndsOf_q24 : (Try.pinned.checked.prog.stopsHeard : Bool) = true := by kernel_rfl
theorem fnExactEndsOf_q25 : (Try.pinned.checked.prog.mayEnter : Bool) = true := by kernel_rfl
theorem fnExactEndsOf_q26 : ((Rows.fnExactEndsOfRow.lifted == Try.pinned.checked.prog.liftsFinal) : Bool) = true := by kernel_rfl
theorem fnExactEndsOf_q27 : ((Try.pinned.checked.prog.make == some Rows.fnExactEndsOfRow.make) : Bool) = true := by kernel_rfl
theorem fnExactEndsOf_q28 : ((Rows.fnExactEndsOfRow.kinds == (if Rows.fnExactEndsOfRow.domain.isEmpty then [] else Try.f5.params.toList.map fun t => match Try.pinned.checked.prog.underlying t with | some (.int k) => some k | _ => none)) : Bool) = true := by kernel_rfl
theorem fnExactEndsOf_q29 : ((Rows.fnExactEndsOfRow.pinned == Rows.fnExactEndsOfRow.pinnedBy) : Bool) = true := by kernel_rfl
theorem fnExactEndsOf_q30 : ((Rows.fnExactEndsOfRow.veiled == (Try.f5.params.toList ++ Rows.fnExactEndsOfSpec.plain.varTypes Try.pinned.checked.prog ++ Try.f5.resultTypes.toList).any (Try.pinned.checked.prog.veiledRec ·)) : Bool) = true := by kernel_rfl
theorem fnExactEndsOf_q31 : (Rows.fnExactEndsOfRow.veiledFits Try.pinned.checked.prog Try.f5.params.toList (Try.f5.params.toList ++ Rows.fnExactEndsOfSpec.plain.varTypes Try.pinned.checked.prog ++ Try.f5.resultTypes.toList) : Bool) = true := by kernel_rfl
set_option maxRecDepth 100000 in
theorem fnExactEndsOf_joined : joinedFacts Try.pinned.checked.prog 5 Try.f5 Rows.fnExactEndsOfSpec Rows.fnExactEndsOfRow = true :=
  (and_mk (and_mk (and_mk (and_mk (and_mk (and_mk (and_mk (and_mk (and_mk (and_mk (and_mk (and_mk (and_mk (and_mk (and_mk (and_mk (and_mk (and_mk (and_mk (and_mk (and_mk (and_mk (and_mk (and_mk (and_mk (and_mk (and_mk (and_mk (and_mk (and_mk (and_mk fnExactEndsOf_q0 fnExactEndsOf_q1) fnExactEndsOf_q2) fnExactEndsOf_q3) fnExactEndsOf_q4) fnExactEndsOf_q5) fnExactEndsOf_q6) fnExactEndsOf_q7) fnExactEndsOf_q8) fnExactEndsOf_q9) fnExactEndsOf_q10) fnExactEndsOf_q11) fnExactEndsOf_q12) fnExactEndsOf_q13) fnExactEndsOf_q14) fnExactEndsOf_q15) fnExactEndsOf_q16) fnExactEndsOf_q17) fnExactEndsOf_q18) fnExactEndsOf_q19) fnExactEndsOf_q20) fnExactEndsOf_q21) fnExactEndsOf_q22) fnExactEndsOf_q23) fnExactEndsOf_q24) fnExactEndsOf_q25) fnExactEndsOf_q26) fnExactEndsOf_q27) fnExactEndsOf_q28) fnExactEndsOf_q29) fnExactEndsOf_q30) fnExactEndsOf_q31)
theorem fnExactEndsOf_holds : Rows.FnExactEndsOfSaid :=
  OpenClaim.holds_of_wide 5 Try.f5 rfl rfl rfl rfl rfl rfl rfl ⟨rfl, rfl, rfl, rfl, rfl⟩ rfl rfl rfl rfl rfl (by kernel_rfl) Try.func5 fnExactEndsOf_joined
    (of_decide_eq_true (by kernel_rfl)) (by unfold Func.isWrapper; first | (rw [if_pos (by decide +kernel)]; kernel_rfl) | (rw [if_neg (by decide +kernel)]; exact ⟨rfl, rfl⟩))
    (fun os started H enc _ => fnExactEndsOf_lifted os started H enc)
end Go.Proofs.Ytdnmahkbhobooaa
