/- FnExactItemDigest: each law function of these statements answers true, for all arguments that can be read. Conditions: none. -/
import Derived.Test.YtdnmahkbhobooaaRows
import Derived.Test.YtdnmahkbhobooaaW12
namespace Go.Proofs.Ytdnmahkbhobooaa
open Go.ChangeShapes Go.WideShapes Go.ChangeAt Go.RowKit

theorem Try.own : ownKnob Try.prog.godebug = none := by kernel_rfl
theorem Try.laidOut : laidOutB Try.prog = true := by kernel_rfl
theorem and_mk {a b : Bool} (h : a = true) (k : b = true) : (a && b) = true := by rw [h, k]; rfl
set_option maxRecDepth 100000 in
theorem fnExactItemDigest_lifted (os : Os) (started : os.Started) (H : Type) (enc : TypeId × Value → H) :
    ReturnsInHanded {} Try.checked os 4 .any (Rows.fnExactItemDigestSpec.pre6 enc Try.prog Try.f4 Rows.fnExactItemDigestRow.domain false) (Rows.fnExactItemDigestSpec.post enc Try.prog Try.f4 false true false false) := by
  refine returnsInHanded_of_change (C := Try.checked) Try.own started (by kernel_rfl) Try.func4
    (ChangeSpec.witness6 (enc := enc) (C := Try.checked) false ⟨#[], #[.int .i64 0, .agg #[.int .i64 0, .int .i64 0, .int .i64 0, .slice none 0 0, .slice none 0 0, .int .i64 0, .int .i64 0, .int .i64 0, .int .i64 0, .int .i64 0, .int .i64 0, .int .i64 0, .int .i64 0, .int .i64 0, .slice none 0 0, .slice none 0 0]], []⟩ 12 (by kernel_rfl) (by kernel_rfl) (by kernel_rfl) (by kernel_rfl)) ?_
  intro W base args ds gs before hval0 hW hcnd _
  have hval : ∀ (j : Nat) t v, Try.f4.params[j]? = some t → args[j]? = some v → Value.okWide Try.prog W .any base t v := hval0
  have hW' := hW
  obtain ⟨p, q, hA0, hV, rfl, hfz, hnd⟩ := hW
  have hA : DataW.TrodAll enc Try.prog W 0 (fun _ => true) true Try.f4.params.toList args.toList ds p := hA0
  obtain ⟨rfl, rfl⟩ := trodVars_none hV
  have hlen : ds.length = 2 := Fw.trodAll_len hA
  rcases ds with _ | ⟨d1, _ | ⟨d2, _ | ⟨d3, ds⟩⟩⟩ <;> first | (simp at hlen; done) | skip
  refine (Fw.yes_call Fw.F4_ok (fun _ _ => trivial) (fun _ _ => rfl) (ts := Try.f4.params.toList) (by kernel_rfl) hA (fun j t v h1 h2 => hval j t v (by simpa using h1) (by simpa using h2))).mono fun e W' ⟨he, hfr⟩ => ?_
  subst he
  exact ⟨_, rfl, Fw.post_yes Try.laidOut (by kernel_rfl) rfl rfl rfl Try.underlying4 hW' hfr⟩

theorem fnExactItemDigest_q0 : (Rows.fnExactItemDigestRow.wf (OpenSpec.ofChange Rows.fnExactItemDigestSpec) : Bool) = true := by kernel_rfl
theorem fnExactItemDigest_q1 : (laidOutB Try.pinned.checked.prog : Bool) = true := by kernel_rfl
theorem fnExactItemDigest_q2 : (mapsRowed Try.pinned.checked.prog : Bool) = true := by kernel_rfl
theorem fnExactItemDigest_q3 : (Try.f4.params.all (Try.pinned.checked.prog.readableRec ·) : Bool) = true := by kernel_rfl
theorem fnExactItemDigest_q4 : (namedTie Try.pinned.checked.prog Rows.fnExactItemDigestRow.named Rows.fnExactItemDigestSpec.vars : Bool) = true := by kernel_rfl
theorem fnExactItemDigest_q5 : ((Rows.fnExactItemDigestRow.stops == []) : Bool) = true := by kernel_rfl
theorem fnExactItemDigest_q6 : ((Try.pinned.checked.prog.stops == []) : Bool) = true := by kernel_rfl
theorem fnExactItemDigest_q7 : ((Rows.fnExactItemDigestRow.knobs == []) : Bool) = true := by kernel_rfl
theorem fnExactItemDigest_q8 : ((Try.pinned.checked.prog.stopKnobs == []) : Bool) = true := by kernel_rfl
theorem fnExactItemDigest_q9 : ((Rows.fnExactItemDigestRow.inPlace == Try.pinned.checked.prog.inPlace 4) : Bool) = true := by kernel_rfl
theorem fnExactItemDigest_q10 : ((Rows.fnExactItemDigestRow.unfollowed == Try.pinned.checked.prog.unfollowed 4) : Bool) = true := by kernel_rfl
theorem fnExactItemDigest_q11 : ((Rows.fnExactItemDigestRow.recurses == Try.pinned.checked.prog.recurses 4) : Bool) = true := by kernel_rfl
theorem fnExactItemDigest_q12 : ((Rows.fnExactItemDigestRow.named == Try.pinned.checked.prog.varsNamed 4) : Bool) = true := by kernel_rfl
theorem fnExactItemDigest_q13 : ((Rows.fnExactItemDigestRow.maps == (Try.f4.params.toList ++ Rows.fnExactItemDigestSpec.plain.varTypes Try.pinned.checked.prog).any (Try.pinned.checked.prog.mapsRec ·)) : Bool) = true := by kernel_rfl
theorem fnExactItemDigest_q14 : ((Rows.fnExactItemDigestRow.ifaces == (Try.f4.params.toList ++ Rows.fnExactItemDigestSpec.plain.varTypes Try.pinned.checked.prog).any (Try.pinned.checked.prog.ifacesRec ·)) : Bool) = true := by kernel_rfl
theorem fnExactItemDigest_q15 : ((Rows.fnExactItemDigestRow.mapsOut == Try.pinned.checked.prog.mapsAmong Try.f4.resultTypes.toList) : Bool) = true := by kernel_rfl
theorem fnExactItemDigest_q16 : ((Rows.fnExactItemDigestRow.loops == (Try.f4.params.toList ++ Rows.fnExactItemDigestSpec.plain.varTypes Try.pinned.checked.prog).any (Try.pinned.checked.prog.loopsFrom ·)) : Bool) = true := by kernel_rfl
theorem fnExactItemDigest_q17 : ((Rows.fnExactItemDigestRow.wideKeys == (Try.f4.params.toList ++ Rows.fnExactItemDigestSpec.plain.varTypes Try.pinned.checked.prog ++ Try.f4.resultTypes.toList).any (Try.pinned.checked.prog.wideKeysFrom ·)) : Bool) = true := by kernel_rfl
theorem fnExactItemDigest_q18 : (Rows.fnExactItemDigestSpec.vars.all (Try.pinned.checked.prog.varReadable ·) : Bool) = true := by kernel_rfl
theorem fnExactItemDigest_q19 : (Try.f4.resultTypes.all (fun t => Try.pinned.checked.prog.readableRec t && decide (t < Try.pinned.checked.prog.types.size)) : Bool) = true := by kernel_rfl
theorem fnExactItemDigest_q20 : ((Rows.fnExactItemDigestRow.ifacesOut == Try.f4.resultTypes.toList.any (Try.pinned.checked.prog.ifacesRec ·)) : Bool) = true := by kernel_rfl
theorem fnExactItemDigest_q21 : ((Rows.fnExactItemDigestRow.loopsOut == Try.f4.resultTypes.toList.any (Try.pinned.checked.prog.loopsFrom ·)) : Bool) = true := by kernel_rfl
theorem fnExactItemDigest_q22 : ((Rows.fnExactItemDigestRow.plainKeys == Try.pinned.checked.prog.plainKeys) : Bool) = true := by kernel_rfl
theorem fnExactItemDigest_q23 : (Rows.fnExactItemDigestRow.shortTexts.isNone : Bool) = true := by kernel_rfl
theorem fnExactItemDigest_q24 : (Try.pinned.checked.prog.stopsHeard : Bool) = true := by kernel_rfl
theorem fnExactItemDigest_q25 : (Try.pinned.checked.prog.mayEnter : Bool) = true := by kernel_rfl
theorem fnExactItemDigest_q26 : ((Rows.fnExactItemDigestRow.lifted == Try.pinned.checked.prog.liftsFinal) : Bool) = true := by kernel_rfl
theorem fnExactItemDigest_q27 : ((Try.pinned.checked.prog.make == some Rows.fnExactItemDigestRow.make) : Bool) = true := by kernel_rfl
theorem fnExactItemDigest_q28 : ((Rows.fnExactItemDigestRow.kinds == (if Rows.fnExactItemDigestRow.domain.isEmpty then [] else Try.f4.params.toList.map fun t => match Try.pinned.checked.prog.underlying t with | some (.int k) => some k | _ => none)) : Bool) = true := by kernel_rfl
theorem fnExactItemDigest_q29 : ((Rows.fnExactItemDigestRow.pinned == Rows.fnExactItemDigestRow.pinnedBy) : Bool) = true := by kernel_rfl
theorem fnExactItemDigest_q30 : ((Rows.fnExactItemDigestRow.veiled == (Try.f4.params.toList ++ Rows.fnExactItemDigestSpec.plain.varTypes Try.pinned.checked.prog ++ Try.f4.resultTypes.toList).any (Try.pinned.checked.prog.veiledRec ·)) : Bool) = true := by kernel_rfl
theorem fnExactItemDigest_q31 : (Rows.fnExactItemDigestRow.veiledFits Try.pinned.checked.prog Try.f4.params.toList (Try.f4.params.toList ++ Rows.fnExactItemDigestSpec.plain.varTypes Try.pinned.checked.prog ++ Try.f4.resultTypes.toList) : Bool) = true := by kernel_rfl
set_option maxRecDepth 100000 in
theorem fnExactItemDigest_joined : joinedFacts Try.pinned.checked.prog 4 Try.f4 Rows.fnExactItemDigestSpec Rows.fnExactItemDigestRow = true :=
  (and_mk (and_mk (and_mk (and_mk (and_mk (and_mk (and_mk (and_mk (and_mk (and_mk (and_mk (and_mk (and_mk (and_mk (and_mk (and_mk (and_mk (and_mk (and_mk (and_mk (and_mk (and_mk (and_mk (and_mk (and_mk (and_mk (and_mk (and_mk (and_mk (and_mk (and_mk fnExactItemDigest_q0 fnExactItemDigest_q1) fnExactItemDigest_q2) fnExactItemDigest_q3) fnExactItemDigest_q4) fnExactItemDigest_q5) fnExactItemDigest_q6) fnExactItemDigest_q7) fnExactItemDigest_q8) fnExactItemDigest_q9) fnExactItemDigest_q10) fnExactItemDigest_q11) fnExactItemDigest_q12) fnExactItemDigest_q13) fnExactItemDigest_q14) fnExactItemDigest_q15) fnExactItemDigest_q16) fnExactItemDigest_q17) fnExactItemDigest_q18) fnExactItemDigest_q19) fnExactItemDigest_q20) fnExactItemDigest_q21) fnExactItemDigest_q22) fnExactItemDigest_q23) fnExactItemDigest_q24) fnExactItemDigest_q25) fnExactItemDigest_q26) fnExactItemDigest_q27) fnExactItemDigest_q28) fnExactItemDigest_q29) fnExactItemDigest_q30) fnExactItemDigest_q31)
theorem fnExactItemDigest_holds : Rows.FnExactItemDigestSaid :=
  OpenClaim.holds_of_wide 4 Try.f4 rfl rfl rfl rfl rfl rfl rfl ⟨rfl, rfl, rfl, rfl, rfl⟩ rfl rfl rfl rfl rfl (by kernel_rfl) Try.func4 fnExactItemDigest_joined
    (of_decide_eq_true (by kernel_rfl)) (by unfold Func.isWrapper; first | (rw [if_pos (by decide +kernel)]; kernel_rfl) | (rw [if_neg (by decide +kernel)]; exact ⟨rfl, rfl⟩))
    (fun os started H enc _ => fnExactItemDigest_lifted os started H enc)
end Go.Proofs.Ytdnmahkbhobooaa
