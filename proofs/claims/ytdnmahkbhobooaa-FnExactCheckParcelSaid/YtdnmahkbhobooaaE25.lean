/- FnExactCheckParcel: each law function of these statements answers true, for all arguments that can be read. Conditions: none. -/
import Derived.Test.YtdnmahkbhobooaaRows
import Derived.Test.YtdnmahkbhobooaaW25
namespace Go.Proofs.Ytdnmahkbhobooaa
open Go.ChangeShapes Go.WideShapes Go.ChangeAt Go.RowKit

theorem Try.own : ownKnob Try.prog.godebug = none := by kernel_rfl
theorem Try.laidOut : laidOutB Try.prog = true := by kernel_rfl
theorem and_mk {a b : Bool} (h : a = true) (k : b = true) : (a && b) = true := by rw [h, k]; rfl
set_option maxRecDepth 100000 in
theorem fnExactCheckParcel_lifted (os : Os) (started : os.Started) (H : Type) (enc : TypeId × Value → H) :
    ReturnsInHanded {} Try.checked os 7 .any (Rows.fnExactCheckParcelSpec.pre6 enc Try.prog Try.f7 Rows.fnExactCheckParcelRow.domain false) (Rows.fnExactCheckParcelSpec.post enc Try.prog Try.f7 false true false false) := by
  refine returnsInHanded_of_change (C := Try.checked) Try.own started (by kernel_rfl) Try.func7
    (ChangeSpec.witness6 (enc := enc) (C := Try.checked) false ⟨#[], #[.agg #[.int .i64 0, .int .i64 0, .slice none 0 0, .int .i64 0], .int .i64 0], []⟩ 12 (by kernel_rfl) (by kernel_rfl) (by kernel_rfl) (by kernel_rfl)) ?_
  intro W base args ds gs before hval0 hW hcnd _
  have hval : ∀ (j : Nat) t v, Try.f7.params[j]? = some t → args[j]? = some v → Value.okWide Try.prog W .any base t v := hval0
  have hW' := hW
  obtain ⟨p, q, hA0, hV, rfl, hfz, hnd⟩ := hW
  have hA : DataW.TrodAll enc Try.prog W 0 (fun _ => true) true Try.f7.params.toList args.toList ds p := hA0
  obtain ⟨rfl, rfl⟩ := trodVars_none hV
  have hlen : ds.length = 2 := Fw.trodAll_len hA
  rcases ds with _ | ⟨d1, _ | ⟨d2, _ | ⟨d3, ds⟩⟩⟩ <;> first | (simp at hlen; done) | skip
  refine (Fw.yes_call Fw.F7_ok (fun _ _ => trivial) (fun _ _ => rfl) (ts := Try.f7.params.toList) (by kernel_rfl) hA (fun j t v h1 h2 => hval j t v (by simpa using h1) (by simpa using h2))).mono fun e W' ⟨he, hfr⟩ => ?_
  subst he
  exact ⟨_, rfl, Fw.post_yes Try.laidOut (by kernel_rfl) rfl rfl rfl Try.underlying4 hW' hfr⟩

theorem fnExactCheckParcel_q0 : (Rows.fnExactCheckParcelRow.wf (OpenSpec.ofChange Rows.fnExactCheckParcelSpec) : Bool) = true := by kernel_rfl
theorem fnExactCheckParcel_q1 : (laidOutB Try.pinned.checked.prog : Bool) = true := by kernel_rfl
theorem fnExactCheckParcel_q2 : (mapsRowed Try.pinned.checked.prog : Bool) = true := by kernel_rfl
theorem fnExactCheckParcel_q3 : (Try.f7.params.all (Try.pinned.checked.prog.readableRec ·) : Bool) = true := by kernel_rfl
theorem fnExactCheckParcel_q4 : (namedTie Try.pinned.checked.prog Rows.fnExactCheckParcelRow.named Rows.fnExactCheckParcelSpec.vars : Bool) = true := by kernel_rfl
theorem fnExactCheckParcel_q5 : ((Rows.fnExactCheckParcelRow.stops == []) : Bool) = true := by kernel_rfl
theorem fnExactCheckParcel_q6 : ((Try.pinned.checked.prog.stops == []) : Bool) = true := by kernel_rfl
theorem fnExactCheckParcel_q7 : ((Rows.fnExactCheckParcelRow.knobs == []) : Bool) = true := by kernel_rfl
theorem fnExactCheckParcel_q8 : ((Try.pinned.checked.prog.stopKnobs == []) : Bool) = true := by kernel_rfl
theorem fnExactCheckParcel_q9 : ((Rows.fnExactCheckParcelRow.inPlace == Try.pinned.checked.prog.inPlace 7) : Bool) = true := by kernel_rfl
theorem fnExactCheckParcel_q10 : ((Rows.fnExactCheckParcelRow.unfollowed == Try.pinned.checked.prog.unfollowed 7) : Bool) = true := by kernel_rfl
theorem fnExactCheckParcel_q11 : ((Rows.fnExactCheckParcelRow.recurses == Try.pinned.checked.prog.recurses 7) : Bool) = true := by kernel_rfl
theorem fnExactCheckParcel_q12 : ((Rows.fnExactCheckParcelRow.named == Try.pinned.checked.prog.varsNamed 7) : Bool) = true := by kernel_rfl
theorem fnExactCheckParcel_q13 : ((Rows.fnExactCheckParcelRow.maps == (Try.f7.params.toList ++ Rows.fnExactCheckParcelSpec.plain.varTypes Try.pinned.checked.prog).any (Try.pinned.checked.prog.mapsRec ·)) : Bool) = true := by kernel_rfl
theorem fnExactCheckParcel_q14 : ((Rows.fnExactCheckParcelRow.ifaces == (Try.f7.params.toList ++ Rows.fnExactCheckParcelSpec.plain.varTypes Try.pinned.checked.prog).any (Try.pinned.checked.prog.ifacesRec ·)) : Bool) = true := by kernel_rfl
theorem fnExactCheckParcel_q15 : ((Rows.fnExactCheckParcelRow.mapsOut == Try.pinned.checked.prog.mapsAmong Try.f7.resultTypes.toList) : Bool) = true := by kernel_rfl
theorem fnExactCheckParcel_q16 : ((Rows.fnExactCheckParcelRow.loops == (Try.f7.params.toList ++ Rows.fnExactCheckParcelSpec.plain.varTypes Try.pinned.checked.prog).any (Try.pinned.checked.prog.loopsFrom ·)) : Bool) = true := by kernel_rfl
theorem fnExactCheckParcel_q17 : ((Rows.fnExactCheckParcelRow.wideKeys == (Try.f7.params.toList ++ Rows.fnExactCheckParcelSpec.plain.varTypes Try.pinned.checked.prog ++ Try.f7.resultTypes.toList).any (Try.pinned.checked.prog.wideKeysFrom ·)) : Bool) = true := by kernel_rfl
theorem fnExactCheckParcel_q18 : (Rows.fnExactCheckParcelSpec.vars.all (Try.pinned.checked.prog.varReadable ·) : Bool) = true := by kernel_rfl
theorem fnExactCheckParcel_q19 : (Try.f7.resultTypes.all (fun t => Try.pinned.checked.prog.readableRec t && decide (t < Try.pinned.checked.prog.types.size)) : Bool) = true := by kernel_rfl
theorem fnExactCheckParcel_q20 : ((Rows.fnExactCheckParcelRow.ifacesOut == Try.f7.resultTypes.toList.any (Try.pinned.checked.prog.ifacesRec ·)) : Bool) = true := by kernel_rfl
theorem fnExactCheckParcel_q21 : ((Rows.fnExactCheckParcelRow.loopsOut == Try.f7.resultTypes.toList.any (Try.pinned.checked.prog.loopsFrom ·)) : Bool) = true := by kernel_rfl
theorem fnExactCheckParcel_q22 : ((Rows.fnExactCheckParcelRow.plainKeys == Try.pinned.checked.prog.plainKeys) : Bool) = true := by kernel_rfl
theorem fnExactCheckParcel_q23 : (Rows.fnExactCheckParcelRow.shortTexts.isNone : Bool) = true := by kernel_rfl
theorem fnExactCheckParcel_q24 : (Try.pinned.checked.prog.stopsHeard : Bool) = true := by kernel_rfl
theorem fnExactCheckParcel_q25 : (Try.pinned.checked.prog.mayEnter : Bool) = true := by kernel_rfl
theorem fnExactCheckParcel_q26 : ((Rows.fnExactCheckParcelRow.lifted == Try.pinned.checked.prog.liftsFinal) : Bool) = true := by kernel_rfl
theorem fnExactCheckParcel_q27 : ((Try.pinned.checked.prog.make == some Rows.fnExactCheckParcelRow.make) : Bool) = true := by kernel_rfl
theorem fnExactCheckParcel_q28 : ((Rows.fnExactCheckParcelRow.kinds == (if Rows.fnExactCheckParcelRow.domain.isEmpty then [] else Try.f7.params.toList.map fun t => match Try.pinned.checked.prog.underlying t with | some (.int k) => some k | _ => none)) : Bool) = true := by kernel_rfl
theorem fnExactCheckParcel_q29 : ((Rows.fnExactCheckParcelRow.pinned == Rows.fnExactCheckParcelRow.pinnedBy) : Bool) = true := by kernel_rfl
theorem fnExactCheckParcel_q30 : ((Rows.fnExactCheckParcelRow.veiled == (Try.f7.params.toList ++ Rows.fnExactCheckParcelSpec.plain.varTypes Try.pinned.checked.prog ++ Try.f7.resultTypes.toList).any (Try.pinned.checked.prog.veiledRec ·)) : Bool) = true := by kernel_rfl
theorem fnExactCheckParcel_q31 : (Rows.fnExactCheckParcelRow.veiledFits Try.pinned.checked.prog Try.f7.params.toList (Try.f7.params.toList ++ Rows.fnExactCheckParcelSpec.plain.varTypes Try.pinned.checked.prog ++ Try.f7.resultTypes.toList) : Bool) = true := by kernel_rfl
set_option maxRecDepth 100000 in
theorem fnExactCheckParcel_joined : joinedFacts Try.pinned.checked.prog 7 Try.f7 Rows.fnExactCheckParcelSpec Rows.fnExactCheckParcelRow = true :=
  (and_mk (and_mk (and_mk (and_mk (and_mk (and_mk (and_mk (and_mk (and_mk (and_mk (and_mk (and_mk (and_mk (and_mk (and_mk (and_mk (and_mk (and_mk (and_mk (and_mk (and_mk (and_mk (and_mk (and_mk (and_mk (and_mk (and_mk (and_mk (and_mk (and_mk (and_mk fnExactCheckParcel_q0 fnExactCheckParcel_q1) fnExactCheckParcel_q2) fnExactCheckParcel_q3) fnExactCheckParcel_q4) fnExactCheckParcel_q5) fnExactCheckParcel_q6) fnExactCheckParcel_q7) fnExactCheckParcel_q8) fnExactCheckParcel_q9) fnExactCheckParcel_q10) fnExactCheckParcel_q11) fnExactCheckParcel_q12) fnExactCheckParcel_q13) fnExactCheckParcel_q14) fnExactCheckParcel_q15) fnExactCheckParcel_q16) fnExactCheckParcel_q17) fnExactCheckParcel_q18) fnExactCheckParcel_q19) fnExactCheckParcel_q20) fnExactCheckParcel_q21) fnExactCheckParcel_q22) fnExactCheckParcel_q23) fnExactCheckParcel_q24) fnExactCheckParcel_q25) fnExactCheckParcel_q26) fnExactCheckParcel_q27) fnExactCheckParcel_q28) fnExactCheckParcel_q29) fnExactCheckParcel_q30) fnExactCheckParcel_q31)
theorem fnExactCheckParcel_holds : Rows.FnExactCheckParcelSaid :=
  OpenClaim.holds_of_wide 7 Try.f7 rfl rfl rfl rfl rfl rfl rfl ⟨rfl, rfl, rfl, rfl, rfl⟩ rfl rfl rfl rfl rfl (by kernel_rfl) Try.func7 fnExactCheckParcel_joined
    (of_decide_eq_true (by kernel_rfl)) (by unfold Func.isWrapper; first | (rw [if_pos (by decide +kernel)]; kernel_rfl) | (rw [if_neg (by decide +kernel)]; exact ⟨rfl, rfl⟩))
    (fun os started H enc _ => fnExactCheckParcel_lifted os started H enc)
end Go.Proofs.Ytdnmahkbhobooaa
