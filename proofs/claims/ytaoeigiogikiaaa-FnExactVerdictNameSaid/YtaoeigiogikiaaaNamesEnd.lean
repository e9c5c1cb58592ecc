/- The program's ReasonName and VerdictName return what the reference's return, for all arguments. Conditions: none. -/
import Derived.Test.YtaoeigiogikiaaaRows
import Derived.Test.YtaoeigiogikiaaaFwG
import Derived.Test.YtaoeigiogikiaaaNames
namespace Go.Proofs.Ytaoeigiogikiaaa
open Go.ChangeShapes Go.WideShapes Go.ChangeAt Go.RowKit

theorem Try.own : ownKnob Try.prog.godebug = none := by kernel_rfl
theorem Try.laidOut : laidOutB Try.prog = true := by kernel_rfl

set_option maxRecDepth 100000 in
theorem rn_lifted (os : Os) (started : os.Started) (H : Type) (enc : TypeId × Value → H) :
    ReturnsInHanded {} Try.checked os 3 .any (Rows.fnExactReasonNameSpec.pre6 enc Try.prog Try.f3 Rows.fnExactReasonNameRow.domain false) (Rows.fnExactReasonNameSpec.post enc Try.prog Try.f3 false true false false) := by
  refine returnsInHanded_of_change (C := Try.checked) Try.own started (by kernel_rfl) Try.func3
    (ChangeSpec.witness6 (enc := enc) (C := Try.checked) false ⟨#[], #[.int .i64 0], []⟩ 8 (by kernel_rfl) (by kernel_rfl) (by kernel_rfl) (by kernel_rfl)) ?_
  intro W base args ds gs before hval0 hW hcnd _
  have hval : ∀ (j : Nat) t v, Try.f3.params[j]? = some t → args[j]? = some v → Value.okWide Try.prog W .any base t v := hval0
  have hW' := hW
  obtain ⟨p, q, hA0, hV, rfl, hfz, hnd⟩ := hW
  have hA : DataW.TrodAll enc Try.prog W 0 (fun _ => true) true Try.f3.params.toList args.toList ds p := hA0
  rw [Try.params3] at hA hval
  obtain ⟨v0, d0, rfl, rfl, h0⟩ := trodAll_one hA
  obtain ⟨rfl, rfl⟩ := trodVars_none hV
  obtain ⟨a, rfl, rfl, rfl, wa⟩ := open_int Try.underlying3 (hval 0 3 v0 rfl rfl) h0
  refine (Fw.f3_ok.call W (fun _ _ => none) [.int .i64 a] (a, ()) (fun _ _ _ h => by cases h) ⟨Fw.arg_int wa, trivial⟩ trivial).mono fun e W' ⟨v, M', bs, he, hfr, _, hres, _⟩ => ?_
  subst he
  obtain ⟨cs, h1, h2⟩ := hres
  have hv : v = .bool true := by
    have e1 : cs = [.bool true] := h2.2
    have e2 : cs = [v] := by simpa [Fw.ValC, Fw.Sh.ag, Fw.Ty.ag] using h1
    rw [e1] at e2; simpa using e2.symm
  subst hv
  exact ⟨_, rfl, Fw.post_yes Try.laidOut (by kernel_rfl) rfl rfl rfl Try.underlying4 hW' hfr⟩

theorem rn_holds : Rows.FnExactReasonNameSaid :=
  OpenClaim.holds_of_wide 3 Try.f3 rfl rfl rfl rfl rfl rfl rfl ⟨rfl, rfl, rfl, rfl, rfl⟩ rfl rfl rfl rfl rfl (by kernel_rfl) Try.func3 (by kernel_rfl)
    (of_decide_eq_true (by kernel_rfl)) (by unfold Func.isWrapper; first | (rw [if_pos (by decide +kernel)]; kernel_rfl) | (rw [if_neg (by decide +kernel)]; exact ⟨rfl, rfl⟩))
    (fun os started H enc _ => rn_lifted os started H enc)
set_option maxRecDepth 100000 in
theorem vn_lifted (os : Os) (started : os.Started) (H : Type) (enc : TypeId × Value → H) :
    ReturnsInHanded {} Try.checked os 4 .any (Rows.fnExactVerdictNameSpec.pre6 enc Try.prog Try.f4 Rows.fnExactVerdictNameRow.domain false) (Rows.fnExactVerdictNameSpec.post enc Try.prog Try.f4 false true false false) := by
  refine returnsInHanded_of_change (C := Try.checked) Try.own started (by kernel_rfl) Try.func4
    (ChangeSpec.witness6 (enc := enc) (C := Try.checked) false ⟨#[], #[.int .i64 0], []⟩ 8 (by kernel_rfl) (by kernel_rfl) (by kernel_rfl) (by kernel_rfl)) ?_
  intro W base args ds gs before hval0 hW hcnd _
  have hval : ∀ (j : Nat) t v, Try.f4.params[j]? = some t → args[j]? = some v → Value.okWide Try.prog W .any base t v := hval0
  have hW' := hW
  obtain ⟨p, q, hA0, hV, rfl, hfz, hnd⟩ := hW
  have hA : DataW.TrodAll enc Try.prog W 0 (fun _ => true) true Try.f4.params.toList args.toList ds p := hA0
  rw [Try.params4] at hA hval
  obtain ⟨v0, d0, rfl, rfl, h0⟩ := trodAll_one hA
  obtain ⟨rfl, rfl⟩ := trodVars_none hV
  obtain ⟨a, rfl, rfl, rfl, wa⟩ := open_int Try.underlying3 (hval 0 3 v0 rfl rfl) h0
  refine (Fw.f4_ok.call W (fun _ _ => none) [.int .i64 a] (a, ()) (fun _ _ _ h => by cases h) ⟨Fw.arg_int wa, trivial⟩ trivial).mono fun e W' ⟨v, M', bs, he, hfr, _, hres, _⟩ => ?_
  subst he
  obtain ⟨cs, h1, h2⟩ := hres
  have hv : v = .bool true := by
    have e1 : cs = [.bool true] := h2.2
    have e2 : cs = [v] := by simpa [Fw.ValC, Fw.Sh.ag, Fw.Ty.ag] using h1
    rw [e1] at e2; simpa using e2.symm
  subst hv
  exact ⟨_, rfl, Fw.post_yes Try.laidOut (by kernel_rfl) rfl rfl rfl Try.underlying4 hW' hfr⟩

theorem vn_holds : Rows.FnExactVerdictNameSaid :=
  OpenClaim.holds_of_wide 4 Try.f4 rfl rfl rfl rfl rfl rfl rfl ⟨rfl, rfl, rfl, rfl, rfl⟩ rfl rfl rfl rfl rfl (by kernel_rfl) Try.func4 (by kernel_rfl)
    (of_decide_eq_true (by kernel_rfl)) (by unfold Func.isWrapper; first | (rw [if_pos (by decide +kernel)]; kernel_rfl) | (rw [if_neg (by decide +kernel)]; exact ⟨rfl, rfl⟩))
    (fun os started H enc _ => vn_lifted os started H enc)
end Go.Proofs.Ytaoeigiogikiaaa
