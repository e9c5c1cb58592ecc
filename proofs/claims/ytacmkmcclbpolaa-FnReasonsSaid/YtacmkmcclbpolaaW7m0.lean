/- Walks of functions of the program: what each computes. Conditions: those that each contract names. -/
import Derived.Test.YtacmkmcclbpolaaW7T
namespace Fw
open Go Go.Proofs
set_option linter.unusedSimpArgs false
set_option maxRecDepth 100000
noncomputable def F4 : Fun := ⟨[.slice (.int .u8)], [.pure (.bool)], fun _ => True, fun x => ((fun (code : List Int) => decide (((List.length code : Nat) : Int) > 1048576)) x.1, ())⟩
theorem F4_ok : Meets Try.prog 4 F4 := by
 refine meets_of_vc (C := mkC 6 [2] [0,2] []) (mkC_ok _ _ _ _) (fnOf_ok _) Try.func4 rfl rfl rfl (by decide) rfl ?_
 rintro ⟨a0, _⟩ hwf hpre ⟨P, C, B, X, w0, M0, pv⟩ hG rfl rfl
 show Vc _ _ [(0, ⟨0, 0, .c Z0 a0⟩)] _
 refine Vc.seq (Vc.region hG rfl (by trivial) (Vc.seq (Vc.region hG rfl (by trivial) ?_)))
 refine Vc.ret ?_
 refine ⟨?_, trivial⟩
 all_goals exact rfl
end Fw
