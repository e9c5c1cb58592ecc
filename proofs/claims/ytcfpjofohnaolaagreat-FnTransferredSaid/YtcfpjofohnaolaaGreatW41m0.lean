/- Walks of functions of the program: what each computes. Conditions: those that each contract names. -/
import Derived.Test.YtcfpjofohnaolaaGreatW41T
namespace Fw
open Go Go.Proofs
set_option linter.unusedSimpArgs false
set_option maxRecDepth 100000
noncomputable def F5 : Fun := ⟨[.slice (.int .u8)], [.pure (.bool)], fun _ => True, fun x => ((fun (code : List Int) => decide (((List.length code : Nat) : Int) > 1048576)) x.1, ())⟩
theorem F5_ok : Meets Tryz.prog 5 F5 := by
 refine meets_of_vc (C := mkC 6 [2] [0,2] []) (mkC_ok _ _ _ _) (fnOf_ok _) Tryz.func5 rfl rfl rfl (by decide) rfl ?_
 rintro ⟨a0, _⟩ hwf hpre ⟨P, C, B, X, w0, M0, pv⟩ hG rfl rfl
 show Vc _ _ [(0, ⟨0, 0, .c Z1 a0⟩)] _
 refine Vc.seq (Vc.region hG rfl (by trivial) (Vc.seq (Vc.region hG rfl (by trivial) ?_)))
 refine Vc.ret ?_
 refine ⟨?_, trivial⟩
 all_goals exact rfl
end Fw
