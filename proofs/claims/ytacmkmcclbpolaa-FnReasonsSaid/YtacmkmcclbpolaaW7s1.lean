/- Walks of functions of the program: what each computes. Conditions: those that each contract names. -/
import Derived.Test.YtacmkmcclbpolaaW7T
import Derived.Test.YtacmkmcclbpolaaW7s0
namespace Fw
open Go Go.Proofs
set_option linter.unusedSimpArgs false
set_option maxRecDepth 100000
noncomputable def F7 : Fun := ⟨[.slice (.int .u8)], [.pure Y6, .pure Y6], fun _ => True, fun x => ((betterD x.1).1, (betterD x.1).2, ())⟩
theorem F7_ok : Meets Try.prog 7 F7 := by
 refine meets_of_vc (C := mkCP 13 [2, 3, 4] [0,2,3,4,5] [⟨13, _, F13_ok⟩] [] [] [⟨14, _, P14_ok⟩] []) (mkCP_ok _ _ _ _ _ _ _ _) (fnOf_ok _) Try.func7 rfl rfl rfl (by decide) rfl ?_
 rintro ⟨a0, _⟩ hwf hpre ⟨P, C, B, X, w0, M0, pv⟩ hG rfl rfl
 show Vc _ _ [(0, ⟨0, 0, .c Z0 a0⟩)] _
 refine Vc.seq (Vc.region hG rfl (by trivial) (Vc.seq (Vc.region hG rfl (by trivial) ?_)))
 refine Vc.seq ?_
 refine Vc.region hG rfl ?_ ?_
 · exact newCur_ok hwf.1.1
 refine Vc.seq ?_
 refine Vc.regionD mixed hG rfl (by kernel_rfl) ?_ ?_
 · repeat' (first | exact trivial | exact verdD_ok (newCur_ok hwf.1.1) | refine And.intro ?_ ?_ | intro _)
 refine Vc.ret ?_
 refine ⟨?_, ?_, trivial⟩
 all_goals exact rfl
end Fw
