/- Walks of functions of the program: what each computes. Conditions: those that each contract names. -/
import Derived.Test.YtacmkmcclbpolaaW7T
import Derived.Test.YtacmkmcclbpolaaW7i0
import Derived.Test.YtacmkmcclbpolaaW7i1
import Derived.Test.YtacmkmcclbpolaaW7m0
import Derived.Test.YtacmkmcclbpolaaW7s0
import Derived.Test.YtacmkmcclbpolaaW7s1
namespace Fw
open Go Go.Proofs
set_option linter.unusedSimpArgs false
set_option maxRecDepth 100000
noncomputable def F3 : Fun := ⟨[.slice (.int .u8)], [.pure (.bool)], fun _ => True, fun x => ((fun _ => true) x.1, ())⟩
theorem F3_ok : Meets Try.prog 3 F3 := by
 refine meets_of_vc (C := mkC 77 [2] [0,2,3,4,5,6,8,40,54] [⟨4, _, F4_ok⟩, ⟨5, _, F5_ok⟩, ⟨6, _, F6_ok⟩, ⟨7, _, F7_ok⟩, ⟨8, _, F8_ok⟩, ⟨9, _, F9_ok⟩, ⟨10, _, F10_ok⟩, ⟨11, _, F11_ok⟩, ⟨12, _, F12_ok⟩]) (mkC_ok _ _ _ _) (fnOf_ok _) Try.func3 rfl rfl rfl (by decide) rfl ?_
 rintro ⟨a0, _⟩ hwf hpre ⟨P, C, B, X, w0, M0, pv⟩ hG rfl rfl
 show Vc _ _ [(0, ⟨0, 0, .c Z0 a0⟩)] _
 refine Vc.seq (Vc.region hG rfl (by trivial) (Vc.seq (Vc.seq ?_)))
 refine Vc.region hG rfl (by trivial) ?_
 refine Vc.cond rfl (fun h0 => ?_) (fun h0 => ?_)
 · refine Vc.seq (Vc.region hG rfl (by trivial) (Vc.ret ?_))
   refine ⟨?_, trivial⟩
   exact rfl
 · refine Vc.skip (Vc.seq (Vc.region hG rfl (by trivial) (Vc.seq ?_)))
   refine Vc.region hG rfl (by trivial) (Vc.seq (Vc.region hG rfl (by trivial) (Vc.seq ?_)))
   refine Vc.seq ?_
   refine Vc.region hG rfl ?_ ?_
   · repeat' (first | exact trivial | refine And.intro ?_ ?_ | intro _)
   refine Vc.cond rfl (fun h1 => ?_) (fun h1 => ?_)
   · exact (rsBad1 ((verdD (curNewF a0)).1) ((betterD a0).1) ((betterD a0).2) h1).elim
   · refine Vc.skip (Vc.seq (Vc.seq ?_))
     refine Vc.region hG rfl ?_ ?_
     · repeat' (first | exact trivial | refine And.intro ?_ ?_ | intro _)
     refine Vc.cond rfl (fun h2 => ?_) (fun h2 => ?_)
     · exact (rsBad2 ((betterD a0).1) ((betterD a0).2) h2).elim
     · refine Vc.skip (Vc.seq (Vc.region hG rfl (by trivial) (Vc.ret ?_)))
       refine ⟨?_, trivial⟩
       exact rsFin ((betterD a0).1) ((betterD a0).2)
end Fw
