/- Walks of functions of the program: what each computes. Conditions: those that each contract names. -/
import Derived.Test.YtcfpjofohnaolaaGreatW41T
import Derived.Test.YtcfpjofohnaolaaGreatW41i0
import Derived.Test.YtcfpjofohnaolaaGreatW41i3
import Derived.Test.YtcfpjofohnaolaaGreatW41i5
import Derived.Test.YtcfpjofohnaolaaGreatW41i6
import Derived.Test.YtcfpjofohnaolaaGreatW41i7
import Derived.Test.YtcfpjofohnaolaaGreatW41i9
import Derived.Test.YtcfpjofohnaolaaGreatW41m0
import Derived.Test.YtcfpjofohnaolaaGreatW41s12
import Derived.Test.YtcfpjofohnaolaaGreatW41s14
namespace Fw
open Go Go.Proofs
set_option linter.unusedSimpArgs false
set_option maxRecDepth 100000
noncomputable def F3 : Fun := ⟨[.slice (.int .u8)], [.pure (.bool)], fun _ => True, fun x => ((fun _ => true) x.1, ())⟩
theorem F3_ok : Meets Tryz.prog 3 F3 := by
 refine meets_of_vc (C := mkC 139 [2] [5,0,2,3,4,6,7,8,9,10,11,12,13,14,15,17,35,72,76,118] [⟨5, _, F5_ok⟩, ⟨6, _, F6_ok⟩, ⟨7, _, F7_ok⟩, ⟨8, _, F8_ok⟩, ⟨9, _, F9_ok⟩, ⟨10, _, F10_ok⟩, ⟨11, _, F11_ok⟩, ⟨12, _, F12_ok⟩, ⟨13, _, F13_ok⟩]) (mkC_ok _ _ _ _) (fnOf_ok _) Tryz.func3 rfl rfl rfl (by decide) rfl ?_
 rintro ⟨a0, _⟩ hwf hpre ⟨P, C, B, X, w0, M0, pv⟩ hG rfl rfl
 show Vc _ _ [(0, ⟨0, 0, .c Z1 a0⟩)] _
 have hb : List.length a0 ≤ bigLen := hwf.1.1
 have hm := mv_sm hb
 have hck := check_sm hb
 have hbi : List.length (moveD a0).2.2.1 ≤ bigLen := Nat.le_trans hm.2.2.2 (by decide)
 refine Vc.seq (Vc.region hG rfl (by trivial) (Vc.seq (Vc.seq ?_)))
 refine Vc.region hG rfl (by trivial) ?_
 refine Vc.cond rfl (fun h0 => ?_) (fun h0 => ?_)
 · refine Vc.seq (Vc.region hG rfl (by trivial) (Vc.ret ?_))
   refine ⟨?_, trivial⟩
   exact rfl
 · refine Vc.skip (Vc.seq (Vc.regionT hG rfl (by trivial) (Vc.seq ?_)))
   refine Vc.regionT hG rfl ?_ ?_
   · exact ⟨hm.1, hm.2.1, hm.2.2.2⟩
   refine Vc.seq (Vc.seq (Vc.region hG rfl (by trivial) ?_))
   refine Vc.cond rfl (fun h1 => ?_) (fun h1 => ?_)
   · have g1 : (moveF (moveD a0).1 (moveD a0).2.1 (moveD a0).2.2.1 (moveD a0).2.2.2).2.2 = false := notT' h1
     refine Vc.seq ?_
     refine Vc.region hG rfl ?_ ?_
     · repeat' (first | exact trivial | refine And.intro ?_ ?_ | intro _)
     refine Vc.ret ?_
     refine ⟨?_, trivial⟩
     exact (tfFail g1).symm
   · have g1 : (moveF (moveD a0).1 (moveD a0).2.1 (moveD a0).2.2.1 (moveD a0).2.2.2).2.2 = true := notF h1
     refine Vc.skip (Vc.seq (Vc.seq ?_))
     refine Vc.region hG rfl ?_ ?_
     · repeat' (first | exact trivial | refine And.intro ?_ ?_ | intro _)
     refine Vc.cond rfl (fun h2 => ?_) (fun h2 => ?_)
     · exact (tfBad2 g1 h2).elim
     · refine Vc.skip (Vc.seq (Vc.seq (Vc.region hG rfl (by trivial) ?_)))
       refine Vc.block ?_
       refine Vc.loopF [(10, false, .pure (.int .i64))] [5, 0, 3, 4, 6, 7, 8, 9, 13, 14, 15, 17, 35, 72] (fun v => upInv (moveD a0).2.2.1 v.1) (fun v => ((List.length (moveD a0).2.2.1 : Int) - v.1).toNat) rfl ?_ ?_
       · exact upStart
       rintro ⟨(i : Int), _⟩ hI
       have hI : upInv (moveD a0).2.2.1 i := hI
       refine Vc.seq (Vc.seq (Vc.region hG rfl (by trivial) ?_))
       refine Vc.cond rfl (fun h3 => ?_) (fun h3 => ?_)
       · have hl : i < (List.length (moveD a0).2.2.1 : Int) := of_decide_eq_true h3
         have hx := tfIdx g1 hm.2.2.1 hI hl
         have hy := tfSm g1 hm.2.2.1 hm.1 hI hl
         have hr := upRange hI hl
         refine Vc.skip (Vc.seq (Vc.block (Vc.seq ?_)))
         refine Vc.regionD mixed hG rfl (by kernel_rfl) ?_ ?_
         · repeat' (first | exact trivial | exact hr | refine And.intro ?_ ?_ | intro _)
         refine Vc.seq ?_
         refine Vc.regionD mixed hG rfl (by kernel_rfl) ?_ ?_
         · repeat' (first | exact trivial | exact hr | refine And.intro ?_ ?_ | intro _)
         refine Vc.seq ?_
         refine Vc.regionD mixed hG rfl (by kernel_rfl) ?_ ?_
         · repeat' (first | exact trivial | exact hr | exact hx.1 | exact hx.2.1 | exact hy.1 | exact hy.2 | refine And.intro ?_ ?_ | intro _)
         refine Vc.cond rfl (fun h4 => ?_) (fun h4 => ?_)
         · exact (tfBad3 g1 hm.2.2.1 hI hl h4).elim
         · refine Vc.skip (Vc.region hG rfl (by trivial) ?_)
           refine ⟨rfl, ?_⟩
           exact ⟨(upStep hI hl hbi).1, (upStep hI hl hbi).2.2⟩
       · have hl : ¬ i < (List.length (moveD a0).2.2.1 : Int) := of_decide_eq_false h3
         refine Vc.exit (Vc.seq (Vc.region hG rfl (by trivial) (Vc.seq ?_)))
         refine Vc.region hG rfl (by trivial) (Vc.seq (Vc.region hG rfl (by trivial) (Vc.seq ?_)))
         refine Vc.region hG rfl ?_ ?_
         · repeat' (first | exact trivial | exact hck | exact (show Sm big20 TParcel _ from ⟨trivial, trivial, hck.2.2.1, trivial⟩) | refine And.intro ?_ ?_ | intro _)
         refine Vc.ret ?_
         refine ⟨?_, trivial⟩
         exact cp_two
end Fw
