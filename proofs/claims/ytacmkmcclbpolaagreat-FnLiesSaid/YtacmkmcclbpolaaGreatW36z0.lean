/- Walks of functions of the program: what each computes. Conditions: those that each contract names. -/
import Derived.Test.YtacmkmcclbpolaaGreatW36T
import Derived.Test.YtacmkmcclbpolaaGreatW36i0
import Derived.Test.YtacmkmcclbpolaaGreatW36m0
import Derived.Test.YtacmkmcclbpolaaGreatW36s0
import Derived.Test.YtacmkmcclbpolaaGreatW36s3
namespace Fw
open Go Go.Proofs
set_option linter.unusedSimpArgs false
set_option maxRecDepth 100000
noncomputable def F4 : Fun := ⟨[.slice (.int .u8)], [.pure (.bool)], fun _ => True, fun x => ((fun _ => true) x.1, ())⟩
set_option maxHeartbeats 4000000 in
theorem F4_ok : Meets Tryz.prog 4 F4 := by
 refine meets_of_vc (C := mkC 133 [2] [0,2,3,4,5,6,7,9,10,11,12,13,14,15,16,17,18,20,43,83,108,116,121,132] [⟨21, _, F21_ok⟩, ⟨22, _, F22_ok⟩, ⟨23, _, F23_ok⟩, ⟨24, _, F24_ok⟩, ⟨25, _, F25_ok⟩, ⟨26, _, F26_ok⟩, ⟨27, _, F27_ok⟩, ⟨28, _, F28_ok⟩, ⟨29, _, F29_ok⟩, ⟨30, _, F30_ok⟩, ⟨31, _, F31_ok⟩]) (mkC_ok _ _ _ _) (fnOf_ok _) Tryz.func4 rfl rfl rfl (by decide) rfl ?_
 rintro ⟨a0, _⟩ hwf hpre ⟨P, C, B, X, w0, M0, pv⟩ hG rfl rfl
 show Vc _ _ [(0, ⟨0, 0, .c Z1 a0⟩)] _
 have hb : List.length a0 ≤ bigLen := hwf.1.1
 have hev := evAny_big (newCur_ok hb)
 have hcl := evAny_cells (newCur_ok hb)
 have hfl := findC_len hb
 have hbS : List.length (stampsOfF (evAnyD (curNewF a0)).1.1) ≤ bigLen := Nat.le_trans (soBig hcl) (by decide)
 refine Vc.seq (Vc.region hG rfl (by trivial) (Vc.seq (Vc.seq ?_)))
 refine Vc.region hG rfl ?_ ?_
 · repeat' (first | exact trivial | exact hb | exact hev | exact hcl | exact hr | exact hj | exact Nat.le_trans hfl (by decide) | refine And.intro ?_ ?_ | intro _)
 refine Vc.cond rfl (fun h0 => ?_) (fun h0 => ?_)
 · refine Vc.seq (Vc.region hG rfl (by trivial) (Vc.ret ?_))
   refine ⟨?_, trivial⟩
   exact rfl
 · refine Vc.skip (Vc.seq ?_)
   refine Vc.regionT hG rfl ?_ ?_
   · repeat' (first | exact trivial | exact hb | exact hev | exact hcl | exact hr | exact hj | exact Nat.le_trans hfl (by decide) | refine And.intro ?_ ?_ | intro _)
   refine Vc.seq ?_
   refine Vc.region hG rfl ?_ ?_
   · repeat' (first | exact trivial | exact hb | exact hev | exact hcl | exact hr | exact hj | exact Nat.le_trans hfl (by decide) | refine And.intro ?_ ?_ | intro _)
   refine Vc.seq (Vc.seq ?_)
   refine Vc.region hG rfl ?_ ?_
   · repeat' (first | exact trivial | exact hb | exact hev | exact hcl | exact hr | exact hj | exact Nat.le_trans hfl (by decide) | refine And.intro ?_ ?_ | intro _)
   refine Vc.seq (Vc.region hG rfl (by trivial) ?_)
   refine Vc.cond rfl (fun h1 => ?_) (fun h1 => ?_)
   · exact (bneSame h1).elim
   · refine Vc.skip (Vc.seq ?_)
     refine Vc.region hG rfl ?_ ?_
     · repeat' (first | exact trivial | exact hb | exact hev | exact hcl | exact hr | exact hj | exact Nat.le_trans hfl (by decide) | refine And.intro ?_ ?_ | intro _)
     refine Vc.seq (Vc.seq ?_)
     refine Vc.region hG rfl ?_ ?_
     · repeat' (first | exact trivial | exact hb | exact hev | exact hcl | exact hr | exact hj | exact Nat.le_trans hfl (by decide) | refine And.intro ?_ ?_ | intro _)
     refine Vc.cond rfl (fun h2 => ?_) (fun h2 => ?_)
     · exact (liesBad h2).elim
     · refine Vc.skip (Vc.seq ?_)
       refine Vc.regionT hG rfl ?_ ?_
       · repeat' (first | exact trivial | exact hb | exact hev | exact hcl | exact hr | exact hj | exact Nat.le_trans hfl (by decide) | refine And.intro ?_ ?_ | intro _)
       refine Vc.seq (Vc.seq ?_)
       refine Vc.regionD mixed hG rfl (by kernel_rfl) ?_ ?_
       · repeat' (first | exact trivial | exact hb | exact hev | exact hcl | exact hr | exact hj | exact Nat.le_trans hfl (by decide) | refine And.intro ?_ ?_ | intro _)
       refine Vc.cond rfl (fun h3 => ?_) (fun h3 => ?_)
       · exact (liesBad2 h3).elim
       · refine Vc.skip (Vc.seq ?_)
         refine Vc.region hG rfl ?_ ?_
         · repeat' (first | exact trivial | exact hb | exact hev | exact hcl | exact hr | exact hj | exact Nat.le_trans hfl (by decide) | refine And.intro ?_ ?_ | intro _)
         refine Vc.seq ?_
         refine Vc.region hG rfl ?_ ?_
         · repeat' (first | exact trivial | exact hb | exact hev | exact hcl | exact hr | exact hj | exact Nat.le_trans hfl (by decide) | refine And.intro ?_ ?_ | intro _)
         refine Vc.seq (Vc.seq (Vc.region hG rfl (by trivial) (Vc.block ?_)))
         refine Vc.loopF [(17, false, .pure (.int .i64))] [0, 3, 4, 5, 6, 7, 9, 10, 11, 12, 13, 14, 15, 16, 20, 43, 83, 108] (fun v => upInv (stampsOfF (evAnyD (curNewF a0)).1.1) v.1) (fun v => ((List.length (stampsOfF (evAnyD (curNewF a0)).1.1) : Int) - v.1).toNat) rfl ?_ ?_
         · exact upStart
         rintro ⟨(i : Int), _⟩ hI
         have hI : upInv (stampsOfF (evAnyD (curNewF a0)).1.1) i := hI
         refine Vc.seq (Vc.seq (Vc.region hG rfl (by trivial) ?_))
         refine Vc.cond rfl (fun h4 => ?_) (fun h4 => ?_)
         · have hl : i < (List.length (stampsOfF (evAnyD (curNewF a0)).1.1) : Int) := of_decide_eq_true h4
           have hr := upRange hI hl
           refine Vc.skip (Vc.seq (Vc.block (Vc.seq ?_)))
           refine Vc.region hG rfl (by trivial) (Vc.block ?_)
           refine Vc.loopF [(18, false, .pure (.int .i64))] [0, 3, 4, 5, 6, 7, 9, 10, 11, 12, 13, 14, 15, 16, 17, 20, 43, 83, 108, 116] (fun v => ndInv i v.1) (fun v => (i - v.1).toNat) rfl ?_ ?_
           · exact ⟨Int.le_refl _, hr.1⟩
           rintro ⟨(j : Int), _⟩ hJ
           have hJ : ndInv i j := hJ
           refine Vc.seq (Vc.seq (Vc.region hG rfl (by trivial) ?_))
           refine Vc.cond rfl (fun h5 => ?_) (fun h5 => ?_)
           · have hm : j < i := of_decide_eq_true h5
             have hj := ndRange hJ hm hr
             refine Vc.skip (Vc.seq (Vc.block (Vc.seq ?_)))
             refine Vc.regionD mixed hG rfl (by kernel_rfl) ?_ ?_
             · repeat' (first | exact trivial | exact hb | exact hev | exact hcl | exact hr | exact hj | exact Nat.le_trans hfl (by decide) | refine And.intro ?_ ?_ | intro _)
             refine Vc.cond rfl (fun h6 => ?_) (fun h6 => ?_)
             · exact (ndBad hJ hm hr h6).elim
             · refine Vc.skip (Vc.region hG rfl (by trivial) ?_)
               refine ⟨rfl, ?_⟩
               exact ndStep hJ hm hr hbS
           · have hm : ¬ j < i := of_decide_eq_false h5
             refine Vc.exit (Vc.region hG rfl (by trivial) ?_)
             refine ⟨rfl, ?_⟩
             exact ⟨(upStep hI hl hbS).1, (upStep hI hl hbS).2.2⟩
         · have hl : ¬ i < (List.length (stampsOfF (evAnyD (curNewF a0)).1.1) : Int) := of_decide_eq_false h4
           refine Vc.exit (Vc.seq (Vc.region hG rfl (by trivial) (Vc.ret ?_)))
           refine ⟨?_, trivial⟩
           exact rfl
end Fw
