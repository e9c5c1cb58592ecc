/- Walks of functions of the program: what each computes. Conditions: those that each contract names. -/
import Derived.Test.YtcfpjofohnaolaaGreatW41T
import Derived.Test.YtcfpjofohnaolaaGreatW41s10
namespace Fw
open Go Go.Proofs
set_option linter.unusedSimpArgs false
set_option maxRecDepth 100000
noncomputable def F52 : Fun := ⟨[.pair (.int .i64) Y59, .pair (.int .i64) Y56], [.pair (.pure (.int .i64)) Z68, .pure (.bool)], fun x => (fun (a : Archive) (x : Item) => Sm big20 Y60 a ∧ Sm big20 Y57 x) x.1 x.2.1, fun x => ((addItemF x.1 x.2.1).1, (addItemF x.1 x.2.1).2, ())⟩
theorem F52_ok : Meets Tryz.prog 52 F52 := by
 refine meets_of_vc (C := mkC 77 [4, 5] [0,1,2,3,4,5,6,7,8,18,28,43,63,73] [⟨77, _, F77_ok⟩, ⟨66, _, F66_ok⟩, ⟨78, _, F78_ok⟩, ⟨67, _, F67_ok⟩]) (mkC_ok _ _ _ _) (fnOf_ok _) Tryz.func52 rfl rfl rfl (by decide) rfl ?_
 rintro ⟨a0, a1, _⟩ hwf hpre ⟨P, C, B, X, w0, M0, pv⟩ hG rfl rfl
 show Vc _ _ [(0, ⟨0, 0, .c Z62 a0⟩), (1, ⟨0, 0, .c Z58 a1⟩)] _
 have hp1 : Sm big20 Y60 a0 := hpre.1
 have hp2 : Sm big20 Y57 a1 := hpre.2
 have hs : List.length a0.2 ≤ 1048576 := hp1.2.1
 have hb : List.length a0.2 ≤ bigLen := hwf.1.2.1
 refine Vc.seq (Vc.region hG rfl (by trivial) (Vc.seq (Vc.seq ?_)))
 refine Vc.region hG rfl ?_ ?_
 · repeat' (first | exact trivial | refine And.intro ?_ ?_ | intro _)
 refine Vc.cond rfl (fun h0 => ?_) (fun h0 => ?_)
 · have g0 : pick2 (!(archF a0)) true (decide (itAt a0 a1.1 ≥ 0)) = true := h0
   refine Vc.seq ?_
   refine Vc.region hG rfl ?_ ?_
   · exact hp1
   refine Vc.ret ?_
   have e := ai0s g0
   refine ⟨?_, ?_, trivial⟩
   · exact (congrArg Prod.fst e).symm
   · exact (congrArg Prod.snd e).symm
 · have g0 := aiGoS (a := a0) (x := a1) h0
   refine Vc.skip (Vc.seq (Vc.region hG rfl (by trivial) (Vc.seq ?_)))
   refine Vc.region hG rfl (by trivial) (Vc.seq (Vc.seq (Vc.region hG rfl (by trivial) ?_)))
   refine Vc.block ?_
   refine Vc.loopF [(6, true, .pair (.pure (.int .i64)) Z68), (7, false, .pure (.bool)), (8, false, .pure (.int .i64))] [0, 1, 2, 3, 4, 5, 18, 63, 73] (fun v => aiInv a0 a1 v.1 v.2.1 v.2.2.1) (fun v => ((List.length a0.2 : Int) - v.2.2.1).toNat) rfl ?_ ?_
   · exact aiStart
   rintro ⟨o, b, (i : Int), _⟩ hI
   have hI : aiInv a0 a1 o b i := hI
   refine Vc.seq (Vc.seq (Vc.region hG rfl (by trivial) ?_))
   refine Vc.cond rfl (fun h1 => ?_) (fun h1 => ?_)
   · have hl : i < (List.length a0.2 : Int) := of_decide_eq_true h1
     have hE : Sm big20 Y57 (List.getD a0.2 i.toNat (dflt Y57)) := hp1.2.2 _ (upElem hI.2.1 hl)
     have hln := aiLen hI (Int.le_of_lt hl) hs
     refine Vc.skip (Vc.seq (Vc.block (Vc.seq ?_)))
     refine Vc.seq ?_
     refine Vc.regionD mixed hG rfl (by kernel_rfl) ?_ ?_
     · exact fun _ => foRange hI.2 hl
     refine Vc.cond rfl (fun h2 => ?_) (fun h2 => ?_)
     · have g2 : pick2 (!b) (decide (a1.1 < (List.getD a0.2 i.toNat (dflt TItem)).1)) false = true := h2
       refine Vc.seq ?_
       refine Vc.regionD mixed hG rfl (by kernel_rfl) ?_ ?_
       · exact ⟨hp2, aiApp hln⟩
       refine Vc.region hG rfl (by trivial) ?_
       refine Vc.regionD mixed hG rfl (by kernel_rfl) ?_ ?_
       · first
           | exact ⟨foRange hI.2 hl, hE, aiApp hln⟩
           | exact ⟨foRange hI.2 hl, hE, aiApp2 hln⟩
       refine Vc.region hG rfl (by trivial) ?_
       refine ⟨rfl, ?_⟩
       first
         | exact aiNo hI hl hb g2 rfl rfl
         | exact aiYes hI hl hb g2 rfl rfl
     · have g2 : pick2 (!b) (decide (a1.1 < (List.getD a0.2 i.toNat (dflt TItem)).1)) false = false := h2
       refine Vc.skip ?_
       refine Vc.regionD mixed hG rfl (by kernel_rfl) ?_ ?_
       · first
           | exact ⟨foRange hI.2 hl, hE, aiApp hln⟩
           | exact ⟨foRange hI.2 hl, hE, aiApp2 hln⟩
       refine Vc.region hG rfl (by trivial) ?_
       refine ⟨rfl, ?_⟩
       first
         | exact aiNo hI hl hb g2 rfl rfl
         | exact aiYes hI hl hb g2 rfl rfl
   · have hl : ¬ i < (List.length a0.2 : Int) := of_decide_eq_false h1
     have hei := aiEnd hI hl g0
     have hln : List.length o.2 ≤ 1048577 := aiLen hI (upLe hI.2.1) hs
     refine Vc.exit (Vc.seq (Vc.seq (Vc.region hG rfl (by trivial) ?_)))
     refine Vc.cond rfl (fun h3 => ?_) (fun h3 => ?_)
     · have e3 : (o.1, o.2 ++ [a1]) = (a0.1, insI a1 a0.2) := hei.2 (by have q : (!b) = true := h3; simpa using q)
       refine Vc.regionD mixed hG rfl (by kernel_rfl) ?_ ?_
       · exact ⟨hp2, aiApp hln⟩
       refine Vc.seq (Vc.seq (Vc.region hG rfl (by trivial) ?_))
       refine Vc.cond rfl (fun h4 => ?_) (fun h4 => ?_)
       · refine Vc.seq ?_
         refine Vc.region hG rfl ?_ ?_
         · exact hp1
         refine Vc.ret ?_
         have e := ai1 (a := a0) (x := a1) (by rw [← e3]; exact h4)
         refine ⟨?_, ?_, trivial⟩
         · exact (congrArg Prod.fst e).symm
         · exact (congrArg Prod.snd e).symm
       · refine Vc.skip (Vc.seq (Vc.region hG rfl (by trivial) (Vc.ret ?_)))
         have e : addItemF a0 a1 = ((o.1, o.2 ++ [a1]), true) := by
           rw [e3]
           exact ai2 g0 (by rw [← e3]; exact h4)
         refine ⟨?_, ?_, trivial⟩
         · exact (congrArg Prod.fst e).symm
         · exact (congrArg Prod.snd e).symm
     · have e3 : o = (a0.1, insI a1 a0.2) := hei.1 (by have q : (!b) = false := h3; simpa using q)
       refine Vc.skip (Vc.seq (Vc.seq (Vc.region hG rfl (by trivial) ?_)))
       refine Vc.cond rfl (fun h5 => ?_) (fun h5 => ?_)
       · refine Vc.seq ?_
         refine Vc.region hG rfl ?_ ?_
         · exact hp1
         refine Vc.ret ?_
         have e := ai1 (a := a0) (x := a1) (by rw [← e3]; exact h5)
         refine ⟨?_, ?_, trivial⟩
         · exact (congrArg Prod.fst e).symm
         · exact (congrArg Prod.snd e).symm
       · refine Vc.skip (Vc.seq (Vc.region hG rfl (by trivial) (Vc.ret ?_)))
         have e : addItemF a0 a1 = (o, true) := by
           rw [e3]
           exact ai2 g0 (by rw [← e3]; exact h5)
         refine ⟨?_, ?_, trivial⟩
         · exact (congrArg Prod.fst e).symm
         · exact (congrArg Prod.snd e).symm
end Fw
