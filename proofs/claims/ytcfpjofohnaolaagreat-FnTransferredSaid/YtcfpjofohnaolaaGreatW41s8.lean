/- Walks of functions of the program: what each computes. Conditions: those that each contract names. -/
import Derived.Test.YtcfpjofohnaolaaGreatW41T
import Derived.Test.YtcfpjofohnaolaaGreatW41s0
import Derived.Test.YtcfpjofohnaolaaGreatW41s7
namespace Fw
open Go Go.Proofs
set_option linter.unusedSimpArgs false
set_option maxRecDepth 100000
noncomputable def F151 : Fun := ⟨[.int .i64, .slice (.int .i64), .int .i64], [.own Z5], fun _ => True, fun x => (pathF x.1 x.2.1 x.2.2.1, ())⟩
theorem F151_ok : Meets Tryz.prog 151 F151 := by
 refine meets_of_vc (C := mkC 60 [6] [0,1,2,6,7,8,20,27,30,44] [⟨98, _, F98_ok⟩, ⟨99, _, F99_ok⟩]) (mkC_ok _ _ _ _) (fnOf_ok _) Tryz.func151 rfl rfl rfl (by decide) rfl ?_
 rintro ⟨(a0 : Int), a1, (a2 : Int), _⟩ hwf hpre ⟨P, C, B, X, w0, M0, pv⟩ hG rfl rfl
 show Vc _ _ [(0, ⟨0, 0, .c (.pure (.int .i64)) a0⟩), (1, ⟨0, 0, .c Z3 a1⟩), (2, ⟨0, 0, .c (.pure (.int .i64)) a2⟩)] _
 have hb : List.length a1 ≤ bigLen := hwf.2.1.1
 refine Vc.seq (Vc.region hG rfl (by trivial) (Vc.seq (Vc.region hG rfl (by trivial) ?_)))
 refine Vc.seq (Vc.seq ?_)
 refine Vc.region hG rfl ?_ ?_
 · repeat' (first | exact trivial | refine And.intro ?_ ?_ | intro _)
 refine Vc.cond rfl (fun h0 => ?_) (fun h0 => ?_)
 · have g0 := pt0s (m := a0) (i := a2) (l := a1) hb h0
   refine Vc.seq (Vc.region hG rfl (by trivial) (Vc.ret ?_))
   refine ⟨?_, trivial⟩
   exact g0
 · have g0 := ptGos (i := a2) (l := a1) hb h0
   refine Vc.skip (Vc.seq ?_)
   refine Vc.region hG rfl ?_ ?_
   · show 0 + List.length a1 ≤ maxApp
     unfold maxApp
     have := g0.2.2
     omega
   refine Vc.seq (Vc.block ?_)
   refine Vc.loopF [(2, false, .pure (.int .i64)), (7, false, .own Z5), (8, false, .own (.pure (.int .i64)))] [0, 1, 6, 20] (fun v => ptInv a0 a1 a2 v.2.2.1 v.1 v.2.1) (fun v => List.length v.2.2.1) rfl ?_ ?_
   · exact ptStart g0
   rintro ⟨(i : Int), out, l, _⟩ hI
   have hI : ptInv a0 a1 a2 l i out := hI
   refine Vc.seq (Vc.seq (Vc.region hG rfl (by trivial) ?_))
   refine Vc.cond rfl (fun h1 => ?_) (fun h1 => ?_)
   · have g1 : (List.length l : Int) > 1 := of_decide_eq_true h1
     refine Vc.skip (Vc.block (Vc.seq (Vc.seq ?_)))
     refine Vc.region hG rfl ?_ ?_
     · show (2 : Int) ≠ 0
       decide
     refine Vc.cond rfl (fun h2 => ?_) (fun h2 => ?_)
     · have g2 : (i.tmod 2 == 1) = true := h2
       have r1 := (ptOdd hI.2.1 hI.2.2.1 hI.2.2.2.1 g2).2
       have st := ptA hI g1 g2
       refine Vc.region hG rfl ?_ ?_
       · exact ⟨r1, ptLen hI⟩
       refine Vc.seq ?_
       refine Vc.region hG rfl ?_ ?_
       · exact ptSm hI
       refine Vc.region hG rfl ?_ ?_
       · show (2 : Int) ≠ 0
         decide
       refine ⟨rfl, ?_⟩
       exact st
     · have g2 : (i.tmod 2 == 1) = false := h2
       refine Vc.seq (Vc.region hG rfl (by trivial) ?_)
       refine Vc.cond rfl (fun h3 => ?_) (fun h3 => ?_)
       · have g3 : IntKind.i64.wrap (i + 1) < (List.length l : Int) := of_decide_eq_true h3
         have r2 := (ptEven hI.2.1 hI.2.2.1 hI.2.2.2.1 g2 g3).2
         have st := ptB hI g1 g2 g3
         refine Vc.region hG rfl ?_ ?_
         · exact ⟨r2, ptLen hI⟩
         refine Vc.seq ?_
         refine Vc.region hG rfl ?_ ?_
         · exact ptSm hI
         refine Vc.region hG rfl ?_ ?_
         · show (2 : Int) ≠ 0
           decide
         refine ⟨rfl, ?_⟩
         exact st
       · have g3 : ¬ IntKind.i64.wrap (i + 1) < (List.length l : Int) := of_decide_eq_false h3
         have st := ptC hI g1 g2 g3
         refine Vc.skip (Vc.seq ?_)
         refine Vc.region hG rfl ?_ ?_
         · exact ptSm hI
         refine Vc.region hG rfl ?_ ?_
         · show (2 : Int) ≠ 0
           decide
         refine ⟨rfl, ?_⟩
         exact st
   · have g1 : ¬ (List.length l : Int) > 1 := of_decide_eq_false h1
     refine Vc.exit (Vc.seq (Vc.region hG rfl (by trivial) (Vc.ret ?_)))
     refine ⟨?_, trivial⟩
     exact ptEnd hI g1 g0
end Fw
