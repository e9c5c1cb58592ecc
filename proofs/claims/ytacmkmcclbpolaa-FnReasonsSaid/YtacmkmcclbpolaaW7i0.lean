/- Walks of functions of the program: what each computes. Conditions: those that each contract names. -/
import Derived.Test.YtacmkmcclbpolaaW7T
namespace Fw
open Go Go.Proofs
set_option linter.unusedSimpArgs false
set_option maxRecDepth 100000
noncomputable def F16 : Fun := ⟨[.int .i64, .int .i64, .int .i64], [.pure (.bool)], fun _ => True, fun x => (inRangeF x.1 x.2.1 x.2.2.1, ())⟩
theorem F16_ok : Meets Try.prog 16 F16 := by
 refine meets_of_vc (C := mkC 15 [6] [0,1,2,6] []) (mkC_ok _ _ _ _) (fnOf_ok _) Try.func16 rfl rfl rfl (by decide) rfl ?_
 rintro ⟨(a0 : Int), (a1 : Int), (a2 : Int), _⟩ hwf hpre ⟨P, C, B, X, w0, M0, pv⟩ hG rfl rfl
 show Vc _ _ [(0, ⟨0, 0, .c (.pure (.int .i64)) a0⟩), (1, ⟨0, 0, .c (.pure (.int .i64)) a1⟩), (2, ⟨0, 0, .c (.pure (.int .i64)) a2⟩)] _
 refine Vc.seq (Vc.region hG rfl (by trivial) (Vc.seq (Vc.region hG rfl (by trivial) ?_)))
 refine Vc.ret ?_
 refine ⟨?_, trivial⟩
 all_goals exact rfl
noncomputable def F8 : Fun := ⟨[.int .i64], [.pure (.str)], fun _ => True, fun x => (vnF x.1, ())⟩
theorem F8_ok : Meets Try.prog 8 F8 := by
 refine meets_of_vc (C := mkC 9 [2] [0,2,5] [⟨16, _, F16_ok⟩]) (mkC_ok _ _ _ _) (fnOf_ok _) Try.func8 rfl rfl rfl (by decide) rfl ?_
 rintro ⟨(a0 : Int), _⟩ hwf hpre ⟨P, C, B, X, w0, M0, pv⟩ hG rfl rfl
 show Vc _ _ [(0, ⟨0, 0, .c (.pure (.int .i64)) a0⟩)] _
 refine Vc.seq (Vc.region hG rfl (by trivial) (Vc.seq (Vc.seq ?_)))
 refine Vc.region hG rfl (by trivial) ?_
 refine Vc.cond rfl (fun h0 => ?_) (fun h0 => ?_)
 · have g0 : (!(inRangeF a0 1 3)) = true := h0
   refine Vc.seq (Vc.region hG rfl (by trivial) (Vc.ret ?_))
   refine ⟨?_, trivial⟩
   exact (if_neg (in_no g0)).symm
 · have g0 : (!(inRangeF a0 1 3)) = false := h0
   have g : 1 ≤ a0 ∧ a0 ≤ 3 := in_yes g0
   refine Vc.skip (Vc.seq ?_)
   refine Vc.region hG rfl ?_ ?_
   · show inRange a0 4
     unfold inRange
     omega
   refine Vc.ret ?_
   refine ⟨?_, trivial⟩
   exact (if_pos g).symm
noncomputable def F9 : Fun := ⟨[.int .i64], [.pure (.str)], fun _ => True, fun x => (rnF x.1, ())⟩
theorem F9_ok : Meets Try.prog 9 F9 := by
 refine meets_of_vc (C := mkC 9 [2] [0,2,5] [⟨16, _, F16_ok⟩]) (mkC_ok _ _ _ _) (fnOf_ok _) Try.func9 rfl rfl rfl (by decide) rfl ?_
 rintro ⟨(a0 : Int), _⟩ hwf hpre ⟨P, C, B, X, w0, M0, pv⟩ hG rfl rfl
 show Vc _ _ [(0, ⟨0, 0, .c (.pure (.int .i64)) a0⟩)] _
 refine Vc.seq (Vc.region hG rfl (by trivial) (Vc.seq (Vc.seq ?_)))
 refine Vc.region hG rfl (by trivial) ?_
 refine Vc.cond rfl (fun h0 => ?_) (fun h0 => ?_)
 · have g0 : (!(inRangeF a0 0 9)) = true := h0
   refine Vc.seq (Vc.region hG rfl (by trivial) (Vc.ret ?_))
   refine ⟨?_, trivial⟩
   exact (if_neg (in_no g0)).symm
 · have g0 : (!(inRangeF a0 0 9)) = false := h0
   have g : 0 ≤ a0 ∧ a0 ≤ 9 := in_yes g0
   refine Vc.skip (Vc.seq ?_)
   refine Vc.region hG rfl ?_ ?_
   · show inRange a0 10
     unfold inRange
     omega
   refine Vc.ret ?_
   refine ⟨?_, trivial⟩
   exact (if_pos g).symm
noncomputable def F15 : Fun := ⟨[.int .i64], [.pure (.str)], fun _ => True, fun x => (fmtF x.1, ())⟩
theorem F15_ok : Meets Try.prog 15 F15 := by
 refine meets_of_vc (C := mkC 30 [2] [0,2,3,4,5,11,23,24] []) (mkC_ok _ _ _ _) (fnOf_ok _) Try.func15 rfl rfl rfl (by decide) rfl ?_
 rintro ⟨(a0 : Int), _⟩ hwf hpre ⟨P, C, B, X, w0, M0, pv⟩ hG rfl rfl
 show Vc _ _ [(0, ⟨0, 0, .c (.pure (.int .i64)) a0⟩)] _
 have hn : inR .i64 a0 := hwf.1
 refine Vc.seq (Vc.region hG rfl (by trivial) (Vc.seq (Vc.region hG rfl (by trivial) ?_)))
 refine Vc.seq (Vc.region hG rfl (by trivial) (Vc.seq (Vc.block ?_)))
 refine Vc.loopF [(0, false, .pure (.int .i64)), (3, false, .own (.pure (.int .u8)))] [2, 4, 24] (fun v => fiInv a0 v.1 v.2.1) (fun v => v.1.natAbs) rfl ?_ ?_
 · exact fiStart hn
 rintro ⟨(x : Int), ds, _⟩ hI
 have hI : fiInv a0 x ds := hI
 refine Vc.block (Vc.seq ?_)
 refine Vc.region hG rfl ?_ ?_
 · show (10 : Int) ≠ 0
   decide
 refine Vc.seq (Vc.seq (Vc.region hG rfl (by trivial) ?_))
 refine Vc.cond rfl (fun h0 => ?_) (fun h0 => ?_)
 · have hd : IntKind.i64.wrap (0 - x.tmod 10) = dgI x := dg_neg (of_decide_eq_true h0)
   refine Vc.region hG rfl (by trivial) (Vc.seq ?_)
   refine Vc.region hG rfl ?_ ?_
   · exact fiCond hn hI
   refine Vc.seq ?_
   refine Vc.region hG rfl ?_ ?_
   · show (10 : Int) ≠ 0
     decide
   refine Vc.seq (Vc.region hG rfl (by trivial) ?_)
   refine Vc.cond rfl (fun h1 => ?_) (fun h1 => ?_)
   · have g1 : IntKind.i64.wrap (x.tdiv 10) = 0 := beqI h1
     have e1 := (fiStep hI hd).1 g1
     refine Vc.exit (Vc.seq (Vc.seq (Vc.region hG rfl (by trivial) ?_)))
     refine Vc.cond rfl (fun h2 => ?_) (fun h2 => ?_)
     · have g3 : a0 < 0 := of_decide_eq_true h2
       refine Vc.seq ?_
       refine Vc.region hG rfl ?_ ?_
       · exact fiLen hn e1
       refine Vc.ret ?_
       refine ⟨?_, trivial⟩
       exact fiNeg e1 g3
     · have g3 : ¬ a0 < 0 := of_decide_eq_false h2
       refine Vc.skip (Vc.seq (Vc.region hG rfl (by trivial) (Vc.ret ?_)))
       refine ⟨?_, trivial⟩
       exact fiPos e1 g3
   · have g1 : IntKind.i64.wrap (x.tdiv 10) ≠ 0 := bneI' h1
     refine Vc.skip ?_
     refine ⟨rfl, ?_⟩
     exact (fiStep hI hd).2 g1
 · have hd : x.tmod 10 = dgI x := dg_pos (of_decide_eq_false h0)
   refine Vc.skip (Vc.seq ?_)
   refine Vc.region hG rfl ?_ ?_
   · exact fiCond hn hI
   refine Vc.seq ?_
   refine Vc.region hG rfl ?_ ?_
   · show (10 : Int) ≠ 0
     decide
   refine Vc.seq (Vc.region hG rfl (by trivial) ?_)
   refine Vc.cond rfl (fun h3 => ?_) (fun h3 => ?_)
   · have g1 : IntKind.i64.wrap (x.tdiv 10) = 0 := beqI h3
     have e1 := (fiStep hI hd).1 g1
     refine Vc.exit (Vc.seq (Vc.seq (Vc.region hG rfl (by trivial) ?_)))
     refine Vc.cond rfl (fun h4 => ?_) (fun h4 => ?_)
     · have g3 : a0 < 0 := of_decide_eq_true h4
       refine Vc.seq ?_
       refine Vc.region hG rfl ?_ ?_
       · exact fiLen hn e1
       refine Vc.ret ?_
       refine ⟨?_, trivial⟩
       exact fiNeg e1 g3
     · have g3 : ¬ a0 < 0 := of_decide_eq_false h4
       refine Vc.skip (Vc.seq (Vc.region hG rfl (by trivial) (Vc.ret ?_)))
       refine ⟨?_, trivial⟩
       exact fiPos e1 g3
   · have g1 : IntKind.i64.wrap (x.tdiv 10) ≠ 0 := bneI' h3
     refine Vc.skip ?_
     refine ⟨rfl, ?_⟩
     exact (fiStep hI hd).2 g1
end Fw
