/- Walks of functions of the program: what each computes. Conditions: those that each contract names. -/
import Derived.Test.YtcfpjofohnaolaaGreatW41T
import Derived.Test.YtcfpjofohnaolaaGreatW41i4
namespace Fw
open Go Go.Proofs
set_option linter.unusedSimpArgs false
set_option maxRecDepth 100000
noncomputable def F84 : Fun := ⟨[.slice Y14, .slice Y14], [.pure (.bool)], fun _ => True, fun x => (eqC x.1 x.2.1, ())⟩
theorem F84_ok : Meets Tryz.prog 84 F84 := by
 refine meets_of_vc (C := mkC 27 [4] [0,1,4,5,10,12,13,14,25] [⟨61, _, F61_ok⟩]) (mkC_ok _ _ _ _) (fnOf_ok _) Tryz.func84 rfl rfl rfl (by decide) rfl ?_
 rintro ⟨a0, a1, _⟩ hwf hpre ⟨P, C, B, X, w0, M0, pv⟩ hG rfl rfl
 show Vc _ _ [(0, ⟨0, 0, .c Z23 a0⟩), (1, ⟨0, 0, .c Z23 a1⟩)] _
 have hb0 : List.length a0 ≤ bigLen := hwf.1.1
 refine Vc.seq (Vc.region hG rfl (by trivial) (Vc.seq (Vc.seq ?_)))
 refine Vc.region hG rfl (by trivial) ?_
 refine Vc.cond rfl (fun h0 => ?_) (fun h0 => ?_)
 · refine Vc.seq (Vc.region hG rfl (by trivial) (Vc.ret ?_))
   refine ⟨?_, trivial⟩
   refine eqC_no (fun e => ?_)
   have e : a0 = a1 := e
   have g : ((List.length a0 : Int) != (List.length a1 : Int)) = true := h0
   subst e
   exact bself g
 · have g0 : ((List.length a0 : Int) != (List.length a1 : Int)) = false := h0
   have f0_0 : List.length a0 = List.length a1 := (lenEq g0)
   refine Vc.skip (Vc.seq (Vc.seq (Vc.region hG rfl (by trivial) ?_)))
   refine Vc.block ?_
   refine Vc.loopF [(13, false, .pure (.int .i64))] [0, 1, 10, 12] (fun v => eqInv a0 a1 v.1) (fun v => ((List.length a0 : Int) - v.1).toNat) rfl ?_ ?_
   · exact eqStart f0_0
   rintro ⟨(i0 : Int), _⟩ hI0
   have hI0 : eqInv a0 a1 i0 := hI0
   refine Vc.seq (Vc.region hG rfl (by trivial) (Vc.seq ?_))
   refine Vc.cond rfl (fun h1 => ?_) (fun h1 => ?_)
   · have hl0 : i0 < (List.length a0 : Int) := of_decide_eq_true h1
     refine Vc.skip (Vc.seq (Vc.block (Vc.seq ?_)))
     refine Vc.region hG rfl (by trivial) (Vc.seq ?_)
     refine Vc.regionD mixed hG rfl (by kernel_rfl) ?_ ?_
     · exact ⟨(eqRange hI0 hl0).1, (eqRange hI0 hl0).2, trivial⟩
     refine Vc.cond rfl (fun h2 => ?_) (fun h2 => ?_)
     · refine Vc.seq (Vc.region hG rfl (by trivial) (Vc.ret ?_))
       refine ⟨?_, trivial⟩
       refine eqC_no (fun e => ?_)
       have e : a0 = a1 := e
       have g : (!(eqC (List.getD a0 i0.toNat (dflt Y14)) (List.getD a1 i0.toNat (dflt Y14)))) = true := h2
       subst e
       exact (nself (eqC_self _)) g
     · have g2 : (!(eqC (List.getD a0 i0.toNat (dflt Y14)) (List.getD a1 i0.toNat (dflt Y14)))) = false := h2
       have f2_0 : (List.getD a0 i0.toNat (dflt Y14)) = (List.getD a1 i0.toNat (dflt Y14)) := (eqC_iff.1 (notF g2))
       have s0 : (List.getD a0 i0.toNat (dflt Y14)) = (List.getD a1 i0.toNat (dflt Y14)) := f2_0
       refine Vc.skip (Vc.region hG rfl (by trivial) ?_)
       refine ⟨rfl, ?_⟩
       exact ⟨eqStep (d := dflt Y14) hI0 hl0 hb0 s0, (upStep hI0.1 hl0 hb0).2.2⟩
   · have hl0 : ¬ i0 < (List.length a0 : Int) := of_decide_eq_false h1
     have e0 : a0 = a1 := eqEnd hI0 hl0
     refine Vc.exit (Vc.seq (Vc.region hG rfl (by trivial) (Vc.ret ?_)))
     refine ⟨?_, trivial⟩
     exact eqC_yes e0
noncomputable def F108 : Fun := ⟨[.slice Y27, .slice Y27], [.pure (.bool)], fun _ => True, fun x => (eqC x.1 x.2.1, ())⟩
theorem F108_ok : Meets Tryz.prog 108 F108 := by
 refine meets_of_vc (C := mkC 26 [4] [0,1,4,5,10,12,13,14,24] []) (mkC_ok _ _ _ _) (fnOf_ok _) Tryz.func108 rfl rfl rfl (by decide) rfl ?_
 rintro ⟨a0, a1, _⟩ hwf hpre ⟨P, C, B, X, w0, M0, pv⟩ hG rfl rfl
 show Vc _ _ [(0, ⟨0, 0, .c Z31 a0⟩), (1, ⟨0, 0, .c Z31 a1⟩)] _
 have hb0 : List.length a0 ≤ bigLen := hwf.1.1
 refine Vc.seq (Vc.region hG rfl (by trivial) (Vc.seq (Vc.seq ?_)))
 refine Vc.region hG rfl (by trivial) ?_
 refine Vc.cond rfl (fun h0 => ?_) (fun h0 => ?_)
 · refine Vc.seq (Vc.region hG rfl (by trivial) (Vc.ret ?_))
   refine ⟨?_, trivial⟩
   refine eqC_no (fun e => ?_)
   have e : a0 = a1 := e
   have g : ((List.length a0 : Int) != (List.length a1 : Int)) = true := h0
   subst e
   exact bself g
 · have g0 : ((List.length a0 : Int) != (List.length a1 : Int)) = false := h0
   have f0_0 : List.length a0 = List.length a1 := (lenEq g0)
   refine Vc.skip (Vc.seq (Vc.seq (Vc.region hG rfl (by trivial) ?_)))
   refine Vc.block ?_
   refine Vc.loopF [(13, false, .pure (.int .i64))] [0, 1, 10, 12] (fun v => eqInv a0 a1 v.1) (fun v => ((List.length a0 : Int) - v.1).toNat) rfl ?_ ?_
   · exact eqStart f0_0
   rintro ⟨(i0 : Int), _⟩ hI0
   have hI0 : eqInv a0 a1 i0 := hI0
   refine Vc.seq (Vc.region hG rfl (by trivial) (Vc.seq ?_))
   refine Vc.cond rfl (fun h1 => ?_) (fun h1 => ?_)
   · have hl0 : i0 < (List.length a0 : Int) := of_decide_eq_true h1
     refine Vc.skip (Vc.seq (Vc.block (Vc.seq ?_)))
     refine Vc.region hG rfl (by trivial) (Vc.seq ?_)
     refine Vc.regionD mixed hG rfl (by kernel_rfl) ?_ ?_
     · exact ⟨(eqRange hI0 hl0).1, (eqRange hI0 hl0).2⟩
     refine Vc.cond rfl (fun h2 => ?_) (fun h2 => ?_)
     · refine Vc.seq (Vc.region hG rfl (by trivial) (Vc.ret ?_))
       refine ⟨?_, trivial⟩
       refine eqC_no (fun e => ?_)
       have e : a0 = a1 := e
       have g : (!(El.eq Y27 (List.getD a0 i0.toNat (dflt Y27)) (List.getD a1 i0.toNat (dflt Y27)))) = true := h2
       subst e
       exact (eself rfl) g
     · have g2 : (!(El.eq Y27 (List.getD a0 i0.toNat (dflt Y27)) (List.getD a1 i0.toNat (dflt Y27)))) = false := h2
       have f2_0 : (List.getD a0 i0.toNat (dflt Y27)) = (List.getD a1 i0.toNat (dflt Y27)) := (notE g2 rfl)
       have s0 : (List.getD a0 i0.toNat (dflt Y27)) = (List.getD a1 i0.toNat (dflt Y27)) := f2_0
       refine Vc.skip (Vc.region hG rfl (by trivial) ?_)
       refine ⟨rfl, ?_⟩
       exact ⟨eqStep (d := dflt Y27) hI0 hl0 hb0 s0, (upStep hI0.1 hl0 hb0).2.2⟩
   · have hl0 : ¬ i0 < (List.length a0 : Int) := of_decide_eq_false h1
     have e0 : a0 = a1 := eqEnd hI0 hl0
     refine Vc.exit (Vc.seq (Vc.region hG rfl (by trivial) (Vc.ret ?_)))
     refine ⟨?_, trivial⟩
     exact eqC_yes e0
noncomputable def F85 : Fun := ⟨[.pair (.int .i64) Y42, .pair (.int .i64) Y42], [.pure (.bool)], fun _ => True, fun x => (eqC x.1 x.2.1, ())⟩
theorem F85_ok : Meets Tryz.prog 85 F85 := by
 refine meets_of_vc (C := mkC 57 [4] [0,1,2,3,4,5,33,36,37,38,50] [⟨108, _, F108_ok⟩]) (mkC_ok _ _ _ _) (fnOf_ok _) Tryz.func85 rfl rfl rfl (by decide) rfl ?_
 rintro ⟨a0, a1, _⟩ hwf hpre ⟨P, C, B, X, w0, M0, pv⟩ hG rfl rfl
 show Vc _ _ [(0, ⟨0, 0, .c Z46 a0⟩), (1, ⟨0, 0, .c Z46 a1⟩)] _
 have hb0 : List.length a0.2.2.2.1 ≤ bigLen := hwf.1.2.2.2.1.1
 refine Vc.seq (Vc.region hG rfl (by trivial) (Vc.seq (Vc.seq ?_)))
 refine Vc.region hG rfl (by trivial) ?_
 refine Vc.cond rfl (fun h0 => ?_) (fun h0 => ?_)
 · refine Vc.seq (Vc.region hG rfl (by trivial) (Vc.ret ?_))
   refine ⟨?_, trivial⟩
   refine eqC_no (fun e => ?_)
   have e : a0 = a1 := e
   have g : (pick2 (pick2 (pick2 (a0.1 != a1.1) true (a0.2.1 != a1.2.1)) true (a0.2.2.1 != a1.2.2.1)) true ((List.length a0.2.2.2.1 : Int) != (List.length a1.2.2.2.1 : Int))) = true := h0
   subst e
   exact (noOr (noOr (noOr bself bself) bself) bself) g
 · have g0 : (pick2 (pick2 (pick2 (a0.1 != a1.1) true (a0.2.1 != a1.2.1)) true (a0.2.2.1 != a1.2.2.1)) true ((List.length a0.2.2.2.1 : Int) != (List.length a1.2.2.2.1 : Int))) = false := h0
   have f0_0 : a0.1 = a1.1 := (bneI (orF (orF (orF g0).1).1).1)
   have f0_1 : a0.2.1 = a1.2.1 := (bneI (orF (orF (orF g0).1).1).2)
   have f0_2 : a0.2.2.1 = a1.2.2.1 := (bneI (orF (orF g0).1).2)
   have f0_3 : List.length a0.2.2.2.1 = List.length a1.2.2.2.1 := (lenEq (orF g0).2)
   refine Vc.skip (Vc.seq (Vc.seq (Vc.region hG rfl (by trivial) ?_)))
   refine Vc.block ?_
   refine Vc.loopF [(37, false, .pure (.int .i64))] [0, 1, 2, 3, 33, 36] (fun v => eqInv a0.2.2.2.1 a1.2.2.2.1 v.1) (fun v => ((List.length a0.2.2.2.1 : Int) - v.1).toNat) rfl ?_ ?_
   · exact eqStart f0_3
   rintro ⟨(i0 : Int), _⟩ hI0
   have hI0 : eqInv a0.2.2.2.1 a1.2.2.2.1 i0 := hI0
   refine Vc.seq (Vc.region hG rfl (by trivial) (Vc.seq ?_))
   refine Vc.cond rfl (fun h1 => ?_) (fun h1 => ?_)
   · have hl0 : i0 < (List.length a0.2.2.2.1 : Int) := of_decide_eq_true h1
     refine Vc.skip (Vc.seq (Vc.block (Vc.seq ?_)))
     refine Vc.region hG rfl (by trivial) (Vc.seq ?_)
     refine Vc.regionD mixed hG rfl (by kernel_rfl) ?_ ?_
     · exact ⟨(eqRange hI0 hl0).1, (eqRange hI0 hl0).2⟩
     refine Vc.cond rfl (fun h2 => ?_) (fun h2 => ?_)
     · refine Vc.seq (Vc.region hG rfl (by trivial) (Vc.ret ?_))
       refine ⟨?_, trivial⟩
       refine eqC_no (fun e => ?_)
       have e : a0 = a1 := e
       have g : (!(El.eq Y2 (List.getD a0.2.2.2.1 i0.toNat (dflt Y2)) (List.getD a1.2.2.2.1 i0.toNat (dflt Y2)))) = true := h2
       subst e
       exact (eself rfl) g
     · have g2 : (!(El.eq Y2 (List.getD a0.2.2.2.1 i0.toNat (dflt Y2)) (List.getD a1.2.2.2.1 i0.toNat (dflt Y2)))) = false := h2
       have f2_0 : (List.getD a0.2.2.2.1 i0.toNat (dflt Y2)) = (List.getD a1.2.2.2.1 i0.toNat (dflt Y2)) := (notE g2 rfl)
       have s0 : (List.getD a0.2.2.2.1 i0.toNat (dflt Y2)) = (List.getD a1.2.2.2.1 i0.toNat (dflt Y2)) := f2_0
       refine Vc.skip (Vc.region hG rfl (by trivial) ?_)
       refine ⟨rfl, ?_⟩
       exact ⟨eqStep (d := dflt Y2) hI0 hl0 hb0 s0, (upStep hI0.1 hl0 hb0).2.2⟩
   · have hl0 : ¬ i0 < (List.length a0.2.2.2.1 : Int) := of_decide_eq_false h1
     have e0 : a0.2.2.2.1 = a1.2.2.2.1 := eqEnd hI0 hl0
     refine Vc.exit (Vc.seq ?_)
     refine Vc.region hG rfl ?_ ?_
     · repeat' (first | exact trivial | refine And.intro ?_ ?_ | intro _)
     refine Vc.ret ?_
     refine ⟨?_, trivial⟩
     refine eqC_by (fun e => ?_) (fun e => ?_)
     · have e : (eqC a0.2.2.2.2 a1.2.2.2.2) = true := e
       have r_0 : a0.2.2.2.2 = a1.2.2.2.2 := (eqC_iff.1 e)
       exact (Prod.ext f0_0 (Prod.ext f0_1 (Prod.ext f0_2 (Prod.ext e0 r_0))))
     · have e : a0 = a1 := e
       subst e
       exact (eqC_self _)
noncomputable def F57 : Fun := ⟨[.pair Y20 Y47, .pair Y20 Y47], [.pure (.bool)], fun _ => True, fun x => (eqC x.1 x.2.1, ())⟩
theorem F57_ok : Meets Tryz.prog 57 F57 := by
 refine meets_of_vc (C := mkC 40 [4] [0,1,2,3,4,5,20,23,24,25,38] [⟨84, _, F84_ok⟩, ⟨85, _, F85_ok⟩]) (mkC_ok _ _ _ _) (fnOf_ok _) Tryz.func57 rfl rfl rfl (by decide) rfl ?_
 rintro ⟨a0, a1, _⟩ hwf hpre ⟨P, C, B, X, w0, M0, pv⟩ hG rfl rfl
 show Vc _ _ [(0, ⟨0, 0, .c Z51 a0⟩), (1, ⟨0, 0, .c Z51 a1⟩)] _
 have hb0 : List.length a0.2 ≤ bigLen := hwf.1.2.1
 refine Vc.seq (Vc.region hG rfl (by trivial) (Vc.seq (Vc.seq ?_)))
 refine Vc.region hG rfl ?_ ?_
 · repeat' (first | exact trivial | refine And.intro ?_ ?_ | intro _)
 refine Vc.cond rfl (fun h0 => ?_) (fun h0 => ?_)
 · refine Vc.seq (Vc.region hG rfl (by trivial) (Vc.ret ?_))
   refine ⟨?_, trivial⟩
   refine eqC_no (fun e => ?_)
   have e : a0 = a1 := e
   have g : (pick2 (!(eqC a0.1 a1.1)) true ((List.length a0.2 : Int) != (List.length a1.2 : Int))) = true := h0
   subst e
   exact (noOr (nself (eqC_self _)) bself) g
 · have g0 : (pick2 (!(eqC a0.1 a1.1)) true ((List.length a0.2 : Int) != (List.length a1.2 : Int))) = false := h0
   have f0_0 : a0.1 = a1.1 := (eqC_iff.1 (notF (orF g0).1))
   have f0_1 : List.length a0.2 = List.length a1.2 := (lenEq (orF g0).2)
   refine Vc.skip (Vc.seq (Vc.seq (Vc.region hG rfl (by trivial) ?_)))
   refine Vc.block ?_
   refine Vc.loopF [(24, false, .pure (.int .i64))] [0, 1, 2, 3, 20, 23] (fun v => eqInv a0.2 a1.2 v.1) (fun v => ((List.length a0.2 : Int) - v.1).toNat) rfl ?_ ?_
   · exact eqStart f0_1
   rintro ⟨(i0 : Int), _⟩ hI0
   have hI0 : eqInv a0.2 a1.2 i0 := hI0
   refine Vc.seq (Vc.region hG rfl (by trivial) (Vc.seq ?_))
   refine Vc.cond rfl (fun h1 => ?_) (fun h1 => ?_)
   · have hl0 : i0 < (List.length a0.2 : Int) := of_decide_eq_true h1
     refine Vc.skip (Vc.seq (Vc.block (Vc.seq ?_)))
     refine Vc.region hG rfl (by trivial) (Vc.seq ?_)
     refine Vc.regionD mixed hG rfl (by kernel_rfl) ?_ ?_
     · exact ⟨(eqRange hI0 hl0).1, (eqRange hI0 hl0).2, trivial⟩
     refine Vc.cond rfl (fun h2 => ?_) (fun h2 => ?_)
     · refine Vc.seq (Vc.region hG rfl (by trivial) (Vc.ret ?_))
       refine ⟨?_, trivial⟩
       refine eqC_no (fun e => ?_)
       have e : a0 = a1 := e
       have g : (!(eqC (List.getD a0.2 i0.toNat (dflt Y44)) (List.getD a1.2 i0.toNat (dflt Y44)))) = true := h2
       subst e
       exact (nself (eqC_self _)) g
     · have g2 : (!(eqC (List.getD a0.2 i0.toNat (dflt Y44)) (List.getD a1.2 i0.toNat (dflt Y44)))) = false := h2
       have f2_0 : (List.getD a0.2 i0.toNat (dflt Y44)) = (List.getD a1.2 i0.toNat (dflt Y44)) := (eqC_iff.1 (notF g2))
       have s0 : (List.getD a0.2 i0.toNat (dflt Y44)) = (List.getD a1.2 i0.toNat (dflt Y44)) := f2_0
       refine Vc.skip (Vc.region hG rfl (by trivial) ?_)
       refine ⟨rfl, ?_⟩
       exact ⟨eqStep (d := dflt Y44) hI0 hl0 hb0 s0, (upStep hI0.1 hl0 hb0).2.2⟩
   · have hl0 : ¬ i0 < (List.length a0.2 : Int) := of_decide_eq_false h1
     have e0 : a0.2 = a1.2 := eqEnd hI0 hl0
     refine Vc.exit (Vc.seq (Vc.region hG rfl (by trivial) (Vc.ret ?_)))
     refine ⟨?_, trivial⟩
     exact eqC_yes (Prod.ext f0_0 e0)
end Fw
