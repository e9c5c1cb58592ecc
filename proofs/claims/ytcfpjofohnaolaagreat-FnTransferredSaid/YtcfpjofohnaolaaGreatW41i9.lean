/- Walks of functions of the program: what each computes. Conditions: those that each contract names. -/
import Derived.Test.YtcfpjofohnaolaaGreatW41T
import Derived.Test.YtcfpjofohnaolaaGreatW41i7
import Derived.Test.YtcfpjofohnaolaaGreatW41i8
namespace Fw
open Go Go.Proofs
set_option linter.unusedSimpArgs false
set_option maxRecDepth 100000
noncomputable def F30 : Fun := ⟨[.pair (.int .i64) Y56, .pair (.int .i64) Y56], [.pure (.bool)], fun _ => True, fun x => (eqC x.1 x.2.1, ())⟩
theorem F30_ok : Meets Tryz.prog 30 F30 := by
 refine meets_of_vc (C := mkC 38 [4] [0,1,2,3,4] [⟨56, _, F56_ok⟩, ⟨57, _, F57_ok⟩]) (mkC_ok _ _ _ _) (fnOf_ok _) Tryz.func30 rfl rfl rfl (by decide) rfl ?_
 rintro ⟨a0, a1, _⟩ hwf hpre ⟨P, C, B, X, w0, M0, pv⟩ hG rfl rfl
 show Vc _ _ [(0, ⟨0, 0, .c Z58 a0⟩), (1, ⟨0, 0, .c Z58 a1⟩)] _
 refine Vc.seq (Vc.region hG rfl (by trivial) (Vc.seq ?_))
 refine Vc.region hG rfl ?_ ?_
 · repeat' (first | exact trivial | refine And.intro ?_ ?_ | intro _)
 refine Vc.ret ?_
 refine ⟨?_, trivial⟩
 refine eqC_by (fun e => ?_) (fun e => ?_)
 · have e : (pick2 (pick2 (pick2 (pick2 (a0.1 == a1.1) (a0.2.1 == a1.2.1) false) (eqC a0.2.2.1 a1.2.2.1) false) (El.eq Y40 a0.2.2.2.1 a1.2.2.2.1) false) (eqC a0.2.2.2.2 a1.2.2.2.2) false) = true := e
   have r_0 : a0.1 = a1.1 := (beqI2 (andT (andT (andT (andT e).1).1).1).1)
   have r_1 : a0.2.1 = a1.2.1 := (beqI2 (andT (andT (andT (andT e).1).1).1).2)
   have r_2 : a0.2.2.1 = a1.2.2.1 := (eqC_iff.1 (andT (andT (andT e).1).1).2)
   have r_3 : a0.2.2.2.1 = a1.2.2.2.1 := (eqlE (andT (andT e).1).2 rfl)
   have r_4 : a0.2.2.2.2 = a1.2.2.2.2 := (eqC_iff.1 (andT e).2)
   exact (Prod.ext r_0 (Prod.ext r_1 (Prod.ext r_2 (Prod.ext r_3 r_4))))
 · have e : a0 = a1 := e
   subst e
   exact (yesAnd (yesAnd (yesAnd (yesAnd beqSelf beqSelf) (eqC_self _)) (El.eq_self _ _ rfl)) (eqC_self _))
noncomputable def F8 : Fun := ⟨[.pair (.int .i64) Y59, .pair (.int .i64) Y59], [.pure (.bool)], fun _ => True, fun x => (eqC x.1 x.2.1, ())⟩
theorem F8_ok : Meets Tryz.prog 8 F8 := by
 refine meets_of_vc (C := mkC 39 [4] [0,1,2,3,4,5,19,22,23,24,37] [⟨30, _, F30_ok⟩]) (mkC_ok _ _ _ _) (fnOf_ok _) Tryz.func8 rfl rfl rfl (by decide) rfl ?_
 rintro ⟨a0, a1, _⟩ hwf hpre ⟨P, C, B, X, w0, M0, pv⟩ hG rfl rfl
 show Vc _ _ [(0, ⟨0, 0, .c Z62 a0⟩), (1, ⟨0, 0, .c Z62 a1⟩)] _
 have hb0 : List.length a0.2 ≤ bigLen := hwf.1.2.1
 refine Vc.seq (Vc.region hG rfl (by trivial) (Vc.seq (Vc.seq ?_)))
 refine Vc.region hG rfl (by trivial) ?_
 refine Vc.cond rfl (fun h0 => ?_) (fun h0 => ?_)
 · refine Vc.seq (Vc.region hG rfl (by trivial) (Vc.ret ?_))
   refine ⟨?_, trivial⟩
   refine eqC_no (fun e => ?_)
   have e : a0 = a1 := e
   have g : (pick2 (a0.1 != a1.1) true ((List.length a0.2 : Int) != (List.length a1.2 : Int))) = true := h0
   subst e
   exact (noOr bself bself) g
 · have g0 : (pick2 (a0.1 != a1.1) true ((List.length a0.2 : Int) != (List.length a1.2 : Int))) = false := h0
   have f0_0 : a0.1 = a1.1 := (bneI (orF g0).1)
   have f0_1 : List.length a0.2 = List.length a1.2 := (lenEq (orF g0).2)
   refine Vc.skip (Vc.seq (Vc.seq (Vc.region hG rfl (by trivial) ?_)))
   refine Vc.block ?_
   refine Vc.loopF [(23, false, .pure (.int .i64))] [0, 1, 2, 3, 19, 22] (fun v => eqInv a0.2 a1.2 v.1) (fun v => ((List.length a0.2 : Int) - v.1).toNat) rfl ?_ ?_
   · exact eqStart f0_1
   rintro ⟨(i0 : Int), _⟩ hI0
   have hI0 : eqInv a0.2 a1.2 i0 := hI0
   refine Vc.seq (Vc.region hG rfl (by trivial) (Vc.seq ?_))
   refine Vc.cond rfl (fun h1 => ?_) (fun h1 => ?_)
   · have hl0 : i0 < (List.length a0.2 : Int) := of_decide_eq_true h1
     refine Vc.skip (Vc.seq (Vc.block (Vc.seq ?_)))
     refine Vc.region hG rfl (by trivial) (Vc.seq ?_)
     refine Vc.regionD mixed hG rfl (by kernel_rfl) ?_ ?_
     · exact ⟨(eqRange hI0 hl0).1, (eqRange hI0 hl0).2, trivial⟩
     refine Vc.cond rfl (fun h2 => ?_) (fun h2 => ?_)
     · refine Vc.seq (Vc.region hG rfl (by trivial) (Vc.ret ?_))
       refine ⟨?_, trivial⟩
       refine eqC_no (fun e => ?_)
       have e : a0 = a1 := e
       have g : (!(eqC (List.getD a0.2 i0.toNat (dflt Y57)) (List.getD a1.2 i0.toNat (dflt Y57)))) = true := h2
       subst e
       exact (nself (eqC_self _)) g
     · have g2 : (!(eqC (List.getD a0.2 i0.toNat (dflt Y57)) (List.getD a1.2 i0.toNat (dflt Y57)))) = false := h2
       have f2_0 : (List.getD a0.2 i0.toNat (dflt Y57)) = (List.getD a1.2 i0.toNat (dflt Y57)) := (eqC_iff.1 (notF g2))
       have s0 : (List.getD a0.2 i0.toNat (dflt Y57)) = (List.getD a1.2 i0.toNat (dflt Y57)) := f2_0
       refine Vc.skip (Vc.region hG rfl (by trivial) ?_)
       refine ⟨rfl, ?_⟩
       exact ⟨eqStep (d := dflt Y57) hI0 hl0 hb0 s0, (upStep hI0.1 hl0 hb0).2.2⟩
   · have hl0 : ¬ i0 < (List.length a0.2 : Int) := of_decide_eq_false h1
     have e0 : a0.2 = a1.2 := eqEnd hI0 hl0
     refine Vc.exit (Vc.seq (Vc.region hG rfl (by trivial) (Vc.ret ?_)))
     refine ⟨?_, trivial⟩
     exact eqC_yes (Prod.ext f0_0 e0)
end Fw
