/- Walks of functions of the program: what each computes. Conditions: those that each contract names. -/
import Derived.Test.YtcfpjofohnaolaaGreatW41T
import Derived.Test.YtcfpjofohnaolaaGreatW41i0
import Derived.Test.YtcfpjofohnaolaaGreatW41i4
import Derived.Test.YtcfpjofohnaolaaGreatW41i5
import Derived.Test.YtcfpjofohnaolaaGreatW41i6
namespace Fw
open Go Go.Proofs
set_option linter.unusedSimpArgs false
set_option maxRecDepth 100000
noncomputable def F29 : Fun := ⟨[.pair (.int .i64) Y59, .int .i64], [.pair (.pure (.int .i64)) Z68, .pure (.bool)], fun x => (fun (a : Archive) (_ : Int) => Sm big20 Y60 a) x.1 x.2.1, fun x => ((dropItemF x.1 x.2.1).1, (dropItemF x.1 x.2.1).2, ())⟩
theorem F29_ok : Meets Tryz.prog 29 F29 := by
 refine meets_of_vc (C := mkC 28 [4, 5] [0,1,2,4,5,6,7,14] [⟨28, _, F28_ok⟩, ⟨10, _, F10_ok⟩]) (mkC_ok _ _ _ _) (fnOf_ok _) Tryz.func29 rfl rfl rfl (by decide) rfl ?_
 rintro ⟨a0, (a1 : Int), _⟩ hwf hpre ⟨P, C, B, X, w0, M0, pv⟩ hG rfl rfl
 show Vc _ _ [(0, ⟨0, 0, .c Z62 a0⟩), (1, ⟨0, 0, .c (.pure (.int .i64)) a1⟩)] _
 have hp1 : Sm big20 Y60 a0 := hpre
 have hs : List.length a0.2 ≤ 1048576 := hp1.2.1
 have hb : List.length a0.2 ≤ bigLen := hwf.1.2.1
 refine Vc.seq (Vc.region hG rfl (by trivial) (Vc.seq ?_))
 refine Vc.region hG rfl ?_ ?_
 · exact hp1
 refine Vc.seq (Vc.region hG rfl (by trivial) (Vc.seq (Vc.seq ?_)))
 refine Vc.region hG rfl (by trivial) ?_
 refine Vc.cond rfl (fun h0 => ?_) (fun h0 => ?_)
 · have g0 : itAt a0 a1 < 0 := of_decide_eq_true h0
   refine Vc.seq (Vc.region hG rfl (by trivial) (Vc.ret ?_))
   have e := di0 g0
   refine ⟨?_, ?_, trivial⟩
   · exact (congrArg Prod.fst e).symm
   · exact (congrArg Prod.snd e).symm
 · have g0 : ¬ itAt a0 a1 < 0 := of_decide_eq_false h0
   refine Vc.skip (Vc.seq ?_)
   refine Vc.regionD mixed hG rfl (by kernel_rfl) ?_ ?_
   · exact diConds g0 hs hb
   refine Vc.seq (Vc.region hG rfl (by trivial) (Vc.ret ?_))
   have e := di1i g0 hb
   refine ⟨?_, ?_, trivial⟩
   · exact (congrArg Prod.fst e).symm
   · exact (congrArg Prod.snd e).symm
noncomputable def F7 : Fun := ⟨[.pair (.int .i64) Y59, .pair (.int .i64) Y59, .slice (.int .i64), .int .i64], [.pair (.pure (.int .i64)) Z68, .pair (.pure (.int .i64)) Z68, .pure (.bool)], fun x => (fun (a b : Archive) (l : List Int) (_ : Int) => Sm big20 Y60 a ∧ Sm big20 Y60 b ∧ List.length l ≤ 1048576) x.1 x.2.1 x.2.2.1 x.2.2.2.1, fun x => ((moveF x.1 x.2.1 x.2.2.1 x.2.2.2.1).1, (moveF x.1 x.2.1 x.2.2.1 x.2.2.2.1).2.1, (moveF x.1 x.2.1 x.2.2.1 x.2.2.2.1).2.2, ())⟩
theorem F7_ok : Meets Tryz.prog 7 F7 := by
 refine meets_of_vc (C := mkC 70 [8, 9, 10, 11, 13, 15] [0,1,2,3,4,5,8,9,10,11,12,13,14,15,17,18,19,41,48,49,50,51,61] [⟨26, _, F26_ok⟩, ⟨27, _, F27_ok⟩, ⟨28, _, F28_ok⟩, ⟨29, _, F29_ok⟩]) (mkC_ok _ _ _ _) (fnOf_ok _) Tryz.func7 rfl rfl rfl (by decide) rfl ?_
 rintro ⟨a0, a1, a2, (a3 : Int), _⟩ hwf hpre ⟨P, C, B, X, w0, M0, pv⟩ hG rfl rfl
 show Vc _ _ [(0, ⟨0, 0, .c Z62 a0⟩), (1, ⟨0, 0, .c Z62 a1⟩), (2, ⟨0, 0, .c Z3 a2⟩), (3, ⟨0, 0, .c (.pure (.int .i64)) a3⟩)] _
 have hp1 : Sm big20 Y60 a0 := hpre.1
 have hp2 : Sm big20 Y60 a1 := hpre.2.1
 have hs : List.length a2 ≤ 1048576 := hpre.2.2
 have hb : List.length a2 ≤ bigLen := hwf.2.2.1.1
 have hmk : Sm big20 Y65 (mvP a0 a1 a2 a3).1 := mkSm hp1 hs
 refine Vc.seq (Vc.region hG rfl (by trivial) (Vc.seq ?_))
 refine Vc.region hG rfl ?_ ?_
 · exact ⟨hp1, hs⟩
 refine Vc.seq ?_
 refine Vc.region hG rfl ?_ ?_
 · exact ⟨hp2, hmk⟩
 refine Vc.seq (Vc.seq (Vc.region hG rfl (by trivial) ?_))
 refine Vc.cond rfl (fun h0 => ?_) (fun h0 => ?_)
 · have g0 : pick2 (!(mvP a0 a1 a2 a3).2) true (!(mvT a0 a1 a2 a3).2) = true := h0
   refine Vc.seq ?_
   refine Vc.regionD mixed hG rfl (by kernel_rfl) ?_ ?_
   · exact ⟨hp1, hp2⟩
   refine Vc.ret ?_
   have e := mvBad g0
   refine ⟨?_, ?_, ?_, trivial⟩
   · exact (congrArg Prod.fst e).symm
   · exact (congrArg (fun z => z.2.1) e).symm
   · exact (congrArg (fun z => z.2.2) e).symm
 · have g0 := mvGo (a := a0) (b := a1) (ids := a2) (m := a3) h0
   refine Vc.skip (Vc.seq ?_)
   refine Vc.region hG rfl ?_ ?_
   · exact hp1
   refine Vc.seq (Vc.seq (Vc.region hG rfl (by trivial) (Vc.block ?_)))
   refine Vc.loopF [(8, true, .pair (.pure (.int .i64)) Z68), (9, true, .pair (.pure (.int .i64)) Z68), (15, true, .pair (.pure (.int .i64)) Z68), (50, false, .pure (.int .i64))] [0, 1, 2, 3, 4, 5, 11, 12, 13, 14, 41, 48, 49] (fun v => mvInv a0 a1 a2 a3 v.2.2.1 true v.2.2.2.1) (fun v => ((List.length a2 : Int) - v.2.2.2.1).toNat) rfl ?_ ?_
   · exact mvStart hp1 g0.2
   rintro ⟨r, r2, o, (i : Int), _⟩ hI
   have hI : mvInv a0 a1 a2 a3 o true i := hI
   refine Vc.seq (Vc.region hG rfl (by trivial) (Vc.seq ?_))
   refine Vc.cond rfl (fun h1 => ?_) (fun h1 => ?_)
   · have hl : i < (List.length a2 : Int) := of_decide_eq_true h1
     refine Vc.skip (Vc.seq (Vc.block (Vc.seq ?_)))
     refine Vc.region hG rfl ?_ ?_
     · exact upRange hI.1.1 hl
     refine Vc.seq ?_
     refine Vc.region hG rfl ?_ ?_
     · exact hI.2
     refine Vc.seq (Vc.seq (Vc.region hG rfl (by trivial) ?_))
     refine Vc.cond rfl (fun h2 => ?_) (fun h2 => ?_)
     · have g2 : (!(dropItemF o (List.getD a2 i.toNat (dflt TI))).2) = true := h2
       refine Vc.seq ?_
       refine Vc.regionD mixed hG rfl (by kernel_rfl) ?_ ?_
       · exact ⟨hp1, hp2⟩
       refine Vc.ret ?_
       have e := mvFail hI hl g2
       refine ⟨?_, ?_, ?_, trivial⟩
       · exact (congrArg Prod.fst e).symm
       · exact (congrArg (fun z => z.2.1) e).symm
       · exact (congrArg (fun z => z.2.2) e).symm
     · have g2 : (!(dropItemF o (List.getD a2 i.toNat (dflt TI))).2) = false := h2
       refine Vc.skip (Vc.region hG rfl (by trivial) (Vc.region hG rfl (by trivial) ?_))
       refine ⟨rfl, ?_⟩
       exact mvNext hI rfl hl hb rfl (notF g2).symm
   · have hl : ¬ i < (List.length a2 : Int) := of_decide_eq_false h1
     refine Vc.exit (Vc.seq (Vc.regionD mixed hG rfl (by kernel_rfl) (by trivial) (Vc.ret ?_)))
     have e := mvDone hI hl g0.1
     refine ⟨?_, ?_, ?_, trivial⟩
     · exact (congrArg Prod.fst e).symm
     · exact (congrArg (fun z => z.2.1) e).symm
     · exact (congrArg (fun z => z.2.2) e).symm
noncomputable def F82 : Fun := ⟨[.slice (.str), .slice (.str)], [.pure (.bool)], fun _ => True, fun x => (eqC x.1 x.2.1, ())⟩
theorem F82_ok : Meets Tryz.prog 82 F82 := by
 refine meets_of_vc (C := mkC 26 [4] [0,1,4,5,10,12,13,14,24] []) (mkC_ok _ _ _ _) (fnOf_ok _) Tryz.func82 rfl rfl rfl (by decide) rfl ?_
 rintro ⟨a0, a1, _⟩ hwf hpre ⟨P, C, B, X, w0, M0, pv⟩ hG rfl rfl
 show Vc _ _ [(0, ⟨0, 0, .c (.pure (.slice (.str))) a0⟩), (1, ⟨0, 0, .c (.pure (.slice (.str))) a1⟩)] _
 have hb0 : List.length a0 ≤ bigLen := hwf.1.1
 refine Vc.seq (Vc.region hG rfl (by trivial) (Vc.seq (Vc.seq ?_)))
 refine Vc.region hG rfl (by trivial) ?_
 refine Vc.cond rfl (fun h0 => ?_) (fun h0 => ?_)
 · refine Vc.seq (Vc.region hG rfl (by trivial) (Vc.ret ?_))
   refine ⟨?_, trivial⟩
   refine eqC_no (fun e => ?_)
   have e : a0 = a1 := e
   have g : ((List.length a0 : Int) != (List.length a1 : Int)) = true := h0
   subst e
   exact bself g
 · have g0 : ((List.length a0 : Int) != (List.length a1 : Int)) = false := h0
   have f0_0 : List.length a0 = List.length a1 := (lenEq g0)
   refine Vc.skip (Vc.seq (Vc.seq (Vc.region hG rfl (by trivial) ?_)))
   refine Vc.block ?_
   refine Vc.loopF [(13, false, .pure (.int .i64))] [0, 1, 10, 12] (fun v => eqInv a0 a1 v.1) (fun v => ((List.length a0 : Int) - v.1).toNat) rfl ?_ ?_
   · exact eqStart f0_0
   rintro ⟨(i0 : Int), _⟩ hI0
   have hI0 : eqInv a0 a1 i0 := hI0
   refine Vc.seq (Vc.region hG rfl (by trivial) (Vc.seq ?_))
   refine Vc.cond rfl (fun h1 => ?_) (fun h1 => ?_)
   · have hl0 : i0 < (List.length a0 : Int) := of_decide_eq_true h1
     refine Vc.skip (Vc.seq (Vc.block (Vc.seq ?_)))
     refine Vc.region hG rfl (by trivial) (Vc.seq ?_)
     refine Vc.regionD mixed hG rfl (by kernel_rfl) ?_ ?_
     · exact ⟨(eqRange hI0 hl0).1, (eqRange hI0 hl0).2⟩
     refine Vc.cond rfl (fun h2 => ?_) (fun h2 => ?_)
     · refine Vc.seq (Vc.region hG rfl (by trivial) (Vc.ret ?_))
       refine ⟨?_, trivial⟩
       refine eqC_no (fun e => ?_)
       have e : a0 = a1 := e
       have g : ((List.getD a0 i0.toNat (dflt (.str))) != (List.getD a1 i0.toNat (dflt (.str)))) = true := h2
       subst e
       exact bselfS g
     · have g2 : ((List.getD a0 i0.toNat (dflt (.str))) != (List.getD a1 i0.toNat (dflt (.str)))) = false := h2
       have f2_0 : (List.getD a0 i0.toNat (dflt (.str))) = (List.getD a1 i0.toNat (dflt (.str))) := (bneS g2)
       have s0 : (List.getD a0 i0.toNat (dflt (.str))) = (List.getD a1 i0.toNat (dflt (.str))) := f2_0
       refine Vc.skip (Vc.region hG rfl (by trivial) ?_)
       refine ⟨rfl, ?_⟩
       exact ⟨eqStep (d := dflt (.str)) hI0 hl0 hb0 s0, (upStep hI0.1 hl0 hb0).2.2⟩
   · have hl0 : ¬ i0 < (List.length a0 : Int) := of_decide_eq_false h1
     have e0 : a0 = a1 := eqEnd hI0 hl0
     refine Vc.exit (Vc.seq (Vc.region hG rfl (by trivial) (Vc.ret ?_)))
     refine ⟨?_, trivial⟩
     exact eqC_yes e0
noncomputable def F56 : Fun := ⟨[.pair (.int .i64) Y9, .pair (.int .i64) Y9], [.pure (.bool)], fun _ => True, fun x => (eqC x.1 x.2.1, ())⟩
theorem F56_ok : Meets Tryz.prog 56 F56 := by
 refine meets_of_vc (C := mkC 24 [4] [0,1,2,3,4] [⟨82, _, F82_ok⟩, ⟨83, _, F83_ok⟩]) (mkC_ok _ _ _ _) (fnOf_ok _) Tryz.func56 rfl rfl rfl (by decide) rfl ?_
 rintro ⟨a0, a1, _⟩ hwf hpre ⟨P, C, B, X, w0, M0, pv⟩ hG rfl rfl
 show Vc _ _ [(0, ⟨0, 0, .c Z22 a0⟩), (1, ⟨0, 0, .c Z22 a1⟩)] _
 refine Vc.seq (Vc.region hG rfl (by trivial) (Vc.seq ?_))
 refine Vc.region hG rfl ?_ ?_
 · repeat' (first | exact trivial | refine And.intro ?_ ?_ | intro _)
 refine Vc.ret ?_
 refine ⟨?_, trivial⟩
 refine eqC_by (fun e => ?_) (fun e => ?_)
 · have e : (pick2 (pick2 (a0.1 == a1.1) (eqC a0.2.1 a1.2.1) false) (eqC a0.2.2 a1.2.2) false) = true := e
   have r_0 : a0.1 = a1.1 := (beqI2 (andT (andT e).1).1)
   have r_1 : a0.2.1 = a1.2.1 := (eqC_iff.1 (andT (andT e).1).2)
   have r_2 : a0.2.2 = a1.2.2 := (eqC_iff.1 (andT e).2)
   exact (Prod.ext r_0 (Prod.ext r_1 r_2))
 · have e : a0 = a1 := e
   subst e
   exact (yesAnd (yesAnd beqSelf (eqC_self _)) (eqC_self _))
end Fw
