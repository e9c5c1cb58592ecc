/- Walks of functions of the program: what each computes. Conditions: those that each contract names. -/
import Derived.Test.YtcfpjofohnaolaaGreatW41T
import Derived.Test.YtcfpjofohnaolaaGreatW41s0
import Derived.Test.YtcfpjofohnaolaaGreatW41s2
namespace Fw
open Go Go.Proofs
set_option linter.unusedSimpArgs false
set_option maxRecDepth 100000
noncomputable def F109 : Fun := ⟨[.slice Y14], [.own Z24], fun x => Sm big20 Y20 x.1, fun x => (id x.1, ())⟩
theorem F109_ok : Meets Tryz.prog 109 F109 := by
 refine meets_of_vc (C := mkC 21 [2] [0,2,3,4,9] [⟨133, _, F133_ok⟩]) (mkC_ok _ _ _ _) (fnOf_ok _) Tryz.func109 rfl rfl rfl (by decide) rfl ?_
 rintro ⟨a0, _⟩ hwf hpre ⟨P, C, B, X, w0, M0, pv⟩ hG rfl rfl
 show Vc _ _ [(0, ⟨0, 0, .c Z23 a0⟩)] _
 have hp : _ ∧ _ := hpre
 have hb : List.length a0 ≤ bigLen := hwf.1.1
 refine Vc.seq (Vc.region hG rfl (by trivial) (Vc.seq (Vc.region hG rfl (by trivial) ?_)))
 refine Vc.seq (Vc.seq (Vc.region hG rfl (by trivial) (Vc.block ?_)))
 refine Vc.loopF [(3, false, .own Z24), (4, false, .pure (.int .i64))] [0, 2] (fun v => cpInv a0 v.1 v.2.1) (fun v => ((List.length a0 : Int) - v.2.1).toNat) rfl ?_ ?_
 · exact cpStart
 rintro ⟨acc, (i : Int), _⟩ hI
 have hI : cpInv a0 acc i := hI
 refine Vc.seq (Vc.seq (Vc.region hG rfl (by trivial) ?_))
 refine Vc.cond rfl (fun h0 => ?_) (fun h0 => ?_)
 · have hl : i < (List.length a0 : Int) := of_decide_eq_true h0
   have hE : Sm big20 Y14 (List.getD a0 i.toNat (dflt Y14)) := hp.2 _ (upElem hI.1 hl)
   refine Vc.skip (Vc.seq (Vc.block ?_))
   refine Vc.region hG rfl ?_ ?_
   · exact ⟨cpRange hI hl, hE, cpLen hI hl hp.1⟩
   refine Vc.region hG rfl (by trivial) ?_
   refine ⟨rfl, ?_⟩
   exact cpStep (d := dflt Y14) hI hl hb rfl
 · have hl : ¬ i < (List.length a0 : Int) := of_decide_eq_false h0
   refine Vc.exit (Vc.seq (Vc.region hG rfl (by trivial) (Vc.ret ?_)))
   refine ⟨?_, trivial⟩
   exact cpEnd hI hl
noncomputable def F110 : Fun := ⟨[.pair (.int .i64) Y42], [.pair (.pure (.int .i64)) Z45], fun x => Sm big20 Y44 x.1, fun x => (id x.1, ())⟩
theorem F110_ok : Meets Tryz.prog 110 F110 := by
 refine meets_of_vc (C := mkC 14 [2] [0,1,2] []) (mkC_ok _ _ _ _) (fnOf_ok _) Tryz.func110 rfl rfl rfl (by decide) rfl ?_
 rintro ⟨a0, _⟩ hwf hpre ⟨P, C, B, X, w0, M0, pv⟩ hG rfl rfl
 show Vc _ _ [(0, ⟨0, 0, .c Z46 a0⟩)] _
 have hp1 : List.length a0.2.2.2.1 ≤ big20 := hpre.2.2.2.1.1
 have hp2 : List.length a0.2.2.2.2 ≤ big20 := hpre.2.2.2.2.1
 refine Vc.seq (Vc.region hG rfl (by trivial) (Vc.seq ?_))
 refine Vc.region hG rfl ?_ ?_
 · exact appOk hp1
 refine Vc.seq ?_
 refine Vc.region hG rfl ?_ ?_
 · exact appOk hp2
 refine Vc.seq (Vc.region hG rfl (by trivial) (Vc.ret ?_))
 refine ⟨?_, trivial⟩
 all_goals exact rfl
noncomputable def F91 : Fun := ⟨[.pair Y20 Y47], [.pair Z26 Z49], fun x => Sm big20 Y50 x.1, fun x => (id x.1, ())⟩
theorem F91_ok : Meets Tryz.prog 91 F91 := by
 refine meets_of_vc (C := mkC 28 [2] [0,1,2,3,4,13] [⟨109, _, F109_ok⟩, ⟨110, _, F110_ok⟩]) (mkC_ok _ _ _ _) (fnOf_ok _) Tryz.func91 rfl rfl rfl (by decide) rfl ?_
 rintro ⟨a0, _⟩ hwf hpre ⟨P, C, B, X, w0, M0, pv⟩ hG rfl rfl
 show Vc _ _ [(0, ⟨0, 0, .c Z51 a0⟩)] _
 have hp0 : Sm big20 Y20 a0.1 := hpre.1
 have hp : _ ∧ _ := hpre.2
 have hb : List.length a0.2 ≤ bigLen := hwf.1.2.1
 refine Vc.seq (Vc.region hG rfl (by trivial) (Vc.seq ?_))
 refine Vc.region hG rfl ?_ ?_
 · exact hp0
 refine Vc.seq (Vc.seq (Vc.region hG rfl (by trivial) (Vc.block ?_)))
 refine Vc.loopF [(3, true, .pair Z26 Z49), (4, false, .pure (.int .i64))] [0, 1, 2] (fun v => v.1.1 = a0.1 ∧ cpInv a0.2 v.1.2 v.2.1) (fun v => ((List.length a0.2 : Int) - v.2.1).toNat) rfl ?_ ?_
 · exact ⟨rfl, cpStart⟩
 rintro ⟨acc, (i : Int), _⟩ hI
 have hI : acc.1 = a0.1 ∧ cpInv a0.2 acc.2 i := hI
 refine Vc.seq (Vc.seq (Vc.region hG rfl (by trivial) ?_))
 refine Vc.cond rfl (fun h0 => ?_) (fun h0 => ?_)
 · have hl : i < (List.length a0.2 : Int) := of_decide_eq_true h0
   have hE : Sm big20 Y44 (List.getD a0.2 i.toNat (dflt Y44)) := hp.2 _ (upElem hI.2.1 hl)
   refine Vc.skip (Vc.seq (Vc.block ?_))
   refine Vc.regionD mixed hG rfl (by kernel_rfl) ?_ ?_
   · exact ⟨cpRange hI.2 hl, hE, cpLen hI.2 hl hp.1⟩
   refine Vc.region hG rfl (by trivial) ?_
   refine ⟨rfl, ?_⟩
   have e := cpStep (d := dflt Y44) hI.2 hl hb rfl
   exact ⟨⟨hI.1, e.1⟩, e.2⟩
 · have hl : ¬ i < (List.length a0.2 : Int) := of_decide_eq_false h0
   refine Vc.exit (Vc.seq (Vc.region hG rfl (by trivial) (Vc.ret ?_)))
   refine ⟨?_, trivial⟩
   exact Prod.ext hI.1 (cpEnd hI.2 hl)
noncomputable def F137 : Fun := ⟨[.slice (.int .i64), .slice (.int .i64)], [.pure (.bool)], fun _ => True, fun x => (eqC x.1 x.2.1, ())⟩
theorem F137_ok : Meets Tryz.prog 137 F137 := by
 refine meets_of_vc (C := mkC 26 [4] [0,1,4,5,10,14,25] []) (mkC_ok _ _ _ _) (fnOf_ok _) Tryz.func137 rfl rfl rfl (by decide) rfl ?_
 rintro ⟨a0, a1, _⟩ hwf hpre ⟨P, C, B, X, w0, M0, pv⟩ hG rfl rfl
 show Vc _ _ [(0, ⟨0, 0, .c Z3 a0⟩), (1, ⟨0, 0, .c Z3 a1⟩)] _
 have hb0 : List.length a0 ≤ bigLen := hwf.1.1
 refine Vc.seq (Vc.region hG rfl (by trivial) (Vc.seq (Vc.seq ?_)))
 refine Vc.region hG rfl (by trivial) ?_
 refine Vc.cond rfl (fun h0 => ?_) (fun h0 => ?_)
 · refine Vc.seq (Vc.region hG rfl (by trivial) (Vc.ret ?_))
   refine ⟨?_, trivial⟩
   refine eqC_no (fun e => ?_)
   have e : a0 = a1 := e
   have g : ((List.length a0 : Int) != (List.length a1 : Int)) = true := h0
   subst e
   exact bself g
 · have g0 : ((List.length a0 : Int) != (List.length a1 : Int)) = false := h0
   have f0_0 : List.length a0 = List.length a1 := (lenEq g0)
   refine Vc.skip (Vc.seq (Vc.seq (Vc.region hG rfl (by trivial) ?_)))
   refine Vc.block ?_
   refine Vc.loopF [(5, false, .pure (.int .i64))] [0, 1, 10] (fun v => eqInv a0 a1 v.1) (fun v => ((List.length a0 : Int) - v.1).toNat) rfl ?_ ?_
   · exact eqStart f0_0
   rintro ⟨(i0 : Int), _⟩ hI0
   have hI0 : eqInv a0 a1 i0 := hI0
   refine Vc.seq (Vc.seq (Vc.region hG rfl (by trivial) ?_))
   refine Vc.cond rfl (fun h1 => ?_) (fun h1 => ?_)
   · have hl0 : i0 < (List.length a0 : Int) := of_decide_eq_true h1
     refine Vc.skip (Vc.seq (Vc.block (Vc.seq ?_)))
     refine Vc.regionD mixed hG rfl (by kernel_rfl) ?_ ?_
     · exact ⟨(eqRange hI0 hl0).1, (eqRange hI0 hl0).2⟩
     refine Vc.cond rfl (fun h2 => ?_) (fun h2 => ?_)
     · refine Vc.seq (Vc.region hG rfl (by trivial) (Vc.ret ?_))
       refine ⟨?_, trivial⟩
       refine eqC_no (fun e => ?_)
       have e : a0 = a1 := e
       have g : ((List.getD a0 i0.toNat (dflt (.int .i64))) != (List.getD a1 i0.toNat (dflt (.int .i64)))) = true := h2
       subst e
       exact bself g
     · have g2 : ((List.getD a0 i0.toNat (dflt (.int .i64))) != (List.getD a1 i0.toNat (dflt (.int .i64)))) = false := h2
       have f2_0 : (List.getD a0 i0.toNat (dflt (.int .i64))) = (List.getD a1 i0.toNat (dflt (.int .i64))) := (bneI g2)
       have s0 : (List.getD a0 i0.toNat (dflt (.int .i64))) = (List.getD a1 i0.toNat (dflt (.int .i64))) := f2_0
       refine Vc.skip (Vc.region hG rfl (by trivial) ?_)
       refine ⟨rfl, ?_⟩
       exact ⟨eqStep (d := dflt (.int .i64)) hI0 hl0 hb0 s0, (upStep hI0.1 hl0 hb0).2.2⟩
   · have hl0 : ¬ i0 < (List.length a0 : Int) := of_decide_eq_false h1
     have e0 : a0 = a1 := eqEnd hI0 hl0
     refine Vc.exit (Vc.seq (Vc.region hG rfl (by trivial) (Vc.ret ?_)))
     refine ⟨?_, trivial⟩
     exact eqC_yes e0
noncomputable def F121 : Fun := ⟨[.pair (.int .i64) Y7, .pair (.int .i64) Y7], [.pure (.bool)], fun _ => True, fun x => (eqC x.1 x.2.1, ())⟩
theorem F121_ok : Meets Tryz.prog 121 F121 := by
 refine meets_of_vc (C := mkC 24 [4] [0,1,2,3,4] [⟨137, _, F137_ok⟩]) (mkC_ok _ _ _ _) (fnOf_ok _) Tryz.func121 rfl rfl rfl (by decide) rfl ?_
 rintro ⟨a0, a1, _⟩ hwf hpre ⟨P, C, B, X, w0, M0, pv⟩ hG rfl rfl
 show Vc _ _ [(0, ⟨0, 0, .c Z18 a0⟩), (1, ⟨0, 0, .c Z18 a1⟩)] _
 refine Vc.seq (Vc.region hG rfl (by trivial) (Vc.seq ?_))
 refine Vc.region hG rfl ?_ ?_
 · repeat' (first | exact trivial | refine And.intro ?_ ?_ | intro _)
 refine Vc.ret ?_
 refine ⟨?_, trivial⟩
 refine eqC_by (fun e => ?_) (fun e => ?_)
 · have e : (pick2 (pick2 (a0.1 == a1.1) (a0.2.2 == a1.2.2) false) (eqC a0.2.1 a1.2.1) false) = true := e
   have r_0 : a0.1 = a1.1 := (beqI2 (andT (andT e).1).1)
   have r_1 : a0.2.2 = a1.2.2 := (beqI2 (andT (andT e).1).2)
   have r_2 : a0.2.1 = a1.2.1 := (eqC_iff.1 (andT e).2)
   exact (Prod.ext r_0 (Prod.ext r_2 r_1))
 · have e : a0 = a1 := e
   subst e
   exact (yesAnd (yesAnd beqSelf beqSelf) (eqC_self _))
noncomputable def F136 : Fun := ⟨[.pair Y20 Y47, .pair (.int .i64) Y7], [.pure (.int .i64)], fun _ => True, fun x => ((fun a0 a1 => findI (fun x => eqC x a1) a0.1) x.1 x.2.1, ())⟩
theorem F136_ok : Meets Tryz.prog 136 F136 := by
 refine meets_of_vc (C := mkC 21 [4] [0,1,2,3,4,5,10,19] [⟨121, _, F121_ok⟩]) (mkC_ok _ _ _ _) (fnOf_ok _) Tryz.func136 rfl rfl rfl (by decide) rfl ?_
 rintro ⟨a0, a1, _⟩ hwf hpre ⟨P, C, B, X, w0, M0, pv⟩ hG rfl rfl
 show Vc _ _ [(0, ⟨0, 0, .c Z51 a0⟩), (1, ⟨0, 0, .c Z18 a1⟩)] _
 have hb : List.length a0.1 ≤ bigLen := hwf.1.1.1
 refine Vc.seq (Vc.region hG rfl (by trivial) (Vc.seq (Vc.seq ?_)))
 refine Vc.region hG rfl (by trivial) (Vc.block ?_)
 refine Vc.loopF [(5, false, .pure (.int .i64))] [0, 1, 2, 3] (fun v => fInv (fun x => eqC x a1) a0.1 v.1) (fun v => ((List.length a0.1 : Int) - v.1).toNat) rfl ?_ ?_
 · exact fStart
 rintro ⟨(i : Int), _⟩ hI
 have hI : fInv (fun x => eqC x a1) a0.1 i := hI
 refine Vc.seq (Vc.seq (Vc.region hG rfl (by trivial) ?_))
 refine Vc.cond rfl (fun h0 => ?_) (fun h0 => ?_)
 · have hl : i < (List.length a0.1 : Int) := of_decide_eq_true h0
   refine Vc.skip (Vc.seq (Vc.block (Vc.seq ?_)))
   refine Vc.regionD mixed hG rfl (by kernel_rfl) ?_ ?_
   · exact ⟨fRange hI hl, trivial⟩
   refine Vc.cond rfl (fun h1 => ?_) (fun h1 => ?_)
   · have g1 : (fun x => eqC x a1) (List.getD a0.1 i.toNat (dflt Y14)) = true := h1
     refine Vc.seq (Vc.region hG rfl (by trivial) (Vc.ret ?_))
     refine ⟨?_, trivial⟩
     exact fHit hI hl g1
   · have g1 : (fun x => eqC x a1) (List.getD a0.1 i.toNat (dflt Y14)) = false := h1
     refine Vc.skip (Vc.region hG rfl (by trivial) ?_)
     refine ⟨rfl, ?_⟩
     exact fStep hI hl hb g1
 · have hl : ¬ i < (List.length a0.1 : Int) := of_decide_eq_false h0
   refine Vc.exit (Vc.seq (Vc.region hG rfl (by trivial) (Vc.ret ?_)))
   refine ⟨?_, trivial⟩
   exact fEnd hI hl
noncomputable def F120 : Fun := ⟨[.pair Y20 Y47], [.pure (.bool)], fun _ => True, fun x => (strandF x.1, ())⟩
theorem F120_ok : Meets Tryz.prog 120 F120 := by
 refine meets_of_vc (C := mkC 69 [2] [0,1,2,3,4,9,20,25,58] [⟨136, _, F136_ok⟩, ⟨98, _, F98_ok⟩]) (mkC_ok _ _ _ _) (fnOf_ok _) Tryz.func120 rfl rfl rfl (by decide) rfl ?_
 rintro ⟨a0, _⟩ hwf hpre ⟨P, C, B, X, w0, M0, pv⟩ hG rfl rfl
 show Vc _ _ [(0, ⟨0, 0, .c Z51 a0⟩)] _
 have hb0 : List.length a0.1 ≤ bigLen := hwf.1.1.1
 have hb1 : List.length a0.2 ≤ bigLen := hwf.1.2.1
 refine Vc.seq (Vc.region hG rfl (by trivial) (Vc.seq (Vc.seq ?_)))
 refine Vc.region hG rfl (by trivial) (Vc.block ?_)
 refine Vc.loopF [(3, false, .pure (.int .i64))] [0, 1, 4, 25, 58] (fun v => kInv (fun k => newP a0 k) a0.1 v.1) (fun v => ((List.length a0.1 : Int) - v.1).toNat) rfl ?_ ?_
 · exact kStart
 rintro ⟨(i : Int), _⟩ hI0
 have hI0 : kInv (fun k => newP a0 k) a0.1 i := hI0
 refine Vc.seq (Vc.seq (Vc.region hG rfl (by trivial) ?_))
 refine Vc.cond rfl (fun h0 => ?_) (fun h0 => ?_)
 · have hl0 : i < (List.length a0.1 : Int) := of_decide_eq_true h0
   refine Vc.skip (Vc.seq (Vc.block (Vc.seq ?_)))
   refine Vc.regionD mixed hG rfl (by kernel_rfl) ?_ ?_
   · exact ⟨kRange hI0 hl0, trivial⟩
   refine Vc.cond rfl (fun h1 => ?_) (fun h1 => ?_)
   · have g1 : ¬ newP a0 i.toNat := newBad hI0 hl0 (of_decide_eq_true h1)
     refine Vc.seq (Vc.region hG rfl (by trivial) (Vc.ret ?_))
     refine ⟨?_, trivial⟩
     refine boolC_no (P := strandP a0) (fun h => ?_)
     exact g1 (h.2.2.1 i.toNat (kLt hI0 hl0))
   · have g1 : newP a0 i.toNat := newGood hI0 hl0 (of_decide_eq_false h1)
     refine Vc.skip (Vc.region hG rfl (by trivial) ?_)
     refine ⟨rfl, ?_⟩
     exact kStep hI0 hl0 hb0 g1
 · have hl0 : ¬ i < (List.length a0.1 : Int) := of_decide_eq_false h0
   refine Vc.exit (Vc.seq (Vc.seq (Vc.region hG rfl (by trivial) ?_)))
   refine Vc.block ?_
   refine Vc.loopF [(4, false, .pure (.int .i64))] [0, 1, 3, 9, 20] (fun v => kInv (fun k => renP a0 k) a0.2 v.1) (fun v => ((List.length a0.2 : Int) - v.1).toNat) rfl ?_ ?_
   · exact kStart
   rintro ⟨(i : Int), _⟩ hI1
   have hI1 : kInv (fun k => renP a0 k) a0.2 i := hI1
   refine Vc.seq (Vc.seq (Vc.region hG rfl (by trivial) ?_))
   refine Vc.cond rfl (fun h2 => ?_) (fun h2 => ?_)
   · have hl1 : i < (List.length a0.2 : Int) := of_decide_eq_true h2
     refine Vc.skip (Vc.seq (Vc.block (Vc.seq ?_)))
     refine Vc.regionD mixed hG rfl (by kernel_rfl) ?_ ?_
     · exact ⟨kRange hI1 hl1, trivial, fun h2 => backRange hI1 hl1 hb1 (of_decide_eq_true h2), fun _ => kRange hI1 hl1⟩
     refine Vc.cond rfl (fun h3 => ?_) (fun h3 => ?_)
     · have g3 : renBadF a0 i = true := h3
       refine Vc.seq (Vc.region hG rfl (by trivial) (Vc.ret ?_))
       refine ⟨?_, trivial⟩
       refine boolC_no (P := strandP a0) (fun h => ?_)
       exact renBad hI1 hl1 hb1 g3 (h.2.2.2 i.toNat (kLt hI1 hl1))
     · have g3 : renBadF a0 i = false := h3
       refine Vc.skip (Vc.region hG rfl (by trivial) ?_)
       refine ⟨rfl, ?_⟩
       exact kStep hI1 hl1 hb1 (renGood hI1 hl1 hb1 g3)
   · have hl1 : ¬ i < (List.length a0.2 : Int) := of_decide_eq_false h2
     refine Vc.exit (Vc.seq ?_)
     refine Vc.region hG rfl ?_ ?_
     · repeat' (first | exact trivial | refine And.intro ?_ ?_ | intro _)
     refine Vc.ret ?_
     refine ⟨?_, trivial⟩
     refine boolC_by (P := strandP a0) (fun e => ?_) (fun h => ?_)
     · exact ⟨(andT e).1, of_decide_eq_true (andT e).2, kEnd hI0 hl0, kEnd hI1 hl1⟩
     · exact yesAnd h.1 (decide_eq_true h.2.1)
end Fw
