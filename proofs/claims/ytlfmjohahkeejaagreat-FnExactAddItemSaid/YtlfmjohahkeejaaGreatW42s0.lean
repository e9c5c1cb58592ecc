/- Walks of functions of the program: what each computes. Conditions: those that each contract names. -/
import Derived.Test.YtlfmjohahkeejaaGreatW42T
namespace Fw
open Go Go.Proofs
set_option linter.unusedSimpArgs false
noncomputable def F83 : Fun := ⟨[.int .i64, .int .i64, .int .i64], [.pure (.bool)], fun _ => True, fun x => (inRangeF x.1 x.2.1 x.2.2.1, ())⟩
set_option maxRecDepth 100000 in
/-- loop.example.g00597.spec.l1In -/
theorem F83_ok : Meets Tryz.prog 83 F83 := by
  refine meets_of_vc (C := mkC 15 [6] [0,1,2,6] []) (mkC_ok _ _ _ _) (fnOf_ok _) Tryz.func83 rfl rfl rfl (by decide) rfl ?_
  rintro ⟨(a0 : Int), (a1 : Int), (a2 : Int), _⟩ hwf hpre ⟨P, C, B, X, w0, M0, pv⟩ hG rfl rfl
  show Vc _ _ [(0, ⟨0, 0, .c (.pure (.int .i64)) a0⟩), (1, ⟨0, 0, .c (.pure (.int .i64)) a1⟩), (2, ⟨0, 0, .c (.pure (.int .i64)) a2⟩)] _
  refine Vc.seq ?_
  refine Vc.region hG rfl ?_ ?_
  · trivial
  refine Vc.seq ?_
  refine Vc.region hG rfl ?_ ?_
  · trivial
  refine Vc.ret ?_
  refine ⟨?_, trivial⟩
  all_goals exact rfl
noncomputable def F117 : Fun := ⟨[.int .i64], [.pure (.bool)], fun _ => True, fun x => (isTimeF x.1, ())⟩
set_option maxRecDepth 100000 in
/-- loop.example.g00597.spec.l4Time -/
theorem F117_ok : Meets Tryz.prog 117 F117 := by
  refine meets_of_vc (C := mkC 5 [2] [0,2] [⟨83, _, F83_ok⟩]) (mkC_ok _ _ _ _) (fnOf_ok _) Tryz.func117 rfl rfl rfl (by decide) rfl ?_
  rintro ⟨(a0 : Int), _⟩ hwf hpre ⟨P, C, B, X, w0, M0, pv⟩ hG rfl rfl
  show Vc _ _ [(0, ⟨0, 0, .c (.pure (.int .i64)) a0⟩)] _
  refine Vc.seq ?_
  refine Vc.region hG rfl ?_ ?_
  · trivial
  refine Vc.seq ?_
  refine Vc.region hG rfl ?_ ?_
  · trivial
  refine Vc.ret ?_
  refine ⟨?_, trivial⟩
  all_goals exact rfl
noncomputable def F118 : Fun := ⟨[.pair (.int .i64) Y8], [.pure (.bool)], fun _ => True, fun x => (docF x.1, ())⟩
set_option maxRecDepth 100000 in
/-- loop.example.g00597.spec.IsDocument -/
theorem F118_ok : Meets Tryz.prog 118 F118 := by
  refine meets_of_vc (C := mkC 51 [2] [0,1,2,3,4,9,18,23,32] [⟨83, _, F83_ok⟩]) (mkC_ok _ _ _ _) (fnOf_ok _) Tryz.func118 rfl rfl rfl (by decide) rfl ?_
  rintro ⟨a0, _⟩ hwf hpre ⟨P, C, B, X, w0, M0, pv⟩ hG rfl rfl
  show Vc _ _ [(0, ⟨0, 0, .c Z18 a0⟩)] _
  have hb0 : List.length a0.2.1 ≤ bigLen := hwf.1.2.1.1
  have hb1 : List.length a0.2.2 ≤ bigLen := hwf.1.2.2.1
  refine Vc.seq ?_
  refine Vc.region hG rfl ?_ ?_
  · trivial
  refine Vc.seq ?_
  refine Vc.seq ?_
  refine Vc.region hG rfl ?_ ?_
  · trivial
  refine Vc.block ?_
  -- slots [3]; frame [0, 1, 4, 23, 32]
  refine Vc.loopF [(3, false, .pure (.int .i64))] [0, 1, 4, 23, 32] (fun v => kInv (fun k => (List.length (List.getD a0.2.1 k (dflt .str)) : Int) ≤ 40) a0.2.1 v.1) (fun v => ((List.length a0.2.1 : Int) - v.1).toNat) rfl ?_ ?_
  · exact kStart
  rintro ⟨(i : Int), _⟩ hI0
  have hI0 : kInv (fun k => (List.length (List.getD a0.2.1 k (dflt .str)) : Int) ≤ 40) a0.2.1 i := hI0
  refine Vc.seq ?_
  refine Vc.seq ?_
  refine Vc.region hG rfl ?_ ?_
  · trivial
  refine Vc.cond rfl (fun h0 => ?_) (fun h0 => ?_)
  · skip
    have hl0 : i < (List.length a0.2.1 : Int) := of_decide_eq_true h0
    refine Vc.skip ?_
    refine Vc.seq ?_
    refine Vc.block ?_
    refine Vc.seq ?_
    refine Vc.region hG rfl ?_ ?_
    · exact kRange hI0 hl0
    refine Vc.cond rfl (fun h1 => ?_) (fun h1 => ?_)
    · skip
      have g1 : (List.length (List.getD a0.2.1 i.toNat (dflt .str)) : Int) > 40 := of_decide_eq_true h1
      refine Vc.seq ?_
      refine Vc.region hG rfl ?_ ?_
      · trivial
      refine Vc.ret ?_
      refine ⟨?_, trivial⟩
      refine boolC_no (P := docP a0) (fun h => ?_)
      have q := h.2.2.2.1 i.toNat (kLt hI0 hl0)
      exact absurd q (Int.not_le.2 g1)
    · skip
      have g1 : ¬ (List.length (List.getD a0.2.1 i.toNat (dflt .str)) : Int) > 40 := of_decide_eq_false h1
      refine Vc.skip ?_
      refine Vc.region hG rfl ?_ ?_
      · trivial
      refine ⟨rfl, ?_⟩
      exact kStep hI0 hl0 hb0 (show (List.length (List.getD a0.2.1 i.toNat (dflt .str)) : Int) ≤ 40 from Int.not_lt.1 g1)
  · skip
    have hl0 : ¬ i < (List.length a0.2.1 : Int) := of_decide_eq_false h0
    refine Vc.exit ?_
    refine Vc.seq ?_
    refine Vc.seq ?_
    refine Vc.region hG rfl ?_ ?_
    · trivial
    refine Vc.block ?_
    -- slots [4]; frame [0, 1, 3, 9, 18]
    refine Vc.loopF [(4, false, .pure (.int .i64))] [0, 1, 3, 9, 18] (fun v => kInv (fun k => inRangeF (List.getD a0.2.2 k (dflt (.int .i64))) 1 1000000000000 = true) a0.2.2 v.1) (fun v => ((List.length a0.2.2 : Int) - v.1).toNat) rfl ?_ ?_
    · exact kStart
    rintro ⟨(i : Int), _⟩ hI1
    have hI1 : kInv (fun k => inRangeF (List.getD a0.2.2 k (dflt (.int .i64))) 1 1000000000000 = true) a0.2.2 i := hI1
    refine Vc.seq ?_
    refine Vc.seq ?_
    refine Vc.region hG rfl ?_ ?_
    · trivial
    refine Vc.cond rfl (fun h2 => ?_) (fun h2 => ?_)
    · skip
      have hl1 : i < (List.length a0.2.2 : Int) := of_decide_eq_true h2
      refine Vc.skip ?_
      refine Vc.seq ?_
      refine Vc.block ?_
      refine Vc.seq ?_
      refine Vc.region hG rfl ?_ ?_
      · exact ⟨kRange hI1 hl1, trivial⟩
      refine Vc.cond rfl (fun h3 => ?_) (fun h3 => ?_)
      · skip
        have g3 : (!(inRangeF (List.getD a0.2.2 i.toNat (dflt (.int .i64))) 1 1000000000000)) = true := h3
        refine Vc.seq ?_
        refine Vc.region hG rfl ?_ ?_
        · trivial
        refine Vc.ret ?_
        refine ⟨?_, trivial⟩
        refine boolC_no (P := docP a0) (fun h => ?_)
        exact nself (h.2.2.2.2 i.toNat (kLt hI1 hl1)) g3
      · skip
        have g3 : (!(inRangeF (List.getD a0.2.2 i.toNat (dflt (.int .i64))) 1 1000000000000)) = false := h3
        refine Vc.skip ?_
        refine Vc.region hG rfl ?_ ?_
        · trivial
        refine ⟨rfl, ?_⟩
        exact kStep hI1 hl1 hb1 (notF g3)
    · skip
      have hl1 : ¬ i < (List.length a0.2.2 : Int) := of_decide_eq_false h2
      refine Vc.exit ?_
      refine Vc.seq ?_
      refine Vc.region hG rfl ?_ ?_
      · repeat' (first | exact trivial | refine And.intro ?_ ?_ | intro _)
      refine Vc.ret ?_
      refine ⟨?_, trivial⟩
      refine boolC_by (P := docP a0) (fun e => ?_) (fun h => ?_)
      · exact ⟨(andT (andT e).1).1, (andT (andT e).1).2, lenBeqI (andT e).2, kEnd hI0 hl0, kEnd hI1 hl1⟩
      · exact yesAnd (yesAnd h.1 h.2.1) (lenBeq h.2.2.1)
noncomputable def F152 : Fun := ⟨[.slice (.int .i64), .slice (.int .i64)], [.pure (.bool)], fun _ => True, fun x => (eqC x.1 x.2.1, ())⟩
set_option maxRecDepth 100000 in
/-- loop.example.g00597.spec.EqualInts -/
theorem F152_ok : Meets Tryz.prog 152 F152 := by
  refine meets_of_vc (C := mkC 26 [4] [0,1,4,5,10,14,25] []) (mkC_ok _ _ _ _) (fnOf_ok _) Tryz.func152 rfl rfl rfl (by decide) rfl ?_
  rintro ⟨a0, a1, _⟩ hwf hpre ⟨P, C, B, X, w0, M0, pv⟩ hG rfl rfl
  show Vc _ _ [(0, ⟨0, 0, .c Z2 a0⟩), (1, ⟨0, 0, .c Z2 a1⟩)] _
  have hb0 : List.length a0 ≤ bigLen := hwf.1.1
  refine Vc.seq ?_
  refine Vc.region hG rfl ?_ ?_
  · trivial
  refine Vc.seq ?_
  refine Vc.seq ?_
  refine Vc.region hG rfl ?_ ?_
  · trivial
  refine Vc.cond rfl (fun h0 => ?_) (fun h0 => ?_)
  · skip
    refine Vc.seq ?_
    refine Vc.region hG rfl ?_ ?_
    · trivial
    refine Vc.ret ?_
    refine ⟨?_, trivial⟩
    refine eqC_no (fun e => ?_)
    have e : a0 = a1 := e
    have g : ((List.length a0 : Int) != (List.length a1 : Int)) = true := h0
    subst e
    exact bself g
  · skip
    have g0 : ((List.length a0 : Int) != (List.length a1 : Int)) = false := h0
    have f0_0 : List.length a0 = List.length a1 := (lenEq g0)
    refine Vc.skip ?_
    refine Vc.seq ?_
    refine Vc.seq ?_
    refine Vc.region hG rfl ?_ ?_
    · trivial
    refine Vc.block ?_
    -- slots [5]; frame [0, 1, 10]
    refine Vc.loopF [(5, false, .pure (.int .i64))] [0, 1, 10] (fun v => eqInv a0 a1 v.1) (fun v => ((List.length a0 : Int) - v.1).toNat) rfl ?_ ?_
    · exact eqStart f0_0
    rintro ⟨(i0 : Int), _⟩ hI0
    have hI0 : eqInv a0 a1 i0 := hI0
    refine Vc.seq ?_
    refine Vc.seq ?_
    refine Vc.region hG rfl ?_ ?_
    · trivial
    refine Vc.cond rfl (fun h1 => ?_) (fun h1 => ?_)
    · skip
      have hl0 : i0 < (List.length a0 : Int) := of_decide_eq_true h1
      refine Vc.skip ?_
      refine Vc.seq ?_
      refine Vc.block ?_
      refine Vc.seq ?_
      refine Vc.regionD mixed hG rfl (by kernel_rfl) ?_ ?_
      · exact ⟨(eqRange hI0 hl0).1, (eqRange hI0 hl0).2⟩
      refine Vc.cond rfl (fun h2 => ?_) (fun h2 => ?_)
      · skip
        refine Vc.seq ?_
        refine Vc.region hG rfl ?_ ?_
        · trivial
        refine Vc.ret ?_
        refine ⟨?_, trivial⟩
        refine eqC_no (fun e => ?_)
        have e : a0 = a1 := e
        have g : ((List.getD a0 i0.toNat (dflt (.int .i64))) != (List.getD a1 i0.toNat (dflt (.int .i64)))) = true := h2
        subst e
        exact bself g
      · skip
        have g2 : ((List.getD a0 i0.toNat (dflt (.int .i64))) != (List.getD a1 i0.toNat (dflt (.int .i64)))) = false := h2
        have f2_0 : (List.getD a0 i0.toNat (dflt (.int .i64))) = (List.getD a1 i0.toNat (dflt (.int .i64))) := (bneI g2)
        have s0 : (List.getD a0 i0.toNat (dflt (.int .i64))) = (List.getD a1 i0.toNat (dflt (.int .i64))) := f2_0
        refine Vc.skip ?_
        refine Vc.region hG rfl ?_ ?_
        · trivial
        refine ⟨rfl, ?_⟩
        exact ⟨eqStep (d := dflt (.int .i64)) hI0 hl0 hb0 s0, (upStep hI0.1 hl0 hb0).2.2⟩
    · skip
      have hl0 : ¬ i0 < (List.length a0 : Int) := of_decide_eq_false h1
      have e0 : a0 = a1 := eqEnd hI0 hl0
      refine Vc.exit ?_
      refine Vc.seq ?_
      refine Vc.region hG rfl ?_ ?_
      · trivial
      refine Vc.ret ?_
      refine ⟨?_, trivial⟩
      exact eqC_yes e0
noncomputable def F119 : Fun := ⟨[.pair (.int .i64) Y6, .pair (.int .i64) Y6], [.pure (.bool)], fun _ => True, fun x => (eqC x.1 x.2.1, ())⟩
set_option maxRecDepth 100000 in
/-- loop.example.g00597.spec.EqualPieces -/
theorem F119_ok : Meets Tryz.prog 119 F119 := by
  refine meets_of_vc (C := mkC 24 [4] [0,1,2,3,4] [⟨152, _, F152_ok⟩]) (mkC_ok _ _ _ _) (fnOf_ok _) Tryz.func119 rfl rfl rfl (by decide) rfl ?_
  rintro ⟨a0, a1, _⟩ hwf hpre ⟨P, C, B, X, w0, M0, pv⟩ hG rfl rfl
  show Vc _ _ [(0, ⟨0, 0, .c Z15 a0⟩), (1, ⟨0, 0, .c Z15 a1⟩)] _
  refine Vc.seq ?_
  refine Vc.region hG rfl ?_ ?_
  · trivial
  refine Vc.seq ?_
  refine Vc.region hG rfl ?_ ?_
  · repeat' (first | exact trivial | refine And.intro ?_ ?_ | intro _)
  refine Vc.ret ?_
  refine ⟨?_, trivial⟩
  refine eqC_by (fun e => ?_) (fun e => ?_)
  · have e : (pick2 (pick2 (a0.1 == a1.1) (a0.2.2 == a1.2.2) false) (eqC a0.2.1 a1.2.1) false) = true := e
    have r_0 : a0.1 = a1.1 := (beqI2 (andT (andT e).1).1)
    have r_1 : a0.2.2 = a1.2.2 := (beqI2 (andT (andT e).1).2)
    have r_2 : a0.2.1 = a1.2.1 := (eqC_iff.1 (andT e).2)
    exact (Prod.ext r_0 (Prod.ext r_2 r_1))
  · have e : a0 = a1 := e
    subst e
    exact (yesAnd (yesAnd beqSelf beqSelf) (eqC_self _))
noncomputable def F146 : Fun := ⟨[.pair Y16 Y41, .pair (.int .i64) Y6], [.pure (.int .i64)], fun _ => True, fun x => ((fun a0 a1 => findI (fun x => eqC x a1) a0.1) x.1 x.2.1, ())⟩
set_option maxRecDepth 100000 in
/-- loop.example.g00597.spec.FindPiece -/
theorem F146_ok : Meets Tryz.prog 146 F146 := by
  refine meets_of_vc (C := mkC 21 [4] [0,1,2,3,4,5,10,19] [⟨119, _, F119_ok⟩]) (mkC_ok _ _ _ _) (fnOf_ok _) Tryz.func146 rfl rfl rfl (by decide) rfl ?_
  rintro ⟨a0, a1, _⟩ hwf hpre ⟨P, C, B, X, w0, M0, pv⟩ hG rfl rfl
  show Vc _ _ [(0, ⟨0, 0, .c Z46 a0⟩), (1, ⟨0, 0, .c Z15 a1⟩)] _
  have hb : List.length a0.1 ≤ bigLen := hwf.1.1.1
  refine Vc.seq ?_
  refine Vc.region hG rfl ?_ ?_
  · trivial
  refine Vc.seq ?_
  refine Vc.seq ?_
  refine Vc.region hG rfl ?_ ?_
  · trivial
  refine Vc.block ?_
  -- slots [5]; frame [0, 1, 2, 3]
  refine Vc.loopF [(5, false, .pure (.int .i64))] [0, 1, 2, 3] (fun v => fInv (fun x => eqC x a1) a0.1 v.1) (fun v => ((List.length a0.1 : Int) - v.1).toNat) rfl ?_ ?_
  · exact fStart
  rintro ⟨(i : Int), _⟩ hI
  have hI : fInv (fun x => eqC x a1) a0.1 i := hI
  refine Vc.seq ?_
  refine Vc.seq ?_
  refine Vc.region hG rfl ?_ ?_
  · trivial
  refine Vc.cond rfl (fun h0 => ?_) (fun h0 => ?_)
  · skip
    have hl : i < (List.length a0.1 : Int) := of_decide_eq_true h0
    refine Vc.skip ?_
    refine Vc.seq ?_
    refine Vc.block ?_
    refine Vc.seq ?_
    refine Vc.regionD mixed hG rfl (by kernel_rfl) ?_ ?_
    · exact ⟨fRange hI hl, trivial⟩
    refine Vc.cond rfl (fun h1 => ?_) (fun h1 => ?_)
    · skip
      have g1 : (fun x => eqC x a1) (List.getD a0.1 i.toNat (dflt Y13)) = true := h1
      refine Vc.seq ?_
      refine Vc.region hG rfl ?_ ?_
      · trivial
      refine Vc.ret ?_
      refine ⟨?_, trivial⟩
      exact fHit hI hl g1
    · skip
      have g1 : (fun x => eqC x a1) (List.getD a0.1 i.toNat (dflt Y13)) = false := h1
      refine Vc.skip ?_
      refine Vc.region hG rfl ?_ ?_
      · trivial
      refine ⟨rfl, ?_⟩
      exact fStep hI hl hb g1
  · skip
    have hl : ¬ i < (List.length a0.1 : Int) := of_decide_eq_false h0
    refine Vc.exit ?_
    refine Vc.seq ?_
    refine Vc.region hG rfl ?_ ?_
    · trivial
    refine Vc.ret ?_
    refine ⟨?_, trivial⟩
    exact fEnd hI hl
noncomputable def F110 : Fun := ⟨[.pair Y16 Y41], [.pure (.bool)], fun _ => True, fun x => (strandF x.1, ())⟩
set_option maxRecDepth 100000 in
/-- loop.example.g00597.spec.IsStrand -/
theorem F110_ok : Meets Tryz.prog 110 F110 := by
  refine meets_of_vc (C := mkC 69 [2] [0,1,2,3,4,9,20,25,58] [⟨146, _, F146_ok⟩, ⟨83, _, F83_ok⟩]) (mkC_ok _ _ _ _) (fnOf_ok _) Tryz.func110 rfl rfl rfl (by decide) rfl ?_
  rintro ⟨a0, _⟩ hwf hpre ⟨P, C, B, X, w0, M0, pv⟩ hG rfl rfl
  show Vc _ _ [(0, ⟨0, 0, .c Z46 a0⟩)] _
  have hb0 : List.length a0.1 ≤ bigLen := hwf.1.1.1
  have hb1 : List.length a0.2 ≤ bigLen := hwf.1.2.1
  refine Vc.seq ?_
  refine Vc.region hG rfl ?_ ?_
  · trivial
  refine Vc.seq ?_
  refine Vc.seq ?_
  refine Vc.region hG rfl ?_ ?_
  · trivial
  refine Vc.block ?_
  -- slots [3]; frame [0, 1, 4, 25, 58]
  refine Vc.loopF [(3, false, .pure (.int .i64))] [0, 1, 4, 25, 58] (fun v => kInv (fun k => newP a0 k) a0.1 v.1) (fun v => ((List.length a0.1 : Int) - v.1).toNat) rfl ?_ ?_
  · exact kStart
  rintro ⟨(i : Int), _⟩ hI0
  have hI0 : kInv (fun k => newP a0 k) a0.1 i := hI0
  refine Vc.seq ?_
  refine Vc.seq ?_
  refine Vc.region hG rfl ?_ ?_
  · trivial
  refine Vc.cond rfl (fun h0 => ?_) (fun h0 => ?_)
  · skip
    have hl0 : i < (List.length a0.1 : Int) := of_decide_eq_true h0
    refine Vc.skip ?_
    refine Vc.seq ?_
    refine Vc.block ?_
    refine Vc.seq ?_
    refine Vc.regionD mixed hG rfl (by kernel_rfl) ?_ ?_
    · exact ⟨kRange hI0 hl0, trivial⟩
    refine Vc.cond rfl (fun h1 => ?_) (fun h1 => ?_)
    · skip
      have g1 : ¬ newP a0 i.toNat := newBad hI0 hl0 (of_decide_eq_true h1)
      refine Vc.seq ?_
      refine Vc.region hG rfl ?_ ?_
      · trivial
      refine Vc.ret ?_
      refine ⟨?_, trivial⟩
      refine boolC_no (P := strandP a0) (fun h => ?_)
      exact g1 (h.2.2.1 i.toNat (kLt hI0 hl0))
    · skip
      have g1 : newP a0 i.toNat := newGood hI0 hl0 (of_decide_eq_false h1)
      refine Vc.skip ?_
      refine Vc.region hG rfl ?_ ?_
      · trivial
      refine ⟨rfl, ?_⟩
      exact kStep hI0 hl0 hb0 g1
  · skip
    have hl0 : ¬ i < (List.length a0.1 : Int) := of_decide_eq_false h0
    refine Vc.exit ?_
    refine Vc.seq ?_
    refine Vc.seq ?_
    refine Vc.region hG rfl ?_ ?_
    · trivial
    refine Vc.block ?_
    -- slots [4]; frame [0, 1, 3, 9, 20]
    refine Vc.loopF [(4, false, .pure (.int .i64))] [0, 1, 3, 9, 20] (fun v => kInv (fun k => renP a0 k) a0.2 v.1) (fun v => ((List.length a0.2 : Int) - v.1).toNat) rfl ?_ ?_
    · exact kStart
    rintro ⟨(i : Int), _⟩ hI1
    have hI1 : kInv (fun k => renP a0 k) a0.2 i := hI1
    refine Vc.seq ?_
    refine Vc.seq ?_
    refine Vc.region hG rfl ?_ ?_
    · trivial
    refine Vc.cond rfl (fun h2 => ?_) (fun h2 => ?_)
    · skip
      have hl1 : i < (List.length a0.2 : Int) := of_decide_eq_true h2
      refine Vc.skip ?_
      refine Vc.seq ?_
      refine Vc.block ?_
      refine Vc.seq ?_
      refine Vc.regionD mixed hG rfl (by kernel_rfl) ?_ ?_
      · exact ⟨kRange hI1 hl1, trivial, fun h2 => backRange hI1 hl1 hb1 (of_decide_eq_true h2), fun _ => kRange hI1 hl1⟩
      refine Vc.cond rfl (fun h3 => ?_) (fun h3 => ?_)
      · skip
        have g3 : renBadF a0 i = true := h3
        refine Vc.seq ?_
        refine Vc.region hG rfl ?_ ?_
        · trivial
        refine Vc.ret ?_
        refine ⟨?_, trivial⟩
        refine boolC_no (P := strandP a0) (fun h => ?_)
        exact renBad hI1 hl1 hb1 g3 (h.2.2.2 i.toNat (kLt hI1 hl1))
      · skip
        have g3 : renBadF a0 i = false := h3
        refine Vc.skip ?_
        refine Vc.region hG rfl ?_ ?_
        · trivial
        refine ⟨rfl, ?_⟩
        exact kStep hI1 hl1 hb1 (renGood hI1 hl1 hb1 g3)
    · skip
      have hl1 : ¬ i < (List.length a0.2 : Int) := of_decide_eq_false h2
      refine Vc.exit ?_
      refine Vc.seq ?_
      refine Vc.region hG rfl ?_ ?_
      · repeat' (first | exact trivial | refine And.intro ?_ ?_ | intro _)
      refine Vc.ret ?_
      refine ⟨?_, trivial⟩
      refine boolC_by (P := strandP a0) (fun e => ?_) (fun h => ?_)
      · exact ⟨(andT e).1, of_decide_eq_true (andT e).2, kEnd hI0 hl0, kEnd hI1 hl1⟩
      · exact yesAnd h.1 (decide_eq_true h.2.1)
noncomputable def F153 : Fun := ⟨[.pair (.int .i64) Y31], [.own (.pure (.int .i64))], fun _ => True, fun x => (sigIntsF x.1, ())⟩
set_option maxRecDepth 100000 in
/-- loop.example.g00597.spec.SignatureInts -/
theorem F153_ok : Meets Tryz.prog 153 F153 := by
  refine meets_of_vc (C := mkC 20 [2] [0,1,2] []) (mkC_ok _ _ _ _) (fnOf_ok _) Tryz.func153 rfl rfl rfl (by decide) rfl ?_
  rintro ⟨a0, _⟩ hwf hpre ⟨P, C, B, X, w0, M0, pv⟩ hG rfl rfl
  show Vc _ _ [(0, ⟨0, 0, .c Z35 a0⟩)] _
  refine Vc.seq ?_
  refine Vc.region hG rfl ?_ ?_
  · trivial
  refine Vc.seq ?_
  refine Vc.region hG rfl ?_ ?_
  · trivial
  refine Vc.ret ?_
  refine ⟨?_, trivial⟩
  all_goals exact rfl
noncomputable def F120 : Fun := ⟨[.pair (.int .i64) Y31], [.pair (.pure (.int .i64)) Z11], fun _ => True, fun x => (signPieceF x.1, ())⟩
set_option maxRecDepth 100000 in
/-- loop.example.g00597.spec.SignPiece -/
theorem F120_ok : Meets Tryz.prog 120 F120 := by
  refine meets_of_vc (C := mkC 10 [2] [0,1,2] [⟨153, _, F153_ok⟩]) (mkC_ok _ _ _ _) (fnOf_ok _) Tryz.func120 rfl rfl rfl (by decide) rfl ?_
  rintro ⟨a0, _⟩ hwf hpre ⟨P, C, B, X, w0, M0, pv⟩ hG rfl rfl
  show Vc _ _ [(0, ⟨0, 0, .c Z35 a0⟩)] _
  refine Vc.seq ?_
  refine Vc.region hG rfl ?_ ?_
  · trivial
  refine Vc.seq ?_
  refine Vc.regionD mixed hG rfl (by kernel_rfl) ?_ ?_
  · trivial
  refine Vc.ret ?_
  refine ⟨?_, trivial⟩
  all_goals exact rfl
noncomputable def F82 : Fun := ⟨[.pair (.int .i64) Y51], [.pure (.bool)], fun _ => True, fun x => (itemF x.1, ())⟩
set_option maxRecDepth 100000 in
/-- loop.example.g00597.spec.IsItem -/
theorem F82_ok : Meets Tryz.prog 82 F82 := by
  refine meets_of_vc (C := mkC 32 [2] [0,1,2] [⟨83, _, F83_ok⟩, ⟨117, _, F117_ok⟩, ⟨118, _, F118_ok⟩, ⟨110, _, F110_ok⟩, ⟨120, _, F120_ok⟩, ⟨119, _, F119_ok⟩]) (mkC_ok _ _ _ _) (fnOf_ok _) Tryz.func82 rfl rfl rfl (by decide) rfl ?_
  rintro ⟨a0, _⟩ hwf hpre ⟨P, C, B, X, w0, M0, pv⟩ hG rfl rfl
  show Vc _ _ [(0, ⟨0, 0, .c Z53 a0⟩)] _
  refine Vc.seq ?_
  refine Vc.region hG rfl ?_ ?_
  · trivial
  refine Vc.seq ?_
  refine Vc.regionD mixed hG rfl (by kernel_rfl) ?_ ?_
  · exact ⟨trivial, fun _ => trivial, fun _ => trivial, fun _ => trivial, fun h => strand0 h, fun _ => trivial, fun _ => trivial⟩
  refine Vc.ret ?_
  refine ⟨?_, trivial⟩
  all_goals exact rfl
noncomputable def F42 : Fun := ⟨[.pair (.int .i64) Y54], [.pure (.bool)], fun _ => True, fun x => (archF x.1, ())⟩
set_option maxRecDepth 100000 in
/-- loop.example.g00597.spec.IsArchive -/
theorem F42_ok : Meets Tryz.prog 42 F42 := by
  refine meets_of_vc (C := mkC 47 [2] [0,1,2,3,8,37] [⟨82, _, F82_ok⟩, ⟨83, _, F83_ok⟩]) (mkC_ok _ _ _ _) (fnOf_ok _) Tryz.func42 rfl rfl rfl (by decide) rfl ?_
  rintro ⟨a0, _⟩ hwf hpre ⟨P, C, B, X, w0, M0, pv⟩ hG rfl rfl
  show Vc _ _ [(0, ⟨0, 0, .c Z57 a0⟩)] _
  have hb0 : List.length a0.2 ≤ bigLen := hwf.1.2.1
  refine Vc.seq ?_
  refine Vc.region hG rfl ?_ ?_
  · trivial
  refine Vc.seq ?_
  refine Vc.seq ?_
  refine Vc.region hG rfl ?_ ?_
  · trivial
  refine Vc.block ?_
  -- slots [3]; frame [0, 1]
  refine Vc.loopF [(3, false, .pure (.int .i64))] [0, 1] (fun v => kInv (fun k => goodP a0 k) a0.2 v.1) (fun v => ((List.length a0.2 : Int) - v.1).toNat) rfl ?_ ?_
  · exact kStart
  rintro ⟨(i : Int), _⟩ hI0
  have hI0 : kInv (fun k => goodP a0 k) a0.2 i := hI0
  refine Vc.seq ?_
  refine Vc.seq ?_
  refine Vc.region hG rfl ?_ ?_
  · trivial
  refine Vc.cond rfl (fun h0 => ?_) (fun h0 => ?_)
  · skip
    have hl0 : i < (List.length a0.2 : Int) := of_decide_eq_true h0
    refine Vc.skip ?_
    refine Vc.seq ?_
    refine Vc.block ?_
    refine Vc.seq ?_
    refine Vc.regionD mixed hG rfl (by kernel_rfl) ?_ ?_
    · exact ⟨kRange hI0 hl0, trivial, fun h2 => backRange hI0 hl0 hb0 (of_decide_eq_true h2), fun _ => kRange hI0 hl0⟩
    refine Vc.cond rfl (fun h1 => ?_) (fun h1 => ?_)
    · skip
      have g1 : badF a0 i = true := h1
      refine Vc.seq ?_
      refine Vc.region hG rfl ?_ ?_
      · trivial
      refine Vc.ret ?_
      refine ⟨?_, trivial⟩
      refine boolC_no (fun h => ?_)
      have q := (goodIff hI0 hb0).2 (h.1 i.toNat (kLt hI0 hl0))
      rw [g1] at q; cases q
    · skip
      have g1 : badF a0 i = false := h1
      have s0 : goodP a0 i.toNat := (goodIff hI0 hb0).1 g1
      refine Vc.skip ?_
      refine Vc.region hG rfl ?_ ?_
      · trivial
      refine ⟨rfl, ?_⟩
      exact kStep hI0 hl0 hb0 s0
  · skip
    have hl0 : ¬ i < (List.length a0.2 : Int) := of_decide_eq_false h0
    refine Vc.exit ?_
    refine Vc.seq ?_
    refine Vc.region hG rfl ?_ ?_
    · repeat' (first | exact trivial | refine And.intro ?_ ?_ | intro _)
    refine Vc.ret ?_
    refine ⟨?_, trivial⟩
    refine boolC_by (fun e => ?_) (fun h => ?_)
    · exact ⟨kEnd hI0 hl0, (andT e).1, of_decide_eq_true (andT e).2⟩
    · exact yesAnd h.2.1 (decide_eq_true h.2.2)
noncomputable def F43 : Fun := ⟨[.pair (.int .i64) Y54, .int .i64], [.pure (.int .i64)], fun _ => True, fun x => ((fun a0 a1 => findI (fun x => x.1 == a1) a0.2) x.1 x.2.1, ())⟩
set_option maxRecDepth 100000 in
/-- loop.example.g00597.spec.FindItem -/
theorem F43_ok : Meets Tryz.prog 43 F43 := by
  refine meets_of_vc (C := mkC 22 [4] [0,1,2,4,5,10,20] []) (mkC_ok _ _ _ _) (fnOf_ok _) Tryz.func43 rfl rfl rfl (by decide) rfl ?_
  rintro ⟨a0, (a1 : Int), _⟩ hwf hpre ⟨P, C, B, X, w0, M0, pv⟩ hG rfl rfl
  show Vc _ _ [(0, ⟨0, 0, .c Z57 a0⟩), (1, ⟨0, 0, .c (.pure (.int .i64)) a1⟩)] _
  have hb : List.length a0.2 ≤ bigLen := hwf.1.2.1
  refine Vc.seq ?_
  refine Vc.region hG rfl ?_ ?_
  · trivial
  refine Vc.seq ?_
  refine Vc.seq ?_
  refine Vc.region hG rfl ?_ ?_
  · trivial
  refine Vc.block ?_
  -- slots [5]; frame [0, 1, 2]
  refine Vc.loopF [(5, false, .pure (.int .i64))] [0, 1, 2] (fun v => fInv (fun x => x.1 == a1) a0.2 v.1) (fun v => ((List.length a0.2 : Int) - v.1).toNat) rfl ?_ ?_
  · exact fStart
  rintro ⟨(i : Int), _⟩ hI
  have hI : fInv (fun x => x.1 == a1) a0.2 i := hI
  refine Vc.seq ?_
  refine Vc.seq ?_
  refine Vc.region hG rfl ?_ ?_
  · trivial
  refine Vc.cond rfl (fun h0 => ?_) (fun h0 => ?_)
  · skip
    have hl : i < (List.length a0.2 : Int) := of_decide_eq_true h0
    refine Vc.skip ?_
    refine Vc.seq ?_
    refine Vc.block ?_
    refine Vc.seq ?_
    refine Vc.region hG rfl ?_ ?_
    · exact fRange hI hl
    refine Vc.cond rfl (fun h1 => ?_) (fun h1 => ?_)
    · skip
      have g1 : (fun x => x.1 == a1) (List.getD a0.2 i.toNat (dflt Y52)) = true := h1
      refine Vc.seq ?_
      refine Vc.region hG rfl ?_ ?_
      · trivial
      refine Vc.ret ?_
      refine ⟨?_, trivial⟩
      exact fHit hI hl g1
    · skip
      have g1 : (fun x => x.1 == a1) (List.getD a0.2 i.toNat (dflt Y52)) = false := h1
      refine Vc.skip ?_
      refine Vc.region hG rfl ?_ ?_
      · trivial
      refine ⟨rfl, ?_⟩
      exact fStep hI hl hb g1
  · skip
    have hl : ¬ i < (List.length a0.2 : Int) := of_decide_eq_false h0
    refine Vc.exit ?_
    refine Vc.seq ?_
    refine Vc.region hG rfl ?_ ?_
    · trivial
    refine Vc.ret ?_
    refine ⟨?_, trivial⟩
    exact fEnd hI hl
noncomputable def F84 : Fun := ⟨[.pair (.int .i64) Y8], [.pair (.pure (.int .i64)) Z12], fun x => Sm big20 Y14 x.1, fun x => (id x.1, ())⟩
set_option maxRecDepth 100000 in
/-- loop.example.g00597.spec.l6Copy -/
theorem F84_ok : Meets Tryz.prog 84 F84 := by
  refine meets_of_vc (C := mkC 14 [2] [0,1,2] []) (mkC_ok _ _ _ _) (fnOf_ok _) Tryz.func84 rfl rfl rfl (by decide) rfl ?_
  rintro ⟨a0, _⟩ hwf hpre ⟨P, C, B, X, w0, M0, pv⟩ hG rfl rfl
  show Vc _ _ [(0, ⟨0, 0, .c Z18 a0⟩)] _
  have hp1 : List.length a0.2.1 ≤ big20 := hpre.2.1.1
  have hp2 : List.length a0.2.2 ≤ big20 := hpre.2.2.1
  refine Vc.seq ?_
  refine Vc.region hG rfl ?_ ?_
  · trivial
  refine Vc.seq ?_
  refine Vc.regionD mixed hG rfl (by kernel_rfl) ?_ ?_
  · exact ⟨appOk hp1, appOk hp2⟩
  refine Vc.ret ?_
  refine ⟨?_, trivial⟩
  all_goals exact rfl
noncomputable def F154 : Fun := ⟨[.pair (.int .i64) Y6], [.pair (.pure (.int .i64)) Z11], fun x => Sm big20 Y13 x.1, fun x => (id x.1, ())⟩
set_option maxRecDepth 100000 in
/-- loop.example.g00597.spec.l18Copy -/
theorem F154_ok : Meets Tryz.prog 154 F154 := by
  refine meets_of_vc (C := mkC 12 [2] [0,1,2] []) (mkC_ok _ _ _ _) (fnOf_ok _) Tryz.func154 rfl rfl rfl (by decide) rfl ?_
  rintro ⟨a0, _⟩ hwf hpre ⟨P, C, B, X, w0, M0, pv⟩ hG rfl rfl
  show Vc _ _ [(0, ⟨0, 0, .c Z15 a0⟩)] _
  have hp : List.length a0.2.1 ≤ big20 := hpre.2.1.1
  refine Vc.seq ?_
  refine Vc.region hG rfl ?_ ?_
  · trivial
  refine Vc.seq ?_
  refine Vc.regionD mixed hG rfl (by kernel_rfl) ?_ ?_
  · exact appOk hp
  refine Vc.ret ?_
  refine ⟨?_, trivial⟩
  all_goals exact rfl
noncomputable def F121 : Fun := ⟨[.slice Y13], [.own Z20], fun x => Sm big20 Y16 x.1, fun x => (id x.1, ())⟩
set_option maxRecDepth 100000 in
/-- loop.example.g00597.spec.l18All -/
theorem F121_ok : Meets Tryz.prog 121 F121 := by
  refine meets_of_vc (C := mkC 21 [2] [0,2,3,4,9] [⟨154, _, F154_ok⟩]) (mkC_ok _ _ _ _) (fnOf_ok _) Tryz.func121 rfl rfl rfl (by decide) rfl ?_
  rintro ⟨a0, _⟩ hwf hpre ⟨P, C, B, X, w0, M0, pv⟩ hG rfl rfl
  show Vc _ _ [(0, ⟨0, 0, .c Z19 a0⟩)] _
  have hp : _ ∧ _ := hpre
  have hb : List.length a0 ≤ bigLen := hwf.1.1
  refine Vc.seq ?_
  refine Vc.region hG rfl ?_ ?_
  · trivial
  refine Vc.seq ?_
  refine Vc.region hG rfl ?_ ?_
  · trivial
  refine Vc.seq ?_
  refine Vc.seq ?_
  refine Vc.region hG rfl ?_ ?_
  · trivial
  refine Vc.block ?_
  -- slots [3, 4]; frame [0, 2]
  refine Vc.loopF [(3, false, .own Z20), (4, false, .pure (.int .i64))] [0, 2] (fun v => cpInv a0 v.1 v.2.1) (fun v => ((List.length a0 : Int) - v.2.1).toNat) rfl ?_ ?_
  · exact cpStart
  rintro ⟨acc, (i : Int), _⟩ hI
  have hI : cpInv a0 acc i := hI
  refine Vc.seq ?_
  refine Vc.seq ?_
  refine Vc.region hG rfl ?_ ?_
  · trivial
  refine Vc.cond rfl (fun h0 => ?_) (fun h0 => ?_)
  · skip
    have hl : i < (List.length a0 : Int) := of_decide_eq_true h0
    have hE : Sm big20 Y13 (List.getD a0 i.toNat (dflt Y13)) := hp.2 _ (upElem hI.1 hl)
    refine Vc.skip ?_
    refine Vc.seq ?_
    refine Vc.block ?_
    refine Vc.region hG rfl ?_ ?_
    · exact ⟨cpRange hI hl, hE, cpLen hI hl hp.1⟩
    refine Vc.region hG rfl ?_ ?_
    · trivial
    refine ⟨rfl, ?_⟩
    exact cpStep (d := dflt Y13) hI hl hb rfl
  · skip
    have hl : ¬ i < (List.length a0 : Int) := of_decide_eq_false h0
    refine Vc.exit ?_
    refine Vc.seq ?_
    refine Vc.region hG rfl ?_ ?_
    · trivial
    refine Vc.ret ?_
    refine ⟨?_, trivial⟩
    exact cpEnd hI hl
noncomputable def F109 : Fun := ⟨[.pair (.int .i64) Y36], [.pair (.pure (.int .i64)) Z40], fun x => Sm big20 Y38 x.1, fun x => (id x.1, ())⟩
set_option maxRecDepth 100000 in
/-- loop.example.g00597.spec.l19Copy -/
theorem F109_ok : Meets Tryz.prog 109 F109 := by
  refine meets_of_vc (C := mkC 14 [2] [0,1,2] []) (mkC_ok _ _ _ _) (fnOf_ok _) Tryz.func109 rfl rfl rfl (by decide) rfl ?_
  rintro ⟨a0, _⟩ hwf hpre ⟨P, C, B, X, w0, M0, pv⟩ hG rfl rfl
  show Vc _ _ [(0, ⟨0, 0, .c Z39 a0⟩)] _
  have hp1 : List.length a0.2.2.2.1 ≤ big20 := hpre.2.2.2.1.1
  have hp2 : List.length a0.2.2.2.2 ≤ big20 := hpre.2.2.2.2.1
  refine Vc.seq ?_
  refine Vc.region hG rfl ?_ ?_
  · trivial
  refine Vc.seq ?_
  refine Vc.region hG rfl ?_ ?_
  · exact appOk hp1
  refine Vc.seq ?_
  refine Vc.region hG rfl ?_ ?_
  · exact appOk hp2
  refine Vc.seq ?_
  refine Vc.region hG rfl ?_ ?_
  · trivial
  refine Vc.ret ?_
  refine ⟨?_, trivial⟩
  all_goals exact rfl
noncomputable def F85 : Fun := ⟨[.pair Y16 Y41], [.pair Z22 Z44], fun x => Sm big20 Y45 x.1, fun x => (id x.1, ())⟩
set_option maxRecDepth 100000 in
/-- loop.example.g00597.spec.l20Copy -/
theorem F85_ok : Meets Tryz.prog 85 F85 := by
  refine meets_of_vc (C := mkC 28 [2] [0,1,2,3,4,13] [⟨121, _, F121_ok⟩, ⟨109, _, F109_ok⟩]) (mkC_ok _ _ _ _) (fnOf_ok _) Tryz.func85 rfl rfl rfl (by decide) rfl ?_
  rintro ⟨a0, _⟩ hwf hpre ⟨P, C, B, X, w0, M0, pv⟩ hG rfl rfl
  show Vc _ _ [(0, ⟨0, 0, .c Z46 a0⟩)] _
  have hp0 : Sm big20 Y16 a0.1 := hpre.1
  have hp : _ ∧ _ := hpre.2
  have hb : List.length a0.2 ≤ bigLen := hwf.1.2.1
  refine Vc.seq ?_
  refine Vc.region hG rfl ?_ ?_
  · trivial
  refine Vc.seq ?_
  refine Vc.region hG rfl ?_ ?_
  · exact hp0
  refine Vc.seq ?_
  refine Vc.seq ?_
  refine Vc.region hG rfl ?_ ?_
  · trivial
  refine Vc.block ?_
  -- slots [3, 4]; frame [0, 1, 2]
  refine Vc.loopF [(3, true, .pair Z22 Z44), (4, false, .pure (.int .i64))] [0, 1, 2] (fun v => v.1.1 = a0.1 ∧ cpInv a0.2 v.1.2 v.2.1) (fun v => ((List.length a0.2 : Int) - v.2.1).toNat) rfl ?_ ?_
  · exact ⟨rfl, cpStart⟩
  rintro ⟨acc, (i : Int), _⟩ hI
  have hI : acc.1 = a0.1 ∧ cpInv a0.2 acc.2 i := hI
  refine Vc.seq ?_
  refine Vc.seq ?_
  refine Vc.region hG rfl ?_ ?_
  · trivial
  refine Vc.cond rfl (fun h0 => ?_) (fun h0 => ?_)
  · skip
    have hl : i < (List.length a0.2 : Int) := of_decide_eq_true h0
    have hE : Sm big20 Y38 (List.getD a0.2 i.toNat (dflt Y38)) := hp.2 _ (upElem hI.2.1 hl)
    refine Vc.skip ?_
    refine Vc.seq ?_
    refine Vc.block ?_
    refine Vc.regionD mixed hG rfl (by kernel_rfl) ?_ ?_
    · exact ⟨cpRange hI.2 hl, hE, cpLen hI.2 hl hp.1⟩
    refine Vc.region hG rfl ?_ ?_
    · trivial
    refine ⟨rfl, ?_⟩
    have e := cpStep (d := dflt Y38) hI.2 hl hb rfl
    exact ⟨⟨hI.1, e.1⟩, e.2⟩
  · skip
    have hl : ¬ i < (List.length a0.2 : Int) := of_decide_eq_false h0
    refine Vc.exit ?_
    refine Vc.seq ?_
    refine Vc.region hG rfl ?_ ?_
    · trivial
    refine Vc.ret ?_
    refine ⟨?_, trivial⟩
    exact Prod.ext hI.1 (cpEnd hI.2 hl)
noncomputable def F45 : Fun := ⟨[.pair (.int .i64) Y51], [.pair (.pure (.int .i64)) Z59], fun x => Sm big20 Y52 x.1, fun x => (id x.1, ())⟩
set_option maxRecDepth 100000 in
/-- loop.example.g00597.spec.l28Item -/
theorem F45_ok : Meets Tryz.prog 45 F45 := by
  refine meets_of_vc (C := mkC 12 [2] [0,1,2] [⟨84, _, F84_ok⟩, ⟨85, _, F85_ok⟩]) (mkC_ok _ _ _ _) (fnOf_ok _) Tryz.func45 rfl rfl rfl (by decide) rfl ?_
  rintro ⟨a0, _⟩ hwf hpre ⟨P, C, B, X, w0, M0, pv⟩ hG rfl rfl
  show Vc _ _ [(0, ⟨0, 0, .c Z53 a0⟩)] _
  have hp1 : Sm big20 Y14 a0.2.2.1 := hpre.2.2.1
  have hp2 : Sm big20 Y45 a0.2.2.2.2 := hpre.2.2.2.2
  refine Vc.seq ?_
  refine Vc.region hG rfl ?_ ?_
  · trivial
  refine Vc.seq ?_
  refine Vc.region hG rfl ?_ ?_
  · exact hp1
  refine Vc.seq ?_
  refine Vc.region hG rfl ?_ ?_
  · exact hp2
  refine Vc.seq ?_
  refine Vc.region hG rfl ?_ ?_
  · trivial
  refine Vc.ret ?_
  refine ⟨?_, trivial⟩
  all_goals exact rfl
noncomputable def F44 : Fun := ⟨[.pair (.int .i64) Y54], [.pair (.pure (.int .i64)) Z61], fun x => Sm big20 Y56 x.1, fun x => (id x.1, ())⟩
set_option maxRecDepth 100000 in
/-- loop.example.g00597.spec.l28Copy -/
theorem F44_ok : Meets Tryz.prog 44 F44 := by
  refine meets_of_vc (C := mkC 27 [2] [0,1,2,3,4,12] [⟨45, _, F45_ok⟩]) (mkC_ok _ _ _ _) (fnOf_ok _) Tryz.func44 rfl rfl rfl (by decide) rfl ?_
  rintro ⟨a0, _⟩ hwf hpre ⟨P, C, B, X, w0, M0, pv⟩ hG rfl rfl
  show Vc _ _ [(0, ⟨0, 0, .c Z57 a0⟩)] _
  have hp : _ ∧ _ := hpre.2
  have hb : List.length a0.2 ≤ bigLen := hwf.1.2.1
  refine Vc.seq ?_
  refine Vc.region hG rfl ?_ ?_
  · trivial
  refine Vc.seq ?_
  refine Vc.region hG rfl ?_ ?_
  · trivial
  refine Vc.seq ?_
  refine Vc.seq ?_
  refine Vc.region hG rfl ?_ ?_
  · trivial
  refine Vc.block ?_
  -- slots [3, 4]; frame [0, 1, 2]
  refine Vc.loopF [(3, true, .pair (.pure (.int .i64)) Z61), (4, false, .pure (.int .i64))] [0, 1, 2] (fun v => v.1.1 = a0.1 ∧ cpInv a0.2 v.1.2 v.2.1) (fun v => ((List.length a0.2 : Int) - v.2.1).toNat) rfl ?_ ?_
  · exact ⟨rfl, cpStart⟩
  rintro ⟨acc, (i : Int), _⟩ hI
  have hI : acc.1 = a0.1 ∧ cpInv a0.2 acc.2 i := hI
  refine Vc.seq ?_
  refine Vc.seq ?_
  refine Vc.region hG rfl ?_ ?_
  · trivial
  refine Vc.cond rfl (fun h0 => ?_) (fun h0 => ?_)
  · skip
    have hl : i < (List.length a0.2 : Int) := of_decide_eq_true h0
    have hE : Sm big20 Y52 (List.getD a0.2 i.toNat (dflt Y52)) := hp.2 _ (upElem hI.2.1 hl)
    refine Vc.skip ?_
    refine Vc.seq ?_
    refine Vc.block ?_
    refine Vc.regionD mixed hG rfl (by kernel_rfl) ?_ ?_
    · exact ⟨cpRange hI.2 hl, hE, cpLen hI.2 hl hp.1⟩
    refine Vc.region hG rfl ?_ ?_
    · trivial
    refine ⟨rfl, ?_⟩
    have e := cpStep (d := dflt Y52) hI.2 hl hb rfl
    exact ⟨⟨hI.1, e.1⟩, e.2⟩
  · skip
    have hl : ¬ i < (List.length a0.2 : Int) := of_decide_eq_false h0
    refine Vc.exit ?_
    refine Vc.seq ?_
    refine Vc.region hG rfl ?_ ?_
    · trivial
    refine Vc.ret ?_
    refine ⟨?_, trivial⟩
    exact Prod.ext hI.1 (cpEnd hI.2 hl)
noncomputable def F10 : Fun := ⟨[.pair (.int .i64) Y54, .pair (.int .i64) Y51], [.pair (.pure (.int .i64)) Z61, .pure (.bool)], fun x => (fun (a : Archive) (x : Item) => Sm big20 Y56 a ∧ Sm big20 Y52 x) x.1 x.2.1, fun x => ((addItemF x.1 x.2.1).1, (addItemF x.1 x.2.1).2, ())⟩
set_option maxRecDepth 100000 in
/-- loop.example.g00597.spec.AddItem -/
theorem F10_ok : Meets Tryz.prog 10 F10 := by
  refine meets_of_vc (C := mkC 77 [4, 5] [0,1,2,3,4,5,6,7,8,18,28,43,63,73] [⟨42, _, F42_ok⟩, ⟨43, _, F43_ok⟩, ⟨44, _, F44_ok⟩, ⟨45, _, F45_ok⟩]) (mkC_ok _ _ _ _) (fnOf_ok _) Tryz.func10 rfl rfl rfl (by decide) rfl ?_
  rintro ⟨a0, a1, _⟩ hwf hpre ⟨P, C, B, X, w0, M0, pv⟩ hG rfl rfl
  show Vc _ _ [(0, ⟨0, 0, .c Z57 a0⟩), (1, ⟨0, 0, .c Z53 a1⟩)] _
  have hp1 : Sm big20 Y56 a0 := hpre.1
  have hp2 : Sm big20 Y52 a1 := hpre.2
  have hs : List.length a0.2 ≤ 1048576 := hp1.2.1
  have hb : List.length a0.2 ≤ bigLen := hwf.1.2.1
  refine Vc.seq ?_
  refine Vc.region hG rfl ?_ ?_
  · trivial
  refine Vc.seq ?_
  refine Vc.seq ?_
  refine Vc.region hG rfl ?_ ?_
  · repeat' (first | exact trivial | refine And.intro ?_ ?_ | intro _)
  refine Vc.cond rfl (fun h0 => ?_) (fun h0 => ?_)
  · skip
    have g0 : pick2 (!(archF a0)) true (decide (itAt a0 a1.1 ≥ 0)) = true := h0
    refine Vc.seq ?_
    refine Vc.region hG rfl ?_ ?_
    · exact hp1
    refine Vc.ret ?_
    have e := ai0s g0
    refine ⟨?_, ?_, trivial⟩
    · exact (congrArg Prod.fst e).symm
    · exact (congrArg Prod.snd e).symm
  · skip
    have g0 := aiGoS (a := a0) (x := a1) h0
    refine Vc.skip ?_
    refine Vc.seq ?_
    refine Vc.region hG rfl ?_ ?_
    · trivial
    refine Vc.seq ?_
    refine Vc.region hG rfl ?_ ?_
    · trivial
    refine Vc.seq ?_
    refine Vc.seq ?_
    refine Vc.region hG rfl ?_ ?_
    · trivial
    refine Vc.block ?_
    -- slots [6, 7, 8]; frame [0, 1, 2, 3, 4, 5, 18, 63, 73]
    refine Vc.loopF [(6, true, .pair (.pure (.int .i64)) Z61), (7, false, .pure (.bool)), (8, false, .pure (.int .i64))] [0, 1, 2, 3, 4, 5, 18, 63, 73] (fun v => aiInv a0 a1 v.1 v.2.1 v.2.2.1) (fun v => ((List.length a0.2 : Int) - v.2.2.1).toNat) rfl ?_ ?_
    · exact aiStart
    rintro ⟨o, b, (i : Int), _⟩ hI
    have hI : aiInv a0 a1 o b i := hI
    refine Vc.seq ?_
    refine Vc.seq ?_
    refine Vc.region hG rfl ?_ ?_
    · trivial
    refine Vc.cond rfl (fun h1 => ?_) (fun h1 => ?_)
    · skip
      have hl : i < (List.length a0.2 : Int) := of_decide_eq_true h1
      have hE : Sm big20 Y52 (List.getD a0.2 i.toNat (dflt Y52)) := hp1.2.2 _ (upElem hI.2.1 hl)
      have hln := aiLen hI (Int.le_of_lt hl) hs
      refine Vc.skip ?_
      refine Vc.seq ?_
      refine Vc.block ?_
      refine Vc.seq ?_
      refine Vc.seq ?_
      refine Vc.regionD mixed hG rfl (by kernel_rfl) ?_ ?_
      · exact fun _ => foRange hI.2 hl
      refine Vc.cond rfl (fun h2 => ?_) (fun h2 => ?_)
      · skip
        have g2 : pick2 (!b) (decide (a1.1 < (List.getD a0.2 i.toNat (dflt TItem)).1)) false = true := h2
        refine Vc.seq ?_
        refine Vc.regionD mixed hG rfl (by kernel_rfl) ?_ ?_
        · exact ⟨hp2, aiApp hln⟩
        refine Vc.region hG rfl ?_ ?_
        · trivial
        refine Vc.regionD mixed hG rfl (by kernel_rfl) ?_ ?_
        · first
            | exact ⟨foRange hI.2 hl, hE, aiApp hln⟩
            | exact ⟨foRange hI.2 hl, hE, aiApp2 hln⟩
        refine Vc.region hG rfl ?_ ?_
        · trivial
        refine ⟨rfl, ?_⟩
        first
          | exact aiNo hI hl hb g2 rfl rfl
          | exact aiYes hI hl hb g2 rfl rfl
      · skip
        have g2 : pick2 (!b) (decide (a1.1 < (List.getD a0.2 i.toNat (dflt TItem)).1)) false = false := h2
        refine Vc.skip ?_
        refine Vc.regionD mixed hG rfl (by kernel_rfl) ?_ ?_
        · first
            | exact ⟨foRange hI.2 hl, hE, aiApp hln⟩
            | exact ⟨foRange hI.2 hl, hE, aiApp2 hln⟩
        refine Vc.region hG rfl ?_ ?_
        · trivial
        refine ⟨rfl, ?_⟩
        first
          | exact aiNo hI hl hb g2 rfl rfl
          | exact aiYes hI hl hb g2 rfl rfl
    · skip
      have hl : ¬ i < (List.length a0.2 : Int) := of_decide_eq_false h1
      have hei := aiEnd hI hl g0
      have hln : List.length o.2 ≤ 1048577 := aiLen hI (upLe hI.2.1) hs
      refine Vc.exit ?_
      refine Vc.seq ?_
      refine Vc.seq ?_
      refine Vc.region hG rfl ?_ ?_
      · trivial
      refine Vc.cond rfl (fun h3 => ?_) (fun h3 => ?_)
      · skip
        have e3 : (o.1, o.2 ++ [a1]) = (a0.1, insI a1 a0.2) := hei.2 (by have q : (!b) = true := h3; simpa using q)
        refine Vc.regionD mixed hG rfl (by kernel_rfl) ?_ ?_
        · exact ⟨hp2, aiApp hln⟩
        refine Vc.seq ?_
        refine Vc.seq ?_
        refine Vc.region hG rfl ?_ ?_
        · trivial
        refine Vc.cond rfl (fun h4 => ?_) (fun h4 => ?_)
        · skip
          refine Vc.seq ?_
          refine Vc.region hG rfl ?_ ?_
          · exact hp1
          refine Vc.ret ?_
          have e := ai1 (a := a0) (x := a1) (by rw [← e3]; exact h4)
          refine ⟨?_, ?_, trivial⟩
          · exact (congrArg Prod.fst e).symm
          · exact (congrArg Prod.snd e).symm
        · skip
          refine Vc.skip ?_
          refine Vc.seq ?_
          refine Vc.region hG rfl ?_ ?_
          · trivial
          refine Vc.ret ?_
          have e : addItemF a0 a1 = ((o.1, o.2 ++ [a1]), true) := by
            rw [e3]
            exact ai2 g0 (by rw [← e3]; exact h4)
          refine ⟨?_, ?_, trivial⟩
          · exact (congrArg Prod.fst e).symm
          · exact (congrArg Prod.snd e).symm
      · skip
        have e3 : o = (a0.1, insI a1 a0.2) := hei.1 (by have q : (!b) = false := h3; simpa using q)
        refine Vc.skip ?_
        refine Vc.seq ?_
        refine Vc.seq ?_
        refine Vc.region hG rfl ?_ ?_
        · trivial
        refine Vc.cond rfl (fun h5 => ?_) (fun h5 => ?_)
        · skip
          refine Vc.seq ?_
          refine Vc.region hG rfl ?_ ?_
          · exact hp1
          refine Vc.ret ?_
          have e := ai1 (a := a0) (x := a1) (by rw [← e3]; exact h5)
          refine ⟨?_, ?_, trivial⟩
          · exact (congrArg Prod.fst e).symm
          · exact (congrArg Prod.snd e).symm
        · skip
          refine Vc.skip ?_
          refine Vc.seq ?_
          refine Vc.region hG rfl ?_ ?_
          · trivial
          refine Vc.ret ?_
          have e : addItemF a0 a1 = (o, true) := by
            rw [e3]
            exact ai2 g0 (by rw [← e3]; exact h5)
          refine ⟨?_, ?_, trivial⟩
          · exact (congrArg Prod.fst e).symm
          · exact (congrArg Prod.snd e).symm
end Fw
