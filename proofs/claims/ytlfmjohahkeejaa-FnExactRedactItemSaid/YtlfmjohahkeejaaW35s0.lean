/- Walks of functions of the program: what each computes. Conditions: those that each contract names. -/
import Derived.Test.YtlfmjohahkeejaaW35T
namespace Fw
open Go Go.Proofs
set_option linter.unusedSimpArgs false
noncomputable def F144 : Fun := ⟨[.slice (.int .i64), .int .i64], [.pure (.bool)], fun _ => True, fun x => (hasNF x.1 x.2.1, ())⟩
set_option maxRecDepth 100000 in
/-- loop.example.g00597.spec.l7Has -/
theorem F144_ok : Meets Try.prog 144 F144 := by
  refine meets_of_vc (C := mkC 18 [4] [0,1,4,5,9,17] []) (mkC_ok _ _ _ _) (fnOf_ok _) Try.func144 rfl rfl rfl (by decide) rfl ?_
  rintro ⟨a0, (a1 : Int), _⟩ hwf hpre ⟨P, C, B, X, w0, M0, pv⟩ hG rfl rfl
  show Vc _ _ [(0, ⟨0, 0, .c Z2 a0⟩), (1, ⟨0, 0, .c (.pure (.int .i64)) a1⟩)] _
  have hb : List.length a0 ≤ bigLen := hwf.1.1
  refine Vc.seq ?_
  refine Vc.region hG rfl ?_ ?_
  · trivial
  refine Vc.seq ?_
  refine Vc.seq ?_
  refine Vc.region hG rfl ?_ ?_
  · trivial
  refine Vc.block ?_
  -- slots [5]; frame [0, 1]
  refine Vc.loopF [(5, false, .pure (.int .i64))] [0, 1] (fun v => fInv (fun y => y == a1) a0 v.1) (fun v => ((List.length a0 : Int) - v.1).toNat) rfl ?_ ?_
  · exact fStart
  rintro ⟨(i : Int), _⟩ hI
  have hI : fInv (fun y => y == a1) a0 i := hI
  refine Vc.seq ?_
  refine Vc.seq ?_
  refine Vc.region hG rfl ?_ ?_
  · trivial
  refine Vc.cond rfl (fun h0 => ?_) (fun h0 => ?_)
  · skip
    have hl : i < (List.length a0 : Int) := of_decide_eq_true h0
    refine Vc.skip ?_
    refine Vc.seq ?_
    refine Vc.block ?_
    refine Vc.seq ?_
    refine Vc.region hG rfl ?_ ?_
    · exact fRange hI hl
    refine Vc.cond rfl (fun h1 => ?_) (fun h1 => ?_)
    · skip
      have g1 : (List.getD a0 i.toNat (dflt TI) == a1) = true := h1
      refine Vc.seq ?_
      refine Vc.region hG rfl ?_ ?_
      · trivial
      refine Vc.ret ?_
      refine ⟨?_, trivial⟩
      exact hasNYes hI hl g1
    · skip
      have g1 : (List.getD a0 i.toNat (dflt TI) == a1) = false := h1
      refine Vc.skip ?_
      refine Vc.region hG rfl ?_ ?_
      · trivial
      refine ⟨rfl, ?_⟩
      exact fStep hI hl hb g1
  · skip
    have hl : ¬ i < (List.length a0 : Int) := of_decide_eq_false h0
    refine Vc.exit ?_
    refine Vc.seq ?_
    refine Vc.region hG rfl ?_ ?_
    · trivial
    refine Vc.ret ?_
    refine ⟨?_, trivial⟩
    exact hasNNo hI hl
noncomputable def F85 : Fun := ⟨[.pair (.int .i64) Y55], [.own (.pure (.int .i64))], fun x => Sm big20 Y56 x.1, fun x => (methodsF x.1, ())⟩
set_option maxRecDepth 100000 in
/-- loop.example.g00597.spec.MethodsOf -/
theorem F85_ok : Meets Try.prog 85 F85 := by
  refine meets_of_vc (C := mkC 76 [2] [0,1,2,3,4,5,6,7,18,34,42,57] [⟨144, _, F144_ok⟩]) (mkC_ok _ _ _ _) (fnOf_ok _) Try.func85 rfl rfl rfl (by decide) rfl ?_
  rintro ⟨a0, _⟩ hwf hpre ⟨P, C, B, X, w0, M0, pv⟩ hG rfl rfl
  show Vc _ _ [(0, ⟨0, 0, .c Z57 a0⟩)] _
  have hs : List.length a0.2.2.2.2.2 ≤ 1048576 := hpre.2.2.2.2.2.1
  have hb : List.length a0.2.2.2.2.2 ≤ bigLen := hwf.1.2.2.2.2.2.1
  refine Vc.seq ?_
  refine Vc.region hG rfl ?_ ?_
  · trivial
  refine Vc.seq ?_
  refine Vc.region hG rfl ?_ ?_
  · trivial
  refine Vc.seq ?_
  refine Vc.region hG rfl ?_ ?_
  · trivial
  refine Vc.seq ?_
  refine Vc.seq ?_
  refine Vc.region hG rfl ?_ ?_
  · trivial
  refine Vc.block ?_
  -- slots [4, 5]; frame [0, 1, 2, 3, 6, 7, 34, 42, 57]
  refine Vc.loopF [(4, false, .own (.pure (.int .i64))), (5, false, .pure (.int .i64))] [0, 1, 2, 3, 6, 7, 34, 42, 57] (fun v => mlInv a0 v.1 v.2.1) (fun v => ((List.length a0.2.2.2.2.2 : Int) - v.2.1).toNat) rfl ?_ ?_
  · exact mlStart
  rintro ⟨l, (i : Int), _⟩ hI
  have hI : mlInv a0 l i := hI
  refine Vc.seq ?_
  refine Vc.seq ?_
  refine Vc.region hG rfl ?_ ?_
  · trivial
  refine Vc.cond rfl (fun h0 => ?_) (fun h0 => ?_)
  · skip
    have hl : i < (List.length a0.2.2.2.2.2 : Int) := of_decide_eq_true h0
    refine Vc.skip ?_
    refine Vc.seq ?_
    refine Vc.block ?_
    refine Vc.region hG rfl ?_ ?_
    · exact ⟨upRange hI.1 hl, mlApp hI hs⟩
    refine Vc.region hG rfl ?_ ?_
    · trivial
    refine ⟨rfl, ?_⟩
    exact mlStep hI hl hb
  · skip
    have hl : ¬ i < (List.length a0.2.2.2.2.2 : Int) := of_decide_eq_false h0
    refine Vc.exit ?_
    refine Vc.seq ?_
    refine Vc.seq ?_
    refine Vc.region hG rfl ?_ ?_
    · trivial
    refine Vc.block ?_
    -- slots [3, 6]; frame [0, 1, 2, 4, 5, 18]
    refine Vc.loopF [(3, false, .own (.pure (.int .i64))), (6, false, .pure (.int .i64))] [0, 1, 2, 4, 5, 18] (fun v => msInv l v.1 v.2.1) (fun v => ((List.length l : Int) - v.2.1).toNat) rfl ?_ ?_
    · exact msStart
    rintro ⟨out, (j : Int), _⟩ hJ
    have hJ : msInv l out j := hJ
    have hL : List.length l ≤ 1048577 := mlLen hI hs
    refine Vc.seq ?_
    refine Vc.seq ?_
    refine Vc.region hG rfl ?_ ?_
    · trivial
    refine Vc.cond rfl (fun h1 => ?_) (fun h1 => ?_)
    · skip
      have hm : j < (List.length l : Int) := of_decide_eq_true h1
      have ho := msOut hJ hm hL
      refine Vc.skip ?_
      refine Vc.seq ?_
      refine Vc.block ?_
      refine Vc.seq ?_
      refine Vc.seq ?_
      refine Vc.region hG rfl ?_ ?_
      · exact ⟨foRange hJ.1 hm, trivial⟩
      refine Vc.cond rfl (fun h2 => ?_) (fun h2 => ?_)
      · skip
        have g2 : hasNF out (List.getD l j.toNat (dflt TI)) = true := h2
        refine Vc.exit ?_
        refine Vc.region hG rfl ?_ ?_
        · trivial
        refine ⟨rfl, ?_⟩
        first
          | exact msStep hJ hm hL (msHas g2)
          | exact msStep hJ hm hL (msNew g2 hK g3)
      · skip
        have g2 : hasNF out (List.getD l j.toNat (dflt TI)) = false := h2
        refine Vc.skip ?_
        refine Vc.seq ?_
        refine Vc.region hG rfl ?_ ?_
        · trivial
        refine Vc.seq ?_
        refine Vc.block ?_
        -- slots [7]; frame [0, 1, 2, 3, 4, 5, 6, 18, 34, 42]
        refine Vc.loopF [(7, false, .pure (.int .i64))] [0, 1, 2, 3, 4, 5, 6, 18, 34, 42] (fun v => ikInv out (List.getD l j.toNat (dflt TI)) v.1) (fun v => ((List.length out : Int) - v.1).toNat) rfl ?_ ?_
        · exact ikStart
        rintro ⟨(k : Int), _⟩ hK
        have hK : ikInv out (List.getD l j.toNat (dflt TI)) k := hK
        refine Vc.seq ?_
        refine Vc.seq ?_
        refine Vc.regionD mixed hG rfl (by kernel_rfl) ?_ ?_
        · exact ⟨fun h => ikRange hK (of_decide_eq_true h), fun _ => foRange hJ.1 hm⟩
        refine Vc.cond rfl (fun h3 => ?_) (fun h3 => ?_)
        · skip
          have g3 : pick2 (decide (k < (List.length out : Int))) (decide (List.getD out k.toNat (dflt TI) < List.getD l j.toNat (dflt TI))) false = true := h3
          refine Vc.skip ?_
          refine Vc.block ?_
          refine Vc.region hG rfl ?_ ?_
          · trivial
          refine ⟨rfl, ?_⟩
          exact ikStep hK ho g3
        · skip
          have g3 : pick2 (decide (k < (List.length out : Int))) (decide (List.getD out k.toNat (dflt TI) < List.getD l j.toNat (dflt TI))) false = false := h3
          refine Vc.exit ?_
          refine Vc.regionD mixed hG rfl (by kernel_rfl) ?_ ?_
          · exact msConds hK ho (foRange hJ.1 hm)
          refine Vc.region hG rfl ?_ ?_
          · trivial
          refine ⟨rfl, ?_⟩
          first
            | exact msStep hJ hm hL (msHas g2)
            | exact msStep hJ hm hL (msNew g2 hK g3)
    · skip
      have hm : ¬ j < (List.length l : Int) := of_decide_eq_false h1
      refine Vc.exit ?_
      refine Vc.seq ?_
      refine Vc.region hG rfl ?_ ?_
      · trivial
      refine Vc.ret ?_
      refine ⟨?_, trivial⟩
      exact (foEnd hJ.1 hm).trans (mlEnd hI hl)
noncomputable def F170 : Fun := ⟨[.int .i64, .int .i64, .int .i64], [.pure (.bool)], fun _ => True, fun x => (inRangeF x.1 x.2.1 x.2.2.1, ())⟩
set_option maxRecDepth 100000 in
/-- loop.example.g00597.spec.l1In -/
theorem F170_ok : Meets Try.prog 170 F170 := by
  refine meets_of_vc (C := mkC 15 [6] [0,1,2,6] []) (mkC_ok _ _ _ _) (fnOf_ok _) Try.func170 rfl rfl rfl (by decide) rfl ?_
  rintro ⟨(a0 : Int), (a1 : Int), (a2 : Int), _⟩ hwf hpre ⟨P, C, B, X, w0, M0, pv⟩ hG rfl rfl
  show Vc _ _ [(0, ⟨0, 0, .c (.pure (.int .i64)) a0⟩), (1, ⟨0, 0, .c (.pure (.int .i64)) a1⟩), (2, ⟨0, 0, .c (.pure (.int .i64)) a2⟩)] _
  refine Vc.seq ?_
  refine Vc.region hG rfl ?_ ?_
  · trivial
  refine Vc.seq ?_
  refine Vc.region hG rfl ?_ ?_
  · trivial
  refine Vc.ret ?_
  refine ⟨?_, trivial⟩
  all_goals exact rfl
noncomputable def F143 : Fun := ⟨[.pair (.int .i64) Y10], [.pure (.bool)], fun _ => True, fun x => (docF x.1, ())⟩
set_option maxRecDepth 100000 in
/-- loop.example.g00597.spec.IsDocument -/
theorem F143_ok : Meets Try.prog 143 F143 := by
  refine meets_of_vc (C := mkC 51 [2] [0,1,2,3,4,9,18,23,32] [⟨170, _, F170_ok⟩]) (mkC_ok _ _ _ _) (fnOf_ok _) Try.func143 rfl rfl rfl (by decide) rfl ?_
  rintro ⟨a0, _⟩ hwf hpre ⟨P, C, B, X, w0, M0, pv⟩ hG rfl rfl
  show Vc _ _ [(0, ⟨0, 0, .c Z21 a0⟩)] _
  have hb0 : List.length a0.2.1 ≤ bigLen := hwf.1.2.1.1
  have hb1 : List.length a0.2.2 ≤ bigLen := hwf.1.2.2.1
  refine Vc.seq ?_
  refine Vc.region hG rfl ?_ ?_
  · trivial
  refine Vc.seq ?_
  refine Vc.seq ?_
  refine Vc.region hG rfl ?_ ?_
  · trivial
  refine Vc.block ?_
  -- slots [3]; frame [0, 1, 4, 23, 32]
  refine Vc.loopF [(3, false, .pure (.int .i64))] [0, 1, 4, 23, 32] (fun v => kInv (fun k => (List.length (List.getD a0.2.1 k (dflt .str)) : Int) ≤ 40) a0.2.1 v.1) (fun v => ((List.length a0.2.1 : Int) - v.1).toNat) rfl ?_ ?_
  · exact kStart
  rintro ⟨(i : Int), _⟩ hI0
  have hI0 : kInv (fun k => (List.length (List.getD a0.2.1 k (dflt .str)) : Int) ≤ 40) a0.2.1 i := hI0
  refine Vc.seq ?_
  refine Vc.seq ?_
  refine Vc.region hG rfl ?_ ?_
  · trivial
  refine Vc.cond rfl (fun h0 => ?_) (fun h0 => ?_)
  · skip
    have hl0 : i < (List.length a0.2.1 : Int) := of_decide_eq_true h0
    refine Vc.skip ?_
    refine Vc.seq ?_
    refine Vc.block ?_
    refine Vc.seq ?_
    refine Vc.region hG rfl ?_ ?_
    · exact kRange hI0 hl0
    refine Vc.cond rfl (fun h1 => ?_) (fun h1 => ?_)
    · skip
      have g1 : (List.length (List.getD a0.2.1 i.toNat (dflt .str)) : Int) > 40 := of_decide_eq_true h1
      refine Vc.seq ?_
      refine Vc.region hG rfl ?_ ?_
      · trivial
      refine Vc.ret ?_
      refine ⟨?_, trivial⟩
      refine boolC_no (P := docP a0) (fun h => ?_)
      have q := h.2.2.2.1 i.toNat (kLt hI0 hl0)
      exact absurd q (Int.not_le.2 g1)
    · skip
      have g1 : ¬ (List.length (List.getD a0.2.1 i.toNat (dflt .str)) : Int) > 40 := of_decide_eq_false h1
      refine Vc.skip ?_
      refine Vc.region hG rfl ?_ ?_
      · trivial
      refine ⟨rfl, ?_⟩
      exact kStep hI0 hl0 hb0 (show (List.length (List.getD a0.2.1 i.toNat (dflt .str)) : Int) ≤ 40 from Int.not_lt.1 g1)
  · skip
    have hl0 : ¬ i < (List.length a0.2.1 : Int) := of_decide_eq_false h0
    refine Vc.exit ?_
    refine Vc.seq ?_
    refine Vc.seq ?_
    refine Vc.region hG rfl ?_ ?_
    · trivial
    refine Vc.block ?_
    -- slots [4]; frame [0, 1, 3, 9, 18]
    refine Vc.loopF [(4, false, .pure (.int .i64))] [0, 1, 3, 9, 18] (fun v => kInv (fun k => inRangeF (List.getD a0.2.2 k (dflt (.int .i64))) 1 1000000000000 = true) a0.2.2 v.1) (fun v => ((List.length a0.2.2 : Int) - v.1).toNat) rfl ?_ ?_
    · exact kStart
    rintro ⟨(i : Int), _⟩ hI1
    have hI1 : kInv (fun k => inRangeF (List.getD a0.2.2 k (dflt (.int .i64))) 1 1000000000000 = true) a0.2.2 i := hI1
    refine Vc.seq ?_
    refine Vc.seq ?_
    refine Vc.region hG rfl ?_ ?_
    · trivial
    refine Vc.cond rfl (fun h2 => ?_) (fun h2 => ?_)
    · skip
      have hl1 : i < (List.length a0.2.2 : Int) := of_decide_eq_true h2
      refine Vc.skip ?_
      refine Vc.seq ?_
      refine Vc.block ?_
      refine Vc.seq ?_
      refine Vc.region hG rfl ?_ ?_
      · exact ⟨kRange hI1 hl1, trivial⟩
      refine Vc.cond rfl (fun h3 => ?_) (fun h3 => ?_)
      · skip
        have g3 : (!(inRangeF (List.getD a0.2.2 i.toNat (dflt (.int .i64))) 1 1000000000000)) = true := h3
        refine Vc.seq ?_
        refine Vc.region hG rfl ?_ ?_
        · trivial
        refine Vc.ret ?_
        refine ⟨?_, trivial⟩
        refine boolC_no (P := docP a0) (fun h => ?_)
        exact nself (h.2.2.2.2 i.toNat (kLt hI1 hl1)) g3
      · skip
        have g3 : (!(inRangeF (List.getD a0.2.2 i.toNat (dflt (.int .i64))) 1 1000000000000)) = false := h3
        refine Vc.skip ?_
        refine Vc.region hG rfl ?_ ?_
        · trivial
        refine ⟨rfl, ?_⟩
        exact kStep hI1 hl1 hb1 (notF g3)
    · skip
      have hl1 : ¬ i < (List.length a0.2.2 : Int) := of_decide_eq_false h2
      refine Vc.exit ?_
      refine Vc.seq ?_
      refine Vc.region hG rfl ?_ ?_
      · repeat' (first | exact trivial | refine And.intro ?_ ?_ | intro _)
      refine Vc.ret ?_
      refine ⟨?_, trivial⟩
      refine boolC_by (P := docP a0) (fun e => ?_) (fun h => ?_)
      · exact ⟨(andT (andT e).1).1, (andT (andT e).1).2, lenBeqI (andT e).2, kEnd hI0 hl0, kEnd hI1 hl1⟩
      · exact yesAnd (yesAnd h.1 h.2.1) (lenBeq h.2.2.1)
noncomputable def F201 : Fun := ⟨[.int .i64, .int .i64], [.pure (.int .i64)], fun _ => True, fun x => (modF x.1 x.2.1, ())⟩
set_option maxRecDepth 100000 in
/-- loop.example.g00597.spec.Mod -/
theorem F201_ok : Meets Try.prog 201 F201 := by
  refine meets_of_vc (C := mkC 15 [4] [0,1,4,7] [⟨170, _, F170_ok⟩]) (mkC_ok _ _ _ _) (fnOf_ok _) Try.func201 rfl rfl rfl (by decide) rfl ?_
  rintro ⟨(a0 : Int), (a1 : Int), _⟩ hwf hpre ⟨P, C, B, X, w0, M0, pv⟩ hG rfl rfl
  show Vc _ _ [(0, ⟨0, 0, .c (.pure (.int .i64)) a0⟩), (1, ⟨0, 0, .c (.pure (.int .i64)) a1⟩)] _
  refine Vc.seq ?_
  refine Vc.region hG rfl ?_ ?_
  · trivial
  refine Vc.seq ?_
  refine Vc.seq ?_
  refine Vc.region hG rfl ?_ ?_
  · trivial
  refine Vc.cond rfl (fun h0 => ?_) (fun h0 => ?_)
  · skip
    have g0 : (!(inRangeF a1 1 1000000000000)) = true := h0
    refine Vc.seq ?_
    refine Vc.region hG rfl ?_ ?_
    · trivial
    refine Vc.ret ?_
    refine ⟨?_, trivial⟩
    show (0 : Int) = modF a0 a1
    unfold modF
    rw [if_neg (by simpa using g0)]
  · skip
    have g0 : (!(inRangeF a1 1 1000000000000)) = false := h0
    refine Vc.skip ?_
    refine Vc.seq ?_
    refine Vc.region hG rfl ?_ ?_
    · exact ⟨inR_pos h0, inR_pos h0⟩
    refine Vc.ret ?_
    refine ⟨?_, trivial⟩
    show _ = modF a0 a1
    unfold modF
    rw [if_pos (by simpa using g0)]
noncomputable def F187 : Fun := ⟨[.slice (.int .i64)], [.pure (.int .i64)], fun _ => True, fun x => (hashF x.1, ())⟩
set_option maxRecDepth 100000 in
/-- loop.example.g00597.spec.Hash -/
theorem F187_ok : Meets Try.prog 187 F187 := by
  refine meets_of_vc (C := mkC 22 [2] [0,2,3,4,8] [⟨201, _, F201_ok⟩]) (mkC_ok _ _ _ _) (fnOf_ok _) Try.func187 rfl rfl rfl (by decide) rfl ?_
  rintro ⟨a0, _⟩ hwf hpre ⟨P, C, B, X, w0, M0, pv⟩ hG rfl rfl
  show Vc _ _ [(0, ⟨0, 0, .c Z2 a0⟩)] _
  have hb : List.length a0 ≤ bigLen := hwf.1.1
  refine Vc.seq ?_
  refine Vc.region hG rfl ?_ ?_
  · trivial
  refine Vc.seq ?_
  refine Vc.region hG rfl ?_ ?_
  · trivial
  refine Vc.seq ?_
  refine Vc.seq ?_
  refine Vc.region hG rfl ?_ ?_
  · trivial
  refine Vc.block ?_
  -- slots [3, 4]; frame [0, 2]
  refine Vc.loopF [(3, false, .pure (.int .i64)), (4, false, .pure (.int .i64))] [0, 2] (fun v => foInv (hstep) (11) a0 v.1 v.2.1) (fun v => ((List.length a0 : Int) - v.2.1).toNat) rfl ?_ ?_
  · exact foStart
  rintro ⟨acc, (i : Int), _⟩ hI
  have hI : foInv (hstep) (11) a0 acc i := hI
  refine Vc.seq ?_
  refine Vc.seq ?_
  refine Vc.region hG rfl ?_ ?_
  · trivial
  refine Vc.cond rfl (fun h0 => ?_) (fun h0 => ?_)
  · skip
    have hl : i < (List.length a0 : Int) := of_decide_eq_true h0
    refine Vc.skip ?_
    refine Vc.seq ?_
    refine Vc.block ?_
    refine Vc.region hG rfl ?_ ?_
    · exact ⟨foRange hI hl, trivial, (show (2147483647 : Int) ≠ 0 by decide)⟩
    refine Vc.region hG rfl ?_ ?_
    · trivial
    refine ⟨rfl, ?_⟩
    exact foStep hI hl hb
  · skip
    have hl : ¬ i < (List.length a0 : Int) := of_decide_eq_false h0
    refine Vc.exit ?_
    refine Vc.seq ?_
    refine Vc.region hG rfl ?_ ?_
    · trivial
    refine Vc.ret ?_
    refine ⟨?_, trivial⟩
    exact foEnd hI hl
noncomputable def F173 : Fun := ⟨[.int .i64, .slice (.int .i64)], [.pure (.int .i64)], fun x => (fun (_ : Int) (l : List Int) => smallL l) x.1 x.2.1, fun x => (digestF x.1 x.2.1, ())⟩
set_option maxRecDepth 100000 in
/-- loop.example.g00597.spec.DigestOf -/
theorem F173_ok : Meets Try.prog 173 F173 := by
  refine meets_of_vc (C := mkC 10 [4] [0,1,4] [⟨187, _, F187_ok⟩]) (mkC_ok _ _ _ _) (fnOf_ok _) Try.func173 rfl rfl rfl (by decide) rfl ?_
  rintro ⟨(a0 : Int), a1, _⟩ hwf hpre ⟨P, C, B, X, w0, M0, pv⟩ hG rfl rfl
  show Vc _ _ [(0, ⟨0, 0, .c (.pure (.int .i64)) a0⟩), (1, ⟨0, 0, .c Z2 a1⟩)] _
  have hp : List.length a1 ≤ 1000000000 := hpre
  refine Vc.seq ?_
  refine Vc.region hG rfl ?_ ?_
  · trivial
  refine Vc.seq ?_
  refine Vc.region hG rfl ?_ ?_
  · refine ⟨?_, trivial⟩
    show 2 + List.length a1 ≤ maxApp
    unfold maxApp; omega
  refine Vc.ret ?_
  refine ⟨?_, trivial⟩
  exact (digest_eq a0 a1).symm
noncomputable def F145 : Fun := ⟨[.int .i64, .str, .int .i64], [.pure (.int .i64)], fun x => (fun (_ : Int) (s : List UInt8) (_ : Int) => s.length ≤ 40) x.1 x.2.1 x.2.2.1, fun x => (partF x.1 x.2.1 x.2.2.1, ())⟩
set_option maxRecDepth 100000 in
/-- loop.example.g00597.spec.PartDigest -/
theorem F145_ok : Meets Try.prog 145 F145 := by
  refine meets_of_vc (C := mkC 27 [6] [0,1,2,6,7,8,14] [⟨173, _, F173_ok⟩]) (mkC_ok _ _ _ _) (fnOf_ok _) Try.func145 rfl rfl rfl (by decide) rfl ?_
  rintro ⟨(a0 : Int), a1, (a2 : Int), _⟩ hwf hpre ⟨P, C, B, X, w0, M0, pv⟩ hG rfl rfl
  show Vc _ _ [(0, ⟨0, 0, .c (.pure (.int .i64)) a0⟩), (1, ⟨0, 0, .c (.pure (.str)) a1⟩), (2, ⟨0, 0, .c (.pure (.int .i64)) a2⟩)] _
  have hp : List.length a1 ≤ 40 := hpre
  have hb : List.length a1 ≤ bigLen := hwf.2.1
  refine Vc.seq ?_
  refine Vc.region hG rfl ?_ ?_
  · trivial
  refine Vc.seq ?_
  refine Vc.region hG rfl ?_ ?_
  · trivial
  refine Vc.seq ?_
  refine Vc.seq ?_
  refine Vc.region hG rfl ?_ ?_
  · trivial
  refine Vc.block ?_
  -- slots [7, 8]; frame [0, 1, 2, 6]
  refine Vc.loopF [(7, false, .own (.pure (.int .i64))), (8, false, .pure (.int .i64))] [0, 1, 2, 6] (fun v => gsInv (partG a1) [a2] a1 v.1 v.2.1) (fun v => ((List.length a1 : Int) - v.2.1).toNat) rfl ?_ ?_
  · exact gsStart
  rintro ⟨acc, (i : Int), _⟩ hI
  have hI : gsInv (partG a1) [a2] a1 acc i := hI
  have hA : List.length acc ≤ 41 := gsLen (c := 1) (m := 40) hI (fun _ => Nat.le_refl _) hp (by simp)
  refine Vc.seq ?_
  refine Vc.seq ?_
  refine Vc.region hG rfl ?_ ?_
  · trivial
  refine Vc.cond rfl (fun h0 => ?_) (fun h0 => ?_)
  · skip
    have hl : i < (List.length a1 : Int) := of_decide_eq_true h0
    refine Vc.skip ?_
    refine Vc.seq ?_
    refine Vc.block ?_
    refine Vc.region hG rfl ?_ ?_
    · exact ⟨gsRange hI hl, (show List.length acc + 1 ≤ maxApp from by unfold maxApp; omega)⟩
    refine Vc.region hG rfl ?_ ?_
    · trivial
    refine ⟨rfl, ?_⟩
    exact gsStep hI hl hb rfl
  · skip
    have hl : ¬ i < (List.length a1 : Int) := of_decide_eq_false h0
    refine Vc.exit ?_
    refine Vc.seq ?_
    refine Vc.region hG rfl ?_ ?_
    · exact (show List.length acc ≤ 1000000000 from by omega)
    refine Vc.ret ?_
    refine ⟨?_, trivial⟩
    exact congrArg (digestF a0) (gsEnd hI hl)
noncomputable def F84 : Fun := ⟨[.slice (.int .i64), .pair (.int .i64) Y10, .slice (.int .i64)], [.pair (.pure (.int .i64)) Z39, .pure (.bool)], fun x => (fun (l : List Int) (_ : Doc) (_ : List Int) => List.length l ≤ 2000000) x.1 x.2.1 x.2.2.1, fun x => ((redF x.1 x.2.1 x.2.2.1).1, (redF x.1 x.2.1 x.2.2.1).2, ())⟩
set_option maxRecDepth 100000 in
/-- loop.example.g00597.spec.RedactDocument -/
theorem F84_ok : Meets Try.prog 84 F84 := by
  refine meets_of_vc (C := mkC 103 [6, 7] [0,1,2,4,6,7,8,9,10,11,14,26,32,36] [⟨143, _, F143_ok⟩, ⟨144, _, F144_ok⟩, ⟨145, _, F145_ok⟩]) (mkC_ok _ _ _ _) (fnOf_ok _) Try.func84 rfl rfl rfl (by decide) rfl ?_
  rintro ⟨a0, a1, a2, _⟩ hwf hpre ⟨P, C, B, X, w0, M0, pv⟩ hG rfl rfl
  show Vc _ _ [(0, ⟨0, 0, .c Z2 a0⟩), (1, ⟨0, 0, .c Z21 a1⟩), (2, ⟨0, 0, .c Z2 a2⟩)] _
  have hm2 : List.length a0 ≤ 2000000 := hpre
  have hb : List.length a1.2.1 ≤ bigLen := hwf.2.1.2.1.1
  have hbm : List.length a0 ≤ bigLen := hwf.1.1
  refine Vc.seq ?_
  refine Vc.region hG rfl ?_ ?_
  · trivial
  refine Vc.seq ?_
  refine Vc.seq ?_
  refine Vc.region hG rfl ?_ ?_
  · trivial
  refine Vc.cond rfl (fun h0 => ?_) (fun h0 => ?_)
  · skip
    have g0 : (!(docF a1)) = true := h0
    refine Vc.seq ?_
    refine Vc.region hG rfl ?_ ?_
    · trivial
    refine Vc.ret ?_
    have e := rdBad (methods := a0) (hide := a2) g0
    refine ⟨?_, ?_, trivial⟩
    · exact (congrArg Prod.fst e).symm
    · exact (congrArg Prod.snd e).symm
  · skip
    have g0 : (!(docF a1)) = false := h0
    obtain ⟨d6, dS, dP⟩ := rdDoc g0
    refine Vc.skip ?_
    refine Vc.seq ?_
    refine Vc.regionD mixed hG rfl (by kernel_rfl) ?_ ?_
    · exact appMore (Nat.le_trans hm2 (by decide))
    refine Vc.seq ?_
    refine Vc.seq ?_
    refine Vc.region hG rfl ?_ ?_
    · trivial
    refine Vc.block ?_
    -- slots [8, 9]; frame [0, 1, 2, 4, 6, 7, 14]
    refine Vc.loopF [(8, true, .pair (.pure (.int .i64)) Z39), (9, false, .pure (.int .i64))] [0, 1, 2, 4, 6, 7, 14] (fun v => rdInv a0 a1 a2 v.1 v.2.1) (fun v => ((List.length a1.2.1 : Int) - v.2.1).toNat) rfl ?_ ?_
    · exact rdStart
    rintro ⟨r, (i : Int), _⟩ hI
    have hI : rdInv a0 a1 a2 r i := hI
    refine Vc.seq ?_
    refine Vc.seq ?_
    refine Vc.region hG rfl ?_ ?_
    · trivial
    refine Vc.cond rfl (fun h1 => ?_) (fun h1 => ?_)
    · skip
      have hl : i < (List.length a1.2.1 : Int) := of_decide_eq_true h1
      obtain ⟨l1, l2, l3, l4⟩ := rdLen hI hl d6
      have hr := upRange hI.1 hl
      have hrs : inRange i (List.length a1.2.2) := by rw [dS]; exact hr
      have hP : List.length (List.getD a1.2.1 i.toNat (dflt .str)) ≤ 40 := dP _ (by have := hr.1; have := hr.2; omega)
      refine Vc.skip ?_
      refine Vc.seq ?_
      refine Vc.block ?_
      refine Vc.seq ?_
      refine Vc.region hG rfl ?_ ?_
      · trivial
      refine Vc.seq ?_
      refine Vc.seq ?_
      refine Vc.region hG rfl ?_ ?_
      · trivial
      refine Vc.cond rfl (fun h2 => ?_) (fun h2 => ?_)
      · skip
        have g2 : hasNF a2 i = true := h2
        refine Vc.seq ?_
        refine Vc.seq ?_
        refine Vc.region hG rfl ?_ ?_
        · trivial
        refine Vc.block ?_
        -- slots [10, 11]; frame [0, 1, 2, 4, 6, 7, 8, 9, 14, 26, 32]
        refine Vc.loopF [(10, false, .own (.pure (.int .i64))), (11, false, .pure (.int .i64))] [0, 1, 2, 4, 6, 7, 8, 9, 14, 26, 32] (fun v => pkInv (pdG (List.getD a1.2.1 i.toNat (dflt .str)) (List.getD a1.2.2 i.toNat (dflt TI))) a0 v.1 v.2.1) (fun v => ((List.length a0 : Int) - v.2.1).toNat) rfl ?_ ?_
        · exact pkStart
        rintro ⟨acc, (j : Int), _⟩ hJ
        have hJ : pkInv (pdG (List.getD a1.2.1 i.toNat (dflt .str)) (List.getD a1.2.2 i.toNat (dflt TI))) a0 acc j := hJ
        refine Vc.seq ?_
        refine Vc.seq ?_
        refine Vc.region hG rfl ?_ ?_
        · trivial
        refine Vc.cond rfl (fun h3 => ?_) (fun h3 => ?_)
        · skip
          have hm : j < (List.length a0 : Int) := of_decide_eq_true h3
          refine Vc.skip ?_
          refine Vc.seq ?_
          refine Vc.block ?_
          refine Vc.regionD mixed hG rfl (by kernel_rfl) ?_ ?_
          · exact ⟨pkRange hJ hm, hr, hrs, hP, pkLen2 hJ hm2⟩
          refine Vc.region hG rfl ?_ ?_
          · trivial
          refine ⟨rfl, ?_⟩
          exact pkYes (d := dflt TI) hJ hm hbm rfl
        · skip
          have hm : ¬ j < (List.length a0 : Int) := of_decide_eq_false h3
          refine Vc.exit ?_
          refine Vc.seq ?_
          refine Vc.region hG rfl ?_ ?_
          · exact l2
          refine Vc.region hG rfl ?_ ?_
          · exact l3
          refine Vc.seq ?_
          refine Vc.regionD mixed hG rfl (by kernel_rfl) ?_ ?_
          · exact ⟨trivial, l1⟩
          refine Vc.region hG rfl ?_ ?_
          · exact l4
          refine Vc.region hG rfl ?_ ?_
          · trivial
          refine ⟨rfl, ?_⟩
          first
            | exact rdYes hI hl hb g2 hJ hm rfl
            | exact rdNo hI hl hb g2 rfl
      · skip
        have g2 : hasNF a2 i = false := h2
        refine Vc.seq ?_
        refine Vc.regionD mixed hG rfl (by kernel_rfl) ?_ ?_
        · exact ⟨hr, l2⟩
        refine Vc.regionD mixed hG rfl (by kernel_rfl) ?_ ?_
        · exact ⟨hrs, l3⟩
        refine Vc.seq ?_
        refine Vc.regionD mixed hG rfl (by kernel_rfl) ?_ ?_
        · exact ⟨trivial, l1⟩
        refine Vc.region hG rfl ?_ ?_
        · exact l4
        refine Vc.region hG rfl ?_ ?_
        · trivial
        refine ⟨rfl, ?_⟩
        first
          | exact rdYes hI hl hb g2 hJ hm rfl
          | exact rdNo hI hl hb g2 rfl
    · skip
      have hl : ¬ i < (List.length a1.2.1 : Int) := of_decide_eq_false h1
      refine Vc.exit ?_
      refine Vc.seq ?_
      refine Vc.region hG rfl ?_ ?_
      · trivial
      refine Vc.ret ?_
      have e := rdEnd hI hl g0
      refine ⟨?_, ?_, trivial⟩
      · exact (congrArg Prod.fst e).symm
      · exact (congrArg Prod.snd e).symm
noncomputable def F24 : Fun := ⟨[.pair (.int .i64) Y55, .slice (.int .i64)], [.pair (.pure (.int .i64)) Z39, .pure (.bool)], fun x => (fun (x : Item) (_ : List Int) => Sm big20 Y56 x) x.1 x.2.1, fun x => ((redItemF x.1 x.2.1).1, (redItemF x.1 x.2.1).2, ())⟩
set_option maxRecDepth 100000 in
/-- loop.example.g00597.spec.RedactItem -/
theorem F24_ok : Meets Try.prog 24 F24 := by
  refine meets_of_vc (C := mkC 19 [4, 5] [0,1,2,4,5,6,7] [⟨85, _, F85_ok⟩, ⟨84, _, F84_ok⟩]) (mkC_ok _ _ _ _) (fnOf_ok _) Try.func24 rfl rfl rfl (by decide) rfl ?_
  rintro ⟨a0, a1, _⟩ hwf hpre ⟨P, C, B, X, w0, M0, pv⟩ hG rfl rfl
  show Vc _ _ [(0, ⟨0, 0, .c Z57 a0⟩), (1, ⟨0, 0, .c Z2 a1⟩)] _
  have hp : Sm big20 Y56 a0 := hpre
  refine Vc.seq ?_
  refine Vc.region hG rfl ?_ ?_
  · trivial
  refine Vc.seq ?_
  refine Vc.regionL mixed hG rfl (by kernel_rfl) ?_ ?_
  · exact ⟨hp, methodsLen hp⟩
  refine Vc.seq ?_
  refine Vc.region hG rfl ?_ ?_
  · trivial
  refine Vc.ret ?_
  refine ⟨?_, ?_, trivial⟩
  all_goals exact rfl
end Fw
