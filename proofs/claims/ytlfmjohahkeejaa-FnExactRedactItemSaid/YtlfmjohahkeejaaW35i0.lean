/- Walks of functions of the program: what each computes. Conditions: those that each contract names. -/
import Derived.Test.YtlfmjohahkeejaaW35T
namespace Fw
open Go Go.Proofs
set_option linter.unusedSimpArgs false
noncomputable def F150 : Fun := ⟨[.slice (.int .i64)], [.own (.pure (.int .i64))], fun x => (fun l => List.length l ≤ 4000000) x.1, fun x => (id x.1, ())⟩
set_option maxRecDepth 100000 in
/-- loop.example.g00597.impl.copyInts -/
theorem F150_ok : Meets Try.prog 150 F150 := by
  refine meets_of_vc (C := mkC 6 [2] [0,2] []) (mkC_ok _ _ _ _) (fnOf_ok _) Try.func150 rfl rfl rfl (by decide) rfl ?_
  rintro ⟨a0, _⟩ hwf hpre ⟨P, C, B, X, w0, M0, pv⟩ hG rfl rfl
  show Vc _ _ [(0, ⟨0, 0, .c Z2 a0⟩)] _
  have hp : List.length a0 ≤ 4000000 := hpre
  refine Vc.seq ?_
  refine Vc.region hG rfl ?_ ?_
  · trivial
  refine Vc.seq ?_
  refine Vc.region hG rfl ?_ ?_
  · exact appMore hp
  refine Vc.ret ?_
  refine ⟨?_, trivial⟩
  all_goals exact rfl
noncomputable def T153 : TFun := ⟨.own (.pure (.int .i64)), [.int .i64], .own (.pure (.int .i64)), fun x xs => (fun (l : List Int) (_ : Int) => List.length l ≤ 2000000) x xs.1, fun x xs => insF x xs.1⟩
set_option maxRecDepth 100000 in
/-- loop.example.g00597.impl.insertInt -/
theorem T153_ok : MeetsT Try.prog 153 T153 := by
  refine meetsT_of_vc (C := mkCM 44 [4] [0,1,4,5,17,31] [⟨150, _, F150_ok⟩] [] [] []) (mkCM_ok _ _ _ _ _ _ _) (fnOf_ok _) Try.func153 rfl rfl rfl (by decide) rfl rfl rfl rfl ?_ rfl
  rintro a0 ⟨(a1 : Int), _⟩ hwf0 hwf hpre ⟨P, C, B, X, w0, M0, pv⟩ hG rfl rfl
  show Vc _ _ [(0, ⟨0, 0, .c Z0 a0⟩), (1, ⟨0, 0, .c (.pure (.int .i64)) a1⟩)] _
  have hs : List.length a0 ≤ 2000000 := hpre
  refine Vc.seq ?_
  refine Vc.region hG rfl ?_ ?_
  · trivial
  refine Vc.seq ?_
  refine Vc.region hG rfl ?_ ?_
  · trivial
  refine Vc.seq ?_
  refine Vc.block ?_
  -- slots [5]; frame [0, 1, 4, 31]
  refine Vc.loopF [(5, false, .pure (.int .i64))] [0, 1, 4, 31] (fun v => ikInv a0 a1 v.1) (fun v => ((List.length a0 : Int) - v.1).toNat) rfl ?_ ?_
  · exact ikStart
  rintro ⟨(i : Int), _⟩ hI
  have hI : ikInv a0 a1 i := hI
  refine Vc.seq ?_
  refine Vc.seq ?_
  refine Vc.region hG rfl ?_ ?_
  · exact fun h => ikRange hI (of_decide_eq_true h)
  refine Vc.cond rfl (fun h0 => ?_) (fun h0 => ?_)
  · skip
    have g0 : pick2 (decide (i < (List.length a0 : Int))) (decide (List.getD a0 i.toNat (dflt TI) < a1)) false = true := h0
    refine Vc.skip ?_
    refine Vc.block ?_
    refine Vc.region hG rfl ?_ ?_
    · trivial
    refine ⟨rfl, ?_⟩
    exact ikStep hI hs g0
  · skip
    have g0 : pick2 (decide (i < (List.length a0 : Int))) (decide (List.getD a0 i.toNat (dflt TI) < a1)) false = false := h0
    have hk := ikEnd hI g0
    refine Vc.exit ?_
    refine Vc.seq ?_
    refine Vc.seq ?_
    refine Vc.region hG rfl ?_ ?_
    · exact fun h => ikRange hI (of_decide_eq_true h)
    refine Vc.cond rfl (fun h1 => ?_) (fun h1 => ?_)
    · skip
      have g1 : pick2 (decide (i < (List.length a0 : Int))) (List.getD a0 i.toNat (dflt TI) == a1) false = true := h1
      refine Vc.seq ?_
      refine Vc.region hG rfl ?_ ?_
      · trivial
      refine Vc.ret ?_
      refine ⟨?_, trivial⟩
      exact insYes hI hk g1
    · skip
      have g1 : pick2 (decide (i < (List.length a0 : Int))) (List.getD a0 i.toNat (dflt TI) == a1) false = false := h1
      refine Vc.skip ?_
      refine Vc.seq ?_
      refine Vc.regionD mixed hG rfl (by kernel_rfl) ?_ ?_
      · exact insConds hI hs
      refine Vc.ret ?_
      refine ⟨?_, trivial⟩
      exact insNo hI hk g1
noncomputable def F90 : Fun := ⟨[.pair (.int .i64) Y55], [.own (.pure (.int .i64))], fun x => Sm big20 Y56 x.1, fun x => (methodsF x.1, ())⟩
set_option maxRecDepth 100000 in
/-- loop.example.g00597.impl.MethodsOf -/
theorem F90_ok : Meets Try.prog 90 F90 := by
  refine meets_of_vc (C := mkCM 24 [2] [0,1,2,3,5,12,13,14,15] [] [] [⟨153, _, T153_ok⟩] []) (mkCM_ok _ _ _ _ _ _ _) (fnOf_ok _) Try.func90 rfl rfl rfl (by decide) rfl ?_
  rintro ⟨a0, _⟩ hwf hpre ⟨P, C, B, X, w0, M0, pv⟩ hG rfl rfl
  show Vc _ _ [(0, ⟨0, 0, .c Z57 a0⟩)] _
  have hs : List.length a0.2.2.2.2.2 ≤ 1048576 := hpre.2.2.2.2.2.1
  have hb : List.length a0.2.2.2.2.2 ≤ bigLen := hwf.1.2.2.2.2.2.1
  refine Vc.seq ?_
  refine Vc.region hG rfl ?_ ?_
  · trivial
  refine Vc.seq ?_
  refine Vc.region hG rfl ?_ ?_
  · trivial
  refine Vc.seq ?_
  refine Vc.seq ?_
  refine Vc.region hG rfl ?_ ?_
  · trivial
  refine Vc.block ?_
  -- slots [3, 14]; frame [0, 1, 2, 12, 13]
  refine Vc.loopF [(3, false, .own (.pure (.int .i64))), (14, false, .pure (.int .i64))] [0, 1, 2, 12, 13] (fun v => moInv a0 v.1 v.2.1) (fun v => ((List.length a0.2.2.2.2.2 : Int) - v.2.1).toNat) rfl ?_ ?_
  · exact moStart
  rintro ⟨acc, (i : Int), _⟩ hI
  have hI : moInv a0 acc i := hI
  refine Vc.seq ?_
  refine Vc.region hG rfl ?_ ?_
  · trivial
  refine Vc.seq ?_
  refine Vc.cond rfl (fun h0 => ?_) (fun h0 => ?_)
  · skip
    have hl : i < (List.length a0.2.2.2.2.2 : Int) := of_decide_eq_true h0
    refine Vc.skip ?_
    refine Vc.seq ?_
    refine Vc.block ?_
    refine Vc.seq ?_
    refine Vc.region hG rfl ?_ ?_
    · exact moRange hI hl
    refine Vc.region hG rfl ?_ ?_
    · exact moLen hI hs hl
    refine Vc.region hG rfl ?_ ?_
    · trivial
    refine ⟨rfl, ?_⟩
    exact moStep hI hl hb
  · skip
    have hl : ¬ i < (List.length a0.2.2.2.2.2 : Int) := of_decide_eq_false h0
    refine Vc.exit ?_
    refine Vc.seq ?_
    refine Vc.region hG rfl ?_ ?_
    · trivial
    refine Vc.ret ?_
    refine ⟨?_, trivial⟩
    exact moEnd hI hl
noncomputable def F120 : Fun := ⟨[.int .i64, .int .i64, .int .i64], [.pure (.bool)], fun _ => True, fun x => (inRangeF x.1 x.2.1 x.2.2.1, ())⟩
set_option maxRecDepth 100000 in
/-- loop.example.g00597.impl.InRange -/
theorem F120_ok : Meets Try.prog 120 F120 := by
  refine meets_of_vc (C := mkC 15 [6] [0,1,2,6] []) (mkC_ok _ _ _ _) (fnOf_ok _) Try.func120 rfl rfl rfl (by decide) rfl ?_
  rintro ⟨(a0 : Int), (a1 : Int), (a2 : Int), _⟩ hwf hpre ⟨P, C, B, X, w0, M0, pv⟩ hG rfl rfl
  show Vc _ _ [(0, ⟨0, 0, .c (.pure (.int .i64)) a0⟩), (1, ⟨0, 0, .c (.pure (.int .i64)) a1⟩), (2, ⟨0, 0, .c (.pure (.int .i64)) a2⟩)] _
  refine Vc.seq ?_
  refine Vc.region hG rfl ?_ ?_
  · trivial
  refine Vc.seq ?_
  refine Vc.region hG rfl ?_ ?_
  · trivial
  refine Vc.ret ?_
  refine ⟨?_, trivial⟩
  all_goals exact rfl
noncomputable def F149 : Fun := ⟨[.pair (.int .i64) Y10], [.pure (.bool)], fun _ => True, fun x => (docF x.1, ())⟩
set_option maxRecDepth 100000 in
/-- loop.example.g00597.impl.IsDocument -/
theorem F149_ok : Meets Try.prog 149 F149 := by
  refine meets_of_vc (C := mkC 46 [2] [0,1,2,3,4,24,26,27,28,29,44] [⟨120, _, F120_ok⟩]) (mkC_ok _ _ _ _) (fnOf_ok _) Try.func149 rfl rfl rfl (by decide) rfl ?_
  rintro ⟨a0, _⟩ hwf hpre ⟨P, C, B, X, w0, M0, pv⟩ hG rfl rfl
  show Vc _ _ [(0, ⟨0, 0, .c Z21 a0⟩)] _
  have hb0 : List.length a0.2.1 ≤ bigLen := hwf.1.2.1.1
  refine Vc.seq ?_
  refine Vc.region hG rfl ?_ ?_
  · trivial
  refine Vc.seq ?_
  refine Vc.seq ?_
  refine Vc.region hG rfl ?_ ?_
  · repeat' (first | exact trivial | refine And.intro ?_ ?_ | intro _)
  refine Vc.cond rfl (fun h0 => ?_) (fun h0 => ?_)
  · skip
    have g0 : pick2 (pick2 (!(inRangeF a0.1 0 999)) true (!(inRangeF (List.length a0.2.1 : Int) 1 6))) true ((List.length a0.2.2 : Int) != (List.length a0.2.1 : Int)) = true := h0
    refine Vc.seq ?_
    refine Vc.region hG rfl ?_ ?_
    · trivial
    refine Vc.ret ?_
    refine ⟨?_, trivial⟩
    refine boolC_no (P := docP a0) (fun h => ?_)
    exact noOr (noOr (nself h.1) (nself h.2.1)) (lenNe h.2.2.1) g0
  · skip
    have g0 : pick2 (pick2 (!(inRangeF a0.1 0 999)) true (!(inRangeF (List.length a0.2.1 : Int) 1 6))) true ((List.length a0.2.2 : Int) != (List.length a0.2.1 : Int)) = false := h0
    have f0 : inRangeF a0.1 0 999 = true ∧ inRangeF (List.length a0.2.1 : Int) 1 6 = true ∧ List.length a0.2.2 = List.length a0.2.1 := ⟨notF (orF (orF g0).1).1, notF (orF (orF g0).1).2, lenEq (orF g0).2⟩
    refine Vc.skip ?_
    refine Vc.seq ?_
    refine Vc.seq ?_
    refine Vc.region hG rfl ?_ ?_
    · trivial
    refine Vc.block ?_
    -- slots [28]; frame [0, 1, 24, 26, 27]
    refine Vc.loopF [(28, false, .pure (.int .i64))] [0, 1, 24, 26, 27] (fun v => kInv (fun k => (List.length (List.getD a0.2.1 k (dflt .str)) : Int) ≤ 40 ∧ inRangeF (List.getD a0.2.2 k (dflt (.int .i64))) 1 1000000000000 = true) a0.2.1 v.1) (fun v => ((List.length a0.2.1 : Int) - v.1).toNat) rfl ?_ ?_
    · exact kStart
    rintro ⟨(i : Int), _⟩ hI0
    have hI0 : kInv (fun k => (List.length (List.getD a0.2.1 k (dflt .str)) : Int) ≤ 40 ∧ inRangeF (List.getD a0.2.2 k (dflt (.int .i64))) 1 1000000000000 = true) a0.2.1 i := hI0
    refine Vc.seq ?_
    refine Vc.region hG rfl ?_ ?_
    · trivial
    refine Vc.seq ?_
    refine Vc.cond rfl (fun h1 => ?_) (fun h1 => ?_)
    · skip
      have hl0 : i < (List.length a0.2.1 : Int) := of_decide_eq_true h1
      refine Vc.skip ?_
      refine Vc.seq ?_
      refine Vc.block ?_
      refine Vc.seq ?_
      refine Vc.region hG rfl ?_ ?_
      · exact kRange hI0 hl0
      refine Vc.seq ?_
      refine Vc.region hG rfl ?_ ?_
      · exact ⟨fun _ => (show inRange i (List.length a0.2.2) from by rw [f0.2.2]; exact kRange hI0 hl0), fun _ => trivial⟩
      refine Vc.cond rfl (fun h2 => ?_) (fun h2 => ?_)
      · skip
        have g2 : pick2 (decide ((List.length (List.getD a0.2.1 i.toNat (dflt .str)) : Int) > 40)) true (!(inRangeF (List.getD a0.2.2 i.toNat (dflt (.int .i64))) 1 1000000000000)) = true := h2
        refine Vc.seq ?_
        refine Vc.region hG rfl ?_ ?_
        · trivial
        refine Vc.ret ?_
        refine ⟨?_, trivial⟩
        refine boolC_no (P := docP a0) (fun h => ?_)
        exact noOr (fun q => absurd (h.2.2.2.1 i.toNat (kLt hI0 hl0)) (Int.not_le.2 (of_decide_eq_true q))) (nself (h.2.2.2.2 i.toNat (by rw [h.2.2.1]; exact kLt hI0 hl0))) g2
      · skip
        have g2 : pick2 (decide ((List.length (List.getD a0.2.1 i.toNat (dflt .str)) : Int) > 40)) true (!(inRangeF (List.getD a0.2.2 i.toNat (dflt (.int .i64))) 1 1000000000000)) = false := h2
        have s0 : (fun k => (List.length (List.getD a0.2.1 k (dflt .str)) : Int) ≤ 40 ∧ inRangeF (List.getD a0.2.2 k (dflt (.int .i64))) 1 1000000000000 = true) i.toNat := ⟨Int.not_lt.1 (of_decide_eq_false (orF g2).1), notF (orF g2).2⟩
        refine Vc.skip ?_
        refine Vc.region hG rfl ?_ ?_
        · trivial
        refine ⟨rfl, ?_⟩
        exact kStep hI0 hl0 hb0 s0
    · skip
      have hl0 : ¬ i < (List.length a0.2.1 : Int) := of_decide_eq_false h1
      refine Vc.exit ?_
      refine Vc.seq ?_
      refine Vc.region hG rfl ?_ ?_
      · trivial
      refine Vc.ret ?_
      refine ⟨?_, trivial⟩
      exact boolC_yes (P := docP a0) ⟨f0.1, f0.2.1, f0.2.2, fun k hk => (kEnd hI0 hl0 k hk).1, fun k hk => (kEnd hI0 hl0 k (by rw [← f0.2.2]; exact hk)).2⟩
noncomputable def F175 : Fun := ⟨[.slice (.int .i64), .int .i64], [.pure (.int .i64)], fun _ => True, fun x => ((fun a0 a1 => findI (fun y => y == a1) a0) x.1 x.2.1, ())⟩
set_option maxRecDepth 100000 in
/-- loop.example.g00597.impl.indexOf -/
theorem F175_ok : Meets Try.prog 175 F175 := by
  refine meets_of_vc (C := mkC 19 [4] [0,1,4,5,6,7,8,9,10,16] []) (mkC_ok _ _ _ _) (fnOf_ok _) Try.func175 rfl rfl rfl (by decide) rfl ?_
  rintro ⟨a0, (a1 : Int), _⟩ hwf hpre ⟨P, C, B, X, w0, M0, pv⟩ hG rfl rfl
  show Vc _ _ [(0, ⟨0, 0, .c Z2 a0⟩), (1, ⟨0, 0, .c (.pure (.int .i64)) a1⟩)] _
  have hb : List.length a0 ≤ bigLen := hwf.1.1
  refine Vc.seq ?_
  refine Vc.region hG rfl ?_ ?_
  · trivial
  refine Vc.seq ?_
  refine Vc.seq ?_
  refine Vc.region hG rfl ?_ ?_
  · trivial
  refine Vc.block ?_
  -- slots [9]; frame [0, 1, 7, 8]
  refine Vc.loopF [(9, false, .pure (.int .i64))] [0, 1, 7, 8] (fun v => fInv (fun y => y == a1) a0 v.1) (fun v => ((List.length a0 : Int) - v.1).toNat) rfl ?_ ?_
  · exact fStart
  rintro ⟨(i : Int), _⟩ hI
  have hI : fInv (fun y => y == a1) a0 i := hI
  refine Vc.seq ?_
  refine Vc.region hG rfl ?_ ?_
  · trivial
  refine Vc.seq ?_
  refine Vc.cond rfl (fun h0 => ?_) (fun h0 => ?_)
  · skip
    have hl : i < (List.length a0 : Int) := of_decide_eq_true h0
    refine Vc.skip ?_
    refine Vc.seq ?_
    refine Vc.block ?_
    refine Vc.seq ?_
    refine Vc.region hG rfl ?_ ?_
    · exact fRange hI hl
    refine Vc.seq ?_
    refine Vc.region hG rfl ?_ ?_
    · trivial
    refine Vc.cond rfl (fun h1 => ?_) (fun h1 => ?_)
    · skip
      have g1 : (fun y => y == a1) (List.getD a0 i.toNat (dflt (.int .i64))) = true := h1
      refine Vc.seq ?_
      refine Vc.region hG rfl ?_ ?_
      · trivial
      refine Vc.ret ?_
      refine ⟨?_, trivial⟩
      exact fHit hI hl g1
    · skip
      have g1 : (fun y => y == a1) (List.getD a0 i.toNat (dflt (.int .i64))) = false := h1
      refine Vc.skip ?_
      refine Vc.region hG rfl ?_ ?_
      · trivial
      refine ⟨rfl, ?_⟩
      exact fStep hI hl hb g1
  · skip
    have hl : ¬ i < (List.length a0 : Int) := of_decide_eq_false h0
    refine Vc.exit ?_
    refine Vc.seq ?_
    refine Vc.region hG rfl ?_ ?_
    · trivial
    refine Vc.ret ?_
    refine ⟨?_, trivial⟩
    exact fEnd hI hl
noncomputable def F151 : Fun := ⟨[.slice (.int .i64), .int .i64], [.pure (.bool)], fun _ => True, fun x => (hasNF x.1 x.2.1, ())⟩
set_option maxRecDepth 100000 in
/-- loop.example.g00597.impl.hasInt -/
theorem F151_ok : Meets Try.prog 151 F151 := by
  refine meets_of_vc (C := mkC 9 [4] [0,1,4] [⟨175, _, F175_ok⟩]) (mkC_ok _ _ _ _) (fnOf_ok _) Try.func151 rfl rfl rfl (by decide) rfl ?_
  rintro ⟨a0, (a1 : Int), _⟩ hwf hpre ⟨P, C, B, X, w0, M0, pv⟩ hG rfl rfl
  show Vc _ _ [(0, ⟨0, 0, .c Z2 a0⟩), (1, ⟨0, 0, .c (.pure (.int .i64)) a1⟩)] _
  refine Vc.seq ?_
  refine Vc.region hG rfl ?_ ?_
  · trivial
  refine Vc.seq ?_
  refine Vc.region hG rfl ?_ ?_
  · trivial
  refine Vc.ret ?_
  refine ⟨?_, trivial⟩
  exact idxHas a0 a1
noncomputable def F177 : Fun := ⟨[.slice (.int .u8)], [.own (.pure (.int .i64))], fun x => (fun (l : List Int) => l.length ≤ 40) x.1, fun x => (bytesF x.1, ())⟩
set_option maxRecDepth 100000 in
/-- loop.example.g00597.impl.bytesOf -/
theorem F177_ok : Meets Try.prog 177 F177 := by
  refine meets_of_vc (C := mkC 19 [2] [0,2,3,5,6,7,8,9] []) (mkC_ok _ _ _ _) (fnOf_ok _) Try.func177 rfl rfl rfl (by decide) rfl ?_
  rintro ⟨a0, _⟩ hwf hpre ⟨P, C, B, X, w0, M0, pv⟩ hG rfl rfl
  show Vc _ _ [(0, ⟨0, 0, .c (.pure (.slice (.int .u8))) a0⟩)] _
  have hp : List.length a0 ≤ 40 := hpre
  have hb : List.length a0 ≤ bigLen := hwf.1.1
  refine Vc.seq ?_
  refine Vc.region hG rfl ?_ ?_
  · trivial
  refine Vc.seq ?_
  refine Vc.region hG rfl ?_ ?_
  · trivial
  refine Vc.seq ?_
  refine Vc.seq ?_
  refine Vc.region hG rfl ?_ ?_
  · trivial
  refine Vc.block ?_
  -- slots [3, 8]; frame [0, 2, 6, 7]
  refine Vc.loopF [(3, false, .own (.pure (.int .i64))), (8, false, .pure (.int .i64))] [0, 2, 6, 7] (fun v => gsInv (byteG a0) [] a0 v.1 v.2.1) (fun v => ((List.length a0 : Int) - v.2.1).toNat) rfl ?_ ?_
  · exact gsStart
  rintro ⟨acc, (i : Int), _⟩ hI
  have hI : gsInv (byteG a0) [] a0 acc i := hI
  have hA : List.length acc ≤ 40 := gsLen (c := 1) (m := 40) hI (fun _ => Nat.le_refl _) hp (by simp)
  refine Vc.seq ?_
  refine Vc.region hG rfl ?_ ?_
  · trivial
  refine Vc.seq ?_
  refine Vc.cond rfl (fun h0 => ?_) (fun h0 => ?_)
  · skip
    have hl : i < (List.length a0 : Int) := of_decide_eq_true h0
    refine Vc.skip ?_
    refine Vc.seq ?_
    refine Vc.block ?_
    refine Vc.seq ?_
    refine Vc.region hG rfl ?_ ?_
    · exact gsRange hI hl
    refine Vc.region hG rfl ?_ ?_
    · exact (show List.length acc + 1 ≤ maxApp from by unfold maxApp; omega)
    refine Vc.region hG rfl ?_ ?_
    · trivial
    refine ⟨rfl, ?_⟩
    exact gsStep hI hl hb rfl
  · skip
    have hl : ¬ i < (List.length a0 : Int) := of_decide_eq_false h0
    refine Vc.exit ?_
    refine Vc.seq ?_
    refine Vc.region hG rfl ?_ ?_
    · trivial
    refine Vc.ret ?_
    refine ⟨?_, trivial⟩
    exact gsEnd hI hl
noncomputable def F203 : Fun := ⟨[.int .i64, .int .i64], [.pure (.int .i64)], fun _ => True, fun x => (modF x.1 x.2.1, ())⟩
set_option maxRecDepth 100000 in
/-- loop.example.g00597.impl.Mod -/
theorem F203_ok : Meets Try.prog 203 F203 := by
  refine meets_of_vc (C := mkC 15 [4] [0,1,4,7] [⟨120, _, F120_ok⟩]) (mkC_ok _ _ _ _) (fnOf_ok _) Try.func203 rfl rfl rfl (by decide) rfl ?_
  rintro ⟨(a0 : Int), (a1 : Int), _⟩ hwf hpre ⟨P, C, B, X, w0, M0, pv⟩ hG rfl rfl
  show Vc _ _ [(0, ⟨0, 0, .c (.pure (.int .i64)) a0⟩), (1, ⟨0, 0, .c (.pure (.int .i64)) a1⟩)] _
  refine Vc.seq ?_
  refine Vc.region hG rfl ?_ ?_
  · trivial
  refine Vc.seq ?_
  refine Vc.seq ?_
  refine Vc.region hG rfl ?_ ?_
  · trivial
  refine Vc.cond rfl (fun h0 => ?_) (fun h0 => ?_)
  · skip
    have g0 : (!(inRangeF a1 1 1000000000000)) = true := h0
    refine Vc.seq ?_
    refine Vc.region hG rfl ?_ ?_
    · trivial
    refine Vc.ret ?_
    refine ⟨?_, trivial⟩
    show (0 : Int) = modF a0 a1
    unfold modF
    rw [if_neg (by simpa using g0)]
  · skip
    have g0 : (!(inRangeF a1 1 1000000000000)) = false := h0
    refine Vc.skip ?_
    refine Vc.seq ?_
    refine Vc.region hG rfl ?_ ?_
    · exact ⟨inR_pos h0, inR_pos h0⟩
    refine Vc.ret ?_
    refine ⟨?_, trivial⟩
    show _ = modF a0 a1
    unfold modF
    rw [if_pos (by simpa using g0)]
noncomputable def F189 : Fun := ⟨[.slice (.int .i64)], [.pure (.int .i64)], fun _ => True, fun x => (hashF x.1, ())⟩
set_option maxRecDepth 100000 in
/-- loop.example.g00597.impl.Hash -/
theorem F189_ok : Meets Try.prog 189 F189 := by
  refine meets_of_vc (C := mkC 21 [2] [0,2,3,5,6,7,8,9] [⟨203, _, F203_ok⟩]) (mkC_ok _ _ _ _) (fnOf_ok _) Try.func189 rfl rfl rfl (by decide) rfl ?_
  rintro ⟨a0, _⟩ hwf hpre ⟨P, C, B, X, w0, M0, pv⟩ hG rfl rfl
  show Vc _ _ [(0, ⟨0, 0, .c Z2 a0⟩)] _
  have hb : List.length a0 ≤ bigLen := hwf.1.1
  refine Vc.seq ?_
  refine Vc.region hG rfl ?_ ?_
  · trivial
  refine Vc.seq ?_
  refine Vc.region hG rfl ?_ ?_
  · trivial
  refine Vc.seq ?_
  refine Vc.seq ?_
  refine Vc.region hG rfl ?_ ?_
  · trivial
  refine Vc.block ?_
  -- slots [3, 8]; frame [0, 2, 6, 7]
  refine Vc.loopF [(3, false, .pure (.int .i64)), (8, false, .pure (.int .i64))] [0, 2, 6, 7] (fun v => foInv (hstep) (11) a0 v.1 v.2.1) (fun v => ((List.length a0 : Int) - v.2.1).toNat) rfl ?_ ?_
  · exact foStart
  rintro ⟨acc, (i : Int), _⟩ hI
  have hI : foInv (hstep) (11) a0 acc i := hI
  refine Vc.seq ?_
  refine Vc.region hG rfl ?_ ?_
  · trivial
  refine Vc.seq ?_
  refine Vc.cond rfl (fun h0 => ?_) (fun h0 => ?_)
  · skip
    have hl : i < (List.length a0 : Int) := of_decide_eq_true h0
    refine Vc.skip ?_
    refine Vc.seq ?_
    refine Vc.block ?_
    refine Vc.seq ?_
    refine Vc.region hG rfl ?_ ?_
    · exact foRange hI hl
    refine Vc.region hG rfl ?_ ?_
    · exact ⟨trivial, (show (2147483647 : Int) ≠ 0 by decide)⟩
    refine Vc.region hG rfl ?_ ?_
    · trivial
    refine ⟨rfl, ?_⟩
    exact foStep hI hl hb
  · skip
    have hl : ¬ i < (List.length a0 : Int) := of_decide_eq_false h0
    refine Vc.exit ?_
    refine Vc.seq ?_
    refine Vc.region hG rfl ?_ ?_
    · trivial
    refine Vc.ret ?_
    refine ⟨?_, trivial⟩
    exact foEnd hI hl
noncomputable def F176 : Fun := ⟨[.int .i64, .slice (.int .i64)], [.pure (.int .i64)], fun x => (fun (_ : Int) (l : List Int) => smallL l) x.1 x.2.1, fun x => (digestF x.1 x.2.1, ())⟩
set_option maxRecDepth 100000 in
/-- loop.example.g00597.impl.DigestOf -/
theorem F176_ok : Meets Try.prog 176 F176 := by
  refine meets_of_vc (C := mkC 10 [4] [0,1,4] [⟨189, _, F189_ok⟩]) (mkC_ok _ _ _ _) (fnOf_ok _) Try.func176 rfl rfl rfl (by decide) rfl ?_
  rintro ⟨(a0 : Int), a1, _⟩ hwf hpre ⟨P, C, B, X, w0, M0, pv⟩ hG rfl rfl
  show Vc _ _ [(0, ⟨0, 0, .c (.pure (.int .i64)) a0⟩), (1, ⟨0, 0, .c Z2 a1⟩)] _
  have hp : List.length a1 ≤ 1000000000 := hpre
  refine Vc.seq ?_
  refine Vc.region hG rfl ?_ ?_
  · trivial
  refine Vc.seq ?_
  refine Vc.region hG rfl ?_ ?_
  · refine ⟨?_, trivial⟩
    show 2 + List.length a1 ≤ maxApp
    unfold maxApp; omega
  refine Vc.ret ?_
  refine ⟨?_, trivial⟩
  exact (digest_eq a0 a1).symm
noncomputable def F152 : Fun := ⟨[.int .i64, .str, .int .i64], [.pure (.int .i64)], fun x => (fun (_ : Int) (s : List UInt8) (_ : Int) => s.length ≤ 40) x.1 x.2.1 x.2.2.1, fun x => (partF x.1 x.2.1 x.2.2.1, ())⟩
set_option maxRecDepth 100000 in
/-- loop.example.g00597.impl.PartDigest -/
theorem F152_ok : Meets Try.prog 152 F152 := by
  refine meets_of_vc (C := mkC 15 [6] [0,1,2,6] [⟨177, _, F177_ok⟩, ⟨176, _, F176_ok⟩]) (mkC_ok _ _ _ _) (fnOf_ok _) Try.func152 rfl rfl rfl (by decide) rfl ?_
  rintro ⟨(a0 : Int), a1, (a2 : Int), _⟩ hwf hpre ⟨P, C, B, X, w0, M0, pv⟩ hG rfl rfl
  show Vc _ _ [(0, ⟨0, 0, .c (.pure (.int .i64)) a0⟩), (1, ⟨0, 0, .c (.pure (.str)) a1⟩), (2, ⟨0, 0, .c (.pure (.int .i64)) a2⟩)] _
  have hp : List.length a1 ≤ 40 := hpre
  have hq : List.length (bytesF (bytesOf a1)) = List.length a1 := bytesLen a1
  have hq2 : List.length (bytesOf a1) = List.length a1 := List.length_map _
  refine Vc.seq ?_
  refine Vc.region hG rfl ?_ ?_
  · trivial
  refine Vc.seq ?_
  refine Vc.region hG rfl ?_ ?_
  · exact ⟨(show List.length a1 ≤ maxNew from by unfold maxNew; omega), (show List.length (bytesOf a1) ≤ 40 from by omega), (show 1 + List.length (bytesF (bytesOf a1)) ≤ maxApp from by unfold maxApp; omega), (show List.length ([a2] ++ bytesF (bytesOf a1)) ≤ 1000000000 from by rw [List.length_append, hq]; simp; omega)⟩
  refine Vc.ret ?_
  refine ⟨?_, trivial⟩
  exact congrArg (fun l => digestF a0 ([a2] ++ l)) (bytesEq a1)
noncomputable def F89 : Fun := ⟨[.slice (.int .i64), .pair (.int .i64) Y10, .slice (.int .i64)], [.pair (.pure (.int .i64)) Z39, .pure (.bool)], fun x => (fun (l : List Int) (_ : Doc) (_ : List Int) => List.length l ≤ 2000000) x.1 x.2.1 x.2.2.1, fun x => ((redF x.1 x.2.1 x.2.2.1).1, (redF x.1 x.2.1 x.2.2.1).2, ())⟩
set_option maxRecDepth 100000 in
/-- loop.example.g00597.impl.RedactDocument -/
theorem F89_ok : Meets Try.prog 89 F89 := by
  refine meets_of_vc (C := mkC 83 [6, 7] [0,1,2,4,6,7,8,9,10,11,12,13,15,18,26,27,28,29,41,42,43,44,45] [⟨149, _, F149_ok⟩, ⟨150, _, F150_ok⟩, ⟨151, _, F151_ok⟩, ⟨152, _, F152_ok⟩]) (mkC_ok _ _ _ _) (fnOf_ok _) Try.func89 rfl rfl rfl (by decide) rfl ?_
  rintro ⟨a0, a1, a2, _⟩ hwf hpre ⟨P, C, B, X, w0, M0, pv⟩ hG rfl rfl
  show Vc _ _ [(0, ⟨0, 0, .c Z2 a0⟩), (1, ⟨0, 0, .c Z21 a1⟩), (2, ⟨0, 0, .c Z2 a2⟩)] _
  have hm2 : List.length a0 ≤ 2000000 := hpre
  have hb : List.length a1.2.1 ≤ bigLen := hwf.2.1.2.1.1
  have hbm : List.length a0 ≤ bigLen := hwf.1.1
  refine Vc.seq ?_
  refine Vc.region hG rfl ?_ ?_
  · trivial
  refine Vc.seq ?_
  refine Vc.seq ?_
  refine Vc.region hG rfl ?_ ?_
  · trivial
  refine Vc.cond rfl (fun h0 => ?_) (fun h0 => ?_)
  · skip
    have g0 : (!(docF a1)) = true := h0
    refine Vc.seq ?_
    refine Vc.region hG rfl ?_ ?_
    · trivial
    refine Vc.ret ?_
    have e := rdBad (methods := a0) (hide := a2) g0
    refine ⟨?_, ?_, trivial⟩
    · exact (congrArg Prod.fst e).symm
    · exact (congrArg Prod.snd e).symm
  · skip
    have g0 : (!(docF a1)) = false := h0
    obtain ⟨d6, dS, dP⟩ := rdDoc g0
    refine Vc.skip ?_
    refine Vc.seq ?_
    refine Vc.regionD mixed hG rfl (by kernel_rfl) ?_ ?_
    · exact Nat.le_trans hm2 (by decide)
    refine Vc.seq ?_
    refine Vc.seq ?_
    refine Vc.region hG rfl ?_ ?_
    · trivial
    refine Vc.block ?_
    -- slots [8, 28]; frame [0, 1, 2, 4, 6, 7, 18, 26, 27]
    refine Vc.loopF [(8, true, .pair (.pure (.int .i64)) Z39), (28, false, .pure (.int .i64))] [0, 1, 2, 4, 6, 7, 18, 26, 27] (fun v => rdInv a0 a1 a2 v.1 v.2.1) (fun v => ((List.length a1.2.1 : Int) - v.2.1).toNat) rfl ?_ ?_
    · exact rdStart
    rintro ⟨r, (i : Int), _⟩ hI
    have hI : rdInv a0 a1 a2 r i := hI
    refine Vc.seq ?_
    refine Vc.region hG rfl ?_ ?_
    · trivial
    refine Vc.seq ?_
    refine Vc.cond rfl (fun h1 => ?_) (fun h1 => ?_)
    · skip
      have hl : i < (List.length a1.2.1 : Int) := of_decide_eq_true h1
      obtain ⟨l1, l2, l3, l4⟩ := rdLen hI hl d6
      have hr := upRange hI.1 hl
      have hrs : inRange i (List.length a1.2.2) := by rw [dS]; exact hr
      have hP : List.length (List.getD a1.2.1 i.toNat (dflt .str)) ≤ 40 := dP _ (by have := hr.1; have := hr.2; omega)
      refine Vc.skip ?_
      refine Vc.seq ?_
      refine Vc.block ?_
      refine Vc.seq ?_
      refine Vc.region hG rfl ?_ ?_
      · exact hr
      refine Vc.seq ?_
      refine Vc.region hG rfl ?_ ?_
      · exact hrs
      refine Vc.seq ?_
      refine Vc.region hG rfl ?_ ?_
      · trivial
      refine Vc.seq ?_
      refine Vc.region hG rfl ?_ ?_
      · trivial
      refine Vc.seq ?_
      refine Vc.seq ?_
      refine Vc.region hG rfl ?_ ?_
      · trivial
      refine Vc.cond rfl (fun h2 => ?_) (fun h2 => ?_)
      · skip
        have g2 : hasNF a2 i = true := h2
        refine Vc.seq ?_
        refine Vc.seq ?_
        refine Vc.region hG rfl ?_ ?_
        · trivial
        refine Vc.block ?_
        -- slots [12, 44]; frame [0, 1, 2, 4, 6, 7, 8, 9, 10, 11, 13, 18, 26, 27, 28, 29, 41, 42, 43]
        refine Vc.loopF [(12, false, .own (.pure (.int .i64))), (44, false, .pure (.int .i64))] [0, 1, 2, 4, 6, 7, 8, 9, 10, 11, 13, 18, 26, 27, 28, 29, 41, 42, 43] (fun v => pkInv (pdG (List.getD a1.2.1 i.toNat (dflt .str)) (List.getD a1.2.2 i.toNat (dflt TI))) a0 v.1 v.2.1) (fun v => ((List.length a0 : Int) - v.2.1).toNat) rfl ?_ ?_
        · exact pkStart
        rintro ⟨acc, (j : Int), _⟩ hJ
        have hJ : pkInv (pdG (List.getD a1.2.1 i.toNat (dflt .str)) (List.getD a1.2.2 i.toNat (dflt TI))) a0 acc j := hJ
        refine Vc.seq ?_
        refine Vc.region hG rfl ?_ ?_
        · trivial
        refine Vc.seq ?_
        refine Vc.cond rfl (fun h3 => ?_) (fun h3 => ?_)
        · skip
          have hm : j < (List.length a0 : Int) := of_decide_eq_true h3
          refine Vc.skip ?_
          refine Vc.seq ?_
          refine Vc.block ?_
          refine Vc.seq ?_
          refine Vc.region hG rfl ?_ ?_
          · exact pkRange hJ hm
          refine Vc.region hG rfl ?_ ?_
          · exact ⟨hP, pkLen2 hJ hm2⟩
          refine Vc.region hG rfl ?_ ?_
          · trivial
          refine ⟨rfl, ?_⟩
          exact pkYes (d := dflt TI) hJ hm hbm rfl
        · skip
          have hm : ¬ j < (List.length a0 : Int) := of_decide_eq_false h3
          refine Vc.exit ?_
          refine Vc.region hG rfl ?_ ?_
          · trivial
          refine Vc.seq ?_
          refine Vc.region hG rfl ?_ ?_
          · exact l1
          refine Vc.seq ?_
          refine Vc.region hG rfl ?_ ?_
          · exact l2
          refine Vc.seq ?_
          refine Vc.region hG rfl ?_ ?_
          · exact l3
          refine Vc.region hG rfl ?_ ?_
          · exact l4
          refine Vc.region hG rfl ?_ ?_
          · trivial
          refine ⟨rfl, ?_⟩
          first
            | exact rdYes hI hl hb g2 hJ hm rfl
            | exact rdNo hI hl hb g2 rfl
      · skip
        have g2 : hasNF a2 i = false := h2
        refine Vc.skip ?_
        refine Vc.seq ?_
        refine Vc.region hG rfl ?_ ?_
        · exact l1
        refine Vc.seq ?_
        refine Vc.region hG rfl ?_ ?_
        · exact l2
        refine Vc.seq ?_
        refine Vc.region hG rfl ?_ ?_
        · exact l3
        refine Vc.region hG rfl ?_ ?_
        · exact l4
        refine Vc.region hG rfl ?_ ?_
        · trivial
        refine ⟨rfl, ?_⟩
        first
          | exact rdYes hI hl hb g2 hJ hm rfl
          | exact rdNo hI hl hb g2 rfl
    · skip
      have hl : ¬ i < (List.length a1.2.1 : Int) := of_decide_eq_false h1
      refine Vc.exit ?_
      refine Vc.seq ?_
      refine Vc.region hG rfl ?_ ?_
      · trivial
      refine Vc.ret ?_
      have e := rdEnd hI hl g0
      refine ⟨?_, ?_, trivial⟩
      · exact (congrArg Prod.fst e).symm
      · exact (congrArg Prod.snd e).symm
noncomputable def F27 : Fun := ⟨[.pair (.int .i64) Y55, .slice (.int .i64)], [.pair (.pure (.int .i64)) Z39, .pure (.bool)], fun x => (fun (x : Item) (_ : List Int) => Sm big20 Y56 x) x.1 x.2.1, fun x => ((redItemF x.1 x.2.1).1, (redItemF x.1 x.2.1).2, ())⟩
set_option maxRecDepth 100000 in
/-- loop.example.g00597.impl.RedactItem -/
theorem F27_ok : Meets Try.prog 27 F27 := by
  refine meets_of_vc (C := mkC 14 [4, 5] [0,1,2,4,5] [⟨90, _, F90_ok⟩, ⟨89, _, F89_ok⟩]) (mkC_ok _ _ _ _) (fnOf_ok _) Try.func27 rfl rfl rfl (by decide) rfl ?_
  rintro ⟨a0, a1, _⟩ hwf hpre ⟨P, C, B, X, w0, M0, pv⟩ hG rfl rfl
  show Vc _ _ [(0, ⟨0, 0, .c Z57 a0⟩), (1, ⟨0, 0, .c Z2 a1⟩)] _
  have hp : Sm big20 Y56 a0 := hpre
  refine Vc.seq ?_
  refine Vc.region hG rfl ?_ ?_
  · trivial
  refine Vc.seq ?_
  refine Vc.regionL mixed hG rfl (by kernel_rfl) ?_ ?_
  · exact ⟨hp, methodsLen hp⟩
  refine Vc.ret ?_
  refine ⟨?_, ?_, trivial⟩
  all_goals exact rfl
end Fw
