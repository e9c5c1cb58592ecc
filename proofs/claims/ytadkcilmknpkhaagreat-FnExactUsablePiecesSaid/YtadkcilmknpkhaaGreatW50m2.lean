/- Walks of functions of the program: what each computes. Conditions: those that each contract names. -/
import Derived.Test.YtadkcilmknpkhaaGreatW50T
namespace Fw
open Go Go.Proofs
set_option linter.unusedSimpArgs false
noncomputable def F68 : Fun := ⟨[.slice (.int .i64), .int .i64], [.pure (.int .i64)], fun x => (fun a0 a1 => markPre (.slice (.int .i64)) a0 a1) x.1 x.2.1, fun x => ((fun a0 a1 => heldF (.slice (.int .i64)) a0 a1) x.1 x.2.1, ())⟩
set_option maxRecDepth 100000 in
set_option maxHeartbeats 6000000 in
/-- loop.example.g00597.laws.heldIntS -/
theorem F68_ok : Meets Tryz.prog 68 F68 := by
  refine meets_of_vc (C := mkC 21 [4] [0,1,4,5,9,17] []) (mkC_ok _ _ _ _) (fnOf_ok _) Tryz.func68 rfl rfl rfl (by decide) rfl ?_
  rintro ⟨a0, (a1 : Int), _⟩ hwf hpre ⟨P, C, B, X, w0, M0, pv⟩ hG rfl rfl
  show Vc _ _ [(0, ⟨0, 0, .c (.pure (.slice (.int .i64))) a0⟩), (1, ⟨0, 0, .c (.pure (.int .i64)) a1⟩)] _
  have hb : List.length a0 ≤ bigLen := hwf.1.1
  have hp0 : 0 ≤ a1 := hpre.1
  have hp1 : a1 + ((cellsL (cellsC (.int .i64)) a0 : Nat) : Int) ≤ bnd := hpre.2
  refine Vc.seq ?_
  refine Vc.region hG rfl ?_ ?_
  · trivial
  refine Vc.seq ?_
  refine Vc.seq ?_
  refine Vc.region hG rfl ?_ ?_
  · trivial
  refine Vc.block ?_
  -- slots [1, 5]; frame [0]
  refine Vc.loopF [(1, false, .pure (.int .i64)), (5, false, .pure (.int .i64))] [0] (fun v => hdInv (cellsC (.int .i64)) (okC (.int .i64)) a0 a1 v.1 v.2.1) (fun v => ((List.length a0 : Int) - v.2.1).toNat) rfl ?_ ?_
  · exact hdStart
  rintro ⟨(k : Int), (i : Int), _⟩ hI
  have hI : hdInv (cellsC (.int .i64)) (okC (.int .i64)) a0 a1 k i := hI
  refine Vc.seq ?_
  refine Vc.seq ?_
  refine Vc.region hG rfl ?_ ?_
  · trivial
  refine Vc.cond rfl (fun h0 => ?_) (fun h0 => ?_)
  · skip
    have hl : i < (List.length a0 : Int) := of_decide_eq_true h0
    have hk := hdBound hI hl (dflt (.int .i64)) hp0 hp1
    generalize hX : List.getD a0 i.toNat (dflt (.int .i64)) = X at hk
    have hk : 0 ≤ k ∧ k + ((1 : Nat) : Int) ≤ bnd := hk
    have w0 : IntKind.i64.wrap (k + 1) = k + 1 := wrapB (by omega) (by omega)
    refine Vc.skip ?_
    refine Vc.seq ?_
    refine Vc.block ?_
    refine Vc.seq ?_
    refine Vc.seq ?_
    refine Vc.region hG rfl ?_ ?_
    · exact hdRange hI hl
    refine Vc.cond rfl (fun h1 => ?_) (fun h1 => ?_)
    · skip
      have g1 : okC (.int .i64) X (k) = false := by
        have h : ((List.getD a0 i.toNat (dflt (.int .i64))) != k) = true := h1
        try simp only [hX, w0] at h
        exact ok_ne h
      refine Vc.seq ?_
      refine Vc.region hG rfl ?_ ?_
      · trivial
      refine Vc.ret ?_
      refine ⟨?_, trivial⟩
      refine hdNo hI hl (dflt (.int .i64)) ?_
      rw [hX]
      show okC (.int .i64) X (k) = false
      simp only [g1, Bool.and_false, Bool.false_and, Bool.and_true, Bool.true_and]
    · skip
      have g1 : okC (.int .i64) X (k) = true := by
        have h : ((List.getD a0 i.toNat (dflt (.int .i64))) != k) = false := h1
        try simp only [hX, w0] at h
        exact ok_eq h
      refine Vc.skip ?_
      refine Vc.region hG rfl ?_ ?_
      · trivial
      refine Vc.region hG rfl ?_ ?_
      · trivial
      refine ⟨rfl, ?_⟩
      refine hdStep hI hl hb (dflt (.int .i64)) ?_ ?_
      · rw [hX]
        show okC (.int .i64) X (k) = true
        simp only [g1, Bool.and_true]
      · show IntKind.i64.wrap (k + 1) = k + ((cellsC (.int .i64) (List.getD a0 i.toNat (dflt (.int .i64))) : Nat) : Int)
        rw [hX]
        show _ = k + ((1 : Nat) : Int)
        try simp only [hX, w0]
        try omega
  · skip
    have hl : ¬ i < (List.length a0 : Int) := of_decide_eq_false h0
    refine Vc.exit ?_
    refine Vc.seq ?_
    refine Vc.region hG rfl ?_ ?_
    · trivial
    refine Vc.ret ?_
    refine ⟨?_, trivial⟩
    exact hdEnd hI hl
noncomputable def F27 : Fun := ⟨[.slice (.pair (.int .i64) (.pair (.slice (.int .i64)) (.int .i64))), .int .i64], [.pure (.int .i64)], fun x => (fun a0 a1 => markPre (.slice (.pair (.int .i64) (.pair (.slice (.int .i64)) (.int .i64)))) a0 a1) x.1 x.2.1, fun x => ((fun a0 a1 => heldF (.slice (.pair (.int .i64) (.pair (.slice (.int .i64)) (.int .i64)))) a0 a1) x.1 x.2.1, ())⟩
set_option maxRecDepth 100000 in
set_option maxHeartbeats 6000000 in
/-- loop.example.g00597.laws.heldPieceS -/
theorem F27_ok : Meets Tryz.prog 27 F27 := by
  refine meets_of_vc (C := mkC 40 [4] [0,1,4,5,9,18,29,36] [⟨68, _, F68_ok⟩]) (mkC_ok _ _ _ _) (fnOf_ok _) Tryz.func27 rfl rfl rfl (by decide) rfl ?_
  rintro ⟨a0, (a1 : Int), _⟩ hwf hpre ⟨P, C, B, X, w0, M0, pv⟩ hG rfl rfl
  show Vc _ _ [(0, ⟨0, 0, .c (.pure (.slice (.pair (.int .i64) (.pair (.slice (.int .i64)) (.int .i64))))) a0⟩), (1, ⟨0, 0, .c (.pure (.int .i64)) a1⟩)] _
  have hb : List.length a0 ≤ bigLen := hwf.1.1
  have hp0 : 0 ≤ a1 := hpre.1
  have hp1 : a1 + ((cellsL (cellsC (.pair (.int .i64) (.pair (.slice (.int .i64)) (.int .i64)))) a0 : Nat) : Int) ≤ bnd := hpre.2
  refine Vc.seq ?_
  refine Vc.region hG rfl ?_ ?_
  · trivial
  refine Vc.seq ?_
  refine Vc.seq ?_
  refine Vc.region hG rfl ?_ ?_
  · trivial
  refine Vc.block ?_
  -- slots [1, 5]; frame [0]
  refine Vc.loopF [(1, false, .pure (.int .i64)), (5, false, .pure (.int .i64))] [0] (fun v => hdInv (cellsC (.pair (.int .i64) (.pair (.slice (.int .i64)) (.int .i64)))) (okC (.pair (.int .i64) (.pair (.slice (.int .i64)) (.int .i64)))) a0 a1 v.1 v.2.1) (fun v => ((List.length a0 : Int) - v.2.1).toNat) rfl ?_ ?_
  · exact hdStart
  rintro ⟨(k : Int), (i : Int), _⟩ hI
  have hI : hdInv (cellsC (.pair (.int .i64) (.pair (.slice (.int .i64)) (.int .i64)))) (okC (.pair (.int .i64) (.pair (.slice (.int .i64)) (.int .i64)))) a0 a1 k i := hI
  refine Vc.seq ?_
  refine Vc.seq ?_
  refine Vc.region hG rfl ?_ ?_
  · trivial
  refine Vc.cond rfl (fun h0 => ?_) (fun h0 => ?_)
  · skip
    have hl : i < (List.length a0 : Int) := of_decide_eq_true h0
    have hk := hdBound hI hl (dflt (.pair (.int .i64) (.pair (.slice (.int .i64)) (.int .i64)))) hp0 hp1
    generalize hX : List.getD a0 i.toNat (dflt (.pair (.int .i64) (.pair (.slice (.int .i64)) (.int .i64)))) = X at hk
    have hk : 0 ≤ k ∧ k + (((1 + ((cellsC (.slice (.int .i64)) X.2.1) + 1)) : Nat) : Int) ≤ bnd := hk
    have w0 : IntKind.i64.wrap (k + 1) = k + 1 := wrapB (by omega) (by omega)
    have w1 : IntKind.i64.wrap (k + 1 + ((cellsC (.slice (.int .i64)) X.2.1 : Nat) : Int) + 1) = k + 1 + ((cellsC (.slice (.int .i64)) X.2.1 : Nat) : Int) + 1 := wrapB (by omega) (by omega)
    refine Vc.skip ?_
    refine Vc.seq ?_
    refine Vc.block ?_
    refine Vc.seq ?_
    refine Vc.seq ?_
    refine Vc.region hG rfl ?_ ?_
    · exact hdRange hI hl
    refine Vc.cond rfl (fun h1 => ?_) (fun h1 => ?_)
    · skip
      have g1 : okC (.int .i64) X.1 (k) = false := by
        have h : ((List.getD a0 i.toNat (dflt (.pair (.int .i64) (.pair (.slice (.int .i64)) (.int .i64))))).1 != k) = true := h1
        try simp only [hX, w0, w1] at h
        exact ok_ne h
      refine Vc.seq ?_
      refine Vc.region hG rfl ?_ ?_
      · trivial
      refine Vc.ret ?_
      refine ⟨?_, trivial⟩
      refine hdNo hI hl (dflt (.pair (.int .i64) (.pair (.slice (.int .i64)) (.int .i64)))) ?_
      rw [hX]
      show (okC (.int .i64) X.1 (k) && (okC (.slice (.int .i64)) X.2.1 (k + 1) && okC (.int .i64) X.2.2 (k + 1 + ((cellsC (.slice (.int .i64)) X.2.1 : Nat) : Int)))) = false
      simp only [g1, Bool.and_false, Bool.false_and, Bool.and_true, Bool.true_and]
    · skip
      have g1 : okC (.int .i64) X.1 (k) = true := by
        have h : ((List.getD a0 i.toNat (dflt (.pair (.int .i64) (.pair (.slice (.int .i64)) (.int .i64))))).1 != k) = false := h1
        try simp only [hX, w0, w1] at h
        exact ok_eq h
      refine Vc.skip ?_
      refine Vc.seq ?_
      refine Vc.region hG rfl ?_ ?_
      · trivial
      refine Vc.seq ?_
      refine Vc.region hG rfl ?_ ?_
      · refine ⟨hdRange hI hl, ?_⟩
        show markPre (.slice (.int .i64)) (List.getD a0 i.toNat (dflt (.pair (.int .i64) (.pair (.slice (.int .i64)) (.int .i64))))).2.1 (IntKind.i64.wrap (k + 1))
        try simp only [hX, w0, w1]
        exact ⟨by omega, by omega⟩
      refine Vc.seq ?_
      refine Vc.seq ?_
      refine Vc.region hG rfl ?_ ?_
      · trivial
      refine Vc.cond rfl (fun h2 => ?_) (fun h2 => ?_)
      · skip
        have q2 : 0 ≤ k + 1 := by omega
        have g2 : okC (.slice (.int .i64)) X.2.1 (k + 1) = false := held_neg q2 (by
          have h : heldF (.slice (.int .i64)) (List.getD a0 i.toNat (dflt (.pair (.int .i64) (.pair (.slice (.int .i64)) (.int .i64))))).2.1 (IntKind.i64.wrap (k + 1)) < 0 := of_decide_eq_true h2
          try simp only [hX, w0, w1] at h
          exact h)
        refine Vc.seq ?_
        refine Vc.region hG rfl ?_ ?_
        · trivial
        refine Vc.ret ?_
        refine ⟨?_, trivial⟩
        refine hdNo hI hl (dflt (.pair (.int .i64) (.pair (.slice (.int .i64)) (.int .i64)))) ?_
        rw [hX]
        show (okC (.int .i64) X.1 (k) && (okC (.slice (.int .i64)) X.2.1 (k + 1) && okC (.int .i64) X.2.2 (k + 1 + ((cellsC (.slice (.int .i64)) X.2.1 : Nat) : Int)))) = false
        simp only [g1, g2, Bool.and_false, Bool.false_and, Bool.and_true, Bool.true_and]
      · skip
        have q2 : 0 ≤ k + 1 := by omega
        have n2 : ¬ heldF (.slice (.int .i64)) X.2.1 (k + 1) < 0 := by
          have h : ¬ heldF (.slice (.int .i64)) (List.getD a0 i.toNat (dflt (.pair (.int .i64) (.pair (.slice (.int .i64)) (.int .i64))))).2.1 (IntKind.i64.wrap (k + 1)) < 0 := of_decide_eq_false h2
          try simp only [hX, w0, w1] at h
          exact h
        have g2 : okC (.slice (.int .i64)) X.2.1 (k + 1) = true := held_pos n2
        have u2 : heldF (.slice (.int .i64)) X.2.1 (k + 1) = k + 1 + ((cellsC (.slice (.int .i64)) X.2.1 : Nat) : Int) := held_val n2
        refine Vc.skip ?_
        refine Vc.seq ?_
        refine Vc.seq ?_
        refine Vc.region hG rfl ?_ ?_
        · exact hdRange hI hl
        refine Vc.cond rfl (fun h3 => ?_) (fun h3 => ?_)
        · skip
          have g3 : okC (.int .i64) X.2.2 (k + 1 + ((cellsC (.slice (.int .i64)) X.2.1 : Nat) : Int)) = false := by
            have h : ((List.getD a0 i.toNat (dflt (.pair (.int .i64) (.pair (.slice (.int .i64)) (.int .i64))))).2.2 != heldF (.slice (.int .i64)) (List.getD a0 i.toNat (dflt (.pair (.int .i64) (.pair (.slice (.int .i64)) (.int .i64))))).2.1 (IntKind.i64.wrap (k + 1))) = true := h3
            try simp only [hX, w0, w1, u2] at h
            exact ok_ne h
          refine Vc.seq ?_
          refine Vc.region hG rfl ?_ ?_
          · trivial
          refine Vc.ret ?_
          refine ⟨?_, trivial⟩
          refine hdNo hI hl (dflt (.pair (.int .i64) (.pair (.slice (.int .i64)) (.int .i64)))) ?_
          rw [hX]
          show (okC (.int .i64) X.1 (k) && (okC (.slice (.int .i64)) X.2.1 (k + 1) && okC (.int .i64) X.2.2 (k + 1 + ((cellsC (.slice (.int .i64)) X.2.1 : Nat) : Int)))) = false
          simp only [g1, g2, g3, Bool.and_false, Bool.false_and, Bool.and_true, Bool.true_and]
        · skip
          have g3 : okC (.int .i64) X.2.2 (k + 1 + ((cellsC (.slice (.int .i64)) X.2.1 : Nat) : Int)) = true := by
            have h : ((List.getD a0 i.toNat (dflt (.pair (.int .i64) (.pair (.slice (.int .i64)) (.int .i64))))).2.2 != heldF (.slice (.int .i64)) (List.getD a0 i.toNat (dflt (.pair (.int .i64) (.pair (.slice (.int .i64)) (.int .i64))))).2.1 (IntKind.i64.wrap (k + 1))) = false := h3
            try simp only [hX, w0, w1, u2] at h
            exact ok_eq h
          refine Vc.skip ?_
          refine Vc.region hG rfl ?_ ?_
          · trivial
          refine Vc.region hG rfl ?_ ?_
          · trivial
          refine ⟨rfl, ?_⟩
          refine hdStep hI hl hb (dflt (.pair (.int .i64) (.pair (.slice (.int .i64)) (.int .i64)))) ?_ ?_
          · rw [hX]
            show (okC (.int .i64) X.1 (k) && (okC (.slice (.int .i64)) X.2.1 (k + 1) && okC (.int .i64) X.2.2 (k + 1 + ((cellsC (.slice (.int .i64)) X.2.1 : Nat) : Int)))) = true
            simp only [g1, g2, g3, Bool.and_true]
          · show IntKind.i64.wrap (heldF (.slice (.int .i64)) (List.getD a0 i.toNat (dflt (.pair (.int .i64) (.pair (.slice (.int .i64)) (.int .i64))))).2.1 (IntKind.i64.wrap (k + 1)) + 1) = k + ((cellsC (.pair (.int .i64) (.pair (.slice (.int .i64)) (.int .i64))) (List.getD a0 i.toNat (dflt (.pair (.int .i64) (.pair (.slice (.int .i64)) (.int .i64))))) : Nat) : Int)
            rw [hX]
            show _ = k + (((1 + ((cellsC (.slice (.int .i64)) X.2.1) + 1)) : Nat) : Int)
            try simp only [hX, w0, w1, u2]
            try omega
  · skip
    have hl : ¬ i < (List.length a0 : Int) := of_decide_eq_false h0
    refine Vc.exit ?_
    refine Vc.seq ?_
    refine Vc.region hG rfl ?_ ?_
    · trivial
    refine Vc.ret ?_
    refine ⟨?_, trivial⟩
    exact hdEnd hI hl
end Fw
