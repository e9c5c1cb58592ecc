/- Walks of functions of the program: what each computes. Conditions: those that each contract names. -/
import Derived.Test.YtlfmjohahkeejaaGreatW46T
import Derived.Test.YtlfmjohahkeejaaGreatW46m1
namespace Fw
open Go Go.Proofs
set_option linter.unusedSimpArgs false
noncomputable def F99 : Fun := ⟨[.slice (.str), .int .i64], [.pure (.int .i64)], fun x => (fun a0 a1 => markPre (.slice (.str)) a0 a1) x.1 x.2.1, fun x => ((fun a0 a1 => heldF (.slice (.str)) a0 a1) x.1 x.2.1, ())⟩
set_option maxRecDepth 100000 in
set_option maxHeartbeats 6000000 in
/-- loop.example.g00597.laws.heldStringS -/
theorem F99_ok : Meets Tryz.prog 99 F99 := by
  refine meets_of_vc (C := mkC 22 [4] [0,1,4,5,9,18] [⟨132, _, F132_ok⟩]) (mkC_ok _ _ _ _) (fnOf_ok _) Tryz.func99 rfl rfl rfl (by decide) rfl ?_
  rintro ⟨a0, (a1 : Int), _⟩ hwf hpre ⟨P, C, B, X, w0, M0, pv⟩ hG rfl rfl
  show Vc _ _ [(0, ⟨0, 0, .c (.pure (.slice (.str))) a0⟩), (1, ⟨0, 0, .c (.pure (.int .i64)) a1⟩)] _
  have hb : List.length a0 ≤ bigLen := hwf.1.1
  have hp0 : 0 ≤ a1 := hpre.1
  have hp1 : a1 + ((cellsL (cellsC (.str)) a0 : Nat) : Int) ≤ bnd := hpre.2
  refine Vc.seq ?_
  refine Vc.region hG rfl ?_ ?_
  · trivial
  refine Vc.seq ?_
  refine Vc.seq ?_
  refine Vc.region hG rfl ?_ ?_
  · trivial
  refine Vc.block ?_
  -- slots [1, 5]; frame [0]
  refine Vc.loopF [(1, false, .pure (.int .i64)), (5, false, .pure (.int .i64))] [0] (fun v => hdInv (cellsC (.str)) (okC (.str)) a0 a1 v.1 v.2.1) (fun v => ((List.length a0 : Int) - v.2.1).toNat) rfl ?_ ?_
  · exact hdStart
  rintro ⟨(k : Int), (i : Int), _⟩ hI
  have hI : hdInv (cellsC (.str)) (okC (.str)) a0 a1 k i := hI
  refine Vc.seq ?_
  refine Vc.seq ?_
  refine Vc.region hG rfl ?_ ?_
  · trivial
  refine Vc.cond rfl (fun h0 => ?_) (fun h0 => ?_)
  · skip
    have hl : i < (List.length a0 : Int) := of_decide_eq_true h0
    have hk := hdBound hI hl (dflt (.str)) hp0 hp1
    generalize hX : List.getD a0 i.toNat (dflt (.str)) = X at hk
    have hk : 0 ≤ k ∧ k + ((1 : Nat) : Int) ≤ bnd := hk
    have w0 : IntKind.i64.wrap (k + 1) = k + 1 := wrapB (by omega) (by omega)
    refine Vc.skip ?_
    refine Vc.seq ?_
    refine Vc.block ?_
    refine Vc.seq ?_
    refine Vc.seq ?_
    refine Vc.regionD mixed hG rfl (by kernel_rfl) ?_ ?_
    · exact ⟨hdRange hI hl, trivial⟩
    refine Vc.cond rfl (fun h1 => ?_) (fun h1 => ?_)
    · skip
      have g1 : okC (.str) X (k) = false := by
        have h : ((List.getD a0 i.toNat (dflt (.str))) != textF (k)) = true := h1
        try simp only [hX, w0] at h
        exact ok_ne h
      refine Vc.seq ?_
      refine Vc.region hG rfl ?_ ?_
      · trivial
      refine Vc.ret ?_
      refine ⟨?_, trivial⟩
      refine hdNo hI hl (dflt (.str)) ?_
      rw [hX]
      show okC (.str) X (k) = false
      simp only [g1, Bool.and_false, Bool.false_and, Bool.and_true, Bool.true_and]
    · skip
      have g1 : okC (.str) X (k) = true := by
        have h : ((List.getD a0 i.toNat (dflt (.str))) != textF (k)) = false := h1
        try simp only [hX, w0] at h
        exact ok_eq h
      refine Vc.skip ?_
      refine Vc.region hG rfl ?_ ?_
      · trivial
      refine Vc.region hG rfl ?_ ?_
      · trivial
      refine ⟨rfl, ?_⟩
      refine hdStep hI hl hb (dflt (.str)) ?_ ?_
      · rw [hX]
        show okC (.str) X (k) = true
        simp only [g1, Bool.and_true]
      · show IntKind.i64.wrap (k + 1) = k + ((cellsC (.str) (List.getD a0 i.toNat (dflt (.str))) : Nat) : Int)
        rw [hX]
        show _ = k + ((1 : Nat) : Int)
        try simp only [hX, w0]
        try omega
  · skip
    have hl : ¬ i < (List.length a0 : Int) := of_decide_eq_false h0
    refine Vc.exit ?_
    refine Vc.seq ?_
    refine Vc.region hG rfl ?_ ?_
    · trivial
    refine Vc.ret ?_
    refine ⟨?_, trivial⟩
    exact hdEnd hI hl
noncomputable def F100 : Fun := ⟨[.slice (.int .i64), .int .i64], [.pure (.int .i64)], fun x => (fun a0 a1 => markPre (.slice (.int .i64)) a0 a1) x.1 x.2.1, fun x => ((fun a0 a1 => heldF (.slice (.int .i64)) a0 a1) x.1 x.2.1, ())⟩
set_option maxRecDepth 100000 in
set_option maxHeartbeats 6000000 in
/-- loop.example.g00597.laws.heldIntS -/
theorem F100_ok : Meets Tryz.prog 100 F100 := by
  refine meets_of_vc (C := mkC 21 [4] [0,1,4,5,9,17] []) (mkC_ok _ _ _ _) (fnOf_ok _) Tryz.func100 rfl rfl rfl (by decide) rfl ?_
  rintro ⟨a0, (a1 : Int), _⟩ hwf hpre ⟨P, C, B, X, w0, M0, pv⟩ hG rfl rfl
  show Vc _ _ [(0, ⟨0, 0, .c (.pure (.slice (.int .i64))) a0⟩), (1, ⟨0, 0, .c (.pure (.int .i64)) a1⟩)] _
  have hb : List.length a0 ≤ bigLen := hwf.1.1
  have hp0 : 0 ≤ a1 := hpre.1
  have hp1 : a1 + ((cellsL (cellsC (.int .i64)) a0 : Nat) : Int) ≤ bnd := hpre.2
  refine Vc.seq ?_
  refine Vc.region hG rfl ?_ ?_
  · trivial
  refine Vc.seq ?_
  refine Vc.seq ?_
  refine Vc.region hG rfl ?_ ?_
  · trivial
  refine Vc.block ?_
  -- slots [1, 5]; frame [0]
  refine Vc.loopF [(1, false, .pure (.int .i64)), (5, false, .pure (.int .i64))] [0] (fun v => hdInv (cellsC (.int .i64)) (okC (.int .i64)) a0 a1 v.1 v.2.1) (fun v => ((List.length a0 : Int) - v.2.1).toNat) rfl ?_ ?_
  · exact hdStart
  rintro ⟨(k : Int), (i : Int), _⟩ hI
  have hI : hdInv (cellsC (.int .i64)) (okC (.int .i64)) a0 a1 k i := hI
  refine Vc.seq ?_
  refine Vc.seq ?_
  refine Vc.region hG rfl ?_ ?_
  · trivial
  refine Vc.cond rfl (fun h0 => ?_) (fun h0 => ?_)
  · skip
    have hl : i < (List.length a0 : Int) := of_decide_eq_true h0
    have hk := hdBound hI hl (dflt (.int .i64)) hp0 hp1
    generalize hX : List.getD a0 i.toNat (dflt (.int .i64)) = X at hk
    have hk : 0 ≤ k ∧ k + ((1 : Nat) : Int) ≤ bnd := hk
    have w0 : IntKind.i64.wrap (k + 1) = k + 1 := wrapB (by omega) (by omega)
    refine Vc.skip ?_
    refine Vc.seq ?_
    refine Vc.block ?_
    refine Vc.seq ?_
    refine Vc.seq ?_
    refine Vc.region hG rfl ?_ ?_
    · exact hdRange hI hl
    refine Vc.cond rfl (fun h1 => ?_) (fun h1 => ?_)
    · skip
      have g1 : okC (.int .i64) X (k) = false := by
        have h : ((List.getD a0 i.toNat (dflt (.int .i64))) != k) = true := h1
        try simp only [hX, w0] at h
        exact ok_ne h
      refine Vc.seq ?_
      refine Vc.region hG rfl ?_ ?_
      · trivial
      refine Vc.ret ?_
      refine ⟨?_, trivial⟩
      refine hdNo hI hl (dflt (.int .i64)) ?_
      rw [hX]
      show okC (.int .i64) X (k) = false
      simp only [g1, Bool.and_false, Bool.false_and, Bool.and_true, Bool.true_and]
    · skip
      have g1 : okC (.int .i64) X (k) = true := by
        have h : ((List.getD a0 i.toNat (dflt (.int .i64))) != k) = false := h1
        try simp only [hX, w0] at h
        exact ok_eq h
      refine Vc.skip ?_
      refine Vc.region hG rfl ?_ ?_
      · trivial
      refine Vc.region hG rfl ?_ ?_
      · trivial
      refine ⟨rfl, ?_⟩
      refine hdStep hI hl hb (dflt (.int .i64)) ?_ ?_
      · rw [hX]
        show okC (.int .i64) X (k) = true
        simp only [g1, Bool.and_true]
      · show IntKind.i64.wrap (k + 1) = k + ((cellsC (.int .i64) (List.getD a0 i.toNat (dflt (.int .i64))) : Nat) : Int)
        rw [hX]
        show _ = k + ((1 : Nat) : Int)
        try simp only [hX, w0]
        try omega
  · skip
    have hl : ¬ i < (List.length a0 : Int) := of_decide_eq_false h0
    refine Vc.exit ?_
    refine Vc.seq ?_
    refine Vc.region hG rfl ?_ ?_
    · trivial
    refine Vc.ret ?_
    refine ⟨?_, trivial⟩
    exact hdEnd hI hl
noncomputable def F101 : Fun := ⟨[.slice (.pair (.int .i64) (.pair (.slice (.int .i64)) (.int .i64))), .int .i64], [.pure (.int .i64)], fun x => (fun a0 a1 => markPre (.slice (.pair (.int .i64) (.pair (.slice (.int .i64)) (.int .i64)))) a0 a1) x.1 x.2.1, fun x => ((fun a0 a1 => heldF (.slice (.pair (.int .i64) (.pair (.slice (.int .i64)) (.int .i64)))) a0 a1) x.1 x.2.1, ())⟩
set_option maxRecDepth 100000 in
set_option maxHeartbeats 6000000 in
/-- loop.example.g00597.laws.heldPieceS -/
theorem F101_ok : Meets Tryz.prog 101 F101 := by
  refine meets_of_vc (C := mkC 40 [4] [0,1,4,5,9,18,29,36] [⟨100, _, F100_ok⟩]) (mkC_ok _ _ _ _) (fnOf_ok _) Tryz.func101 rfl rfl rfl (by decide) rfl ?_
  rintro ⟨a0, (a1 : Int), _⟩ hwf hpre ⟨P, C, B, X, w0, M0, pv⟩ hG rfl rfl
  show Vc _ _ [(0, ⟨0, 0, .c (.pure (.slice (.pair (.int .i64) (.pair (.slice (.int .i64)) (.int .i64))))) a0⟩), (1, ⟨0, 0, .c (.pure (.int .i64)) a1⟩)] _
  have hb : List.length a0 ≤ bigLen := hwf.1.1
  have hp0 : 0 ≤ a1 := hpre.1
  have hp1 : a1 + ((cellsL (cellsC (.pair (.int .i64) (.pair (.slice (.int .i64)) (.int .i64)))) a0 : Nat) : Int) ≤ bnd := hpre.2
  refine Vc.seq ?_
  refine Vc.region hG rfl ?_ ?_
  · trivial
  refine Vc.seq ?_
  refine Vc.seq ?_
  refine Vc.region hG rfl ?_ ?_
  · trivial
  refine Vc.block ?_
  -- slots [1, 5]; frame [0]
  refine Vc.loopF [(1, false, .pure (.int .i64)), (5, false, .pure (.int .i64))] [0] (fun v => hdInv (cellsC (.pair (.int .i64) (.pair (.slice (.int .i64)) (.int .i64)))) (okC (.pair (.int .i64) (.pair (.slice (.int .i64)) (.int .i64)))) a0 a1 v.1 v.2.1) (fun v => ((List.length a0 : Int) - v.2.1).toNat) rfl ?_ ?_
  · exact hdStart
  rintro ⟨(k : Int), (i : Int), _⟩ hI
  have hI : hdInv (cellsC (.pair (.int .i64) (.pair (.slice (.int .i64)) (.int .i64)))) (okC (.pair (.int .i64) (.pair (.slice (.int .i64)) (.int .i64)))) a0 a1 k i := hI
  refine Vc.seq ?_
  refine Vc.seq ?_
  refine Vc.region hG rfl ?_ ?_
  · trivial
  refine Vc.cond rfl (fun h0 => ?_) (fun h0 => ?_)
  · skip
    have hl : i < (List.length a0 : Int) := of_decide_eq_true h0
    have hk := hdBound hI hl (dflt (.pair (.int .i64) (.pair (.slice (.int .i64)) (.int .i64)))) hp0 hp1
    generalize hX : List.getD a0 i.toNat (dflt (.pair (.int .i64) (.pair (.slice (.int .i64)) (.int .i64)))) = X at hk
    have hk : 0 ≤ k ∧ k + (((1 + ((cellsC (.slice (.int .i64)) X.2.1) + 1)) : Nat) : Int) ≤ bnd := hk
    have w0 : IntKind.i64.wrap (k + 1) = k + 1 := wrapB (by omega) (by omega)
    have w1 : IntKind.i64.wrap (k + 1 + ((cellsC (.slice (.int .i64)) X.2.1 : Nat) : Int) + 1) = k + 1 + ((cellsC (.slice (.int .i64)) X.2.1 : Nat) : Int) + 1 := wrapB (by omega) (by omega)
    refine Vc.skip ?_
    refine Vc.seq ?_
    refine Vc.block ?_
    refine Vc.seq ?_
    refine Vc.seq ?_
    refine Vc.region hG rfl ?_ ?_
    · exact hdRange hI hl
    refine Vc.cond rfl (fun h1 => ?_) (fun h1 => ?_)
    · skip
      have g1 : okC (.int .i64) X.1 (k) = false := by
        have h : ((List.getD a0 i.toNat (dflt (.pair (.int .i64) (.pair (.slice (.int .i64)) (.int .i64))))).1 != k) = true := h1
        try simp only [hX, w0, w1] at h
        exact ok_ne h
      refine Vc.seq ?_
      refine Vc.region hG rfl ?_ ?_
      · trivial
      refine Vc.ret ?_
      refine ⟨?_, trivial⟩
      refine hdNo hI hl (dflt (.pair (.int .i64) (.pair (.slice (.int .i64)) (.int .i64)))) ?_
      rw [hX]
      show (okC (.int .i64) X.1 (k) && (okC (.slice (.int .i64)) X.2.1 (k + 1) && okC (.int .i64) X.2.2 (k + 1 + ((cellsC (.slice (.int .i64)) X.2.1 : Nat) : Int)))) = false
      simp only [g1, Bool.and_false, Bool.false_and, Bool.and_true, Bool.true_and]
    · skip
      have g1 : okC (.int .i64) X.1 (k) = true := by
        have h : ((List.getD a0 i.toNat (dflt (.pair (.int .i64) (.pair (.slice (.int .i64)) (.int .i64))))).1 != k) = false := h1
        try simp only [hX, w0, w1] at h
        exact ok_eq h
      refine Vc.skip ?_
      refine Vc.seq ?_
      refine Vc.region hG rfl ?_ ?_
      · trivial
      refine Vc.seq ?_
      refine Vc.region hG rfl ?_ ?_
      · refine ⟨hdRange hI hl, ?_⟩
        show markPre (.slice (.int .i64)) (List.getD a0 i.toNat (dflt (.pair (.int .i64) (.pair (.slice (.int .i64)) (.int .i64))))).2.1 (IntKind.i64.wrap (k + 1))
        try simp only [hX, w0, w1]
        exact ⟨by omega, by omega⟩
      refine Vc.seq ?_
      refine Vc.seq ?_
      refine Vc.region hG rfl ?_ ?_
      · trivial
      refine Vc.cond rfl (fun h2 => ?_) (fun h2 => ?_)
      · skip
        have q2 : 0 ≤ k + 1 := by omega
        have g2 : okC (.slice (.int .i64)) X.2.1 (k + 1) = false := held_neg q2 (by
          have h : heldF (.slice (.int .i64)) (List.getD a0 i.toNat (dflt (.pair (.int .i64) (.pair (.slice (.int .i64)) (.int .i64))))).2.1 (IntKind.i64.wrap (k + 1)) < 0 := of_decide_eq_true h2
          try simp only [hX, w0, w1] at h
          exact h)
        refine Vc.seq ?_
        refine Vc.region hG rfl ?_ ?_
        · trivial
        refine Vc.ret ?_
        refine ⟨?_, trivial⟩
        refine hdNo hI hl (dflt (.pair (.int .i64) (.pair (.slice (.int .i64)) (.int .i64)))) ?_
        rw [hX]
        show (okC (.int .i64) X.1 (k) && (okC (.slice (.int .i64)) X.2.1 (k + 1) && okC (.int .i64) X.2.2 (k + 1 + ((cellsC (.slice (.int .i64)) X.2.1 : Nat) : Int)))) = false
        simp only [g1, g2, Bool.and_false, Bool.false_and, Bool.and_true, Bool.true_and]
      · skip
        have q2 : 0 ≤ k + 1 := by omega
        have n2 : ¬ heldF (.slice (.int .i64)) X.2.1 (k + 1) < 0 := by
          have h : ¬ heldF (.slice (.int .i64)) (List.getD a0 i.toNat (dflt (.pair (.int .i64) (.pair (.slice (.int .i64)) (.int .i64))))).2.1 (IntKind.i64.wrap (k + 1)) < 0 := of_decide_eq_false h2
          try simp only [hX, w0, w1] at h
          exact h
        have g2 : okC (.slice (.int .i64)) X.2.1 (k + 1) = true := held_pos n2
        have u2 : heldF (.slice (.int .i64)) X.2.1 (k + 1) = k + 1 + ((cellsC (.slice (.int .i64)) X.2.1 : Nat) : Int) := held_val n2
        refine Vc.skip ?_
        refine Vc.seq ?_
        refine Vc.seq ?_
        refine Vc.region hG rfl ?_ ?_
        · exact hdRange hI hl
        refine Vc.cond rfl (fun h3 => ?_) (fun h3 => ?_)
        · skip
          have g3 : okC (.int .i64) X.2.2 (k + 1 + ((cellsC (.slice (.int .i64)) X.2.1 : Nat) : Int)) = false := by
            have h : ((List.getD a0 i.toNat (dflt (.pair (.int .i64) (.pair (.slice (.int .i64)) (.int .i64))))).2.2 != heldF (.slice (.int .i64)) (List.getD a0 i.toNat (dflt (.pair (.int .i64) (.pair (.slice (.int .i64)) (.int .i64))))).2.1 (IntKind.i64.wrap (k + 1))) = true := h3
            try simp only [hX, w0, w1, u2] at h
            exact ok_ne h
          refine Vc.seq ?_
          refine Vc.region hG rfl ?_ ?_
          · trivial
          refine Vc.ret ?_
          refine ⟨?_, trivial⟩
          refine hdNo hI hl (dflt (.pair (.int .i64) (.pair (.slice (.int .i64)) (.int .i64)))) ?_
          rw [hX]
          show (okC (.int .i64) X.1 (k) && (okC (.slice (.int .i64)) X.2.1 (k + 1) && okC (.int .i64) X.2.2 (k + 1 + ((cellsC (.slice (.int .i64)) X.2.1 : Nat) : Int)))) = false
          simp only [g1, g2, g3, Bool.and_false, Bool.false_and, Bool.and_true, Bool.true_and]
        · skip
          have g3 : okC (.int .i64) X.2.2 (k + 1 + ((cellsC (.slice (.int .i64)) X.2.1 : Nat) : Int)) = true := by
            have h : ((List.getD a0 i.toNat (dflt (.pair (.int .i64) (.pair (.slice (.int .i64)) (.int .i64))))).2.2 != heldF (.slice (.int .i64)) (List.getD a0 i.toNat (dflt (.pair (.int .i64) (.pair (.slice (.int .i64)) (.int .i64))))).2.1 (IntKind.i64.wrap (k + 1))) = false := h3
            try simp only [hX, w0, w1, u2] at h
            exact ok_eq h
          refine Vc.skip ?_
          refine Vc.region hG rfl ?_ ?_
          · trivial
          refine Vc.region hG rfl ?_ ?_
          · trivial
          refine ⟨rfl, ?_⟩
          refine hdStep hI hl hb (dflt (.pair (.int .i64) (.pair (.slice (.int .i64)) (.int .i64)))) ?_ ?_
          · rw [hX]
            show (okC (.int .i64) X.1 (k) && (okC (.slice (.int .i64)) X.2.1 (k + 1) && okC (.int .i64) X.2.2 (k + 1 + ((cellsC (.slice (.int .i64)) X.2.1 : Nat) : Int)))) = true
            simp only [g1, g2, g3, Bool.and_true]
          · show IntKind.i64.wrap (heldF (.slice (.int .i64)) (List.getD a0 i.toNat (dflt (.pair (.int .i64) (.pair (.slice (.int .i64)) (.int .i64))))).2.1 (IntKind.i64.wrap (k + 1)) + 1) = k + ((cellsC (.pair (.int .i64) (.pair (.slice (.int .i64)) (.int .i64))) (List.getD a0 i.toNat (dflt (.pair (.int .i64) (.pair (.slice (.int .i64)) (.int .i64))))) : Nat) : Int)
            rw [hX]
            show _ = k + (((1 + ((cellsC (.slice (.int .i64)) X.2.1) + 1)) : Nat) : Int)
            try simp only [hX, w0, w1, u2]
            try omega
  · skip
    have hl : ¬ i < (List.length a0 : Int) := of_decide_eq_false h0
    refine Vc.exit ?_
    refine Vc.seq ?_
    refine Vc.region hG rfl ?_ ?_
    · trivial
    refine Vc.ret ?_
    refine ⟨?_, trivial⟩
    exact hdEnd hI hl
noncomputable def F134 : Fun := ⟨[.slice (.pair (.int .i64) (.bool)), .int .i64], [.pure (.int .i64)], fun x => (fun a0 a1 => markPre (.slice (.pair (.int .i64) (.bool))) a0 a1) x.1 x.2.1, fun x => ((fun a0 a1 => heldF (.slice (.pair (.int .i64) (.bool))) a0 a1) x.1 x.2.1, ())⟩
set_option maxRecDepth 100000 in
set_option maxHeartbeats 6000000 in
/-- loop.example.g00597.laws.heldStepS -/
theorem F134_ok : Meets Tryz.prog 134 F134 := by
  refine meets_of_vc (C := mkC 33 [4] [0,1,4,5,9,18,29] []) (mkC_ok _ _ _ _) (fnOf_ok _) Tryz.func134 rfl rfl rfl (by decide) rfl ?_
  rintro ⟨a0, (a1 : Int), _⟩ hwf hpre ⟨P, C, B, X, w0, M0, pv⟩ hG rfl rfl
  show Vc _ _ [(0, ⟨0, 0, .c (.pure (.slice (.pair (.int .i64) (.bool)))) a0⟩), (1, ⟨0, 0, .c (.pure (.int .i64)) a1⟩)] _
  have hb : List.length a0 ≤ bigLen := hwf.1.1
  have hp0 : 0 ≤ a1 := hpre.1
  have hp1 : a1 + ((cellsL (cellsC (.pair (.int .i64) (.bool))) a0 : Nat) : Int) ≤ bnd := hpre.2
  refine Vc.seq ?_
  refine Vc.region hG rfl ?_ ?_
  · trivial
  refine Vc.seq ?_
  refine Vc.seq ?_
  refine Vc.region hG rfl ?_ ?_
  · trivial
  refine Vc.block ?_
  -- slots [1, 5]; frame [0]
  refine Vc.loopF [(1, false, .pure (.int .i64)), (5, false, .pure (.int .i64))] [0] (fun v => hdInv (cellsC (.pair (.int .i64) (.bool))) (okC (.pair (.int .i64) (.bool))) a0 a1 v.1 v.2.1) (fun v => ((List.length a0 : Int) - v.2.1).toNat) rfl ?_ ?_
  · exact hdStart
  rintro ⟨(k : Int), (i : Int), _⟩ hI
  have hI : hdInv (cellsC (.pair (.int .i64) (.bool))) (okC (.pair (.int .i64) (.bool))) a0 a1 k i := hI
  refine Vc.seq ?_
  refine Vc.seq ?_
  refine Vc.region hG rfl ?_ ?_
  · trivial
  refine Vc.cond rfl (fun h0 => ?_) (fun h0 => ?_)
  · skip
    have hl : i < (List.length a0 : Int) := of_decide_eq_true h0
    have hk := hdBound hI hl (dflt (.pair (.int .i64) (.bool))) hp0 hp1
    generalize hX : List.getD a0 i.toNat (dflt (.pair (.int .i64) (.bool))) = X at hk
    have hk : 0 ≤ k ∧ k + (((1 + 1) : Nat) : Int) ≤ bnd := hk
    have w0 : IntKind.i64.wrap (k + 1) = k + 1 := wrapB (by omega) (by omega)
    have w1 : IntKind.i64.wrap (k + 1 + 1) = k + 1 + 1 := wrapB (by omega) (by omega)
    refine Vc.skip ?_
    refine Vc.seq ?_
    refine Vc.block ?_
    refine Vc.seq ?_
    refine Vc.seq ?_
    refine Vc.region hG rfl ?_ ?_
    · exact hdRange hI hl
    refine Vc.cond rfl (fun h1 => ?_) (fun h1 => ?_)
    · skip
      have g1 : okC (.int .i64) X.1 (k) = false := by
        have h : ((List.getD a0 i.toNat (dflt (.pair (.int .i64) (.bool)))).1 != k) = true := h1
        try simp only [hX, w0, w1] at h
        exact ok_ne h
      refine Vc.seq ?_
      refine Vc.region hG rfl ?_ ?_
      · trivial
      refine Vc.ret ?_
      refine ⟨?_, trivial⟩
      refine hdNo hI hl (dflt (.pair (.int .i64) (.bool))) ?_
      rw [hX]
      show (okC (.int .i64) X.1 (k) && okC (.bool) X.2 (k + 1)) = false
      simp only [g1, Bool.and_false, Bool.false_and, Bool.and_true, Bool.true_and]
    · skip
      have g1 : okC (.int .i64) X.1 (k) = true := by
        have h : ((List.getD a0 i.toNat (dflt (.pair (.int .i64) (.bool)))).1 != k) = false := h1
        try simp only [hX, w0, w1] at h
        exact ok_eq h
      refine Vc.skip ?_
      refine Vc.seq ?_
      refine Vc.region hG rfl ?_ ?_
      · trivial
      refine Vc.seq ?_
      refine Vc.seq ?_
      refine Vc.region hG rfl ?_ ?_
      · exact ⟨hdRange hI hl, (show (3 : Int) ≠ 0 by decide)⟩
      refine Vc.cond rfl (fun h2 => ?_) (fun h2 => ?_)
      · skip
        have g2 : okC (.bool) X.2 (k + 1) = false := by
          have h : ((List.getD a0 i.toNat (dflt (.pair (.int .i64) (.bool)))).2 != ((IntKind.i64.wrap (k + 1)).tmod 3 == 0)) = true := h2
          try simp only [hX, w0, w1] at h
          exact ok_ne h
        refine Vc.seq ?_
        refine Vc.region hG rfl ?_ ?_
        · trivial
        refine Vc.ret ?_
        refine ⟨?_, trivial⟩
        refine hdNo hI hl (dflt (.pair (.int .i64) (.bool))) ?_
        rw [hX]
        show (okC (.int .i64) X.1 (k) && okC (.bool) X.2 (k + 1)) = false
        simp only [g1, g2, Bool.and_false, Bool.false_and, Bool.and_true, Bool.true_and]
      · skip
        have g2 : okC (.bool) X.2 (k + 1) = true := by
          have h : ((List.getD a0 i.toNat (dflt (.pair (.int .i64) (.bool)))).2 != ((IntKind.i64.wrap (k + 1)).tmod 3 == 0)) = false := h2
          try simp only [hX, w0, w1] at h
          exact ok_eq h
        refine Vc.skip ?_
        refine Vc.region hG rfl ?_ ?_
        · trivial
        refine Vc.region hG rfl ?_ ?_
        · trivial
        refine ⟨rfl, ?_⟩
        refine hdStep hI hl hb (dflt (.pair (.int .i64) (.bool))) ?_ ?_
        · rw [hX]
          show (okC (.int .i64) X.1 (k) && okC (.bool) X.2 (k + 1)) = true
          simp only [g1, g2, Bool.and_true]
        · show IntKind.i64.wrap (IntKind.i64.wrap (k + 1) + 1) = k + ((cellsC (.pair (.int .i64) (.bool)) (List.getD a0 i.toNat (dflt (.pair (.int .i64) (.bool)))) : Nat) : Int)
          rw [hX]
          show _ = k + (((1 + 1) : Nat) : Int)
          try simp only [hX, w0, w1]
          try omega
  · skip
    have hl : ¬ i < (List.length a0 : Int) := of_decide_eq_false h0
    refine Vc.exit ?_
    refine Vc.seq ?_
    refine Vc.region hG rfl ?_ ?_
    · trivial
    refine Vc.ret ?_
    refine ⟨?_, trivial⟩
    exact hdEnd hI hl
noncomputable def F135 : Fun := ⟨[.slice (.pair (.int .i64) (.pair (.int .i64) (.pair (.int .i64) (.pair (.int .i64) (.int .i64))))), .int .i64], [.pure (.int .i64)], fun x => (fun a0 a1 => markPre (.slice (.pair (.int .i64) (.pair (.int .i64) (.pair (.int .i64) (.pair (.int .i64) (.int .i64)))))) a0 a1) x.1 x.2.1, fun x => ((fun a0 a1 => heldF (.slice (.pair (.int .i64) (.pair (.int .i64) (.pair (.int .i64) (.pair (.int .i64) (.int .i64)))))) a0 a1) x.1 x.2.1, ())⟩
set_option maxRecDepth 100000 in
set_option maxHeartbeats 6000000 in
/-- loop.example.g00597.laws.heldStampS -/
theorem F135_ok : Meets Tryz.prog 135 F135 := by
  refine meets_of_vc (C := mkC 58 [4] [0,1,4,5,9,18,27,36,45,54] []) (mkC_ok _ _ _ _) (fnOf_ok _) Tryz.func135 rfl rfl rfl (by decide) rfl ?_
  rintro ⟨a0, (a1 : Int), _⟩ hwf hpre ⟨P, C, B, X, w0, M0, pv⟩ hG rfl rfl
  show Vc _ _ [(0, ⟨0, 0, .c (.pure (.slice (.pair (.int .i64) (.pair (.int .i64) (.pair (.int .i64) (.pair (.int .i64) (.int .i64))))))) a0⟩), (1, ⟨0, 0, .c (.pure (.int .i64)) a1⟩)] _
  have hb : List.length a0 ≤ bigLen := hwf.1.1
  have hp0 : 0 ≤ a1 := hpre.1
  have hp1 : a1 + ((cellsL (cellsC (.pair (.int .i64) (.pair (.int .i64) (.pair (.int .i64) (.pair (.int .i64) (.int .i64)))))) a0 : Nat) : Int) ≤ bnd := hpre.2
  refine Vc.seq ?_
  refine Vc.region hG rfl ?_ ?_
  · trivial
  refine Vc.seq ?_
  refine Vc.seq ?_
  refine Vc.region hG rfl ?_ ?_
  · trivial
  refine Vc.block ?_
  -- slots [1, 5]; frame [0]
  refine Vc.loopF [(1, false, .pure (.int .i64)), (5, false, .pure (.int .i64))] [0] (fun v => hdInv (cellsC (.pair (.int .i64) (.pair (.int .i64) (.pair (.int .i64) (.pair (.int .i64) (.int .i64)))))) (okC (.pair (.int .i64) (.pair (.int .i64) (.pair (.int .i64) (.pair (.int .i64) (.int .i64)))))) a0 a1 v.1 v.2.1) (fun v => ((List.length a0 : Int) - v.2.1).toNat) rfl ?_ ?_
  · exact hdStart
  rintro ⟨(k : Int), (i : Int), _⟩ hI
  have hI : hdInv (cellsC (.pair (.int .i64) (.pair (.int .i64) (.pair (.int .i64) (.pair (.int .i64) (.int .i64)))))) (okC (.pair (.int .i64) (.pair (.int .i64) (.pair (.int .i64) (.pair (.int .i64) (.int .i64)))))) a0 a1 k i := hI
  refine Vc.seq ?_
  refine Vc.seq ?_
  refine Vc.region hG rfl ?_ ?_
  · trivial
  refine Vc.cond rfl (fun h0 => ?_) (fun h0 => ?_)
  · skip
    have hl : i < (List.length a0 : Int) := of_decide_eq_true h0
    have hk := hdBound hI hl (dflt (.pair (.int .i64) (.pair (.int .i64) (.pair (.int .i64) (.pair (.int .i64) (.int .i64)))))) hp0 hp1
    generalize hX : List.getD a0 i.toNat (dflt (.pair (.int .i64) (.pair (.int .i64) (.pair (.int .i64) (.pair (.int .i64) (.int .i64)))))) = X at hk
    have hk : 0 ≤ k ∧ k + (((1 + (1 + (1 + (1 + 1)))) : Nat) : Int) ≤ bnd := hk
    have w0 : IntKind.i64.wrap (k + 1) = k + 1 := wrapB (by omega) (by omega)
    have w1 : IntKind.i64.wrap (k + 1 + 1) = k + 1 + 1 := wrapB (by omega) (by omega)
    have w2 : IntKind.i64.wrap (k + 1 + 1 + 1) = k + 1 + 1 + 1 := wrapB (by omega) (by omega)
    have w3 : IntKind.i64.wrap (k + 1 + 1 + 1 + 1) = k + 1 + 1 + 1 + 1 := wrapB (by omega) (by omega)
    have w4 : IntKind.i64.wrap (k + 1 + 1 + 1 + 1 + 1) = k + 1 + 1 + 1 + 1 + 1 := wrapB (by omega) (by omega)
    refine Vc.skip ?_
    refine Vc.seq ?_
    refine Vc.block ?_
    refine Vc.seq ?_
    refine Vc.seq ?_
    refine Vc.region hG rfl ?_ ?_
    · exact hdRange hI hl
    refine Vc.cond rfl (fun h1 => ?_) (fun h1 => ?_)
    · skip
      have g1 : okC (.int .i64) X.1 (k) = false := by
        have h : ((List.getD a0 i.toNat (dflt (.pair (.int .i64) (.pair (.int .i64) (.pair (.int .i64) (.pair (.int .i64) (.int .i64))))))).1 != k) = true := h1
        try simp only [hX, w0, w1, w2, w3, w4] at h
        exact ok_ne h
      refine Vc.seq ?_
      refine Vc.region hG rfl ?_ ?_
      · trivial
      refine Vc.ret ?_
      refine ⟨?_, trivial⟩
      refine hdNo hI hl (dflt (.pair (.int .i64) (.pair (.int .i64) (.pair (.int .i64) (.pair (.int .i64) (.int .i64)))))) ?_
      rw [hX]
      show (okC (.int .i64) X.1 (k) && (okC (.int .i64) X.2.1 (k + 1) && (okC (.int .i64) X.2.2.1 (k + 1 + 1) && (okC (.int .i64) X.2.2.2.1 (k + 1 + 1 + 1) && okC (.int .i64) X.2.2.2.2 (k + 1 + 1 + 1 + 1))))) = false
      simp only [g1, Bool.and_false, Bool.false_and, Bool.and_true, Bool.true_and]
    · skip
      have g1 : okC (.int .i64) X.1 (k) = true := by
        have h : ((List.getD a0 i.toNat (dflt (.pair (.int .i64) (.pair (.int .i64) (.pair (.int .i64) (.pair (.int .i64) (.int .i64))))))).1 != k) = false := h1
        try simp only [hX, w0, w1, w2, w3, w4] at h
        exact ok_eq h
      refine Vc.skip ?_
      refine Vc.seq ?_
      refine Vc.region hG rfl ?_ ?_
      · trivial
      refine Vc.seq ?_
      refine Vc.seq ?_
      refine Vc.region hG rfl ?_ ?_
      · exact hdRange hI hl
      refine Vc.cond rfl (fun h2 => ?_) (fun h2 => ?_)
      · skip
        have g2 : okC (.int .i64) X.2.1 (k + 1) = false := by
          have h : ((List.getD a0 i.toNat (dflt (.pair (.int .i64) (.pair (.int .i64) (.pair (.int .i64) (.pair (.int .i64) (.int .i64))))))).2.1 != IntKind.i64.wrap (k + 1)) = true := h2
          try simp only [hX, w0, w1, w2, w3, w4] at h
          exact ok_ne h
        refine Vc.seq ?_
        refine Vc.region hG rfl ?_ ?_
        · trivial
        refine Vc.ret ?_
        refine ⟨?_, trivial⟩
        refine hdNo hI hl (dflt (.pair (.int .i64) (.pair (.int .i64) (.pair (.int .i64) (.pair (.int .i64) (.int .i64)))))) ?_
        rw [hX]
        show (okC (.int .i64) X.1 (k) && (okC (.int .i64) X.2.1 (k + 1) && (okC (.int .i64) X.2.2.1 (k + 1 + 1) && (okC (.int .i64) X.2.2.2.1 (k + 1 + 1 + 1) && okC (.int .i64) X.2.2.2.2 (k + 1 + 1 + 1 + 1))))) = false
        simp only [g1, g2, Bool.and_false, Bool.false_and, Bool.and_true, Bool.true_and]
      · skip
        have g2 : okC (.int .i64) X.2.1 (k + 1) = true := by
          have h : ((List.getD a0 i.toNat (dflt (.pair (.int .i64) (.pair (.int .i64) (.pair (.int .i64) (.pair (.int .i64) (.int .i64))))))).2.1 != IntKind.i64.wrap (k + 1)) = false := h2
          try simp only [hX, w0, w1, w2, w3, w4] at h
          exact ok_eq h
        refine Vc.skip ?_
        refine Vc.seq ?_
        refine Vc.region hG rfl ?_ ?_
        · trivial
        refine Vc.seq ?_
        refine Vc.seq ?_
        refine Vc.region hG rfl ?_ ?_
        · exact hdRange hI hl
        refine Vc.cond rfl (fun h3 => ?_) (fun h3 => ?_)
        · skip
          have g3 : okC (.int .i64) X.2.2.1 (k + 1 + 1) = false := by
            have h : ((List.getD a0 i.toNat (dflt (.pair (.int .i64) (.pair (.int .i64) (.pair (.int .i64) (.pair (.int .i64) (.int .i64))))))).2.2.1 != IntKind.i64.wrap (IntKind.i64.wrap (k + 1) + 1)) = true := h3
            try simp only [hX, w0, w1, w2, w3, w4] at h
            exact ok_ne h
          refine Vc.seq ?_
          refine Vc.region hG rfl ?_ ?_
          · trivial
          refine Vc.ret ?_
          refine ⟨?_, trivial⟩
          refine hdNo hI hl (dflt (.pair (.int .i64) (.pair (.int .i64) (.pair (.int .i64) (.pair (.int .i64) (.int .i64)))))) ?_
          rw [hX]
          show (okC (.int .i64) X.1 (k) && (okC (.int .i64) X.2.1 (k + 1) && (okC (.int .i64) X.2.2.1 (k + 1 + 1) && (okC (.int .i64) X.2.2.2.1 (k + 1 + 1 + 1) && okC (.int .i64) X.2.2.2.2 (k + 1 + 1 + 1 + 1))))) = false
          simp only [g1, g2, g3, Bool.and_false, Bool.false_and, Bool.and_true, Bool.true_and]
        · skip
          have g3 : okC (.int .i64) X.2.2.1 (k + 1 + 1) = true := by
            have h : ((List.getD a0 i.toNat (dflt (.pair (.int .i64) (.pair (.int .i64) (.pair (.int .i64) (.pair (.int .i64) (.int .i64))))))).2.2.1 != IntKind.i64.wrap (IntKind.i64.wrap (k + 1) + 1)) = false := h3
            try simp only [hX, w0, w1, w2, w3, w4] at h
            exact ok_eq h
          refine Vc.skip ?_
          refine Vc.seq ?_
          refine Vc.region hG rfl ?_ ?_
          · trivial
          refine Vc.seq ?_
          refine Vc.seq ?_
          refine Vc.region hG rfl ?_ ?_
          · exact hdRange hI hl
          refine Vc.cond rfl (fun h4 => ?_) (fun h4 => ?_)
          · skip
            have g4 : okC (.int .i64) X.2.2.2.1 (k + 1 + 1 + 1) = false := by
              have h : ((List.getD a0 i.toNat (dflt (.pair (.int .i64) (.pair (.int .i64) (.pair (.int .i64) (.pair (.int .i64) (.int .i64))))))).2.2.2.1 != IntKind.i64.wrap (IntKind.i64.wrap (IntKind.i64.wrap (k + 1) + 1) + 1)) = true := h4
              try simp only [hX, w0, w1, w2, w3, w4] at h
              exact ok_ne h
            refine Vc.seq ?_
            refine Vc.region hG rfl ?_ ?_
            · trivial
            refine Vc.ret ?_
            refine ⟨?_, trivial⟩
            refine hdNo hI hl (dflt (.pair (.int .i64) (.pair (.int .i64) (.pair (.int .i64) (.pair (.int .i64) (.int .i64)))))) ?_
            rw [hX]
            show (okC (.int .i64) X.1 (k) && (okC (.int .i64) X.2.1 (k + 1) && (okC (.int .i64) X.2.2.1 (k + 1 + 1) && (okC (.int .i64) X.2.2.2.1 (k + 1 + 1 + 1) && okC (.int .i64) X.2.2.2.2 (k + 1 + 1 + 1 + 1))))) = false
            simp only [g1, g2, g3, g4, Bool.and_false, Bool.false_and, Bool.and_true, Bool.true_and]
          · skip
            have g4 : okC (.int .i64) X.2.2.2.1 (k + 1 + 1 + 1) = true := by
              have h : ((List.getD a0 i.toNat (dflt (.pair (.int .i64) (.pair (.int .i64) (.pair (.int .i64) (.pair (.int .i64) (.int .i64))))))).2.2.2.1 != IntKind.i64.wrap (IntKind.i64.wrap (IntKind.i64.wrap (k + 1) + 1) + 1)) = false := h4
              try simp only [hX, w0, w1, w2, w3, w4] at h
              exact ok_eq h
            refine Vc.skip ?_
            refine Vc.seq ?_
            refine Vc.region hG rfl ?_ ?_
            · trivial
            refine Vc.seq ?_
            refine Vc.seq ?_
            refine Vc.region hG rfl ?_ ?_
            · exact hdRange hI hl
            refine Vc.cond rfl (fun h5 => ?_) (fun h5 => ?_)
            · skip
              have g5 : okC (.int .i64) X.2.2.2.2 (k + 1 + 1 + 1 + 1) = false := by
                have h : ((List.getD a0 i.toNat (dflt (.pair (.int .i64) (.pair (.int .i64) (.pair (.int .i64) (.pair (.int .i64) (.int .i64))))))).2.2.2.2 != IntKind.i64.wrap (IntKind.i64.wrap (IntKind.i64.wrap (IntKind.i64.wrap (k + 1) + 1) + 1) + 1)) = true := h5
                try simp only [hX, w0, w1, w2, w3, w4] at h
                exact ok_ne h
              refine Vc.seq ?_
              refine Vc.region hG rfl ?_ ?_
              · trivial
              refine Vc.ret ?_
              refine ⟨?_, trivial⟩
              refine hdNo hI hl (dflt (.pair (.int .i64) (.pair (.int .i64) (.pair (.int .i64) (.pair (.int .i64) (.int .i64)))))) ?_
              rw [hX]
              show (okC (.int .i64) X.1 (k) && (okC (.int .i64) X.2.1 (k + 1) && (okC (.int .i64) X.2.2.1 (k + 1 + 1) && (okC (.int .i64) X.2.2.2.1 (k + 1 + 1 + 1) && okC (.int .i64) X.2.2.2.2 (k + 1 + 1 + 1 + 1))))) = false
              simp only [g1, g2, g3, g4, g5, Bool.and_false, Bool.false_and, Bool.and_true, Bool.true_and]
            · skip
              have g5 : okC (.int .i64) X.2.2.2.2 (k + 1 + 1 + 1 + 1) = true := by
                have h : ((List.getD a0 i.toNat (dflt (.pair (.int .i64) (.pair (.int .i64) (.pair (.int .i64) (.pair (.int .i64) (.int .i64))))))).2.2.2.2 != IntKind.i64.wrap (IntKind.i64.wrap (IntKind.i64.wrap (IntKind.i64.wrap (k + 1) + 1) + 1) + 1)) = false := h5
                try simp only [hX, w0, w1, w2, w3, w4] at h
                exact ok_eq h
              refine Vc.skip ?_
              refine Vc.region hG rfl ?_ ?_
              · trivial
              refine Vc.region hG rfl ?_ ?_
              · trivial
              refine ⟨rfl, ?_⟩
              refine hdStep hI hl hb (dflt (.pair (.int .i64) (.pair (.int .i64) (.pair (.int .i64) (.pair (.int .i64) (.int .i64)))))) ?_ ?_
              · rw [hX]
                show (okC (.int .i64) X.1 (k) && (okC (.int .i64) X.2.1 (k + 1) && (okC (.int .i64) X.2.2.1 (k + 1 + 1) && (okC (.int .i64) X.2.2.2.1 (k + 1 + 1 + 1) && okC (.int .i64) X.2.2.2.2 (k + 1 + 1 + 1 + 1))))) = true
                simp only [g1, g2, g3, g4, g5, Bool.and_true]
              · show IntKind.i64.wrap (IntKind.i64.wrap (IntKind.i64.wrap (IntKind.i64.wrap (IntKind.i64.wrap (k + 1) + 1) + 1) + 1) + 1) = k + ((cellsC (.pair (.int .i64) (.pair (.int .i64) (.pair (.int .i64) (.pair (.int .i64) (.int .i64))))) (List.getD a0 i.toNat (dflt (.pair (.int .i64) (.pair (.int .i64) (.pair (.int .i64) (.pair (.int .i64) (.int .i64))))))) : Nat) : Int)
                rw [hX]
                show _ = k + (((1 + (1 + (1 + (1 + 1)))) : Nat) : Int)
                try simp only [hX, w0, w1, w2, w3, w4]
                try omega
  · skip
    have hl : ¬ i < (List.length a0 : Int) := of_decide_eq_false h0
    refine Vc.exit ?_
    refine Vc.seq ?_
    refine Vc.region hG rfl ?_ ?_
    · trivial
    refine Vc.ret ?_
    refine ⟨?_, trivial⟩
    exact hdEnd hI hl
noncomputable def F102 : Fun := ⟨[.slice (.pair (.int .i64) (.pair (.int .i64) (.pair (.int .i64) (.pair (.slice (.pair (.int .i64) (.bool))) (.slice (.pair (.int .i64) (.pair (.int .i64) (.pair (.int .i64) (.pair (.int .i64) (.int .i64)))))))))), .int .i64], [.pure (.int .i64)], fun x => (fun a0 a1 => markPre (.slice (.pair (.int .i64) (.pair (.int .i64) (.pair (.int .i64) (.pair (.slice (.pair (.int .i64) (.bool))) (.slice (.pair (.int .i64) (.pair (.int .i64) (.pair (.int .i64) (.pair (.int .i64) (.int .i64))))))))))) a0 a1) x.1 x.2.1, fun x => ((fun a0 a1 => heldF (.slice (.pair (.int .i64) (.pair (.int .i64) (.pair (.int .i64) (.pair (.slice (.pair (.int .i64) (.bool))) (.slice (.pair (.int .i64) (.pair (.int .i64) (.pair (.int .i64) (.pair (.int .i64) (.int .i64))))))))))) a0 a1) x.1 x.2.1, ())⟩
set_option maxRecDepth 100000 in
set_option maxHeartbeats 6000000 in
/-- loop.example.g00597.laws.heldRenewalS -/
theorem F102_ok : Meets Tryz.prog 102 F102 := by
  refine meets_of_vc (C := mkC 58 [4] [0,1,4,5,9,18,27,36,47,56] [⟨134, _, F134_ok⟩, ⟨135, _, F135_ok⟩]) (mkC_ok _ _ _ _) (fnOf_ok _) Tryz.func102 rfl rfl rfl (by decide) rfl ?_
  rintro ⟨a0, (a1 : Int), _⟩ hwf hpre ⟨P, C, B, X, w0, M0, pv⟩ hG rfl rfl
  show Vc _ _ [(0, ⟨0, 0, .c (.pure (.slice (.pair (.int .i64) (.pair (.int .i64) (.pair (.int .i64) (.pair (.slice (.pair (.int .i64) (.bool))) (.slice (.pair (.int .i64) (.pair (.int .i64) (.pair (.int .i64) (.pair (.int .i64) (.int .i64)))))))))))) a0⟩), (1, ⟨0, 0, .c (.pure (.int .i64)) a1⟩)] _
  have hb : List.length a0 ≤ bigLen := hwf.1.1
  have hp0 : 0 ≤ a1 := hpre.1
  have hp1 : a1 + ((cellsL (cellsC (.pair (.int .i64) (.pair (.int .i64) (.pair (.int .i64) (.pair (.slice (.pair (.int .i64) (.bool))) (.slice (.pair (.int .i64) (.pair (.int .i64) (.pair (.int .i64) (.pair (.int .i64) (.int .i64))))))))))) a0 : Nat) : Int) ≤ bnd := hpre.2
  refine Vc.seq ?_
  refine Vc.region hG rfl ?_ ?_
  · trivial
  refine Vc.seq ?_
  refine Vc.seq ?_
  refine Vc.region hG rfl ?_ ?_
  · trivial
  refine Vc.block ?_
  -- slots [1, 5]; frame [0]
  refine Vc.loopF [(1, false, .pure (.int .i64)), (5, false, .pure (.int .i64))] [0] (fun v => hdInv (cellsC (.pair (.int .i64) (.pair (.int .i64) (.pair (.int .i64) (.pair (.slice (.pair (.int .i64) (.bool))) (.slice (.pair (.int .i64) (.pair (.int .i64) (.pair (.int .i64) (.pair (.int .i64) (.int .i64))))))))))) (okC (.pair (.int .i64) (.pair (.int .i64) (.pair (.int .i64) (.pair (.slice (.pair (.int .i64) (.bool))) (.slice (.pair (.int .i64) (.pair (.int .i64) (.pair (.int .i64) (.pair (.int .i64) (.int .i64))))))))))) a0 a1 v.1 v.2.1) (fun v => ((List.length a0 : Int) - v.2.1).toNat) rfl ?_ ?_
  · exact hdStart
  rintro ⟨(k : Int), (i : Int), _⟩ hI
  have hI : hdInv (cellsC (.pair (.int .i64) (.pair (.int .i64) (.pair (.int .i64) (.pair (.slice (.pair (.int .i64) (.bool))) (.slice (.pair (.int .i64) (.pair (.int .i64) (.pair (.int .i64) (.pair (.int .i64) (.int .i64))))))))))) (okC (.pair (.int .i64) (.pair (.int .i64) (.pair (.int .i64) (.pair (.slice (.pair (.int .i64) (.bool))) (.slice (.pair (.int .i64) (.pair (.int .i64) (.pair (.int .i64) (.pair (.int .i64) (.int .i64))))))))))) a0 a1 k i := hI
  refine Vc.seq ?_
  refine Vc.seq ?_
  refine Vc.region hG rfl ?_ ?_
  · trivial
  refine Vc.cond rfl (fun h0 => ?_) (fun h0 => ?_)
  · skip
    have hl : i < (List.length a0 : Int) := of_decide_eq_true h0
    have hk := hdBound hI hl (dflt (.pair (.int .i64) (.pair (.int .i64) (.pair (.int .i64) (.pair (.slice (.pair (.int .i64) (.bool))) (.slice (.pair (.int .i64) (.pair (.int .i64) (.pair (.int .i64) (.pair (.int .i64) (.int .i64))))))))))) hp0 hp1
    generalize hX : List.getD a0 i.toNat (dflt (.pair (.int .i64) (.pair (.int .i64) (.pair (.int .i64) (.pair (.slice (.pair (.int .i64) (.bool))) (.slice (.pair (.int .i64) (.pair (.int .i64) (.pair (.int .i64) (.pair (.int .i64) (.int .i64))))))))))) = X at hk
    have hk : 0 ≤ k ∧ k + (((1 + (1 + (1 + ((cellsC (.slice (.pair (.int .i64) (.bool))) X.2.2.2.1) + (cellsC (.slice (.pair (.int .i64) (.pair (.int .i64) (.pair (.int .i64) (.pair (.int .i64) (.int .i64)))))) X.2.2.2.2))))) : Nat) : Int) ≤ bnd := hk
    have w0 : IntKind.i64.wrap (k + 1) = k + 1 := wrapB (by omega) (by omega)
    have w1 : IntKind.i64.wrap (k + 1 + 1) = k + 1 + 1 := wrapB (by omega) (by omega)
    have w2 : IntKind.i64.wrap (k + 1 + 1 + 1) = k + 1 + 1 + 1 := wrapB (by omega) (by omega)
    refine Vc.skip ?_
    refine Vc.seq ?_
    refine Vc.block ?_
    refine Vc.seq ?_
    refine Vc.seq ?_
    refine Vc.region hG rfl ?_ ?_
    · exact hdRange hI hl
    refine Vc.cond rfl (fun h1 => ?_) (fun h1 => ?_)
    · skip
      have g1 : okC (.int .i64) X.1 (k) = false := by
        have h : ((List.getD a0 i.toNat (dflt (.pair (.int .i64) (.pair (.int .i64) (.pair (.int .i64) (.pair (.slice (.pair (.int .i64) (.bool))) (.slice (.pair (.int .i64) (.pair (.int .i64) (.pair (.int .i64) (.pair (.int .i64) (.int .i64)))))))))))).1 != k) = true := h1
        try simp only [hX, w0, w1, w2] at h
        exact ok_ne h
      refine Vc.seq ?_
      refine Vc.region hG rfl ?_ ?_
      · trivial
      refine Vc.ret ?_
      refine ⟨?_, trivial⟩
      refine hdNo hI hl (dflt (.pair (.int .i64) (.pair (.int .i64) (.pair (.int .i64) (.pair (.slice (.pair (.int .i64) (.bool))) (.slice (.pair (.int .i64) (.pair (.int .i64) (.pair (.int .i64) (.pair (.int .i64) (.int .i64))))))))))) ?_
      rw [hX]
      show (okC (.int .i64) X.1 (k) && (okC (.int .i64) X.2.1 (k + 1) && (okC (.int .i64) X.2.2.1 (k + 1 + 1) && (okC (.slice (.pair (.int .i64) (.bool))) X.2.2.2.1 (k + 1 + 1 + 1) && okC (.slice (.pair (.int .i64) (.pair (.int .i64) (.pair (.int .i64) (.pair (.int .i64) (.int .i64)))))) X.2.2.2.2 (k + 1 + 1 + 1 + ((cellsC (.slice (.pair (.int .i64) (.bool))) X.2.2.2.1 : Nat) : Int)))))) = false
      simp only [g1, Bool.and_false, Bool.false_and, Bool.and_true, Bool.true_and]
    · skip
      have g1 : okC (.int .i64) X.1 (k) = true := by
        have h : ((List.getD a0 i.toNat (dflt (.pair (.int .i64) (.pair (.int .i64) (.pair (.int .i64) (.pair (.slice (.pair (.int .i64) (.bool))) (.slice (.pair (.int .i64) (.pair (.int .i64) (.pair (.int .i64) (.pair (.int .i64) (.int .i64)))))))))))).1 != k) = false := h1
        try simp only [hX, w0, w1, w2] at h
        exact ok_eq h
      refine Vc.skip ?_
      refine Vc.seq ?_
      refine Vc.region hG rfl ?_ ?_
      · trivial
      refine Vc.seq ?_
      refine Vc.seq ?_
      refine Vc.region hG rfl ?_ ?_
      · exact hdRange hI hl
      refine Vc.cond rfl (fun h2 => ?_) (fun h2 => ?_)
      · skip
        have g2 : okC (.int .i64) X.2.1 (k + 1) = false := by
          have h : ((List.getD a0 i.toNat (dflt (.pair (.int .i64) (.pair (.int .i64) (.pair (.int .i64) (.pair (.slice (.pair (.int .i64) (.bool))) (.slice (.pair (.int .i64) (.pair (.int .i64) (.pair (.int .i64) (.pair (.int .i64) (.int .i64)))))))))))).2.1 != IntKind.i64.wrap (k + 1)) = true := h2
          try simp only [hX, w0, w1, w2] at h
          exact ok_ne h
        refine Vc.seq ?_
        refine Vc.region hG rfl ?_ ?_
        · trivial
        refine Vc.ret ?_
        refine ⟨?_, trivial⟩
        refine hdNo hI hl (dflt (.pair (.int .i64) (.pair (.int .i64) (.pair (.int .i64) (.pair (.slice (.pair (.int .i64) (.bool))) (.slice (.pair (.int .i64) (.pair (.int .i64) (.pair (.int .i64) (.pair (.int .i64) (.int .i64))))))))))) ?_
        rw [hX]
        show (okC (.int .i64) X.1 (k) && (okC (.int .i64) X.2.1 (k + 1) && (okC (.int .i64) X.2.2.1 (k + 1 + 1) && (okC (.slice (.pair (.int .i64) (.bool))) X.2.2.2.1 (k + 1 + 1 + 1) && okC (.slice (.pair (.int .i64) (.pair (.int .i64) (.pair (.int .i64) (.pair (.int .i64) (.int .i64)))))) X.2.2.2.2 (k + 1 + 1 + 1 + ((cellsC (.slice (.pair (.int .i64) (.bool))) X.2.2.2.1 : Nat) : Int)))))) = false
        simp only [g1, g2, Bool.and_false, Bool.false_and, Bool.and_true, Bool.true_and]
      · skip
        have g2 : okC (.int .i64) X.2.1 (k + 1) = true := by
          have h : ((List.getD a0 i.toNat (dflt (.pair (.int .i64) (.pair (.int .i64) (.pair (.int .i64) (.pair (.slice (.pair (.int .i64) (.bool))) (.slice (.pair (.int .i64) (.pair (.int .i64) (.pair (.int .i64) (.pair (.int .i64) (.int .i64)))))))))))).2.1 != IntKind.i64.wrap (k + 1)) = false := h2
          try simp only [hX, w0, w1, w2] at h
          exact ok_eq h
        refine Vc.skip ?_
        refine Vc.seq ?_
        refine Vc.region hG rfl ?_ ?_
        · trivial
        refine Vc.seq ?_
        refine Vc.seq ?_
        refine Vc.region hG rfl ?_ ?_
        · exact hdRange hI hl
        refine Vc.cond rfl (fun h3 => ?_) (fun h3 => ?_)
        · skip
          have g3 : okC (.int .i64) X.2.2.1 (k + 1 + 1) = false := by
            have h : ((List.getD a0 i.toNat (dflt (.pair (.int .i64) (.pair (.int .i64) (.pair (.int .i64) (.pair (.slice (.pair (.int .i64) (.bool))) (.slice (.pair (.int .i64) (.pair (.int .i64) (.pair (.int .i64) (.pair (.int .i64) (.int .i64)))))))))))).2.2.1 != IntKind.i64.wrap (IntKind.i64.wrap (k + 1) + 1)) = true := h3
            try simp only [hX, w0, w1, w2] at h
            exact ok_ne h
          refine Vc.seq ?_
          refine Vc.region hG rfl ?_ ?_
          · trivial
          refine Vc.ret ?_
          refine ⟨?_, trivial⟩
          refine hdNo hI hl (dflt (.pair (.int .i64) (.pair (.int .i64) (.pair (.int .i64) (.pair (.slice (.pair (.int .i64) (.bool))) (.slice (.pair (.int .i64) (.pair (.int .i64) (.pair (.int .i64) (.pair (.int .i64) (.int .i64))))))))))) ?_
          rw [hX]
          show (okC (.int .i64) X.1 (k) && (okC (.int .i64) X.2.1 (k + 1) && (okC (.int .i64) X.2.2.1 (k + 1 + 1) && (okC (.slice (.pair (.int .i64) (.bool))) X.2.2.2.1 (k + 1 + 1 + 1) && okC (.slice (.pair (.int .i64) (.pair (.int .i64) (.pair (.int .i64) (.pair (.int .i64) (.int .i64)))))) X.2.2.2.2 (k + 1 + 1 + 1 + ((cellsC (.slice (.pair (.int .i64) (.bool))) X.2.2.2.1 : Nat) : Int)))))) = false
          simp only [g1, g2, g3, Bool.and_false, Bool.false_and, Bool.and_true, Bool.true_and]
        · skip
          have g3 : okC (.int .i64) X.2.2.1 (k + 1 + 1) = true := by
            have h : ((List.getD a0 i.toNat (dflt (.pair (.int .i64) (.pair (.int .i64) (.pair (.int .i64) (.pair (.slice (.pair (.int .i64) (.bool))) (.slice (.pair (.int .i64) (.pair (.int .i64) (.pair (.int .i64) (.pair (.int .i64) (.int .i64)))))))))))).2.2.1 != IntKind.i64.wrap (IntKind.i64.wrap (k + 1) + 1)) = false := h3
            try simp only [hX, w0, w1, w2] at h
            exact ok_eq h
          refine Vc.skip ?_
          refine Vc.seq ?_
          refine Vc.region hG rfl ?_ ?_
          · trivial
          refine Vc.seq ?_
          refine Vc.region hG rfl ?_ ?_
          · refine ⟨hdRange hI hl, ?_⟩
            show markPre (.slice (.pair (.int .i64) (.bool))) (List.getD a0 i.toNat (dflt (.pair (.int .i64) (.pair (.int .i64) (.pair (.int .i64) (.pair (.slice (.pair (.int .i64) (.bool))) (.slice (.pair (.int .i64) (.pair (.int .i64) (.pair (.int .i64) (.pair (.int .i64) (.int .i64)))))))))))).2.2.2.1 (IntKind.i64.wrap (IntKind.i64.wrap (IntKind.i64.wrap (k + 1) + 1) + 1))
            try simp only [hX, w0, w1, w2]
            exact ⟨by omega, by omega⟩
          refine Vc.seq ?_
          refine Vc.seq ?_
          refine Vc.region hG rfl ?_ ?_
          · trivial
          refine Vc.cond rfl (fun h4 => ?_) (fun h4 => ?_)
          · skip
            have q4 : 0 ≤ k + 1 + 1 + 1 := by omega
            have g4 : okC (.slice (.pair (.int .i64) (.bool))) X.2.2.2.1 (k + 1 + 1 + 1) = false := held_neg q4 (by
              have h : heldF (.slice (.pair (.int .i64) (.bool))) (List.getD a0 i.toNat (dflt (.pair (.int .i64) (.pair (.int .i64) (.pair (.int .i64) (.pair (.slice (.pair (.int .i64) (.bool))) (.slice (.pair (.int .i64) (.pair (.int .i64) (.pair (.int .i64) (.pair (.int .i64) (.int .i64)))))))))))).2.2.2.1 (IntKind.i64.wrap (IntKind.i64.wrap (IntKind.i64.wrap (k + 1) + 1) + 1)) < 0 := of_decide_eq_true h4
              try simp only [hX, w0, w1, w2] at h
              exact h)
            refine Vc.seq ?_
            refine Vc.region hG rfl ?_ ?_
            · trivial
            refine Vc.ret ?_
            refine ⟨?_, trivial⟩
            refine hdNo hI hl (dflt (.pair (.int .i64) (.pair (.int .i64) (.pair (.int .i64) (.pair (.slice (.pair (.int .i64) (.bool))) (.slice (.pair (.int .i64) (.pair (.int .i64) (.pair (.int .i64) (.pair (.int .i64) (.int .i64))))))))))) ?_
            rw [hX]
            show (okC (.int .i64) X.1 (k) && (okC (.int .i64) X.2.1 (k + 1) && (okC (.int .i64) X.2.2.1 (k + 1 + 1) && (okC (.slice (.pair (.int .i64) (.bool))) X.2.2.2.1 (k + 1 + 1 + 1) && okC (.slice (.pair (.int .i64) (.pair (.int .i64) (.pair (.int .i64) (.pair (.int .i64) (.int .i64)))))) X.2.2.2.2 (k + 1 + 1 + 1 + ((cellsC (.slice (.pair (.int .i64) (.bool))) X.2.2.2.1 : Nat) : Int)))))) = false
            simp only [g1, g2, g3, g4, Bool.and_false, Bool.false_and, Bool.and_true, Bool.true_and]
          · skip
            have q4 : 0 ≤ k + 1 + 1 + 1 := by omega
            have n4 : ¬ heldF (.slice (.pair (.int .i64) (.bool))) X.2.2.2.1 (k + 1 + 1 + 1) < 0 := by
              have h : ¬ heldF (.slice (.pair (.int .i64) (.bool))) (List.getD a0 i.toNat (dflt (.pair (.int .i64) (.pair (.int .i64) (.pair (.int .i64) (.pair (.slice (.pair (.int .i64) (.bool))) (.slice (.pair (.int .i64) (.pair (.int .i64) (.pair (.int .i64) (.pair (.int .i64) (.int .i64)))))))))))).2.2.2.1 (IntKind.i64.wrap (IntKind.i64.wrap (IntKind.i64.wrap (k + 1) + 1) + 1)) < 0 := of_decide_eq_false h4
              try simp only [hX, w0, w1, w2] at h
              exact h
            have g4 : okC (.slice (.pair (.int .i64) (.bool))) X.2.2.2.1 (k + 1 + 1 + 1) = true := held_pos n4
            have u4 : heldF (.slice (.pair (.int .i64) (.bool))) X.2.2.2.1 (k + 1 + 1 + 1) = k + 1 + 1 + 1 + ((cellsC (.slice (.pair (.int .i64) (.bool))) X.2.2.2.1 : Nat) : Int) := held_val n4
            refine Vc.skip ?_
            refine Vc.seq ?_
            refine Vc.region hG rfl ?_ ?_
            · refine ⟨hdRange hI hl, ?_⟩
              show markPre (.slice (.pair (.int .i64) (.pair (.int .i64) (.pair (.int .i64) (.pair (.int .i64) (.int .i64)))))) (List.getD a0 i.toNat (dflt (.pair (.int .i64) (.pair (.int .i64) (.pair (.int .i64) (.pair (.slice (.pair (.int .i64) (.bool))) (.slice (.pair (.int .i64) (.pair (.int .i64) (.pair (.int .i64) (.pair (.int .i64) (.int .i64)))))))))))).2.2.2.2 (heldF (.slice (.pair (.int .i64) (.bool))) (List.getD a0 i.toNat (dflt (.pair (.int .i64) (.pair (.int .i64) (.pair (.int .i64) (.pair (.slice (.pair (.int .i64) (.bool))) (.slice (.pair (.int .i64) (.pair (.int .i64) (.pair (.int .i64) (.pair (.int .i64) (.int .i64)))))))))))).2.2.2.1 (IntKind.i64.wrap (IntKind.i64.wrap (IntKind.i64.wrap (k + 1) + 1) + 1)))
              try simp only [hX, w0, w1, w2, u4]
              exact ⟨by omega, by omega⟩
            refine Vc.seq ?_
            refine Vc.region hG rfl ?_ ?_
            · trivial
            refine Vc.cond rfl (fun h5 => ?_) (fun h5 => ?_)
            · skip
              have q5 : 0 ≤ k + 1 + 1 + 1 + ((cellsC (.slice (.pair (.int .i64) (.bool))) X.2.2.2.1 : Nat) : Int) := by omega
              have g5 : okC (.slice (.pair (.int .i64) (.pair (.int .i64) (.pair (.int .i64) (.pair (.int .i64) (.int .i64)))))) X.2.2.2.2 (k + 1 + 1 + 1 + ((cellsC (.slice (.pair (.int .i64) (.bool))) X.2.2.2.1 : Nat) : Int)) = false := held_neg q5 (by
                have h : heldF (.slice (.pair (.int .i64) (.pair (.int .i64) (.pair (.int .i64) (.pair (.int .i64) (.int .i64)))))) (List.getD a0 i.toNat (dflt (.pair (.int .i64) (.pair (.int .i64) (.pair (.int .i64) (.pair (.slice (.pair (.int .i64) (.bool))) (.slice (.pair (.int .i64) (.pair (.int .i64) (.pair (.int .i64) (.pair (.int .i64) (.int .i64)))))))))))).2.2.2.2 (heldF (.slice (.pair (.int .i64) (.bool))) (List.getD a0 i.toNat (dflt (.pair (.int .i64) (.pair (.int .i64) (.pair (.int .i64) (.pair (.slice (.pair (.int .i64) (.bool))) (.slice (.pair (.int .i64) (.pair (.int .i64) (.pair (.int .i64) (.pair (.int .i64) (.int .i64)))))))))))).2.2.2.1 (IntKind.i64.wrap (IntKind.i64.wrap (IntKind.i64.wrap (k + 1) + 1) + 1))) < 0 := of_decide_eq_true h5
                try simp only [hX, w0, w1, w2, u4] at h
                exact h)
              refine Vc.seq ?_
              refine Vc.region hG rfl ?_ ?_
              · trivial
              refine Vc.ret ?_
              refine ⟨?_, trivial⟩
              refine hdNo hI hl (dflt (.pair (.int .i64) (.pair (.int .i64) (.pair (.int .i64) (.pair (.slice (.pair (.int .i64) (.bool))) (.slice (.pair (.int .i64) (.pair (.int .i64) (.pair (.int .i64) (.pair (.int .i64) (.int .i64))))))))))) ?_
              rw [hX]
              show (okC (.int .i64) X.1 (k) && (okC (.int .i64) X.2.1 (k + 1) && (okC (.int .i64) X.2.2.1 (k + 1 + 1) && (okC (.slice (.pair (.int .i64) (.bool))) X.2.2.2.1 (k + 1 + 1 + 1) && okC (.slice (.pair (.int .i64) (.pair (.int .i64) (.pair (.int .i64) (.pair (.int .i64) (.int .i64)))))) X.2.2.2.2 (k + 1 + 1 + 1 + ((cellsC (.slice (.pair (.int .i64) (.bool))) X.2.2.2.1 : Nat) : Int)))))) = false
              simp only [g1, g2, g3, g4, g5, Bool.and_false, Bool.false_and, Bool.and_true, Bool.true_and]
            · skip
              have q5 : 0 ≤ k + 1 + 1 + 1 + ((cellsC (.slice (.pair (.int .i64) (.bool))) X.2.2.2.1 : Nat) : Int) := by omega
              have n5 : ¬ heldF (.slice (.pair (.int .i64) (.pair (.int .i64) (.pair (.int .i64) (.pair (.int .i64) (.int .i64)))))) X.2.2.2.2 (k + 1 + 1 + 1 + ((cellsC (.slice (.pair (.int .i64) (.bool))) X.2.2.2.1 : Nat) : Int)) < 0 := by
                have h : ¬ heldF (.slice (.pair (.int .i64) (.pair (.int .i64) (.pair (.int .i64) (.pair (.int .i64) (.int .i64)))))) (List.getD a0 i.toNat (dflt (.pair (.int .i64) (.pair (.int .i64) (.pair (.int .i64) (.pair (.slice (.pair (.int .i64) (.bool))) (.slice (.pair (.int .i64) (.pair (.int .i64) (.pair (.int .i64) (.pair (.int .i64) (.int .i64)))))))))))).2.2.2.2 (heldF (.slice (.pair (.int .i64) (.bool))) (List.getD a0 i.toNat (dflt (.pair (.int .i64) (.pair (.int .i64) (.pair (.int .i64) (.pair (.slice (.pair (.int .i64) (.bool))) (.slice (.pair (.int .i64) (.pair (.int .i64) (.pair (.int .i64) (.pair (.int .i64) (.int .i64)))))))))))).2.2.2.1 (IntKind.i64.wrap (IntKind.i64.wrap (IntKind.i64.wrap (k + 1) + 1) + 1))) < 0 := of_decide_eq_false h5
                try simp only [hX, w0, w1, w2, u4] at h
                exact h
              have g5 : okC (.slice (.pair (.int .i64) (.pair (.int .i64) (.pair (.int .i64) (.pair (.int .i64) (.int .i64)))))) X.2.2.2.2 (k + 1 + 1 + 1 + ((cellsC (.slice (.pair (.int .i64) (.bool))) X.2.2.2.1 : Nat) : Int)) = true := held_pos n5
              have u5 : heldF (.slice (.pair (.int .i64) (.pair (.int .i64) (.pair (.int .i64) (.pair (.int .i64) (.int .i64)))))) X.2.2.2.2 (k + 1 + 1 + 1 + ((cellsC (.slice (.pair (.int .i64) (.bool))) X.2.2.2.1 : Nat) : Int)) = k + 1 + 1 + 1 + ((cellsC (.slice (.pair (.int .i64) (.bool))) X.2.2.2.1 : Nat) : Int) + ((cellsC (.slice (.pair (.int .i64) (.pair (.int .i64) (.pair (.int .i64) (.pair (.int .i64) (.int .i64)))))) X.2.2.2.2 : Nat) : Int) := held_val n5
              refine Vc.skip ?_
              refine Vc.region hG rfl ?_ ?_
              · trivial
              refine ⟨rfl, ?_⟩
              refine hdStep hI hl hb (dflt (.pair (.int .i64) (.pair (.int .i64) (.pair (.int .i64) (.pair (.slice (.pair (.int .i64) (.bool))) (.slice (.pair (.int .i64) (.pair (.int .i64) (.pair (.int .i64) (.pair (.int .i64) (.int .i64))))))))))) ?_ ?_
              · rw [hX]
                show (okC (.int .i64) X.1 (k) && (okC (.int .i64) X.2.1 (k + 1) && (okC (.int .i64) X.2.2.1 (k + 1 + 1) && (okC (.slice (.pair (.int .i64) (.bool))) X.2.2.2.1 (k + 1 + 1 + 1) && okC (.slice (.pair (.int .i64) (.pair (.int .i64) (.pair (.int .i64) (.pair (.int .i64) (.int .i64)))))) X.2.2.2.2 (k + 1 + 1 + 1 + ((cellsC (.slice (.pair (.int .i64) (.bool))) X.2.2.2.1 : Nat) : Int)))))) = true
                simp only [g1, g2, g3, g4, g5, Bool.and_true]
              · show heldF (.slice (.pair (.int .i64) (.pair (.int .i64) (.pair (.int .i64) (.pair (.int .i64) (.int .i64)))))) (List.getD a0 i.toNat (dflt (.pair (.int .i64) (.pair (.int .i64) (.pair (.int .i64) (.pair (.slice (.pair (.int .i64) (.bool))) (.slice (.pair (.int .i64) (.pair (.int .i64) (.pair (.int .i64) (.pair (.int .i64) (.int .i64)))))))))))).2.2.2.2 (heldF (.slice (.pair (.int .i64) (.bool))) (List.getD a0 i.toNat (dflt (.pair (.int .i64) (.pair (.int .i64) (.pair (.int .i64) (.pair (.slice (.pair (.int .i64) (.bool))) (.slice (.pair (.int .i64) (.pair (.int .i64) (.pair (.int .i64) (.pair (.int .i64) (.int .i64)))))))))))).2.2.2.1 (IntKind.i64.wrap (IntKind.i64.wrap (IntKind.i64.wrap (k + 1) + 1) + 1))) = k + ((cellsC (.pair (.int .i64) (.pair (.int .i64) (.pair (.int .i64) (.pair (.slice (.pair (.int .i64) (.bool))) (.slice (.pair (.int .i64) (.pair (.int .i64) (.pair (.int .i64) (.pair (.int .i64) (.int .i64)))))))))) (List.getD a0 i.toNat (dflt (.pair (.int .i64) (.pair (.int .i64) (.pair (.int .i64) (.pair (.slice (.pair (.int .i64) (.bool))) (.slice (.pair (.int .i64) (.pair (.int .i64) (.pair (.int .i64) (.pair (.int .i64) (.int .i64)))))))))))) : Nat) : Int)
                rw [hX]
                show _ = k + (((1 + (1 + (1 + ((cellsC (.slice (.pair (.int .i64) (.bool))) X.2.2.2.1) + (cellsC (.slice (.pair (.int .i64) (.pair (.int .i64) (.pair (.int .i64) (.pair (.int .i64) (.int .i64)))))) X.2.2.2.2))))) : Nat) : Int)
                try simp only [hX, w0, w1, w2, u4, u5]
                try omega
  · skip
    have hl : ¬ i < (List.length a0 : Int) := of_decide_eq_false h0
    refine Vc.exit ?_
    refine Vc.seq ?_
    refine Vc.region hG rfl ?_ ?_
    · trivial
    refine Vc.ret ?_
    refine ⟨?_, trivial⟩
    exact hdEnd hI hl
end Fw
