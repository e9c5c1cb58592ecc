/- Walks of functions of the program: what each computes. Conditions: those that each contract names. -/
import Derived.Test.YtjehmchhdefemaaW30a
namespace Fw
open Go Go.Proofs
set_option linter.unusedSimpArgs false
noncomputable def F14 : Fun := ⟨[.pair (.int .i64) (.pair (.int .i64) (.pair (.pair (.int .i64) (.pair (.slice (.str)) (.slice (.int .i64)))) (.pair (.pair (.int .i64) (.pair (.int .i64) (.pair (.int .i64) (.pair (.int .i64) (.pair (.int .i64) (.pair (.int .i64) (.pair (.int .i64) (.pair (.int .i64) (.int .i64))))))))) (.pair (.slice (.pair (.int .i64) (.pair (.slice (.int .i64)) (.int .i64)))) (.slice (.pair (.int .i64) (.pair (.int .i64) (.pair (.int .i64) (.pair (.slice (.pair (.int .i64) (.bool))) (.slice (.pair (.int .i64) (.pair (.int .i64) (.pair (.int .i64) (.pair (.int .i64) (.int .i64))))))))))))))), .pair (.int .i64) (.pair (.int .i64) (.pair (.pair (.int .i64) (.pair (.slice (.str)) (.slice (.int .i64)))) (.pair (.pair (.int .i64) (.pair (.int .i64) (.pair (.int .i64) (.pair (.int .i64) (.pair (.int .i64) (.pair (.int .i64) (.pair (.int .i64) (.pair (.int .i64) (.int .i64))))))))) (.pair (.slice (.pair (.int .i64) (.pair (.slice (.int .i64)) (.int .i64)))) (.slice (.pair (.int .i64) (.pair (.int .i64) (.pair (.int .i64) (.pair (.slice (.pair (.int .i64) (.bool))) (.slice (.pair (.int .i64) (.pair (.int .i64) (.pair (.int .i64) (.pair (.int .i64) (.int .i64)))))))))))))))], [.pure (.bool)], fun _ => True, fun x => (eqC x.1 x.2.1, ())⟩
set_option maxRecDepth 100000 in
/-- loop.example.g00597.laws.eqItem -/
theorem F14_ok : Meets Try.prog 14 F14 := by
  refine meets_of_vc (C := mkC 33 [4] [0,1,2,3,4,9,14,20,26,32] [⟨53, _, F53_ok⟩, ⟨54, _, F54_ok⟩, ⟨55, _, F55_ok⟩]) (mkC_ok _ _ _ _) (fnOf_ok _) Try.func14 rfl rfl rfl (by decide) rfl ?_
  rintro ⟨a0, a1, _⟩ hwf hpre ⟨P, C, B, X, w0, M0, pv⟩ hG rfl rfl
  show Vc _ _ [(0, ⟨0, 0, .c (.pure (.pair (.int .i64) (.pair (.int .i64) (.pair (.pair (.int .i64) (.pair (.slice (.str)) (.slice (.int .i64)))) (.pair (.pair (.int .i64) (.pair (.int .i64) (.pair (.int .i64) (.pair (.int .i64) (.pair (.int .i64) (.pair (.int .i64) (.pair (.int .i64) (.pair (.int .i64) (.int .i64))))))))) (.pair (.slice (.pair (.int .i64) (.pair (.slice (.int .i64)) (.int .i64)))) (.slice (.pair (.int .i64) (.pair (.int .i64) (.pair (.int .i64) (.pair (.slice (.pair (.int .i64) (.bool))) (.slice (.pair (.int .i64) (.pair (.int .i64) (.pair (.int .i64) (.pair (.int .i64) (.int .i64))))))))))))))))) a0⟩), (1, ⟨0, 0, .c (.pure (.pair (.int .i64) (.pair (.int .i64) (.pair (.pair (.int .i64) (.pair (.slice (.str)) (.slice (.int .i64)))) (.pair (.pair (.int .i64) (.pair (.int .i64) (.pair (.int .i64) (.pair (.int .i64) (.pair (.int .i64) (.pair (.int .i64) (.pair (.int .i64) (.pair (.int .i64) (.int .i64))))))))) (.pair (.slice (.pair (.int .i64) (.pair (.slice (.int .i64)) (.int .i64)))) (.slice (.pair (.int .i64) (.pair (.int .i64) (.pair (.int .i64) (.pair (.slice (.pair (.int .i64) (.bool))) (.slice (.pair (.int .i64) (.pair (.int .i64) (.pair (.int .i64) (.pair (.int .i64) (.int .i64))))))))))))))))) a1⟩)] _
  refine Vc.seq ?_
  refine Vc.region hG rfl ?_ ?_
  · trivial
  refine Vc.seq ?_
  refine Vc.seq ?_
  refine Vc.region hG rfl ?_ ?_
  · trivial
  refine Vc.cond rfl (fun h0 => ?_) (fun h0 => ?_)
  · skip
    refine Vc.seq ?_
    refine Vc.region hG rfl ?_ ?_
    · trivial
    refine Vc.ret ?_
    refine ⟨?_, trivial⟩
    exact eqC_no (fun e => absurd (show (a0.1 != a1.1) = true from h0) (by have e : a0 = a1 := e; rw [e]; simp))
  · skip
    have g0 : a0.1 = a1.1 := bneI h0
    refine Vc.skip ?_
    refine Vc.seq ?_
    refine Vc.seq ?_
    refine Vc.region hG rfl ?_ ?_
    · trivial
    refine Vc.cond rfl (fun h1 => ?_) (fun h1 => ?_)
    · skip
      refine Vc.seq ?_
      refine Vc.region hG rfl ?_ ?_
      · trivial
      refine Vc.ret ?_
      refine ⟨?_, trivial⟩
      exact eqC_no (fun e => absurd (show (a0.2.1 != a1.2.1) = true from h1) (by have e : a0 = a1 := e; rw [e]; simp))
    · skip
      have g1 : a0.2.1 = a1.2.1 := bneI h1
      refine Vc.skip ?_
      refine Vc.seq ?_
      refine Vc.seq ?_
      refine Vc.region hG rfl ?_ ?_
      · trivial
      refine Vc.cond rfl (fun h2 => ?_) (fun h2 => ?_)
      · skip
        refine Vc.seq ?_
        refine Vc.region hG rfl ?_ ?_
        · trivial
        refine Vc.ret ?_
        refine ⟨?_, trivial⟩
        exact eqC_no (fun e => absurd (show (!(eqC a0.2.2.1 a1.2.2.1)) = true from h2) (by have e : a0 = a1 := e; rw [e, eqC_self]; decide))
      · skip
        have g2 : a0.2.2.1 = a1.2.2.1 := notC h2
        refine Vc.skip ?_
        refine Vc.seq ?_
        refine Vc.seq ?_
        refine Vc.region hG rfl ?_ ?_
        · trivial
        refine Vc.cond rfl (fun h3 => ?_) (fun h3 => ?_)
        · skip
          refine Vc.seq ?_
          refine Vc.region hG rfl ?_ ?_
          · trivial
          refine Vc.ret ?_
          refine ⟨?_, trivial⟩
          exact eqC_no (fun e => absurd (show (!(eqC a0.2.2.2.1 a1.2.2.2.1)) = true from h3) (by have e : a0 = a1 := e; rw [e, eqC_self]; decide))
        · skip
          have g3 : a0.2.2.2.1 = a1.2.2.2.1 := notC h3
          refine Vc.skip ?_
          refine Vc.seq ?_
          refine Vc.seq ?_
          refine Vc.region hG rfl ?_ ?_
          · trivial
          refine Vc.cond rfl (fun h4 => ?_) (fun h4 => ?_)
          · skip
            refine Vc.seq ?_
            refine Vc.region hG rfl ?_ ?_
            · trivial
            refine Vc.ret ?_
            refine ⟨?_, trivial⟩
            exact eqC_no (fun e => absurd (show (!(eqC a0.2.2.2.2 a1.2.2.2.2)) = true from h4) (by have e : a0 = a1 := e; rw [e, eqC_self]; decide))
          · skip
            have g4 : a0.2.2.2.2 = a1.2.2.2.2 := notC h4
            refine Vc.skip ?_
            refine Vc.seq ?_
            refine Vc.region hG rfl ?_ ?_
            · trivial
            refine Vc.ret ?_
            refine ⟨?_, trivial⟩
            exact eqC_yes (Prod.ext g0 (Prod.ext g1 (Prod.ext g2 (Prod.ext g3 g4))))
noncomputable def F132 : Fun := ⟨[.int .i64], [.pure (.str)], fun _ => True, fun x => (textF x.1, ())⟩
set_option maxRecDepth 100000 in
/-- loop.example.g00597.laws.markText -/
theorem F132_ok : Meets Try.prog 132 F132 := by
  refine meets_of_vc (C := mkC 20 [2] [0,2,3,5,7] []) (mkC_ok _ _ _ _) (fnOf_ok _) Try.func132 rfl rfl rfl (by decide) rfl ?_
  rintro ⟨(a0 : Int), _⟩ hwf hpre ⟨P, C, B, X, w0, M0, pv⟩ hG rfl rfl
  show Vc _ _ [(0, ⟨0, 0, .c (.pure (.int .i64)) a0⟩)] _
  have hn : inR .i64 a0 := hwf.1
  refine Vc.seq ?_
  refine Vc.region hG rfl ?_ ?_
  · trivial
  refine Vc.seq ?_
  refine Vc.seq ?_
  refine Vc.region hG rfl ?_ ?_
  · trivial
  refine Vc.cond rfl (fun h0 => ?_) (fun h0 => ?_)
  · skip
    have g0 : a0 ≤ 0 := of_decide_eq_true h0
    refine Vc.seq ?_
    refine Vc.region hG rfl ?_ ?_
    · trivial
    refine Vc.ret ?_
    refine ⟨?_, trivial⟩
    exact text0 g0
  · skip
    have g0 : ¬ a0 ≤ 0 := of_decide_eq_false h0
    refine Vc.skip ?_
    refine Vc.seq ?_
    refine Vc.region hG rfl ?_ ?_
    · trivial
    refine Vc.seq ?_
    refine Vc.block ?_
    -- slots [0, 3]; frame [2, 5]
    refine Vc.loopF [(0, false, .pure (.int .i64)), (3, false, .pure (.str))] [2, 5] (fun v => mtInv a0 v.1 v.2.1) (fun v => v.1.natAbs) rfl ?_ ?_
    · exact mtStart hn g0
    rintro ⟨(x : Int), s, _⟩ hI
    have hI : mtInv a0 x s := hI
    refine Vc.seq ?_
    refine Vc.seq ?_
    refine Vc.region hG rfl ?_ ?_
    · trivial
    refine Vc.cond rfl (fun h1 => ?_) (fun h1 => ?_)
    · skip
      have g1 : x > 0 := of_decide_eq_true h1
      refine Vc.skip ?_
      refine Vc.block ?_
      refine Vc.seq ?_
      refine Vc.region hG rfl ?_ ?_
      · exact ⟨(show (10 : Int) ≠ 0 by decide), mtLen hn hI 1 (by decide)⟩
      refine Vc.region hG rfl ?_ ?_
      · show (10 : Int) ≠ 0
        decide
      refine ⟨rfl, ?_⟩
      exact mtStep hI g1 (congrArg (· ++ s) (mtDig g1))
    · skip
      have g1 : ¬ x > 0 := of_decide_eq_false h1
      refine Vc.exit ?_
      refine Vc.seq ?_
      refine Vc.region hG rfl ?_ ?_
      · exact mtLen hn hI 1 (by decide)
      refine Vc.ret ?_
      refine ⟨?_, trivial⟩
      exact text1 hI g0 g1
@[reducible] noncomputable def M87 : MFun := mF (.own (.pure (.str)))
set_option maxRecDepth 100000 in
set_option maxHeartbeats 2000000 in
/-- loop.example.g00597.laws.markStringS -/
theorem M87_ok : MeetsM Try.prog 87 M87 := by
  refine meetsM_of_vc (C := mkCM 20 [4] [0,1,4,5,9] [⟨132, _, F132_ok⟩] [] [] [0]) (mkCM_ok _ _ _ _ _ _ _) (fnOf_ok _) Try.func87 rfl rfl rfl (by decide) rfl rfl rfl rfl ?_
  rintro a0 (a1 : Int) hwf hin hpre ⟨P, C, B, X, w0, M0, pv⟩ hG rfl rfl
  show Vc _ _ [(0, ⟨0, 0, .c (.own (.pure (.str))) a0⟩), (1, ⟨0, 0, .c (.pure (.int .i64)) a1⟩)] _
  have hb : List.length a0 ≤ bigLen := hwf.1
  have hp0 : 0 ≤ a1 := hpre.1
  have hp1 : a1 + ((cellsL (cellsC (.str)) a0 : Nat) : Int) ≤ bnd := hpre.2
  refine Vc.seq ?_
  refine Vc.region hG rfl ?_ ?_
  · trivial
  refine Vc.seq ?_
  refine Vc.seq ?_
  refine Vc.region hG rfl ?_ ?_
  · trivial
  refine Vc.block ?_
  -- slots [0, 1, 5]; frame [4]
  refine Vc.loopF [(0, false, .own (.pure (.str))), (1, false, .pure (.int .i64)), (5, false, .pure (.int .i64))] [4] (fun v => mkInv (cellsC (.str)) (markC (.str)) a0 a1 v.1 v.2.1 v.2.2.1) (fun v => ((List.length v.1 : Int) - v.2.2.1).toNat) rfl ?_ ?_
  · exact mkStart
  rintro ⟨v, (k : Int), (i : Int), _⟩ hI
  have hI : mkInv (cellsC (.str)) (markC (.str)) a0 a1 v k i := hI
  have hbv : v.length ≤ bigLen := by rw [mkLen hI]; exact hb
  refine Vc.seq ?_
  refine Vc.seq ?_
  refine Vc.region hG rfl ?_ ?_
  · trivial
  refine Vc.cond rfl (fun h0 => ?_) (fun h0 => ?_)
  · skip
    have hl : i < (List.length v : Int) := of_decide_eq_true h0
    have hln : i.toNat < v.length := by have := hI.1; omega
    have hk := mkBound hI hl (dflt (.str)) hp0 hp1
    generalize hX : List.getD v i.toNat (dflt (.str)) = X at hk
    have hk : 0 ≤ k ∧ k + ((1 : Nat) : Int) ≤ bnd := hk
    have w0 : IntKind.i64.wrap (k + 1) = k + 1 := wrapB (by omega) (by omega)
    refine Vc.skip ?_
    refine Vc.seq ?_
    refine Vc.block ?_
    refine Vc.seq ?_
    refine Vc.region hG rfl ?_ ?_
    · refine ⟨trivial, ?_⟩
      show inRange i _
      simp only [List.length_set]
      exact mkRange hI hl
    refine Vc.region hG rfl ?_ ?_
    · trivial
    refine Vc.region hG rfl ?_ ?_
    · trivial
    refine ⟨rfl, ?_⟩
    refine mkStep hI hl hbv (dflt (.str)) ?_ ?_
    · rw [hX]
      try simp only [List.length_set, List.set_set, getD_setS hln, hX, cntF_eq, Sh.ty, w0]
      try rfl
    · rw [hX]
      show _ = k + ((1 : Nat) : Int)
      try simp only [List.length_set, List.set_set, getD_setS hln, hX, cntF_eq, Sh.ty, w0]
      try omega
  · skip
    have hl : ¬ i < (List.length v : Int) := of_decide_eq_false h0
    refine Vc.exit ?_
    refine Vc.seq ?_
    refine Vc.region hG rfl ?_ ?_
    · trivial
    refine Vc.ret ?_
    have e := mkEnd hI hl
    refine ⟨?_, ?_, trivial⟩
    · show k = cntF (.slice (.str)) a0 a1
      rw [cntF_eq]; exact e.1
    · exact e.2
@[reducible] noncomputable def M25 : MFun := mF (.own (.pure (.int .i64)))
set_option maxRecDepth 100000 in
set_option maxHeartbeats 2000000 in
/-- loop.example.g00597.laws.markIntS -/
theorem M25_ok : MeetsM Try.prog 25 M25 := by
  refine meetsM_of_vc (C := mkCM 19 [4] [0,1,4,5,9] [] [] [] [0]) (mkCM_ok _ _ _ _ _ _ _) (fnOf_ok _) Try.func25 rfl rfl rfl (by decide) rfl rfl rfl rfl ?_
  rintro a0 (a1 : Int) hwf hin hpre ⟨P, C, B, X, w0, M0, pv⟩ hG rfl rfl
  show Vc _ _ [(0, ⟨0, 0, .c (.own (.pure (.int .i64))) a0⟩), (1, ⟨0, 0, .c (.pure (.int .i64)) a1⟩)] _
  have hb : List.length a0 ≤ bigLen := hwf.1
  have hp0 : 0 ≤ a1 := hpre.1
  have hp1 : a1 + ((cellsL (cellsC (.int .i64)) a0 : Nat) : Int) ≤ bnd := hpre.2
  refine Vc.seq ?_
  refine Vc.region hG rfl ?_ ?_
  · trivial
  refine Vc.seq ?_
  refine Vc.seq ?_
  refine Vc.region hG rfl ?_ ?_
  · trivial
  refine Vc.block ?_
  -- slots [0, 1, 5]; frame [4]
  refine Vc.loopF [(0, false, .own (.pure (.int .i64))), (1, false, .pure (.int .i64)), (5, false, .pure (.int .i64))] [4] (fun v => mkInv (cellsC (.int .i64)) (markC (.int .i64)) a0 a1 v.1 v.2.1 v.2.2.1) (fun v => ((List.length v.1 : Int) - v.2.2.1).toNat) rfl ?_ ?_
  · exact mkStart
  rintro ⟨v, (k : Int), (i : Int), _⟩ hI
  have hI : mkInv (cellsC (.int .i64)) (markC (.int .i64)) a0 a1 v k i := hI
  have hbv : v.length ≤ bigLen := by rw [mkLen hI]; exact hb
  refine Vc.seq ?_
  refine Vc.seq ?_
  refine Vc.region hG rfl ?_ ?_
  · trivial
  refine Vc.cond rfl (fun h0 => ?_) (fun h0 => ?_)
  · skip
    have hl : i < (List.length v : Int) := of_decide_eq_true h0
    have hln : i.toNat < v.length := by have := hI.1; omega
    have hk := mkBound hI hl (dflt (.int .i64)) hp0 hp1
    generalize hX : List.getD v i.toNat (dflt (.int .i64)) = X at hk
    have hk : 0 ≤ k ∧ k + ((1 : Nat) : Int) ≤ bnd := hk
    have w0 : IntKind.i64.wrap (k + 1) = k + 1 := wrapB (by omega) (by omega)
    refine Vc.skip ?_
    refine Vc.seq ?_
    refine Vc.block ?_
    refine Vc.seq ?_
    refine Vc.region hG rfl ?_ ?_
    · show inRange i _
      exact mkRange hI hl
    refine Vc.region hG rfl ?_ ?_
    · trivial
    refine Vc.region hG rfl ?_ ?_
    · trivial
    refine ⟨rfl, ?_⟩
    refine mkStep hI hl hbv (dflt (.int .i64)) ?_ ?_
    · rw [hX]
      try simp only [List.length_set, List.set_set, getD_setS hln, hX, cntF_eq, Sh.ty, w0]
      try rfl
    · rw [hX]
      show _ = k + ((1 : Nat) : Int)
      try simp only [List.length_set, List.set_set, getD_setS hln, hX, cntF_eq, Sh.ty, w0]
      try omega
  · skip
    have hl : ¬ i < (List.length v : Int) := of_decide_eq_false h0
    refine Vc.exit ?_
    refine Vc.seq ?_
    refine Vc.region hG rfl ?_ ?_
    · trivial
    refine Vc.ret ?_
    have e := mkEnd hI hl
    refine ⟨?_, ?_, trivial⟩
    · show k = cntF (.slice (.int .i64)) a0 a1
      rw [cntF_eq]; exact e.1
    · exact e.2
@[reducible] noncomputable def M56 : MFun := mV (.pair (.pure (.int .i64)) (.pair (.own (.pure (.str))) (.own (.pure (.int .i64)))))
set_option maxRecDepth 100000 in
/-- loop.example.g00597.laws.markDocument -/
theorem M56_ok : MeetsM Try.prog 56 M56 := by
  refine meetsM_of_vc (C := mkCM 14 [4] [0,1,2,4] [] [⟨87, _, M87_ok⟩, ⟨25, _, M25_ok⟩] [] [0]) (mkCM_ok _ _ _ _ _ _ _) (fnOf_ok _) Try.func56 rfl rfl rfl (by decide) rfl rfl rfl rfl ?_
  rintro a0 (a1 : Int) hwf hin hpre ⟨P, C, B, X, w0, M0, pv⟩ hG rfl rfl
  show Vc _ _ [(0, ⟨0, 0, .c (.pair (.pure (.int .i64)) (.pair (.own (.pure (.str))) (.own (.pure (.int .i64))))) a0⟩), (1, ⟨0, 0, .c (.pure (.int .i64)) a1⟩)] _
  have hp0 : 0 ≤ a1 := hpre.1
  have hp1 : a1 + ((cellsV (.pair (.int .i64) (.pair (.slice (.str)) (.slice (.int .i64)))) a0 : Nat) : Int) ≤ bnd := hpre.2
  have hc : ((cellsV (.pair (.int .i64) (.pair (.slice (.str)) (.slice (.int .i64)))) a0 : Nat) : Int) = ((cellsC (.slice (.str)) a0.2.1 : Nat) : Int) + ((cellsC (.slice (.int .i64)) a0.2.2 : Nat) : Int) := by
    show (((0 + (cellsC (.slice (.str)) a0.2.1 + cellsC (.slice (.int .i64)) a0.2.2)) : Nat) : Int) = _
    omega
  refine Vc.seq ?_
  refine Vc.region hG rfl ?_ ?_
  · trivial
  refine Vc.seq ?_
  refine Vc.region hG rfl ?_ ?_
  · exact (show markPre (.slice (.str)) a0.2.1 (a1) from ⟨by omega, by omega⟩)
  refine Vc.seq ?_
  refine Vc.region hG rfl ?_ ?_
  · have ce0 := cntF_eq (.slice (.str)) a0.2.1 (a1)
    exact (show markPre (.slice (.int .i64)) a0.2.2 (cntF (.slice (.str)) a0.2.1 (a1)) from ⟨by omega, by omega⟩)
  refine Vc.seq ?_
  refine Vc.region hG rfl ?_ ?_
  · trivial
  refine Vc.ret ?_
  have ce0 := cntF_eq (.slice (.str)) a0.2.1 (a1)
  have ce1 := cntF_eq (.slice (.int .i64)) a0.2.2 (cntF (.slice (.str)) a0.2.1 (a1))
  refine ⟨?_, ?_, trivial⟩
  · show cntF (.slice (.int .i64)) a0.2.2 (cntF (.slice (.str)) a0.2.1 (a1)) = cntV (.pair (.int .i64) (.pair (.slice (.str)) (.slice (.int .i64)))) a0 a1
    rw [cntV_eq (.pair (.int .i64) (.pair (.slice (.str)) (.slice (.int .i64)))) a0 a1]
    omega
  · exact (Prod.ext rfl (Prod.ext (congrArg (markC (.slice (.str)) a0.2.1) (show a1 = a1 + ((0 : Nat) : Int) from by omega)) (congrArg (markC (.slice (.int .i64)) a0.2.2) (show cntF (.slice (.str)) a0.2.1 (a1) = a1 + ((0 : Nat) : Int) + ((cellsC (.slice (.str)) a0.2.1 : Nat) : Int) from by omega))))
@[reducible] noncomputable def M105 : MFun := mF (.own (.pair (.pure (.int .i64)) (.pair (.own (.pure (.int .i64))) (.pure (.int .i64)))))
set_option maxRecDepth 100000 in
set_option maxHeartbeats 2000000 in
/-- loop.example.g00597.laws.markPieceS -/
theorem M105_ok : MeetsM Try.prog 105 M105 := by
  refine meetsM_of_vc (C := mkCM 34 [4] [0,1,4,5,9] [] [⟨25, _, M25_ok⟩] [] [0]) (mkCM_ok _ _ _ _ _ _ _) (fnOf_ok _) Try.func105 rfl rfl rfl (by decide) rfl rfl rfl rfl ?_
  rintro a0 (a1 : Int) hwf hin hpre ⟨P, C, B, X, w0, M0, pv⟩ hG rfl rfl
  show Vc _ _ [(0, ⟨0, 0, .c (.own (.pair (.pure (.int .i64)) (.pair (.own (.pure (.int .i64))) (.pure (.int .i64))))) a0⟩), (1, ⟨0, 0, .c (.pure (.int .i64)) a1⟩)] _
  have hb : List.length a0 ≤ bigLen := hwf.1
  have hp0 : 0 ≤ a1 := hpre.1
  have hp1 : a1 + ((cellsL (cellsC (.pair (.int .i64) (.pair (.slice (.int .i64)) (.int .i64)))) a0 : Nat) : Int) ≤ bnd := hpre.2
  refine Vc.seq ?_
  refine Vc.region hG rfl ?_ ?_
  · trivial
  refine Vc.seq ?_
  refine Vc.seq ?_
  refine Vc.region hG rfl ?_ ?_
  · trivial
  refine Vc.block ?_
  -- slots [0, 1, 5]; frame [4]
  refine Vc.loopF [(0, false, .own (.pair (.pure (.int .i64)) (.pair (.own (.pure (.int .i64))) (.pure (.int .i64))))), (1, false, .pure (.int .i64)), (5, false, .pure (.int .i64))] [4] (fun v => mkInv (cellsC (.pair (.int .i64) (.pair (.slice (.int .i64)) (.int .i64)))) (markC (.pair (.int .i64) (.pair (.slice (.int .i64)) (.int .i64)))) a0 a1 v.1 v.2.1 v.2.2.1) (fun v => ((List.length v.1 : Int) - v.2.2.1).toNat) rfl ?_ ?_
  · exact mkStart
  rintro ⟨v, (k : Int), (i : Int), _⟩ hI
  have hI : mkInv (cellsC (.pair (.int .i64) (.pair (.slice (.int .i64)) (.int .i64)))) (markC (.pair (.int .i64) (.pair (.slice (.int .i64)) (.int .i64)))) a0 a1 v k i := hI
  have hbv : v.length ≤ bigLen := by rw [mkLen hI]; exact hb
  refine Vc.seq ?_
  refine Vc.seq ?_
  refine Vc.region hG rfl ?_ ?_
  · trivial
  refine Vc.cond rfl (fun h0 => ?_) (fun h0 => ?_)
  · skip
    have hl : i < (List.length v : Int) := of_decide_eq_true h0
    have hln : i.toNat < v.length := by have := hI.1; omega
    have hk := mkBound hI hl (dflt (.pair (.int .i64) (.pair (.slice (.int .i64)) (.int .i64)))) hp0 hp1
    generalize hX : List.getD v i.toNat (dflt (.pair (.int .i64) (.pair (.slice (.int .i64)) (.int .i64)))) = X at hk
    have hk : 0 ≤ k ∧ k + (((1 + ((cellsC (.slice (.int .i64)) X.2.1) + 1)) : Nat) : Int) ≤ bnd := hk
    have w0 : IntKind.i64.wrap (k + 1) = k + 1 := wrapB (by omega) (by omega)
    have w1 : IntKind.i64.wrap (k + 1 + ((cellsC (.slice (.int .i64)) X.2.1 : Nat) : Int) + 1) = k + 1 + ((cellsC (.slice (.int .i64)) X.2.1 : Nat) : Int) + 1 := wrapB (by omega) (by omega)
    refine Vc.skip ?_
    refine Vc.seq ?_
    refine Vc.block ?_
    refine Vc.seq ?_
    refine Vc.region hG rfl ?_ ?_
    · show inRange i _
      exact mkRange hI hl
    refine Vc.seq ?_
    refine Vc.region hG rfl ?_ ?_
    · trivial
    refine Vc.seq ?_
    refine Vc.region hG rfl ?_ ?_
    · refine ⟨?_, ?_⟩
      · show inRange i _
        simp only [List.length_set]
        exact mkRange hI hl
      · show markPre (.slice (.int .i64)) _ _
        try simp only [List.length_set, List.set_set, getD_setS hln, hX, cntF_eq, Sh.ty, w0, w1]
        exact ⟨by omega, by omega⟩
    refine Vc.seq ?_
    refine Vc.region hG rfl ?_ ?_
    · show inRange i _
      simp only [List.length_set]
      exact mkRange hI hl
    refine Vc.region hG rfl ?_ ?_
    · trivial
    refine Vc.region hG rfl ?_ ?_
    · trivial
    refine ⟨rfl, ?_⟩
    refine mkStep hI hl hbv (dflt (.pair (.int .i64) (.pair (.slice (.int .i64)) (.int .i64)))) ?_ ?_
    · rw [hX]
      try simp only [List.length_set, List.set_set, getD_setS hln, hX, cntF_eq, Sh.ty, w0, w1]
      try rfl
    · rw [hX]
      show _ = k + (((1 + ((cellsC (.slice (.int .i64)) X.2.1) + 1)) : Nat) : Int)
      try simp only [List.length_set, List.set_set, getD_setS hln, hX, cntF_eq, Sh.ty, w0, w1]
      try omega
  · skip
    have hl : ¬ i < (List.length v : Int) := of_decide_eq_false h0
    refine Vc.exit ?_
    refine Vc.seq ?_
    refine Vc.region hG rfl ?_ ?_
    · trivial
    refine Vc.ret ?_
    have e := mkEnd hI hl
    refine ⟨?_, ?_, trivial⟩
    · show k = cntF (.slice (.pair (.int .i64) (.pair (.slice (.int .i64)) (.int .i64)))) a0 a1
      rw [cntF_eq]; exact e.1
    · exact e.2
@[reducible] noncomputable def M138 : MFun := mF (.own (.pure (.pair (.int .i64) (.bool))))
set_option maxRecDepth 100000 in
set_option maxHeartbeats 2000000 in
/-- loop.example.g00597.laws.markStepS -/
theorem M138_ok : MeetsM Try.prog 138 M138 := by
  refine meetsM_of_vc (C := mkCM 29 [4] [0,1,4,5,9] [] [] [] [0]) (mkCM_ok _ _ _ _ _ _ _) (fnOf_ok _) Try.func138 rfl rfl rfl (by decide) rfl rfl rfl rfl ?_
  rintro a0 (a1 : Int) hwf hin hpre ⟨P, C, B, X, w0, M0, pv⟩ hG rfl rfl
  show Vc _ _ [(0, ⟨0, 0, .c (.own (.pure (.pair (.int .i64) (.bool)))) a0⟩), (1, ⟨0, 0, .c (.pure (.int .i64)) a1⟩)] _
  have hb : List.length a0 ≤ bigLen := hwf.1
  have hp0 : 0 ≤ a1 := hpre.1
  have hp1 : a1 + ((cellsL (cellsC (.pair (.int .i64) (.bool))) a0 : Nat) : Int) ≤ bnd := hpre.2
  refine Vc.seq ?_
  refine Vc.region hG rfl ?_ ?_
  · trivial
  refine Vc.seq ?_
  refine Vc.seq ?_
  refine Vc.region hG rfl ?_ ?_
  · trivial
  refine Vc.block ?_
  -- slots [0, 1, 5]; frame [4]
  refine Vc.loopF [(0, false, .own (.pure (.pair (.int .i64) (.bool)))), (1, false, .pure (.int .i64)), (5, false, .pure (.int .i64))] [4] (fun v => mkInv (cellsC (.pair (.int .i64) (.bool))) (markC (.pair (.int .i64) (.bool))) a0 a1 v.1 v.2.1 v.2.2.1) (fun v => ((List.length v.1 : Int) - v.2.2.1).toNat) rfl ?_ ?_
  · exact mkStart
  rintro ⟨v, (k : Int), (i : Int), _⟩ hI
  have hI : mkInv (cellsC (.pair (.int .i64) (.bool))) (markC (.pair (.int .i64) (.bool))) a0 a1 v k i := hI
  have hbv : v.length ≤ bigLen := by rw [mkLen hI]; exact hb
  refine Vc.seq ?_
  refine Vc.seq ?_
  refine Vc.region hG rfl ?_ ?_
  · trivial
  refine Vc.cond rfl (fun h0 => ?_) (fun h0 => ?_)
  · skip
    have hl : i < (List.length v : Int) := of_decide_eq_true h0
    have hln : i.toNat < v.length := by have := hI.1; omega
    have hk := mkBound hI hl (dflt (.pair (.int .i64) (.bool))) hp0 hp1
    generalize hX : List.getD v i.toNat (dflt (.pair (.int .i64) (.bool))) = X at hk
    have hk : 0 ≤ k ∧ k + (((1 + 1) : Nat) : Int) ≤ bnd := hk
    have w0 : IntKind.i64.wrap (k + 1) = k + 1 := wrapB (by omega) (by omega)
    have w1 : IntKind.i64.wrap (k + 1 + 1) = k + 1 + 1 := wrapB (by omega) (by omega)
    refine Vc.skip ?_
    refine Vc.seq ?_
    refine Vc.block ?_
    refine Vc.seq ?_
    refine Vc.region hG rfl ?_ ?_
    · show inRange i _
      exact mkRange hI hl
    refine Vc.seq ?_
    refine Vc.region hG rfl ?_ ?_
    · trivial
    refine Vc.seq ?_
    refine Vc.region hG rfl ?_ ?_
    · refine ⟨by decide, ?_⟩
      show inRange i _
      simp only [List.length_set]
      exact mkRange hI hl
    refine Vc.region hG rfl ?_ ?_
    · trivial
    refine Vc.region hG rfl ?_ ?_
    · trivial
    refine ⟨rfl, ?_⟩
    refine mkStep hI hl hbv (dflt (.pair (.int .i64) (.bool))) ?_ ?_
    · rw [hX]
      try simp only [List.length_set, List.set_set, getD_setS hln, hX, cntF_eq, Sh.ty, w0, w1]
      try rfl
    · rw [hX]
      show _ = k + (((1 + 1) : Nat) : Int)
      try simp only [List.length_set, List.set_set, getD_setS hln, hX, cntF_eq, Sh.ty, w0, w1]
      try omega
  · skip
    have hl : ¬ i < (List.length v : Int) := of_decide_eq_false h0
    refine Vc.exit ?_
    refine Vc.seq ?_
    refine Vc.region hG rfl ?_ ?_
    · trivial
    refine Vc.ret ?_
    have e := mkEnd hI hl
    refine ⟨?_, ?_, trivial⟩
    · show k = cntF (.slice (.pair (.int .i64) (.bool))) a0 a1
      rw [cntF_eq]; exact e.1
    · exact e.2
@[reducible] noncomputable def M107 : MFun := mF (.own (.pure (.pair (.int .i64) (.pair (.int .i64) (.pair (.int .i64) (.pair (.int .i64) (.int .i64)))))))
set_option maxRecDepth 100000 in
set_option maxHeartbeats 2000000 in
/-- loop.example.g00597.laws.markStampS -/
theorem M107_ok : MeetsM Try.prog 107 M107 := by
  refine meetsM_of_vc (C := mkCM 48 [4] [0,1,4,5,9] [] [] [] [0]) (mkCM_ok _ _ _ _ _ _ _) (fnOf_ok _) Try.func107 rfl rfl rfl (by decide) rfl rfl rfl rfl ?_
  rintro a0 (a1 : Int) hwf hin hpre ⟨P, C, B, X, w0, M0, pv⟩ hG rfl rfl
  show Vc _ _ [(0, ⟨0, 0, .c (.own (.pure (.pair (.int .i64) (.pair (.int .i64) (.pair (.int .i64) (.pair (.int .i64) (.int .i64))))))) a0⟩), (1, ⟨0, 0, .c (.pure (.int .i64)) a1⟩)] _
  have hb : List.length a0 ≤ bigLen := hwf.1
  have hp0 : 0 ≤ a1 := hpre.1
  have hp1 : a1 + ((cellsL (cellsC (.pair (.int .i64) (.pair (.int .i64) (.pair (.int .i64) (.pair (.int .i64) (.int .i64)))))) a0 : Nat) : Int) ≤ bnd := hpre.2
  refine Vc.seq ?_
  refine Vc.region hG rfl ?_ ?_
  · trivial
  refine Vc.seq ?_
  refine Vc.seq ?_
  refine Vc.region hG rfl ?_ ?_
  · trivial
  refine Vc.block ?_
  -- slots [0, 1, 5]; frame [4]
  refine Vc.loopF [(0, false, .own (.pure (.pair (.int .i64) (.pair (.int .i64) (.pair (.int .i64) (.pair (.int .i64) (.int .i64))))))), (1, false, .pure (.int .i64)), (5, false, .pure (.int .i64))] [4] (fun v => mkInv (cellsC (.pair (.int .i64) (.pair (.int .i64) (.pair (.int .i64) (.pair (.int .i64) (.int .i64)))))) (markC (.pair (.int .i64) (.pair (.int .i64) (.pair (.int .i64) (.pair (.int .i64) (.int .i64)))))) a0 a1 v.1 v.2.1 v.2.2.1) (fun v => ((List.length v.1 : Int) - v.2.2.1).toNat) rfl ?_ ?_
  · exact mkStart
  rintro ⟨v, (k : Int), (i : Int), _⟩ hI
  have hI : mkInv (cellsC (.pair (.int .i64) (.pair (.int .i64) (.pair (.int .i64) (.pair (.int .i64) (.int .i64)))))) (markC (.pair (.int .i64) (.pair (.int .i64) (.pair (.int .i64) (.pair (.int .i64) (.int .i64)))))) a0 a1 v k i := hI
  have hbv : v.length ≤ bigLen := by rw [mkLen hI]; exact hb
  refine Vc.seq ?_
  refine Vc.seq ?_
  refine Vc.region hG rfl ?_ ?_
  · trivial
  refine Vc.cond rfl (fun h0 => ?_) (fun h0 => ?_)
  · skip
    have hl : i < (List.length v : Int) := of_decide_eq_true h0
    have hln : i.toNat < v.length := by have := hI.1; omega
    have hk := mkBound hI hl (dflt (.pair (.int .i64) (.pair (.int .i64) (.pair (.int .i64) (.pair (.int .i64) (.int .i64)))))) hp0 hp1
    generalize hX : List.getD v i.toNat (dflt (.pair (.int .i64) (.pair (.int .i64) (.pair (.int .i64) (.pair (.int .i64) (.int .i64)))))) = X at hk
    have hk : 0 ≤ k ∧ k + (((1 + (1 + (1 + (1 + 1)))) : Nat) : Int) ≤ bnd := hk
    have w0 : IntKind.i64.wrap (k + 1) = k + 1 := wrapB (by omega) (by omega)
    have w1 : IntKind.i64.wrap (k + 1 + 1) = k + 1 + 1 := wrapB (by omega) (by omega)
    have w2 : IntKind.i64.wrap (k + 1 + 1 + 1) = k + 1 + 1 + 1 := wrapB (by omega) (by omega)
    have w3 : IntKind.i64.wrap (k + 1 + 1 + 1 + 1) = k + 1 + 1 + 1 + 1 := wrapB (by omega) (by omega)
    have w4 : IntKind.i64.wrap (k + 1 + 1 + 1 + 1 + 1) = k + 1 + 1 + 1 + 1 + 1 := wrapB (by omega) (by omega)
    refine Vc.skip ?_
    refine Vc.seq ?_
    refine Vc.block ?_
    refine Vc.seq ?_
    refine Vc.region hG rfl ?_ ?_
    · show inRange i _
      exact mkRange hI hl
    refine Vc.seq ?_
    refine Vc.region hG rfl ?_ ?_
    · trivial
    refine Vc.seq ?_
    refine Vc.region hG rfl ?_ ?_
    · show inRange i _
      simp only [List.length_set]
      exact mkRange hI hl
    refine Vc.seq ?_
    refine Vc.region hG rfl ?_ ?_
    · trivial
    refine Vc.seq ?_
    refine Vc.region hG rfl ?_ ?_
    · show inRange i _
      simp only [List.length_set]
      exact mkRange hI hl
    refine Vc.seq ?_
    refine Vc.region hG rfl ?_ ?_
    · trivial
    refine Vc.seq ?_
    refine Vc.region hG rfl ?_ ?_
    · show inRange i _
      simp only [List.length_set]
      exact mkRange hI hl
    refine Vc.seq ?_
    refine Vc.region hG rfl ?_ ?_
    · trivial
    refine Vc.seq ?_
    refine Vc.region hG rfl ?_ ?_
    · show inRange i _
      simp only [List.length_set]
      exact mkRange hI hl
    refine Vc.region hG rfl ?_ ?_
    · trivial
    refine Vc.region hG rfl ?_ ?_
    · trivial
    refine ⟨rfl, ?_⟩
    refine mkStep hI hl hbv (dflt (.pair (.int .i64) (.pair (.int .i64) (.pair (.int .i64) (.pair (.int .i64) (.int .i64)))))) ?_ ?_
    · rw [hX]
      try simp only [List.length_set, List.set_set, getD_setS hln, hX, cntF_eq, Sh.ty, w0, w1, w2, w3, w4]
      try rfl
    · rw [hX]
      show _ = k + (((1 + (1 + (1 + (1 + 1)))) : Nat) : Int)
      try simp only [List.length_set, List.set_set, getD_setS hln, hX, cntF_eq, Sh.ty, w0, w1, w2, w3, w4]
      try omega
  · skip
    have hl : ¬ i < (List.length v : Int) := of_decide_eq_false h0
    refine Vc.exit ?_
    refine Vc.seq ?_
    refine Vc.region hG rfl ?_ ?_
    · trivial
    refine Vc.ret ?_
    have e := mkEnd hI hl
    refine ⟨?_, ?_, trivial⟩
    · show k = cntF (.slice (.pair (.int .i64) (.pair (.int .i64) (.pair (.int .i64) (.pair (.int .i64) (.int .i64)))))) a0 a1
      rw [cntF_eq]; exact e.1
    · exact e.2
@[reducible] noncomputable def M106 : MFun := mF (.own (.pair (.pure (.int .i64)) (.pair (.pure (.int .i64)) (.pair (.pure (.int .i64)) (.pair (.own (.pure (.pair (.int .i64) (.bool)))) (.own (.pure (.pair (.int .i64) (.pair (.int .i64) (.pair (.int .i64) (.pair (.int .i64) (.int .i64))))))))))))
set_option maxRecDepth 100000 in
set_option maxHeartbeats 2000000 in
/-- loop.example.g00597.laws.markRenewalS -/
theorem M106_ok : MeetsM Try.prog 106 M106 := by
  refine meetsM_of_vc (C := mkCM 48 [4] [0,1,4,5,9] [] [⟨138, _, M138_ok⟩, ⟨107, _, M107_ok⟩] [] [0]) (mkCM_ok _ _ _ _ _ _ _) (fnOf_ok _) Try.func106 rfl rfl rfl (by decide) rfl rfl rfl rfl ?_
  rintro a0 (a1 : Int) hwf hin hpre ⟨P, C, B, X, w0, M0, pv⟩ hG rfl rfl
  show Vc _ _ [(0, ⟨0, 0, .c (.own (.pair (.pure (.int .i64)) (.pair (.pure (.int .i64)) (.pair (.pure (.int .i64)) (.pair (.own (.pure (.pair (.int .i64) (.bool)))) (.own (.pure (.pair (.int .i64) (.pair (.int .i64) (.pair (.int .i64) (.pair (.int .i64) (.int .i64)))))))))))) a0⟩), (1, ⟨0, 0, .c (.pure (.int .i64)) a1⟩)] _
  have hb : List.length a0 ≤ bigLen := hwf.1
  have hp0 : 0 ≤ a1 := hpre.1
  have hp1 : a1 + ((cellsL (cellsC (.pair (.int .i64) (.pair (.int .i64) (.pair (.int .i64) (.pair (.slice (.pair (.int .i64) (.bool))) (.slice (.pair (.int .i64) (.pair (.int .i64) (.pair (.int .i64) (.pair (.int .i64) (.int .i64))))))))))) a0 : Nat) : Int) ≤ bnd := hpre.2
  refine Vc.seq ?_
  refine Vc.region hG rfl ?_ ?_
  · trivial
  refine Vc.seq ?_
  refine Vc.seq ?_
  refine Vc.region hG rfl ?_ ?_
  · trivial
  refine Vc.block ?_
  -- slots [0, 1, 5]; frame [4]
  refine Vc.loopF [(0, false, .own (.pair (.pure (.int .i64)) (.pair (.pure (.int .i64)) (.pair (.pure (.int .i64)) (.pair (.own (.pure (.pair (.int .i64) (.bool)))) (.own (.pure (.pair (.int .i64) (.pair (.int .i64) (.pair (.int .i64) (.pair (.int .i64) (.int .i64)))))))))))), (1, false, .pure (.int .i64)), (5, false, .pure (.int .i64))] [4] (fun v => mkInv (cellsC (.pair (.int .i64) (.pair (.int .i64) (.pair (.int .i64) (.pair (.slice (.pair (.int .i64) (.bool))) (.slice (.pair (.int .i64) (.pair (.int .i64) (.pair (.int .i64) (.pair (.int .i64) (.int .i64))))))))))) (markC (.pair (.int .i64) (.pair (.int .i64) (.pair (.int .i64) (.pair (.slice (.pair (.int .i64) (.bool))) (.slice (.pair (.int .i64) (.pair (.int .i64) (.pair (.int .i64) (.pair (.int .i64) (.int .i64))))))))))) a0 a1 v.1 v.2.1 v.2.2.1) (fun v => ((List.length v.1 : Int) - v.2.2.1).toNat) rfl ?_ ?_
  · exact mkStart
  rintro ⟨v, (k : Int), (i : Int), _⟩ hI
  have hI : mkInv (cellsC (.pair (.int .i64) (.pair (.int .i64) (.pair (.int .i64) (.pair (.slice (.pair (.int .i64) (.bool))) (.slice (.pair (.int .i64) (.pair (.int .i64) (.pair (.int .i64) (.pair (.int .i64) (.int .i64))))))))))) (markC (.pair (.int .i64) (.pair (.int .i64) (.pair (.int .i64) (.pair (.slice (.pair (.int .i64) (.bool))) (.slice (.pair (.int .i64) (.pair (.int .i64) (.pair (.int .i64) (.pair (.int .i64) (.int .i64))))))))))) a0 a1 v k i := hI
  have hbv : v.length ≤ bigLen := by rw [mkLen hI]; exact hb
  refine Vc.seq ?_
  refine Vc.seq ?_
  refine Vc.region hG rfl ?_ ?_
  · trivial
  refine Vc.cond rfl (fun h0 => ?_) (fun h0 => ?_)
  · skip
    have hl : i < (List.length v : Int) := of_decide_eq_true h0
    have hln : i.toNat < v.length := by have := hI.1; omega
    have hk := mkBound hI hl (dflt (.pair (.int .i64) (.pair (.int .i64) (.pair (.int .i64) (.pair (.slice (.pair (.int .i64) (.bool))) (.slice (.pair (.int .i64) (.pair (.int .i64) (.pair (.int .i64) (.pair (.int .i64) (.int .i64))))))))))) hp0 hp1
    generalize hX : List.getD v i.toNat (dflt (.pair (.int .i64) (.pair (.int .i64) (.pair (.int .i64) (.pair (.slice (.pair (.int .i64) (.bool))) (.slice (.pair (.int .i64) (.pair (.int .i64) (.pair (.int .i64) (.pair (.int .i64) (.int .i64))))))))))) = X at hk
    have hk : 0 ≤ k ∧ k + (((1 + (1 + (1 + ((cellsC (.slice (.pair (.int .i64) (.bool))) X.2.2.2.1) + (cellsC (.slice (.pair (.int .i64) (.pair (.int .i64) (.pair (.int .i64) (.pair (.int .i64) (.int .i64)))))) X.2.2.2.2))))) : Nat) : Int) ≤ bnd := hk
    have w0 : IntKind.i64.wrap (k + 1) = k + 1 := wrapB (by omega) (by omega)
    have w1 : IntKind.i64.wrap (k + 1 + 1) = k + 1 + 1 := wrapB (by omega) (by omega)
    have w2 : IntKind.i64.wrap (k + 1 + 1 + 1) = k + 1 + 1 + 1 := wrapB (by omega) (by omega)
    refine Vc.skip ?_
    refine Vc.seq ?_
    refine Vc.block ?_
    refine Vc.seq ?_
    refine Vc.region hG rfl ?_ ?_
    · show inRange i _
      exact mkRange hI hl
    refine Vc.seq ?_
    refine Vc.region hG rfl ?_ ?_
    · trivial
    refine Vc.seq ?_
    refine Vc.region hG rfl ?_ ?_
    · show inRange i _
      simp only [List.length_set]
      exact mkRange hI hl
    refine Vc.seq ?_
    refine Vc.region hG rfl ?_ ?_
    · trivial
    refine Vc.seq ?_
    refine Vc.region hG rfl ?_ ?_
    · show inRange i _
      simp only [List.length_set]
      exact mkRange hI hl
    refine Vc.seq ?_
    refine Vc.region hG rfl ?_ ?_
    · trivial
    refine Vc.seq ?_
    refine Vc.region hG rfl ?_ ?_
    · refine ⟨?_, ?_⟩
      · show inRange i _
        simp only [List.length_set]
        exact mkRange hI hl
      · show markPre (.slice (.pair (.int .i64) (.bool))) _ _
        try simp only [List.length_set, List.set_set, getD_setS hln, hX, cntF_eq, Sh.ty, w0, w1, w2]
        exact ⟨by omega, by omega⟩
    refine Vc.region hG rfl ?_ ?_
    · refine ⟨?_, ?_⟩
      · show inRange i _
        simp only [List.length_set]
        exact mkRange hI hl
      · show markPre (.slice (.pair (.int .i64) (.pair (.int .i64) (.pair (.int .i64) (.pair (.int .i64) (.int .i64)))))) _ _
        try simp only [List.length_set, List.set_set, getD_setS hln, hX, cntF_eq, Sh.ty, w0, w1, w2]
        exact ⟨by omega, by omega⟩
    refine Vc.region hG rfl ?_ ?_
    · trivial
    refine ⟨rfl, ?_⟩
    refine mkStep hI hl hbv (dflt (.pair (.int .i64) (.pair (.int .i64) (.pair (.int .i64) (.pair (.slice (.pair (.int .i64) (.bool))) (.slice (.pair (.int .i64) (.pair (.int .i64) (.pair (.int .i64) (.pair (.int .i64) (.int .i64))))))))))) ?_ ?_
    · rw [hX]
      try simp only [List.length_set, List.set_set, getD_setS hln, hX, cntF_eq, Sh.ty, w0, w1, w2]
      try rfl
    · rw [hX]
      show _ = k + (((1 + (1 + (1 + ((cellsC (.slice (.pair (.int .i64) (.bool))) X.2.2.2.1) + (cellsC (.slice (.pair (.int .i64) (.pair (.int .i64) (.pair (.int .i64) (.pair (.int .i64) (.int .i64)))))) X.2.2.2.2))))) : Nat) : Int)
      try simp only [List.length_set, List.set_set, getD_setS hln, hX, cntF_eq, Sh.ty, w0, w1, w2]
      try omega
  · skip
    have hl : ¬ i < (List.length v : Int) := of_decide_eq_false h0
    refine Vc.exit ?_
    refine Vc.seq ?_
    refine Vc.region hG rfl ?_ ?_
    · trivial
    refine Vc.ret ?_
    have e := mkEnd hI hl
    refine ⟨?_, ?_, trivial⟩
    · show k = cntF (.slice (.pair (.int .i64) (.pair (.int .i64) (.pair (.int .i64) (.pair (.slice (.pair (.int .i64) (.bool))) (.slice (.pair (.int .i64) (.pair (.int .i64) (.pair (.int .i64) (.pair (.int .i64) (.int .i64))))))))))) a0 a1
      rw [cntF_eq]; exact e.1
    · exact e.2
@[reducible] noncomputable def M57 : MFun := mV (.pair (.own (.pair (.pure (.int .i64)) (.pair (.own (.pure (.int .i64))) (.pure (.int .i64))))) (.own (.pair (.pure (.int .i64)) (.pair (.pure (.int .i64)) (.pair (.pure (.int .i64)) (.pair (.own (.pure (.pair (.int .i64) (.bool)))) (.own (.pure (.pair (.int .i64) (.pair (.int .i64) (.pair (.int .i64) (.pair (.int .i64) (.int .i64)))))))))))))
set_option maxRecDepth 100000 in
/-- loop.example.g00597.laws.markStrand -/
theorem M57_ok : MeetsM Try.prog 57 M57 := by
  refine meetsM_of_vc (C := mkCM 14 [4] [0,1,2,4] [] [⟨105, _, M105_ok⟩, ⟨106, _, M106_ok⟩] [] [0]) (mkCM_ok _ _ _ _ _ _ _) (fnOf_ok _) Try.func57 rfl rfl rfl (by decide) rfl rfl rfl rfl ?_
  rintro a0 (a1 : Int) hwf hin hpre ⟨P, C, B, X, w0, M0, pv⟩ hG rfl rfl
  show Vc _ _ [(0, ⟨0, 0, .c (.pair (.own (.pair (.pure (.int .i64)) (.pair (.own (.pure (.int .i64))) (.pure (.int .i64))))) (.own (.pair (.pure (.int .i64)) (.pair (.pure (.int .i64)) (.pair (.pure (.int .i64)) (.pair (.own (.pure (.pair (.int .i64) (.bool)))) (.own (.pure (.pair (.int .i64) (.pair (.int .i64) (.pair (.int .i64) (.pair (.int .i64) (.int .i64))))))))))))) a0⟩), (1, ⟨0, 0, .c (.pure (.int .i64)) a1⟩)] _
  have hp0 : 0 ≤ a1 := hpre.1
  have hp1 : a1 + ((cellsV (.pair (.slice (.pair (.int .i64) (.pair (.slice (.int .i64)) (.int .i64)))) (.slice (.pair (.int .i64) (.pair (.int .i64) (.pair (.int .i64) (.pair (.slice (.pair (.int .i64) (.bool))) (.slice (.pair (.int .i64) (.pair (.int .i64) (.pair (.int .i64) (.pair (.int .i64) (.int .i64)))))))))))) a0 : Nat) : Int) ≤ bnd := hpre.2
  have hc : ((cellsV (.pair (.slice (.pair (.int .i64) (.pair (.slice (.int .i64)) (.int .i64)))) (.slice (.pair (.int .i64) (.pair (.int .i64) (.pair (.int .i64) (.pair (.slice (.pair (.int .i64) (.bool))) (.slice (.pair (.int .i64) (.pair (.int .i64) (.pair (.int .i64) (.pair (.int .i64) (.int .i64)))))))))))) a0 : Nat) : Int) = ((cellsC (.slice (.pair (.int .i64) (.pair (.slice (.int .i64)) (.int .i64)))) a0.1 : Nat) : Int) + ((cellsC (.slice (.pair (.int .i64) (.pair (.int .i64) (.pair (.int .i64) (.pair (.slice (.pair (.int .i64) (.bool))) (.slice (.pair (.int .i64) (.pair (.int .i64) (.pair (.int .i64) (.pair (.int .i64) (.int .i64))))))))))) a0.2 : Nat) : Int) := by
    show (((cellsC (.slice (.pair (.int .i64) (.pair (.slice (.int .i64)) (.int .i64)))) a0.1 + cellsC (.slice (.pair (.int .i64) (.pair (.int .i64) (.pair (.int .i64) (.pair (.slice (.pair (.int .i64) (.bool))) (.slice (.pair (.int .i64) (.pair (.int .i64) (.pair (.int .i64) (.pair (.int .i64) (.int .i64))))))))))) a0.2) : Nat) : Int) = _
    omega
  refine Vc.seq ?_
  refine Vc.region hG rfl ?_ ?_
  · trivial
  refine Vc.seq ?_
  refine Vc.region hG rfl ?_ ?_
  · exact (show markPre (.slice (.pair (.int .i64) (.pair (.slice (.int .i64)) (.int .i64)))) a0.1 (a1) from ⟨by omega, by omega⟩)
  refine Vc.seq ?_
  refine Vc.region hG rfl ?_ ?_
  · have ce0 := cntF_eq (.slice (.pair (.int .i64) (.pair (.slice (.int .i64)) (.int .i64)))) a0.1 (a1)
    exact (show markPre (.slice (.pair (.int .i64) (.pair (.int .i64) (.pair (.int .i64) (.pair (.slice (.pair (.int .i64) (.bool))) (.slice (.pair (.int .i64) (.pair (.int .i64) (.pair (.int .i64) (.pair (.int .i64) (.int .i64))))))))))) a0.2 (cntF (.slice (.pair (.int .i64) (.pair (.slice (.int .i64)) (.int .i64)))) a0.1 (a1)) from ⟨by omega, by omega⟩)
  refine Vc.seq ?_
  refine Vc.region hG rfl ?_ ?_
  · trivial
  refine Vc.ret ?_
  have ce0 := cntF_eq (.slice (.pair (.int .i64) (.pair (.slice (.int .i64)) (.int .i64)))) a0.1 (a1)
  have ce1 := cntF_eq (.slice (.pair (.int .i64) (.pair (.int .i64) (.pair (.int .i64) (.pair (.slice (.pair (.int .i64) (.bool))) (.slice (.pair (.int .i64) (.pair (.int .i64) (.pair (.int .i64) (.pair (.int .i64) (.int .i64))))))))))) a0.2 (cntF (.slice (.pair (.int .i64) (.pair (.slice (.int .i64)) (.int .i64)))) a0.1 (a1))
  refine ⟨?_, ?_, trivial⟩
  · show cntF (.slice (.pair (.int .i64) (.pair (.int .i64) (.pair (.int .i64) (.pair (.slice (.pair (.int .i64) (.bool))) (.slice (.pair (.int .i64) (.pair (.int .i64) (.pair (.int .i64) (.pair (.int .i64) (.int .i64))))))))))) a0.2 (cntF (.slice (.pair (.int .i64) (.pair (.slice (.int .i64)) (.int .i64)))) a0.1 (a1)) = cntV (.pair (.slice (.pair (.int .i64) (.pair (.slice (.int .i64)) (.int .i64)))) (.slice (.pair (.int .i64) (.pair (.int .i64) (.pair (.int .i64) (.pair (.slice (.pair (.int .i64) (.bool))) (.slice (.pair (.int .i64) (.pair (.int .i64) (.pair (.int .i64) (.pair (.int .i64) (.int .i64)))))))))))) a0 a1
    rw [cntV_eq (.pair (.slice (.pair (.int .i64) (.pair (.slice (.int .i64)) (.int .i64)))) (.slice (.pair (.int .i64) (.pair (.int .i64) (.pair (.int .i64) (.pair (.slice (.pair (.int .i64) (.bool))) (.slice (.pair (.int .i64) (.pair (.int .i64) (.pair (.int .i64) (.pair (.int .i64) (.int .i64)))))))))))) a0 a1]
    omega
  · exact (Prod.ext (congrArg (markC (.slice (.pair (.int .i64) (.pair (.slice (.int .i64)) (.int .i64)))) a0.1) (show a1 = a1 from by omega)) (congrArg (markC (.slice (.pair (.int .i64) (.pair (.int .i64) (.pair (.int .i64) (.pair (.slice (.pair (.int .i64) (.bool))) (.slice (.pair (.int .i64) (.pair (.int .i64) (.pair (.int .i64) (.pair (.int .i64) (.int .i64))))))))))) a0.2) (show cntF (.slice (.pair (.int .i64) (.pair (.slice (.int .i64)) (.int .i64)))) a0.1 (a1) = a1 + ((cellsC (.slice (.pair (.int .i64) (.pair (.slice (.int .i64)) (.int .i64)))) a0.1 : Nat) : Int) from by omega)))
@[reducible] noncomputable def M15 : MFun := mV (.pair (.pure (.int .i64)) (.pair (.pure (.int .i64)) (.pair (.pair (.pure (.int .i64)) (.pair (.own (.pure (.str))) (.own (.pure (.int .i64))))) (.pair (.pure (.pair (.int .i64) (.pair (.int .i64) (.pair (.int .i64) (.pair (.int .i64) (.pair (.int .i64) (.pair (.int .i64) (.pair (.int .i64) (.pair (.int .i64) (.int .i64)))))))))) (.pair (.own (.pair (.pure (.int .i64)) (.pair (.own (.pure (.int .i64))) (.pure (.int .i64))))) (.own (.pair (.pure (.int .i64)) (.pair (.pure (.int .i64)) (.pair (.pure (.int .i64)) (.pair (.own (.pure (.pair (.int .i64) (.bool)))) (.own (.pure (.pair (.int .i64) (.pair (.int .i64) (.pair (.int .i64) (.pair (.int .i64) (.int .i64)))))))))))))))))
set_option maxRecDepth 100000 in
/-- loop.example.g00597.laws.markItem -/
theorem M15_ok : MeetsM Try.prog 15 M15 := by
  refine meetsM_of_vc (C := mkCM 14 [4] [0,1,2,4] [] [⟨56, _, M56_ok⟩, ⟨57, _, M57_ok⟩] [] [0]) (mkCM_ok _ _ _ _ _ _ _) (fnOf_ok _) Try.func15 rfl rfl rfl (by decide) rfl rfl rfl rfl ?_
  rintro a0 (a1 : Int) hwf hin hpre ⟨P, C, B, X, w0, M0, pv⟩ hG rfl rfl
  show Vc _ _ [(0, ⟨0, 0, .c (.pair (.pure (.int .i64)) (.pair (.pure (.int .i64)) (.pair (.pair (.pure (.int .i64)) (.pair (.own (.pure (.str))) (.own (.pure (.int .i64))))) (.pair (.pure (.pair (.int .i64) (.pair (.int .i64) (.pair (.int .i64) (.pair (.int .i64) (.pair (.int .i64) (.pair (.int .i64) (.pair (.int .i64) (.pair (.int .i64) (.int .i64)))))))))) (.pair (.own (.pair (.pure (.int .i64)) (.pair (.own (.pure (.int .i64))) (.pure (.int .i64))))) (.own (.pair (.pure (.int .i64)) (.pair (.pure (.int .i64)) (.pair (.pure (.int .i64)) (.pair (.own (.pure (.pair (.int .i64) (.bool)))) (.own (.pure (.pair (.int .i64) (.pair (.int .i64) (.pair (.int .i64) (.pair (.int .i64) (.int .i64))))))))))))))))) a0⟩), (1, ⟨0, 0, .c (.pure (.int .i64)) a1⟩)] _
  have hp0 : 0 ≤ a1 := hpre.1
  have hp1 : a1 + ((cellsV (.pair (.int .i64) (.pair (.int .i64) (.pair (.pair (.int .i64) (.pair (.slice (.str)) (.slice (.int .i64)))) (.pair (.pair (.int .i64) (.pair (.int .i64) (.pair (.int .i64) (.pair (.int .i64) (.pair (.int .i64) (.pair (.int .i64) (.pair (.int .i64) (.pair (.int .i64) (.int .i64))))))))) (.pair (.slice (.pair (.int .i64) (.pair (.slice (.int .i64)) (.int .i64)))) (.slice (.pair (.int .i64) (.pair (.int .i64) (.pair (.int .i64) (.pair (.slice (.pair (.int .i64) (.bool))) (.slice (.pair (.int .i64) (.pair (.int .i64) (.pair (.int .i64) (.pair (.int .i64) (.int .i64)))))))))))))))) a0 : Nat) : Int) ≤ bnd := hpre.2
  have hc : ((cellsV (.pair (.int .i64) (.pair (.int .i64) (.pair (.pair (.int .i64) (.pair (.slice (.str)) (.slice (.int .i64)))) (.pair (.pair (.int .i64) (.pair (.int .i64) (.pair (.int .i64) (.pair (.int .i64) (.pair (.int .i64) (.pair (.int .i64) (.pair (.int .i64) (.pair (.int .i64) (.int .i64))))))))) (.pair (.slice (.pair (.int .i64) (.pair (.slice (.int .i64)) (.int .i64)))) (.slice (.pair (.int .i64) (.pair (.int .i64) (.pair (.int .i64) (.pair (.slice (.pair (.int .i64) (.bool))) (.slice (.pair (.int .i64) (.pair (.int .i64) (.pair (.int .i64) (.pair (.int .i64) (.int .i64)))))))))))))))) a0 : Nat) : Int) = ((cellsV (.pair (.int .i64) (.pair (.slice (.str)) (.slice (.int .i64)))) a0.2.2.1 : Nat) : Int) + ((cellsV (.pair (.slice (.pair (.int .i64) (.pair (.slice (.int .i64)) (.int .i64)))) (.slice (.pair (.int .i64) (.pair (.int .i64) (.pair (.int .i64) (.pair (.slice (.pair (.int .i64) (.bool))) (.slice (.pair (.int .i64) (.pair (.int .i64) (.pair (.int .i64) (.pair (.int .i64) (.int .i64)))))))))))) a0.2.2.2.2 : Nat) : Int) := by
    show (((0 + (0 + (cellsV (.pair (.int .i64) (.pair (.slice (.str)) (.slice (.int .i64)))) a0.2.2.1 + (0 + cellsV (.pair (.slice (.pair (.int .i64) (.pair (.slice (.int .i64)) (.int .i64)))) (.slice (.pair (.int .i64) (.pair (.int .i64) (.pair (.int .i64) (.pair (.slice (.pair (.int .i64) (.bool))) (.slice (.pair (.int .i64) (.pair (.int .i64) (.pair (.int .i64) (.pair (.int .i64) (.int .i64)))))))))))) a0.2.2.2.2)))) : Nat) : Int) = _
    omega
  refine Vc.seq ?_
  refine Vc.region hG rfl ?_ ?_
  · trivial
  refine Vc.seq ?_
  refine Vc.region hG rfl ?_ ?_
  · exact (show markPreV (.pair (.int .i64) (.pair (.slice (.str)) (.slice (.int .i64)))) a0.2.2.1 (a1) from ⟨by omega, by omega⟩)
  refine Vc.seq ?_
  refine Vc.region hG rfl ?_ ?_
  · have ce0 := cntV_eq (.pair (.int .i64) (.pair (.slice (.str)) (.slice (.int .i64)))) a0.2.2.1 (a1)
    exact (show markPreV (.pair (.slice (.pair (.int .i64) (.pair (.slice (.int .i64)) (.int .i64)))) (.slice (.pair (.int .i64) (.pair (.int .i64) (.pair (.int .i64) (.pair (.slice (.pair (.int .i64) (.bool))) (.slice (.pair (.int .i64) (.pair (.int .i64) (.pair (.int .i64) (.pair (.int .i64) (.int .i64)))))))))))) a0.2.2.2.2 (cntV (.pair (.int .i64) (.pair (.slice (.str)) (.slice (.int .i64)))) a0.2.2.1 (a1)) from ⟨by omega, by omega⟩)
  refine Vc.seq ?_
  refine Vc.region hG rfl ?_ ?_
  · trivial
  refine Vc.ret ?_
  have ce0 := cntV_eq (.pair (.int .i64) (.pair (.slice (.str)) (.slice (.int .i64)))) a0.2.2.1 (a1)
  have ce1 := cntV_eq (.pair (.slice (.pair (.int .i64) (.pair (.slice (.int .i64)) (.int .i64)))) (.slice (.pair (.int .i64) (.pair (.int .i64) (.pair (.int .i64) (.pair (.slice (.pair (.int .i64) (.bool))) (.slice (.pair (.int .i64) (.pair (.int .i64) (.pair (.int .i64) (.pair (.int .i64) (.int .i64)))))))))))) a0.2.2.2.2 (cntV (.pair (.int .i64) (.pair (.slice (.str)) (.slice (.int .i64)))) a0.2.2.1 (a1))
  refine ⟨?_, ?_, trivial⟩
  · show cntV (.pair (.slice (.pair (.int .i64) (.pair (.slice (.int .i64)) (.int .i64)))) (.slice (.pair (.int .i64) (.pair (.int .i64) (.pair (.int .i64) (.pair (.slice (.pair (.int .i64) (.bool))) (.slice (.pair (.int .i64) (.pair (.int .i64) (.pair (.int .i64) (.pair (.int .i64) (.int .i64)))))))))))) a0.2.2.2.2 (cntV (.pair (.int .i64) (.pair (.slice (.str)) (.slice (.int .i64)))) a0.2.2.1 (a1)) = cntV (.pair (.int .i64) (.pair (.int .i64) (.pair (.pair (.int .i64) (.pair (.slice (.str)) (.slice (.int .i64)))) (.pair (.pair (.int .i64) (.pair (.int .i64) (.pair (.int .i64) (.pair (.int .i64) (.pair (.int .i64) (.pair (.int .i64) (.pair (.int .i64) (.pair (.int .i64) (.int .i64))))))))) (.pair (.slice (.pair (.int .i64) (.pair (.slice (.int .i64)) (.int .i64)))) (.slice (.pair (.int .i64) (.pair (.int .i64) (.pair (.int .i64) (.pair (.slice (.pair (.int .i64) (.bool))) (.slice (.pair (.int .i64) (.pair (.int .i64) (.pair (.int .i64) (.pair (.int .i64) (.int .i64)))))))))))))))) a0 a1
    rw [cntV_eq (.pair (.int .i64) (.pair (.int .i64) (.pair (.pair (.int .i64) (.pair (.slice (.str)) (.slice (.int .i64)))) (.pair (.pair (.int .i64) (.pair (.int .i64) (.pair (.int .i64) (.pair (.int .i64) (.pair (.int .i64) (.pair (.int .i64) (.pair (.int .i64) (.pair (.int .i64) (.int .i64))))))))) (.pair (.slice (.pair (.int .i64) (.pair (.slice (.int .i64)) (.int .i64)))) (.slice (.pair (.int .i64) (.pair (.int .i64) (.pair (.int .i64) (.pair (.slice (.pair (.int .i64) (.bool))) (.slice (.pair (.int .i64) (.pair (.int .i64) (.pair (.int .i64) (.pair (.int .i64) (.int .i64)))))))))))))))) a0 a1]
    omega
  · exact (Prod.ext rfl (Prod.ext rfl (Prod.ext (congrArg (markV (.pair (.int .i64) (.pair (.slice (.str)) (.slice (.int .i64)))) a0.2.2.1) (show a1 = a1 + ((0 : Nat) : Int) + ((0 : Nat) : Int) from by omega)) (Prod.ext rfl (congrArg (markV (.pair (.slice (.pair (.int .i64) (.pair (.slice (.int .i64)) (.int .i64)))) (.slice (.pair (.int .i64) (.pair (.int .i64) (.pair (.int .i64) (.pair (.slice (.pair (.int .i64) (.bool))) (.slice (.pair (.int .i64) (.pair (.int .i64) (.pair (.int .i64) (.pair (.int .i64) (.int .i64)))))))))))) a0.2.2.2.2) (show cntV (.pair (.int .i64) (.pair (.slice (.str)) (.slice (.int .i64)))) a0.2.2.1 (a1) = a1 + ((0 : Nat) : Int) + ((0 : Nat) : Int) + ((cellsV (.pair (.int .i64) (.pair (.slice (.str)) (.slice (.int .i64)))) a0.2.2.1 : Nat) : Int) + ((0 : Nat) : Int) from by omega))))))
@[reducible] noncomputable def M58 : MFun := mF (.own (.pair (.own (.pair (.pure (.int .i64)) (.pair (.own (.pure (.int .i64))) (.pure (.int .i64))))) (.own (.pair (.pure (.int .i64)) (.pair (.pure (.int .i64)) (.pair (.pure (.int .i64)) (.pair (.own (.pure (.pair (.int .i64) (.bool)))) (.own (.pure (.pair (.int .i64) (.pair (.int .i64) (.pair (.int .i64) (.pair (.int .i64) (.int .i64))))))))))))))
set_option maxRecDepth 100000 in
set_option maxHeartbeats 2000000 in
/-- loop.example.g00597.laws.markStrandS -/
theorem M58_ok : MeetsM Try.prog 58 M58 := by
  refine meetsM_of_vc (C := mkCM 27 [4] [0,1,4,5,9] [] [⟨105, _, M105_ok⟩, ⟨106, _, M106_ok⟩] [] [0]) (mkCM_ok _ _ _ _ _ _ _) (fnOf_ok _) Try.func58 rfl rfl rfl (by decide) rfl rfl rfl rfl ?_
  rintro a0 (a1 : Int) hwf hin hpre ⟨P, C, B, X, w0, M0, pv⟩ hG rfl rfl
  show Vc _ _ [(0, ⟨0, 0, .c (.own (.pair (.own (.pair (.pure (.int .i64)) (.pair (.own (.pure (.int .i64))) (.pure (.int .i64))))) (.own (.pair (.pure (.int .i64)) (.pair (.pure (.int .i64)) (.pair (.pure (.int .i64)) (.pair (.own (.pure (.pair (.int .i64) (.bool)))) (.own (.pure (.pair (.int .i64) (.pair (.int .i64) (.pair (.int .i64) (.pair (.int .i64) (.int .i64)))))))))))))) a0⟩), (1, ⟨0, 0, .c (.pure (.int .i64)) a1⟩)] _
  have hb : List.length a0 ≤ bigLen := hwf.1
  have hp0 : 0 ≤ a1 := hpre.1
  have hp1 : a1 + ((cellsL (cellsC (.pair (.slice (.pair (.int .i64) (.pair (.slice (.int .i64)) (.int .i64)))) (.slice (.pair (.int .i64) (.pair (.int .i64) (.pair (.int .i64) (.pair (.slice (.pair (.int .i64) (.bool))) (.slice (.pair (.int .i64) (.pair (.int .i64) (.pair (.int .i64) (.pair (.int .i64) (.int .i64))))))))))))) a0 : Nat) : Int) ≤ bnd := hpre.2
  refine Vc.seq ?_
  refine Vc.region hG rfl ?_ ?_
  · trivial
  refine Vc.seq ?_
  refine Vc.seq ?_
  refine Vc.region hG rfl ?_ ?_
  · trivial
  refine Vc.block ?_
  -- slots [0, 1, 5]; frame [4]
  refine Vc.loopF [(0, false, .own (.pair (.own (.pair (.pure (.int .i64)) (.pair (.own (.pure (.int .i64))) (.pure (.int .i64))))) (.own (.pair (.pure (.int .i64)) (.pair (.pure (.int .i64)) (.pair (.pure (.int .i64)) (.pair (.own (.pure (.pair (.int .i64) (.bool)))) (.own (.pure (.pair (.int .i64) (.pair (.int .i64) (.pair (.int .i64) (.pair (.int .i64) (.int .i64)))))))))))))), (1, false, .pure (.int .i64)), (5, false, .pure (.int .i64))] [4] (fun v => mkInv (cellsC (.pair (.slice (.pair (.int .i64) (.pair (.slice (.int .i64)) (.int .i64)))) (.slice (.pair (.int .i64) (.pair (.int .i64) (.pair (.int .i64) (.pair (.slice (.pair (.int .i64) (.bool))) (.slice (.pair (.int .i64) (.pair (.int .i64) (.pair (.int .i64) (.pair (.int .i64) (.int .i64))))))))))))) (markC (.pair (.slice (.pair (.int .i64) (.pair (.slice (.int .i64)) (.int .i64)))) (.slice (.pair (.int .i64) (.pair (.int .i64) (.pair (.int .i64) (.pair (.slice (.pair (.int .i64) (.bool))) (.slice (.pair (.int .i64) (.pair (.int .i64) (.pair (.int .i64) (.pair (.int .i64) (.int .i64))))))))))))) a0 a1 v.1 v.2.1 v.2.2.1) (fun v => ((List.length v.1 : Int) - v.2.2.1).toNat) rfl ?_ ?_
  · exact mkStart
  rintro ⟨v, (k : Int), (i : Int), _⟩ hI
  have hI : mkInv (cellsC (.pair (.slice (.pair (.int .i64) (.pair (.slice (.int .i64)) (.int .i64)))) (.slice (.pair (.int .i64) (.pair (.int .i64) (.pair (.int .i64) (.pair (.slice (.pair (.int .i64) (.bool))) (.slice (.pair (.int .i64) (.pair (.int .i64) (.pair (.int .i64) (.pair (.int .i64) (.int .i64))))))))))))) (markC (.pair (.slice (.pair (.int .i64) (.pair (.slice (.int .i64)) (.int .i64)))) (.slice (.pair (.int .i64) (.pair (.int .i64) (.pair (.int .i64) (.pair (.slice (.pair (.int .i64) (.bool))) (.slice (.pair (.int .i64) (.pair (.int .i64) (.pair (.int .i64) (.pair (.int .i64) (.int .i64))))))))))))) a0 a1 v k i := hI
  have hbv : v.length ≤ bigLen := by rw [mkLen hI]; exact hb
  refine Vc.seq ?_
  refine Vc.seq ?_
  refine Vc.region hG rfl ?_ ?_
  · trivial
  refine Vc.cond rfl (fun h0 => ?_) (fun h0 => ?_)
  · skip
    have hl : i < (List.length v : Int) := of_decide_eq_true h0
    have hln : i.toNat < v.length := by have := hI.1; omega
    have hk := mkBound hI hl (dflt (.pair (.slice (.pair (.int .i64) (.pair (.slice (.int .i64)) (.int .i64)))) (.slice (.pair (.int .i64) (.pair (.int .i64) (.pair (.int .i64) (.pair (.slice (.pair (.int .i64) (.bool))) (.slice (.pair (.int .i64) (.pair (.int .i64) (.pair (.int .i64) (.pair (.int .i64) (.int .i64))))))))))))) hp0 hp1
    generalize hX : List.getD v i.toNat (dflt (.pair (.slice (.pair (.int .i64) (.pair (.slice (.int .i64)) (.int .i64)))) (.slice (.pair (.int .i64) (.pair (.int .i64) (.pair (.int .i64) (.pair (.slice (.pair (.int .i64) (.bool))) (.slice (.pair (.int .i64) (.pair (.int .i64) (.pair (.int .i64) (.pair (.int .i64) (.int .i64))))))))))))) = X at hk
    have hk : 0 ≤ k ∧ k + ((((cellsC (.slice (.pair (.int .i64) (.pair (.slice (.int .i64)) (.int .i64)))) X.1) + (cellsC (.slice (.pair (.int .i64) (.pair (.int .i64) (.pair (.int .i64) (.pair (.slice (.pair (.int .i64) (.bool))) (.slice (.pair (.int .i64) (.pair (.int .i64) (.pair (.int .i64) (.pair (.int .i64) (.int .i64))))))))))) X.2)) : Nat) : Int) ≤ bnd := hk
    refine Vc.skip ?_
    refine Vc.seq ?_
    refine Vc.block ?_
    refine Vc.seq ?_
    refine Vc.region hG rfl ?_ ?_
    · refine ⟨?_, ?_⟩
      · show inRange i _
        simp only [List.length_set]
        exact mkRange hI hl
      · show markPre (.slice (.pair (.int .i64) (.pair (.slice (.int .i64)) (.int .i64)))) _ _
        try simp only [List.length_set, List.set_set, getD_setS hln, hX, cntF_eq, Sh.ty]
        exact ⟨by omega, by omega⟩
    refine Vc.region hG rfl ?_ ?_
    · refine ⟨?_, ?_⟩
      · show inRange i _
        simp only [List.length_set]
        exact mkRange hI hl
      · show markPre (.slice (.pair (.int .i64) (.pair (.int .i64) (.pair (.int .i64) (.pair (.slice (.pair (.int .i64) (.bool))) (.slice (.pair (.int .i64) (.pair (.int .i64) (.pair (.int .i64) (.pair (.int .i64) (.int .i64))))))))))) _ _
        try simp only [List.length_set, List.set_set, getD_setS hln, hX, cntF_eq, Sh.ty]
        exact ⟨by omega, by omega⟩
    refine Vc.region hG rfl ?_ ?_
    · trivial
    refine ⟨rfl, ?_⟩
    refine mkStep hI hl hbv (dflt (.pair (.slice (.pair (.int .i64) (.pair (.slice (.int .i64)) (.int .i64)))) (.slice (.pair (.int .i64) (.pair (.int .i64) (.pair (.int .i64) (.pair (.slice (.pair (.int .i64) (.bool))) (.slice (.pair (.int .i64) (.pair (.int .i64) (.pair (.int .i64) (.pair (.int .i64) (.int .i64))))))))))))) ?_ ?_
    · rw [hX]
      try simp only [List.length_set, List.set_set, getD_setS hln, hX, cntF_eq, Sh.ty]
      try rfl
    · rw [hX]
      show _ = k + ((((cellsC (.slice (.pair (.int .i64) (.pair (.slice (.int .i64)) (.int .i64)))) X.1) + (cellsC (.slice (.pair (.int .i64) (.pair (.int .i64) (.pair (.int .i64) (.pair (.slice (.pair (.int .i64) (.bool))) (.slice (.pair (.int .i64) (.pair (.int .i64) (.pair (.int .i64) (.pair (.int .i64) (.int .i64))))))))))) X.2)) : Nat) : Int)
      try simp only [List.length_set, List.set_set, getD_setS hln, hX, cntF_eq, Sh.ty]
      try omega
  · skip
    have hl : ¬ i < (List.length v : Int) := of_decide_eq_false h0
    refine Vc.exit ?_
    refine Vc.seq ?_
    refine Vc.region hG rfl ?_ ?_
    · trivial
    refine Vc.ret ?_
    have e := mkEnd hI hl
    refine ⟨?_, ?_, trivial⟩
    · show k = cntF (.slice (.pair (.slice (.pair (.int .i64) (.pair (.slice (.int .i64)) (.int .i64)))) (.slice (.pair (.int .i64) (.pair (.int .i64) (.pair (.int .i64) (.pair (.slice (.pair (.int .i64) (.bool))) (.slice (.pair (.int .i64) (.pair (.int .i64) (.pair (.int .i64) (.pair (.int .i64) (.int .i64))))))))))))) a0 a1
      rw [cntF_eq]; exact e.1
    · exact e.2
@[reducible] noncomputable def M59 : MFun := mF (.own (.own (.pure (.pair (.int .i64) (.pair (.int .i64) (.pair (.int .i64) (.pair (.int .i64) (.int .i64))))))))
set_option maxRecDepth 100000 in
set_option maxHeartbeats 2000000 in
/-- loop.example.g00597.laws.markStampSS -/
theorem M59_ok : MeetsM Try.prog 59 M59 := by
  refine meetsM_of_vc (C := mkCM 19 [4] [0,1,4,5,9] [] [⟨107, _, M107_ok⟩] [] [0]) (mkCM_ok _ _ _ _ _ _ _) (fnOf_ok _) Try.func59 rfl rfl rfl (by decide) rfl rfl rfl rfl ?_
  rintro a0 (a1 : Int) hwf hin hpre ⟨P, C, B, X, w0, M0, pv⟩ hG rfl rfl
  show Vc _ _ [(0, ⟨0, 0, .c (.own (.own (.pure (.pair (.int .i64) (.pair (.int .i64) (.pair (.int .i64) (.pair (.int .i64) (.int .i64)))))))) a0⟩), (1, ⟨0, 0, .c (.pure (.int .i64)) a1⟩)] _
  have hb : List.length a0 ≤ bigLen := hwf.1
  have hp0 : 0 ≤ a1 := hpre.1
  have hp1 : a1 + ((cellsL (cellsC (.slice (.pair (.int .i64) (.pair (.int .i64) (.pair (.int .i64) (.pair (.int .i64) (.int .i64))))))) a0 : Nat) : Int) ≤ bnd := hpre.2
  refine Vc.seq ?_
  refine Vc.region hG rfl ?_ ?_
  · trivial
  refine Vc.seq ?_
  refine Vc.seq ?_
  refine Vc.region hG rfl ?_ ?_
  · trivial
  refine Vc.block ?_
  -- slots [0, 1, 5]; frame [4]
  refine Vc.loopF [(0, false, .own (.own (.pure (.pair (.int .i64) (.pair (.int .i64) (.pair (.int .i64) (.pair (.int .i64) (.int .i64)))))))), (1, false, .pure (.int .i64)), (5, false, .pure (.int .i64))] [4] (fun v => mkInv (cellsC (.slice (.pair (.int .i64) (.pair (.int .i64) (.pair (.int .i64) (.pair (.int .i64) (.int .i64))))))) (markC (.slice (.pair (.int .i64) (.pair (.int .i64) (.pair (.int .i64) (.pair (.int .i64) (.int .i64))))))) a0 a1 v.1 v.2.1 v.2.2.1) (fun v => ((List.length v.1 : Int) - v.2.2.1).toNat) rfl ?_ ?_
  · exact mkStart
  rintro ⟨v, (k : Int), (i : Int), _⟩ hI
  have hI : mkInv (cellsC (.slice (.pair (.int .i64) (.pair (.int .i64) (.pair (.int .i64) (.pair (.int .i64) (.int .i64))))))) (markC (.slice (.pair (.int .i64) (.pair (.int .i64) (.pair (.int .i64) (.pair (.int .i64) (.int .i64))))))) a0 a1 v k i := hI
  have hbv : v.length ≤ bigLen := by rw [mkLen hI]; exact hb
  refine Vc.seq ?_
  refine Vc.seq ?_
  refine Vc.region hG rfl ?_ ?_
  · trivial
  refine Vc.cond rfl (fun h0 => ?_) (fun h0 => ?_)
  · skip
    have hl : i < (List.length v : Int) := of_decide_eq_true h0
    have hln : i.toNat < v.length := by have := hI.1; omega
    have hk := mkBound hI hl (dflt (.slice (.pair (.int .i64) (.pair (.int .i64) (.pair (.int .i64) (.pair (.int .i64) (.int .i64))))))) hp0 hp1
    generalize hX : List.getD v i.toNat (dflt (.slice (.pair (.int .i64) (.pair (.int .i64) (.pair (.int .i64) (.pair (.int .i64) (.int .i64))))))) = X at hk
    have hk : 0 ≤ k ∧ k + (((cellsC (.slice (.pair (.int .i64) (.pair (.int .i64) (.pair (.int .i64) (.pair (.int .i64) (.int .i64)))))) X) : Nat) : Int) ≤ bnd := hk
    refine Vc.skip ?_
    refine Vc.seq ?_
    refine Vc.block ?_
    refine Vc.region hG rfl ?_ ?_
    · refine ⟨?_, ?_⟩
      · show inRange i _
        simp only [List.length_set]
        exact mkRange hI hl
      · show markPre (.slice (.pair (.int .i64) (.pair (.int .i64) (.pair (.int .i64) (.pair (.int .i64) (.int .i64)))))) _ _
        try simp only [List.length_set, List.set_set, getD_setS hln, hX, cntF_eq, Sh.ty]
        exact ⟨by omega, by omega⟩
    refine Vc.region hG rfl ?_ ?_
    · trivial
    refine ⟨rfl, ?_⟩
    refine mkStep hI hl hbv (dflt (.slice (.pair (.int .i64) (.pair (.int .i64) (.pair (.int .i64) (.pair (.int .i64) (.int .i64))))))) ?_ ?_
    · rw [hX]
      try simp only [List.length_set, List.set_set, getD_setS hln, hX, cntF_eq, Sh.ty]
      try rfl
    · rw [hX]
      show _ = k + (((cellsC (.slice (.pair (.int .i64) (.pair (.int .i64) (.pair (.int .i64) (.pair (.int .i64) (.int .i64)))))) X) : Nat) : Int)
      try simp only [List.length_set, List.set_set, getD_setS hln, hX, cntF_eq, Sh.ty]
      try omega
  · skip
    have hl : ¬ i < (List.length v : Int) := of_decide_eq_false h0
    refine Vc.exit ?_
    refine Vc.seq ?_
    refine Vc.region hG rfl ?_ ?_
    · trivial
    refine Vc.ret ?_
    have e := mkEnd hI hl
    refine ⟨?_, ?_, trivial⟩
    · show k = cntF (.slice (.slice (.pair (.int .i64) (.pair (.int .i64) (.pair (.int .i64) (.pair (.int .i64) (.int .i64))))))) a0 a1
      rw [cntF_eq]; exact e.1
    · exact e.2
@[reducible] noncomputable def M16 : MFun := mV (.pair (.own (.pair (.own (.pair (.pure (.int .i64)) (.pair (.own (.pure (.int .i64))) (.pure (.int .i64))))) (.own (.pair (.pure (.int .i64)) (.pair (.pure (.int .i64)) (.pair (.pure (.int .i64)) (.pair (.own (.pure (.pair (.int .i64) (.bool)))) (.own (.pure (.pair (.int .i64) (.pair (.int .i64) (.pair (.int .i64) (.pair (.int .i64) (.int .i64)))))))))))))) (.own (.own (.pure (.pair (.int .i64) (.pair (.int .i64) (.pair (.int .i64) (.pair (.int .i64) (.int .i64)))))))))
set_option maxRecDepth 100000 in
/-- loop.example.g00597.laws.markEvidence -/
theorem M16_ok : MeetsM Try.prog 16 M16 := by
  refine meetsM_of_vc (C := mkCM 14 [4] [0,1,2,4] [] [⟨58, _, M58_ok⟩, ⟨59, _, M59_ok⟩] [] [0]) (mkCM_ok _ _ _ _ _ _ _) (fnOf_ok _) Try.func16 rfl rfl rfl (by decide) rfl rfl rfl rfl ?_
  rintro a0 (a1 : Int) hwf hin hpre ⟨P, C, B, X, w0, M0, pv⟩ hG rfl rfl
  show Vc _ _ [(0, ⟨0, 0, .c (.pair (.own (.pair (.own (.pair (.pure (.int .i64)) (.pair (.own (.pure (.int .i64))) (.pure (.int .i64))))) (.own (.pair (.pure (.int .i64)) (.pair (.pure (.int .i64)) (.pair (.pure (.int .i64)) (.pair (.own (.pure (.pair (.int .i64) (.bool)))) (.own (.pure (.pair (.int .i64) (.pair (.int .i64) (.pair (.int .i64) (.pair (.int .i64) (.int .i64)))))))))))))) (.own (.own (.pure (.pair (.int .i64) (.pair (.int .i64) (.pair (.int .i64) (.pair (.int .i64) (.int .i64))))))))) a0⟩), (1, ⟨0, 0, .c (.pure (.int .i64)) a1⟩)] _
  have hp0 : 0 ≤ a1 := hpre.1
  have hp1 : a1 + ((cellsV (.pair (.slice (.pair (.slice (.pair (.int .i64) (.pair (.slice (.int .i64)) (.int .i64)))) (.slice (.pair (.int .i64) (.pair (.int .i64) (.pair (.int .i64) (.pair (.slice (.pair (.int .i64) (.bool))) (.slice (.pair (.int .i64) (.pair (.int .i64) (.pair (.int .i64) (.pair (.int .i64) (.int .i64))))))))))))) (.slice (.slice (.pair (.int .i64) (.pair (.int .i64) (.pair (.int .i64) (.pair (.int .i64) (.int .i64)))))))) a0 : Nat) : Int) ≤ bnd := hpre.2
  have hc : ((cellsV (.pair (.slice (.pair (.slice (.pair (.int .i64) (.pair (.slice (.int .i64)) (.int .i64)))) (.slice (.pair (.int .i64) (.pair (.int .i64) (.pair (.int .i64) (.pair (.slice (.pair (.int .i64) (.bool))) (.slice (.pair (.int .i64) (.pair (.int .i64) (.pair (.int .i64) (.pair (.int .i64) (.int .i64))))))))))))) (.slice (.slice (.pair (.int .i64) (.pair (.int .i64) (.pair (.int .i64) (.pair (.int .i64) (.int .i64)))))))) a0 : Nat) : Int) = ((cellsC (.slice (.pair (.slice (.pair (.int .i64) (.pair (.slice (.int .i64)) (.int .i64)))) (.slice (.pair (.int .i64) (.pair (.int .i64) (.pair (.int .i64) (.pair (.slice (.pair (.int .i64) (.bool))) (.slice (.pair (.int .i64) (.pair (.int .i64) (.pair (.int .i64) (.pair (.int .i64) (.int .i64))))))))))))) a0.1 : Nat) : Int) + ((cellsC (.slice (.slice (.pair (.int .i64) (.pair (.int .i64) (.pair (.int .i64) (.pair (.int .i64) (.int .i64))))))) a0.2 : Nat) : Int) := by
    show (((cellsC (.slice (.pair (.slice (.pair (.int .i64) (.pair (.slice (.int .i64)) (.int .i64)))) (.slice (.pair (.int .i64) (.pair (.int .i64) (.pair (.int .i64) (.pair (.slice (.pair (.int .i64) (.bool))) (.slice (.pair (.int .i64) (.pair (.int .i64) (.pair (.int .i64) (.pair (.int .i64) (.int .i64))))))))))))) a0.1 + cellsC (.slice (.slice (.pair (.int .i64) (.pair (.int .i64) (.pair (.int .i64) (.pair (.int .i64) (.int .i64))))))) a0.2) : Nat) : Int) = _
    omega
  refine Vc.seq ?_
  refine Vc.region hG rfl ?_ ?_
  · trivial
  refine Vc.seq ?_
  refine Vc.region hG rfl ?_ ?_
  · exact (show markPre (.slice (.pair (.slice (.pair (.int .i64) (.pair (.slice (.int .i64)) (.int .i64)))) (.slice (.pair (.int .i64) (.pair (.int .i64) (.pair (.int .i64) (.pair (.slice (.pair (.int .i64) (.bool))) (.slice (.pair (.int .i64) (.pair (.int .i64) (.pair (.int .i64) (.pair (.int .i64) (.int .i64))))))))))))) a0.1 (a1) from ⟨by omega, by omega⟩)
  refine Vc.seq ?_
  refine Vc.region hG rfl ?_ ?_
  · have ce0 := cntF_eq (.slice (.pair (.slice (.pair (.int .i64) (.pair (.slice (.int .i64)) (.int .i64)))) (.slice (.pair (.int .i64) (.pair (.int .i64) (.pair (.int .i64) (.pair (.slice (.pair (.int .i64) (.bool))) (.slice (.pair (.int .i64) (.pair (.int .i64) (.pair (.int .i64) (.pair (.int .i64) (.int .i64))))))))))))) a0.1 (a1)
    exact (show markPre (.slice (.slice (.pair (.int .i64) (.pair (.int .i64) (.pair (.int .i64) (.pair (.int .i64) (.int .i64))))))) a0.2 (cntF (.slice (.pair (.slice (.pair (.int .i64) (.pair (.slice (.int .i64)) (.int .i64)))) (.slice (.pair (.int .i64) (.pair (.int .i64) (.pair (.int .i64) (.pair (.slice (.pair (.int .i64) (.bool))) (.slice (.pair (.int .i64) (.pair (.int .i64) (.pair (.int .i64) (.pair (.int .i64) (.int .i64))))))))))))) a0.1 (a1)) from ⟨by omega, by omega⟩)
  refine Vc.seq ?_
  refine Vc.region hG rfl ?_ ?_
  · trivial
  refine Vc.ret ?_
  have ce0 := cntF_eq (.slice (.pair (.slice (.pair (.int .i64) (.pair (.slice (.int .i64)) (.int .i64)))) (.slice (.pair (.int .i64) (.pair (.int .i64) (.pair (.int .i64) (.pair (.slice (.pair (.int .i64) (.bool))) (.slice (.pair (.int .i64) (.pair (.int .i64) (.pair (.int .i64) (.pair (.int .i64) (.int .i64))))))))))))) a0.1 (a1)
  have ce1 := cntF_eq (.slice (.slice (.pair (.int .i64) (.pair (.int .i64) (.pair (.int .i64) (.pair (.int .i64) (.int .i64))))))) a0.2 (cntF (.slice (.pair (.slice (.pair (.int .i64) (.pair (.slice (.int .i64)) (.int .i64)))) (.slice (.pair (.int .i64) (.pair (.int .i64) (.pair (.int .i64) (.pair (.slice (.pair (.int .i64) (.bool))) (.slice (.pair (.int .i64) (.pair (.int .i64) (.pair (.int .i64) (.pair (.int .i64) (.int .i64))))))))))))) a0.1 (a1))
  refine ⟨?_, ?_, trivial⟩
  · show cntF (.slice (.slice (.pair (.int .i64) (.pair (.int .i64) (.pair (.int .i64) (.pair (.int .i64) (.int .i64))))))) a0.2 (cntF (.slice (.pair (.slice (.pair (.int .i64) (.pair (.slice (.int .i64)) (.int .i64)))) (.slice (.pair (.int .i64) (.pair (.int .i64) (.pair (.int .i64) (.pair (.slice (.pair (.int .i64) (.bool))) (.slice (.pair (.int .i64) (.pair (.int .i64) (.pair (.int .i64) (.pair (.int .i64) (.int .i64))))))))))))) a0.1 (a1)) = cntV (.pair (.slice (.pair (.slice (.pair (.int .i64) (.pair (.slice (.int .i64)) (.int .i64)))) (.slice (.pair (.int .i64) (.pair (.int .i64) (.pair (.int .i64) (.pair (.slice (.pair (.int .i64) (.bool))) (.slice (.pair (.int .i64) (.pair (.int .i64) (.pair (.int .i64) (.pair (.int .i64) (.int .i64))))))))))))) (.slice (.slice (.pair (.int .i64) (.pair (.int .i64) (.pair (.int .i64) (.pair (.int .i64) (.int .i64)))))))) a0 a1
    rw [cntV_eq (.pair (.slice (.pair (.slice (.pair (.int .i64) (.pair (.slice (.int .i64)) (.int .i64)))) (.slice (.pair (.int .i64) (.pair (.int .i64) (.pair (.int .i64) (.pair (.slice (.pair (.int .i64) (.bool))) (.slice (.pair (.int .i64) (.pair (.int .i64) (.pair (.int .i64) (.pair (.int .i64) (.int .i64))))))))))))) (.slice (.slice (.pair (.int .i64) (.pair (.int .i64) (.pair (.int .i64) (.pair (.int .i64) (.int .i64)))))))) a0 a1]
    omega
  · exact (Prod.ext (congrArg (markC (.slice (.pair (.slice (.pair (.int .i64) (.pair (.slice (.int .i64)) (.int .i64)))) (.slice (.pair (.int .i64) (.pair (.int .i64) (.pair (.int .i64) (.pair (.slice (.pair (.int .i64) (.bool))) (.slice (.pair (.int .i64) (.pair (.int .i64) (.pair (.int .i64) (.pair (.int .i64) (.int .i64))))))))))))) a0.1) (show a1 = a1 from by omega)) (congrArg (markC (.slice (.slice (.pair (.int .i64) (.pair (.int .i64) (.pair (.int .i64) (.pair (.int .i64) (.int .i64))))))) a0.2) (show cntF (.slice (.pair (.slice (.pair (.int .i64) (.pair (.slice (.int .i64)) (.int .i64)))) (.slice (.pair (.int .i64) (.pair (.int .i64) (.pair (.int .i64) (.pair (.slice (.pair (.int .i64) (.bool))) (.slice (.pair (.int .i64) (.pair (.int .i64) (.pair (.int .i64) (.pair (.int .i64) (.int .i64))))))))))))) a0.1 (a1) = a1 + ((cellsC (.slice (.pair (.slice (.pair (.int .i64) (.pair (.slice (.int .i64)) (.int .i64)))) (.slice (.pair (.int .i64) (.pair (.int .i64) (.pair (.int .i64) (.pair (.slice (.pair (.int .i64) (.bool))) (.slice (.pair (.int .i64) (.pair (.int .i64) (.pair (.int .i64) (.pair (.int .i64) (.int .i64))))))))))))) a0.1 : Nat) : Int) from by omega)))
noncomputable def F26 : Fun := ⟨[.slice (.int .i64), .int .i64], [.pure (.int .i64)], fun x => (fun a0 a1 => markPre (.slice (.int .i64)) a0 a1) x.1 x.2.1, fun x => ((fun a0 a1 => heldF (.slice (.int .i64)) a0 a1) x.1 x.2.1, ())⟩
set_option maxRecDepth 100000 in
/-- loop.example.g00597.laws.heldIntS -/
theorem F26_ok : Meets Try.prog 26 F26 := by
  refine meets_of_vc (C := mkC 21 [4] [0,1,4,5,9,17] []) (mkC_ok _ _ _ _) (fnOf_ok _) Try.func26 rfl rfl rfl (by decide) rfl ?_
  rintro ⟨a0, (a1 : Int), _⟩ hwf hpre ⟨P, C, B, X, w0, M0, pv⟩ hG rfl rfl
  show Vc _ _ [(0, ⟨0, 0, .c (.pure (.slice (.int .i64))) a0⟩), (1, ⟨0, 0, .c (.pure (.int .i64)) a1⟩)] _
  have hb : List.length a0 ≤ bigLen := hwf.1.1
  have hp0 : 0 ≤ a1 := hpre.1
  have hp1 : a1 + ((cellsL (cellsC (.int .i64)) a0 : Nat) : Int) ≤ bnd := hpre.2
  refine Vc.seq ?_
  refine Vc.region hG rfl ?_ ?_
  · trivial
  refine Vc.seq ?_
  refine Vc.seq ?_
  refine Vc.region hG rfl ?_ ?_
  · trivial
  refine Vc.block ?_
  -- slots [1, 5]; frame [0]
  refine Vc.loopF [(1, false, .pure (.int .i64)), (5, false, .pure (.int .i64))] [0] (fun v => hdInv (cellsC (.int .i64)) (okC (.int .i64)) a0 a1 v.1 v.2.1) (fun v => ((List.length a0 : Int) - v.2.1).toNat) rfl ?_ ?_
  · exact hdStart
  rintro ⟨(k : Int), (i : Int), _⟩ hI
  have hI : hdInv (cellsC (.int .i64)) (okC (.int .i64)) a0 a1 k i := hI
  refine Vc.seq ?_
  refine Vc.seq ?_
  refine Vc.region hG rfl ?_ ?_
  · trivial
  refine Vc.cond rfl (fun h0 => ?_) (fun h0 => ?_)
  · skip
    have hl : i < (List.length a0 : Int) := of_decide_eq_true h0
    have hk := hdBound hI hl (dflt (.int .i64)) hp0 hp1
    generalize hX : List.getD a0 i.toNat (dflt (.int .i64)) = X at hk
    have hk : 0 ≤ k ∧ k + ((1 : Nat) : Int) ≤ bnd := hk
    have w0 : IntKind.i64.wrap (k + 1) = k + 1 := wrapB (by omega) (by omega)
    refine Vc.skip ?_
    refine Vc.seq ?_
    refine Vc.block ?_
    refine Vc.seq ?_
    refine Vc.seq ?_
    refine Vc.region hG rfl ?_ ?_
    · exact hdRange hI hl
    refine Vc.cond rfl (fun h1 => ?_) (fun h1 => ?_)
    · skip
      have g1 : okC (.int .i64) X (k) = false := by
        have h : ((List.getD a0 i.toNat (dflt (.int .i64))) != k) = true := h1
        try simp only [hX, w0] at h
        exact ok_ne h
      refine Vc.seq ?_
      refine Vc.region hG rfl ?_ ?_
      · trivial
      refine Vc.ret ?_
      refine ⟨?_, trivial⟩
      refine hdNo hI hl (dflt (.int .i64)) ?_
      rw [hX]
      show okC (.int .i64) X (k) = false
      simp only [g1, Bool.and_false, Bool.false_and, Bool.and_true, Bool.true_and]
    · skip
      have g1 : okC (.int .i64) X (k) = true := by
        have h : ((List.getD a0 i.toNat (dflt (.int .i64))) != k) = false := h1
        try simp only [hX, w0] at h
        exact ok_eq h
      refine Vc.skip ?_
      refine Vc.region hG rfl ?_ ?_
      · trivial
      refine Vc.region hG rfl ?_ ?_
      · trivial
      refine ⟨rfl, ?_⟩
      refine hdStep hI hl hb (dflt (.int .i64)) ?_ ?_
      · rw [hX]
        show okC (.int .i64) X (k) = true
        simp only [g1, Bool.and_true]
      · show IntKind.i64.wrap (k + 1) = k + ((cellsC (.int .i64) (List.getD a0 i.toNat (dflt (.int .i64))) : Nat) : Int)
        rw [hX]
        show _ = k + ((1 : Nat) : Int)
        try simp only [hX, w0]
        try omega
  · skip
    have hl : ¬ i < (List.length a0 : Int) := of_decide_eq_false h0
    refine Vc.exit ?_
    refine Vc.seq ?_
    refine Vc.region hG rfl ?_ ?_
    · trivial
    refine Vc.ret ?_
    refine ⟨?_, trivial⟩
    exact hdEnd hI hl
noncomputable def F108 : Fun := ⟨[.slice (.pair (.int .i64) (.pair (.slice (.int .i64)) (.int .i64))), .int .i64], [.pure (.int .i64)], fun x => (fun a0 a1 => markPre (.slice (.pair (.int .i64) (.pair (.slice (.int .i64)) (.int .i64)))) a0 a1) x.1 x.2.1, fun x => ((fun a0 a1 => heldF (.slice (.pair (.int .i64) (.pair (.slice (.int .i64)) (.int .i64)))) a0 a1) x.1 x.2.1, ())⟩
set_option maxRecDepth 100000 in
/-- loop.example.g00597.laws.heldPieceS -/
theorem F108_ok : Meets Try.prog 108 F108 := by
  refine meets_of_vc (C := mkC 40 [4] [0,1,4,5,9,18,29,36] [⟨26, _, F26_ok⟩]) (mkC_ok _ _ _ _) (fnOf_ok _) Try.func108 rfl rfl rfl (by decide) rfl ?_
  rintro ⟨a0, (a1 : Int), _⟩ hwf hpre ⟨P, C, B, X, w0, M0, pv⟩ hG rfl rfl
  show Vc _ _ [(0, ⟨0, 0, .c (.pure (.slice (.pair (.int .i64) (.pair (.slice (.int .i64)) (.int .i64))))) a0⟩), (1, ⟨0, 0, .c (.pure (.int .i64)) a1⟩)] _
  have hb : List.length a0 ≤ bigLen := hwf.1.1
  have hp0 : 0 ≤ a1 := hpre.1
  have hp1 : a1 + ((cellsL (cellsC (.pair (.int .i64) (.pair (.slice (.int .i64)) (.int .i64)))) a0 : Nat) : Int) ≤ bnd := hpre.2
  refine Vc.seq ?_
  refine Vc.region hG rfl ?_ ?_
  · trivial
  refine Vc.seq ?_
  refine Vc.seq ?_
  refine Vc.region hG rfl ?_ ?_
  · trivial
  refine Vc.block ?_
  -- slots [1, 5]; frame [0]
  refine Vc.loopF [(1, false, .pure (.int .i64)), (5, false, .pure (.int .i64))] [0] (fun v => hdInv (cellsC (.pair (.int .i64) (.pair (.slice (.int .i64)) (.int .i64)))) (okC (.pair (.int .i64) (.pair (.slice (.int .i64)) (.int .i64)))) a0 a1 v.1 v.2.1) (fun v => ((List.length a0 : Int) - v.2.1).toNat) rfl ?_ ?_
  · exact hdStart
  rintro ⟨(k : Int), (i : Int), _⟩ hI
  have hI : hdInv (cellsC (.pair (.int .i64) (.pair (.slice (.int .i64)) (.int .i64)))) (okC (.pair (.int .i64) (.pair (.slice (.int .i64)) (.int .i64)))) a0 a1 k i := hI
  refine Vc.seq ?_
  refine Vc.seq ?_
  refine Vc.region hG rfl ?_ ?_
  · trivial
  refine Vc.cond rfl (fun h0 => ?_) (fun h0 => ?_)
  · skip
    have hl : i < (List.length a0 : Int) := of_decide_eq_true h0
    have hk := hdBound hI hl (dflt (.pair (.int .i64) (.pair (.slice (.int .i64)) (.int .i64)))) hp0 hp1
    generalize hX : List.getD a0 i.toNat (dflt (.pair (.int .i64) (.pair (.slice (.int .i64)) (.int .i64)))) = X at hk
    have hk : 0 ≤ k ∧ k + (((1 + ((cellsC (.slice (.int .i64)) X.2.1) + 1)) : Nat) : Int) ≤ bnd := hk
    have w0 : IntKind.i64.wrap (k + 1) = k + 1 := wrapB (by omega) (by omega)
    have w1 : IntKind.i64.wrap (k + 1 + ((cellsC (.slice (.int .i64)) X.2.1 : Nat) : Int) + 1) = k + 1 + ((cellsC (.slice (.int .i64)) X.2.1 : Nat) : Int) + 1 := wrapB (by omega) (by omega)
    refine Vc.skip ?_
    refine Vc.seq ?_
    refine Vc.block ?_
    refine Vc.seq ?_
    refine Vc.seq ?_
    refine Vc.region hG rfl ?_ ?_
    · exact hdRange hI hl
    refine Vc.cond rfl (fun h1 => ?_) (fun h1 => ?_)
    · skip
      have g1 : okC (.int .i64) X.1 (k) = false := by
        have h : ((List.getD a0 i.toNat (dflt (.pair (.int .i64) (.pair (.slice (.int .i64)) (.int .i64))))).1 != k) = true := h1
        try simp only [hX, w0, w1] at h
        exact ok_ne h
      refine Vc.seq ?_
      refine Vc.region hG rfl ?_ ?_
      · trivial
      refine Vc.ret ?_
      refine ⟨?_, trivial⟩
      refine hdNo hI hl (dflt (.pair (.int .i64) (.pair (.slice (.int .i64)) (.int .i64)))) ?_
      rw [hX]
      show (okC (.int .i64) X.1 (k) && (okC (.slice (.int .i64)) X.2.1 (k + 1) && okC (.int .i64) X.2.2 (k + 1 + ((cellsC (.slice (.int .i64)) X.2.1 : Nat) : Int)))) = false
      simp only [g1, Bool.and_false, Bool.false_and, Bool.and_true, Bool.true_and]
    · skip
      have g1 : okC (.int .i64) X.1 (k) = true := by
        have h : ((List.getD a0 i.toNat (dflt (.pair (.int .i64) (.pair (.slice (.int .i64)) (.int .i64))))).1 != k) = false := h1
        try simp only [hX, w0, w1] at h
        exact ok_eq h
      refine Vc.skip ?_
      refine Vc.seq ?_
      refine Vc.region hG rfl ?_ ?_
      · trivial
      refine Vc.seq ?_
      refine Vc.region hG rfl ?_ ?_
      · refine ⟨hdRange hI hl, ?_⟩
        show markPre (.slice (.int .i64)) (List.getD a0 i.toNat (dflt (.pair (.int .i64) (.pair (.slice (.int .i64)) (.int .i64))))).2.1 (IntKind.i64.wrap (k + 1))
        try simp only [hX, w0, w1]
        exact ⟨by omega, by omega⟩
      refine Vc.seq ?_
      refine Vc.seq ?_
      refine Vc.region hG rfl ?_ ?_
      · trivial
      refine Vc.cond rfl (fun h2 => ?_) (fun h2 => ?_)
      · skip
        have q2 : 0 ≤ k + 1 := by omega
        have g2 : okC (.slice (.int .i64)) X.2.1 (k + 1) = false := held_neg q2 (by
          have h : heldF (.slice (.int .i64)) (List.getD a0 i.toNat (dflt (.pair (.int .i64) (.pair (.slice (.int .i64)) (.int .i64))))).2.1 (IntKind.i64.wrap (k + 1)) < 0 := of_decide_eq_true h2
          try simp only [hX, w0, w1] at h
          exact h)
        refine Vc.seq ?_
        refine Vc.region hG rfl ?_ ?_
        · trivial
        refine Vc.ret ?_
        refine ⟨?_, trivial⟩
        refine hdNo hI hl (dflt (.pair (.int .i64) (.pair (.slice (.int .i64)) (.int .i64)))) ?_
        rw [hX]
        show (okC (.int .i64) X.1 (k) && (okC (.slice (.int .i64)) X.2.1 (k + 1) && okC (.int .i64) X.2.2 (k + 1 + ((cellsC (.slice (.int .i64)) X.2.1 : Nat) : Int)))) = false
        simp only [g1, g2, Bool.and_false, Bool.false_and, Bool.and_true, Bool.true_and]
      · skip
        have q2 : 0 ≤ k + 1 := by omega
        have n2 : ¬ heldF (.slice (.int .i64)) X.2.1 (k + 1) < 0 := by
          have h : ¬ heldF (.slice (.int .i64)) (List.getD a0 i.toNat (dflt (.pair (.int .i64) (.pair (.slice (.int .i64)) (.int .i64))))).2.1 (IntKind.i64.wrap (k + 1)) < 0 := of_decide_eq_false h2
          try simp only [hX, w0, w1] at h
          exact h
        have g2 : okC (.slice (.int .i64)) X.2.1 (k + 1) = true := held_pos n2
        have u2 : heldF (.slice (.int .i64)) X.2.1 (k + 1) = k + 1 + ((cellsC (.slice (.int .i64)) X.2.1 : Nat) : Int) := held_val n2
        refine Vc.skip ?_
        refine Vc.seq ?_
        refine Vc.seq ?_
        refine Vc.region hG rfl ?_ ?_
        · exact hdRange hI hl
        refine Vc.cond rfl (fun h3 => ?_) (fun h3 => ?_)
        · skip
          have g3 : okC (.int .i64) X.2.2 (k + 1 + ((cellsC (.slice (.int .i64)) X.2.1 : Nat) : Int)) = false := by
            have h : ((List.getD a0 i.toNat (dflt (.pair (.int .i64) (.pair (.slice (.int .i64)) (.int .i64))))).2.2 != heldF (.slice (.int .i64)) (List.getD a0 i.toNat (dflt (.pair (.int .i64) (.pair (.slice (.int .i64)) (.int .i64))))).2.1 (IntKind.i64.wrap (k + 1))) = true := h3
            try simp only [hX, w0, w1, u2] at h
            exact ok_ne h
          refine Vc.seq ?_
          refine Vc.region hG rfl ?_ ?_
          · trivial
          refine Vc.ret ?_
          refine ⟨?_, trivial⟩
          refine hdNo hI hl (dflt (.pair (.int .i64) (.pair (.slice (.int .i64)) (.int .i64)))) ?_
          rw [hX]
          show (okC (.int .i64) X.1 (k) && (okC (.slice (.int .i64)) X.2.1 (k + 1) && okC (.int .i64) X.2.2 (k + 1 + ((cellsC (.slice (.int .i64)) X.2.1 : Nat) : Int)))) = false
          simp only [g1, g2, g3, Bool.and_false, Bool.false_and, Bool.and_true, Bool.true_and]
        · skip
          have g3 : okC (.int .i64) X.2.2 (k + 1 + ((cellsC (.slice (.int .i64)) X.2.1 : Nat) : Int)) = true := by
            have h : ((List.getD a0 i.toNat (dflt (.pair (.int .i64) (.pair (.slice (.int .i64)) (.int .i64))))).2.2 != heldF (.slice (.int .i64)) (List.getD a0 i.toNat (dflt (.pair (.int .i64) (.pair (.slice (.int .i64)) (.int .i64))))).2.1 (IntKind.i64.wrap (k + 1))) = false := h3
            try simp only [hX, w0, w1, u2] at h
            exact ok_eq h
          refine Vc.skip ?_
          refine Vc.region hG rfl ?_ ?_
          · trivial
          refine Vc.region hG rfl ?_ ?_
          · trivial
          refine ⟨rfl, ?_⟩
          refine hdStep hI hl hb (dflt (.pair (.int .i64) (.pair (.slice (.int .i64)) (.int .i64)))) ?_ ?_
          · rw [hX]
            show (okC (.int .i64) X.1 (k) && (okC (.slice (.int .i64)) X.2.1 (k + 1) && okC (.int .i64) X.2.2 (k + 1 + ((cellsC (.slice (.int .i64)) X.2.1 : Nat) : Int)))) = true
            simp only [g1, g2, g3, Bool.and_true]
          · show IntKind.i64.wrap (heldF (.slice (.int .i64)) (List.getD a0 i.toNat (dflt (.pair (.int .i64) (.pair (.slice (.int .i64)) (.int .i64))))).2.1 (IntKind.i64.wrap (k + 1)) + 1) = k + ((cellsC (.pair (.int .i64) (.pair (.slice (.int .i64)) (.int .i64))) (List.getD a0 i.toNat (dflt (.pair (.int .i64) (.pair (.slice (.int .i64)) (.int .i64))))) : Nat) : Int)
            rw [hX]
            show _ = k + (((1 + ((cellsC (.slice (.int .i64)) X.2.1) + 1)) : Nat) : Int)
            try simp only [hX, w0, w1, u2]
            try omega
  · skip
    have hl : ¬ i < (List.length a0 : Int) := of_decide_eq_false h0
    refine Vc.exit ?_
    refine Vc.seq ?_
    refine Vc.region hG rfl ?_ ?_
    · trivial
    refine Vc.ret ?_
    refine ⟨?_, trivial⟩
    exact hdEnd hI hl
noncomputable def F139 : Fun := ⟨[.slice (.pair (.int .i64) (.bool)), .int .i64], [.pure (.int .i64)], fun x => (fun a0 a1 => markPre (.slice (.pair (.int .i64) (.bool))) a0 a1) x.1 x.2.1, fun x => ((fun a0 a1 => heldF (.slice (.pair (.int .i64) (.bool))) a0 a1) x.1 x.2.1, ())⟩
set_option maxRecDepth 100000 in
/-- loop.example.g00597.laws.heldStepS -/
theorem F139_ok : Meets Try.prog 139 F139 := by
  refine meets_of_vc (C := mkC 33 [4] [0,1,4,5,9,18,29] []) (mkC_ok _ _ _ _) (fnOf_ok _) Try.func139 rfl rfl rfl (by decide) rfl ?_
  rintro ⟨a0, (a1 : Int), _⟩ hwf hpre ⟨P, C, B, X, w0, M0, pv⟩ hG rfl rfl
  show Vc _ _ [(0, ⟨0, 0, .c (.pure (.slice (.pair (.int .i64) (.bool)))) a0⟩), (1, ⟨0, 0, .c (.pure (.int .i64)) a1⟩)] _
  have hb : List.length a0 ≤ bigLen := hwf.1.1
  have hp0 : 0 ≤ a1 := hpre.1
  have hp1 : a1 + ((cellsL (cellsC (.pair (.int .i64) (.bool))) a0 : Nat) : Int) ≤ bnd := hpre.2
  refine Vc.seq ?_
  refine Vc.region hG rfl ?_ ?_
  · trivial
  refine Vc.seq ?_
  refine Vc.seq ?_
  refine Vc.region hG rfl ?_ ?_
  · trivial
  refine Vc.block ?_
  -- slots [1, 5]; frame [0]
  refine Vc.loopF [(1, false, .pure (.int .i64)), (5, false, .pure (.int .i64))] [0] (fun v => hdInv (cellsC (.pair (.int .i64) (.bool))) (okC (.pair (.int .i64) (.bool))) a0 a1 v.1 v.2.1) (fun v => ((List.length a0 : Int) - v.2.1).toNat) rfl ?_ ?_
  · exact hdStart
  rintro ⟨(k : Int), (i : Int), _⟩ hI
  have hI : hdInv (cellsC (.pair (.int .i64) (.bool))) (okC (.pair (.int .i64) (.bool))) a0 a1 k i := hI
  refine Vc.seq ?_
  refine Vc.seq ?_
  refine Vc.region hG rfl ?_ ?_
  · trivial
  refine Vc.cond rfl (fun h0 => ?_) (fun h0 => ?_)
  · skip
    have hl : i < (List.length a0 : Int) := of_decide_eq_true h0
    have hk := hdBound hI hl (dflt (.pair (.int .i64) (.bool))) hp0 hp1
    generalize hX : List.getD a0 i.toNat (dflt (.pair (.int .i64) (.bool))) = X at hk
    have hk : 0 ≤ k ∧ k + (((1 + 1) : Nat) : Int) ≤ bnd := hk
    have w0 : IntKind.i64.wrap (k + 1) = k + 1 := wrapB (by omega) (by omega)
    have w1 : IntKind.i64.wrap (k + 1 + 1) = k + 1 + 1 := wrapB (by omega) (by omega)
    refine Vc.skip ?_
    refine Vc.seq ?_
    refine Vc.block ?_
    refine Vc.seq ?_
    refine Vc.seq ?_
    refine Vc.region hG rfl ?_ ?_
    · exact hdRange hI hl
    refine Vc.cond rfl (fun h1 => ?_) (fun h1 => ?_)
    · skip
      have g1 : okC (.int .i64) X.1 (k) = false := by
        have h : ((List.getD a0 i.toNat (dflt (.pair (.int .i64) (.bool)))).1 != k) = true := h1
        try simp only [hX, w0, w1] at h
        exact ok_ne h
      refine Vc.seq ?_
      refine Vc.region hG rfl ?_ ?_
      · trivial
      refine Vc.ret ?_
      refine ⟨?_, trivial⟩
      refine hdNo hI hl (dflt (.pair (.int .i64) (.bool))) ?_
      rw [hX]
      show (okC (.int .i64) X.1 (k) && okC (.bool) X.2 (k + 1)) = false
      simp only [g1, Bool.and_false, Bool.false_and, Bool.and_true, Bool.true_and]
    · skip
      have g1 : okC (.int .i64) X.1 (k) = true := by
        have h : ((List.getD a0 i.toNat (dflt (.pair (.int .i64) (.bool)))).1 != k) = false := h1
        try simp only [hX, w0, w1] at h
        exact ok_eq h
      refine Vc.skip ?_
      refine Vc.seq ?_
      refine Vc.region hG rfl ?_ ?_
      · trivial
      refine Vc.seq ?_
      refine Vc.seq ?_
      refine Vc.region hG rfl ?_ ?_
      · exact ⟨hdRange hI hl, (show (3 : Int) ≠ 0 by decide)⟩
      refine Vc.cond rfl (fun h2 => ?_) (fun h2 => ?_)
      · skip
        have g2 : okC (.bool) X.2 (k + 1) = false := by
          have h : ((List.getD a0 i.toNat (dflt (.pair (.int .i64) (.bool)))).2 != ((IntKind.i64.wrap (k + 1)).tmod 3 == 0)) = true := h2
          try simp only [hX, w0, w1] at h
          exact ok_ne h
        refine Vc.seq ?_
        refine Vc.region hG rfl ?_ ?_
        · trivial
        refine Vc.ret ?_
        refine ⟨?_, trivial⟩
        refine hdNo hI hl (dflt (.pair (.int .i64) (.bool))) ?_
        rw [hX]
        show (okC (.int .i64) X.1 (k) && okC (.bool) X.2 (k + 1)) = false
        simp only [g1, g2, Bool.and_false, Bool.false_and, Bool.and_true, Bool.true_and]
      · skip
        have g2 : okC (.bool) X.2 (k + 1) = true := by
          have h : ((List.getD a0 i.toNat (dflt (.pair (.int .i64) (.bool)))).2 != ((IntKind.i64.wrap (k + 1)).tmod 3 == 0)) = false := h2
          try simp only [hX, w0, w1] at h
          exact ok_eq h
        refine Vc.skip ?_
        refine Vc.region hG rfl ?_ ?_
        · trivial
        refine Vc.region hG rfl ?_ ?_
        · trivial
        refine ⟨rfl, ?_⟩
        refine hdStep hI hl hb (dflt (.pair (.int .i64) (.bool))) ?_ ?_
        · rw [hX]
          show (okC (.int .i64) X.1 (k) && okC (.bool) X.2 (k + 1)) = true
          simp only [g1, g2, Bool.and_true]
        · show IntKind.i64.wrap (IntKind.i64.wrap (k + 1) + 1) = k + ((cellsC (.pair (.int .i64) (.bool)) (List.getD a0 i.toNat (dflt (.pair (.int .i64) (.bool)))) : Nat) : Int)
          rw [hX]
          show _ = k + (((1 + 1) : Nat) : Int)
          try simp only [hX, w0, w1]
          try omega
  · skip
    have hl : ¬ i < (List.length a0 : Int) := of_decide_eq_false h0
    refine Vc.exit ?_
    refine Vc.seq ?_
    refine Vc.region hG rfl ?_ ?_
    · trivial
    refine Vc.ret ?_
    refine ⟨?_, trivial⟩
    exact hdEnd hI hl
noncomputable def F110 : Fun := ⟨[.slice (.pair (.int .i64) (.pair (.int .i64) (.pair (.int .i64) (.pair (.int .i64) (.int .i64))))), .int .i64], [.pure (.int .i64)], fun x => (fun a0 a1 => markPre (.slice (.pair (.int .i64) (.pair (.int .i64) (.pair (.int .i64) (.pair (.int .i64) (.int .i64)))))) a0 a1) x.1 x.2.1, fun x => ((fun a0 a1 => heldF (.slice (.pair (.int .i64) (.pair (.int .i64) (.pair (.int .i64) (.pair (.int .i64) (.int .i64)))))) a0 a1) x.1 x.2.1, ())⟩
set_option maxRecDepth 100000 in
/-- loop.example.g00597.laws.heldStampS -/
theorem F110_ok : Meets Try.prog 110 F110 := by
  refine meets_of_vc (C := mkC 58 [4] [0,1,4,5,9,18,27,36,45,54] []) (mkC_ok _ _ _ _) (fnOf_ok _) Try.func110 rfl rfl rfl (by decide) rfl ?_
  rintro ⟨a0, (a1 : Int), _⟩ hwf hpre ⟨P, C, B, X, w0, M0, pv⟩ hG rfl rfl
  show Vc _ _ [(0, ⟨0, 0, .c (.pure (.slice (.pair (.int .i64) (.pair (.int .i64) (.pair (.int .i64) (.pair (.int .i64) (.int .i64))))))) a0⟩), (1, ⟨0, 0, .c (.pure (.int .i64)) a1⟩)] _
  have hb : List.length a0 ≤ bigLen := hwf.1.1
  have hp0 : 0 ≤ a1 := hpre.1
  have hp1 : a1 + ((cellsL (cellsC (.pair (.int .i64) (.pair (.int .i64) (.pair (.int .i64) (.pair (.int .i64) (.int .i64)))))) a0 : Nat) : Int) ≤ bnd := hpre.2
  refine Vc.seq ?_
  refine Vc.region hG rfl ?_ ?_
  · trivial
  refine Vc.seq ?_
  refine Vc.seq ?_
  refine Vc.region hG rfl ?_ ?_
  · trivial
  refine Vc.block ?_
  -- slots [1, 5]; frame [0]
  refine Vc.loopF [(1, false, .pure (.int .i64)), (5, false, .pure (.int .i64))] [0] (fun v => hdInv (cellsC (.pair (.int .i64) (.pair (.int .i64) (.pair (.int .i64) (.pair (.int .i64) (.int .i64)))))) (okC (.pair (.int .i64) (.pair (.int .i64) (.pair (.int .i64) (.pair (.int .i64) (.int .i64)))))) a0 a1 v.1 v.2.1) (fun v => ((List.length a0 : Int) - v.2.1).toNat) rfl ?_ ?_
  · exact hdStart
  rintro ⟨(k : Int), (i : Int), _⟩ hI
  have hI : hdInv (cellsC (.pair (.int .i64) (.pair (.int .i64) (.pair (.int .i64) (.pair (.int .i64) (.int .i64)))))) (okC (.pair (.int .i64) (.pair (.int .i64) (.pair (.int .i64) (.pair (.int .i64) (.int .i64)))))) a0 a1 k i := hI
  refine Vc.seq ?_
  refine Vc.seq ?_
  refine Vc.region hG rfl ?_ ?_
  · trivial
  refine Vc.cond rfl (fun h0 => ?_) (fun h0 => ?_)
  · skip
    have hl : i < (List.length a0 : Int) := of_decide_eq_true h0
    have hk := hdBound hI hl (dflt (.pair (.int .i64) (.pair (.int .i64) (.pair (.int .i64) (.pair (.int .i64) (.int .i64)))))) hp0 hp1
    generalize hX : List.getD a0 i.toNat (dflt (.pair (.int .i64) (.pair (.int .i64) (.pair (.int .i64) (.pair (.int .i64) (.int .i64)))))) = X at hk
    have hk : 0 ≤ k ∧ k + (((1 + (1 + (1 + (1 + 1)))) : Nat) : Int) ≤ bnd := hk
    have w0 : IntKind.i64.wrap (k + 1) = k + 1 := wrapB (by omega) (by omega)
    have w1 : IntKind.i64.wrap (k + 1 + 1) = k + 1 + 1 := wrapB (by omega) (by omega)
    have w2 : IntKind.i64.wrap (k + 1 + 1 + 1) = k + 1 + 1 + 1 := wrapB (by omega) (by omega)
    have w3 : IntKind.i64.wrap (k + 1 + 1 + 1 + 1) = k + 1 + 1 + 1 + 1 := wrapB (by omega) (by omega)
    have w4 : IntKind.i64.wrap (k + 1 + 1 + 1 + 1 + 1) = k + 1 + 1 + 1 + 1 + 1 := wrapB (by omega) (by omega)
    refine Vc.skip ?_
    refine Vc.seq ?_
    refine Vc.block ?_
    refine Vc.seq ?_
    refine Vc.seq ?_
    refine Vc.region hG rfl ?_ ?_
    · exact hdRange hI hl
    refine Vc.cond rfl (fun h1 => ?_) (fun h1 => ?_)
    · skip
      have g1 : okC (.int .i64) X.1 (k) = false := by
        have h : ((List.getD a0 i.toNat (dflt (.pair (.int .i64) (.pair (.int .i64) (.pair (.int .i64) (.pair (.int .i64) (.int .i64))))))).1 != k) = true := h1
        try simp only [hX, w0, w1, w2, w3, w4] at h
        exact ok_ne h
      refine Vc.seq ?_
      refine Vc.region hG rfl ?_ ?_
      · trivial
      refine Vc.ret ?_
      refine ⟨?_, trivial⟩
      refine hdNo hI hl (dflt (.pair (.int .i64) (.pair (.int .i64) (.pair (.int .i64) (.pair (.int .i64) (.int .i64)))))) ?_
      rw [hX]
      show (okC (.int .i64) X.1 (k) && (okC (.int .i64) X.2.1 (k + 1) && (okC (.int .i64) X.2.2.1 (k + 1 + 1) && (okC (.int .i64) X.2.2.2.1 (k + 1 + 1 + 1) && okC (.int .i64) X.2.2.2.2 (k + 1 + 1 + 1 + 1))))) = false
      simp only [g1, Bool.and_false, Bool.false_and, Bool.and_true, Bool.true_and]
    · skip
      have g1 : okC (.int .i64) X.1 (k) = true := by
        have h : ((List.getD a0 i.toNat (dflt (.pair (.int .i64) (.pair (.int .i64) (.pair (.int .i64) (.pair (.int .i64) (.int .i64))))))).1 != k) = false := h1
        try simp only [hX, w0, w1, w2, w3, w4] at h
        exact ok_eq h
      refine Vc.skip ?_
      refine Vc.seq ?_
      refine Vc.region hG rfl ?_ ?_
      · trivial
      refine Vc.seq ?_
      refine Vc.seq ?_
      refine Vc.region hG rfl ?_ ?_
      · exact hdRange hI hl
      refine Vc.cond rfl (fun h2 => ?_) (fun h2 => ?_)
      · skip
        have g2 : okC (.int .i64) X.2.1 (k + 1) = false := by
          have h : ((List.getD a0 i.toNat (dflt (.pair (.int .i64) (.pair (.int .i64) (.pair (.int .i64) (.pair (.int .i64) (.int .i64))))))).2.1 != IntKind.i64.wrap (k + 1)) = true := h2
          try simp only [hX, w0, w1, w2, w3, w4] at h
          exact ok_ne h
        refine Vc.seq ?_
        refine Vc.region hG rfl ?_ ?_
        · trivial
        refine Vc.ret ?_
        refine ⟨?_, trivial⟩
        refine hdNo hI hl (dflt (.pair (.int .i64) (.pair (.int .i64) (.pair (.int .i64) (.pair (.int .i64) (.int .i64)))))) ?_
        rw [hX]
        show (okC (.int .i64) X.1 (k) && (okC (.int .i64) X.2.1 (k + 1) && (okC (.int .i64) X.2.2.1 (k + 1 + 1) && (okC (.int .i64) X.2.2.2.1 (k + 1 + 1 + 1) && okC (.int .i64) X.2.2.2.2 (k + 1 + 1 + 1 + 1))))) = false
        simp only [g1, g2, Bool.and_false, Bool.false_and, Bool.and_true, Bool.true_and]
      · skip
        have g2 : okC (.int .i64) X.2.1 (k + 1) = true := by
          have h : ((List.getD a0 i.toNat (dflt (.pair (.int .i64) (.pair (.int .i64) (.pair (.int .i64) (.pair (.int .i64) (.int .i64))))))).2.1 != IntKind.i64.wrap (k + 1)) = false := h2
          try simp only [hX, w0, w1, w2, w3, w4] at h
          exact ok_eq h
        refine Vc.skip ?_
        refine Vc.seq ?_
        refine Vc.region hG rfl ?_ ?_
        · trivial
        refine Vc.seq ?_
        refine Vc.seq ?_
        refine Vc.region hG rfl ?_ ?_
        · exact hdRange hI hl
        refine Vc.cond rfl (fun h3 => ?_) (fun h3 => ?_)
        · skip
          have g3 : okC (.int .i64) X.2.2.1 (k + 1 + 1) = false := by
            have h : ((List.getD a0 i.toNat (dflt (.pair (.int .i64) (.pair (.int .i64) (.pair (.int .i64) (.pair (.int .i64) (.int .i64))))))).2.2.1 != IntKind.i64.wrap (IntKind.i64.wrap (k + 1) + 1)) = true := h3
            try simp only [hX, w0, w1, w2, w3, w4] at h
            exact ok_ne h
          refine Vc.seq ?_
          refine Vc.region hG rfl ?_ ?_
          · trivial
          refine Vc.ret ?_
          refine ⟨?_, trivial⟩
          refine hdNo hI hl (dflt (.pair (.int .i64) (.pair (.int .i64) (.pair (.int .i64) (.pair (.int .i64) (.int .i64)))))) ?_
          rw [hX]
          show (okC (.int .i64) X.1 (k) && (okC (.int .i64) X.2.1 (k + 1) && (okC (.int .i64) X.2.2.1 (k + 1 + 1) && (okC (.int .i64) X.2.2.2.1 (k + 1 + 1 + 1) && okC (.int .i64) X.2.2.2.2 (k + 1 + 1 + 1 + 1))))) = false
          simp only [g1, g2, g3, Bool.and_false, Bool.false_and, Bool.and_true, Bool.true_and]
        · skip
          have g3 : okC (.int .i64) X.2.2.1 (k + 1 + 1) = true := by
            have h : ((List.getD a0 i.toNat (dflt (.pair (.int .i64) (.pair (.int .i64) (.pair (.int .i64) (.pair (.int .i64) (.int .i64))))))).2.2.1 != IntKind.i64.wrap (IntKind.i64.wrap (k + 1) + 1)) = false := h3
            try simp only [hX, w0, w1, w2, w3, w4] at h
            exact ok_eq h
          refine Vc.skip ?_
          refine Vc.seq ?_
          refine Vc.region hG rfl ?_ ?_
          · trivial
          refine Vc.seq ?_
          refine Vc.seq ?_
          refine Vc.region hG rfl ?_ ?_
          · exact hdRange hI hl
          refine Vc.cond rfl (fun h4 => ?_) (fun h4 => ?_)
          · skip
            have g4 : okC (.int .i64) X.2.2.2.1 (k + 1 + 1 + 1) = false := by
              have h : ((List.getD a0 i.toNat (dflt (.pair (.int .i64) (.pair (.int .i64) (.pair (.int .i64) (.pair (.int .i64) (.int .i64))))))).2.2.2.1 != IntKind.i64.wrap (IntKind.i64.wrap (IntKind.i64.wrap (k + 1) + 1) + 1)) = true := h4
              try simp only [hX, w0, w1, w2, w3, w4] at h
              exact ok_ne h
            refine Vc.seq ?_
            refine Vc.region hG rfl ?_ ?_
            · trivial
            refine Vc.ret ?_
            refine ⟨?_, trivial⟩
            refine hdNo hI hl (dflt (.pair (.int .i64) (.pair (.int .i64) (.pair (.int .i64) (.pair (.int .i64) (.int .i64)))))) ?_
            rw [hX]
            show (okC (.int .i64) X.1 (k) && (okC (.int .i64) X.2.1 (k + 1) && (okC (.int .i64) X.2.2.1 (k + 1 + 1) && (okC (.int .i64) X.2.2.2.1 (k + 1 + 1 + 1) && okC (.int .i64) X.2.2.2.2 (k + 1 + 1 + 1 + 1))))) = false
            simp only [g1, g2, g3, g4, Bool.and_false, Bool.false_and, Bool.and_true, Bool.true_and]
          · skip
            have g4 : okC (.int .i64) X.2.2.2.1 (k + 1 + 1 + 1) = true := by
              have h : ((List.getD a0 i.toNat (dflt (.pair (.int .i64) (.pair (.int .i64) (.pair (.int .i64) (.pair (.int .i64) (.int .i64))))))).2.2.2.1 != IntKind.i64.wrap (IntKind.i64.wrap (IntKind.i64.wrap (k + 1) + 1) + 1)) = false := h4
              try simp only [hX, w0, w1, w2, w3, w4] at h
              exact ok_eq h
            refine Vc.skip ?_
            refine Vc.seq ?_
            refine Vc.region hG rfl ?_ ?_
            · trivial
            refine Vc.seq ?_
            refine Vc.seq ?_
            refine Vc.region hG rfl ?_ ?_
            · exact hdRange hI hl
            refine Vc.cond rfl (fun h5 => ?_) (fun h5 => ?_)
            · skip
              have g5 : okC (.int .i64) X.2.2.2.2 (k + 1 + 1 + 1 + 1) = false := by
                have h : ((List.getD a0 i.toNat (dflt (.pair (.int .i64) (.pair (.int .i64) (.pair (.int .i64) (.pair (.int .i64) (.int .i64))))))).2.2.2.2 != IntKind.i64.wrap (IntKind.i64.wrap (IntKind.i64.wrap (IntKind.i64.wrap (k + 1) + 1) + 1) + 1)) = true := h5
                try simp only [hX, w0, w1, w2, w3, w4] at h
                exact ok_ne h
              refine Vc.seq ?_
              refine Vc.region hG rfl ?_ ?_
              · trivial
              refine Vc.ret ?_
              refine ⟨?_, trivial⟩
              refine hdNo hI hl (dflt (.pair (.int .i64) (.pair (.int .i64) (.pair (.int .i64) (.pair (.int .i64) (.int .i64)))))) ?_
              rw [hX]
              show (okC (.int .i64) X.1 (k) && (okC (.int .i64) X.2.1 (k + 1) && (okC (.int .i64) X.2.2.1 (k + 1 + 1) && (okC (.int .i64) X.2.2.2.1 (k + 1 + 1 + 1) && okC (.int .i64) X.2.2.2.2 (k + 1 + 1 + 1 + 1))))) = false
              simp only [g1, g2, g3, g4, g5, Bool.and_false, Bool.false_and, Bool.and_true, Bool.true_and]
            · skip
              have g5 : okC (.int .i64) X.2.2.2.2 (k + 1 + 1 + 1 + 1) = true := by
                have h : ((List.getD a0 i.toNat (dflt (.pair (.int .i64) (.pair (.int .i64) (.pair (.int .i64) (.pair (.int .i64) (.int .i64))))))).2.2.2.2 != IntKind.i64.wrap (IntKind.i64.wrap (IntKind.i64.wrap (IntKind.i64.wrap (k + 1) + 1) + 1) + 1)) = false := h5
                try simp only [hX, w0, w1, w2, w3, w4] at h
                exact ok_eq h
              refine Vc.skip ?_
              refine Vc.region hG rfl ?_ ?_
              · trivial
              refine Vc.region hG rfl ?_ ?_
              · trivial
              refine ⟨rfl, ?_⟩
              refine hdStep hI hl hb (dflt (.pair (.int .i64) (.pair (.int .i64) (.pair (.int .i64) (.pair (.int .i64) (.int .i64)))))) ?_ ?_
              · rw [hX]
                show (okC (.int .i64) X.1 (k) && (okC (.int .i64) X.2.1 (k + 1) && (okC (.int .i64) X.2.2.1 (k + 1 + 1) && (okC (.int .i64) X.2.2.2.1 (k + 1 + 1 + 1) && okC (.int .i64) X.2.2.2.2 (k + 1 + 1 + 1 + 1))))) = true
                simp only [g1, g2, g3, g4, g5, Bool.and_true]
              · show IntKind.i64.wrap (IntKind.i64.wrap (IntKind.i64.wrap (IntKind.i64.wrap (IntKind.i64.wrap (k + 1) + 1) + 1) + 1) + 1) = k + ((cellsC (.pair (.int .i64) (.pair (.int .i64) (.pair (.int .i64) (.pair (.int .i64) (.int .i64))))) (List.getD a0 i.toNat (dflt (.pair (.int .i64) (.pair (.int .i64) (.pair (.int .i64) (.pair (.int .i64) (.int .i64))))))) : Nat) : Int)
                rw [hX]
                show _ = k + (((1 + (1 + (1 + (1 + 1)))) : Nat) : Int)
                try simp only [hX, w0, w1, w2, w3, w4]
                try omega
  · skip
    have hl : ¬ i < (List.length a0 : Int) := of_decide_eq_false h0
    refine Vc.exit ?_
    refine Vc.seq ?_
    refine Vc.region hG rfl ?_ ?_
    · trivial
    refine Vc.ret ?_
    refine ⟨?_, trivial⟩
    exact hdEnd hI hl
noncomputable def F109 : Fun := ⟨[.slice (.pair (.int .i64) (.pair (.int .i64) (.pair (.int .i64) (.pair (.slice (.pair (.int .i64) (.bool))) (.slice (.pair (.int .i64) (.pair (.int .i64) (.pair (.int .i64) (.pair (.int .i64) (.int .i64)))))))))), .int .i64], [.pure (.int .i64)], fun x => (fun a0 a1 => markPre (.slice (.pair (.int .i64) (.pair (.int .i64) (.pair (.int .i64) (.pair (.slice (.pair (.int .i64) (.bool))) (.slice (.pair (.int .i64) (.pair (.int .i64) (.pair (.int .i64) (.pair (.int .i64) (.int .i64))))))))))) a0 a1) x.1 x.2.1, fun x => ((fun a0 a1 => heldF (.slice (.pair (.int .i64) (.pair (.int .i64) (.pair (.int .i64) (.pair (.slice (.pair (.int .i64) (.bool))) (.slice (.pair (.int .i64) (.pair (.int .i64) (.pair (.int .i64) (.pair (.int .i64) (.int .i64))))))))))) a0 a1) x.1 x.2.1, ())⟩
set_option maxRecDepth 100000 in
/-- loop.example.g00597.laws.heldRenewalS -/
theorem F109_ok : Meets Try.prog 109 F109 := by
  refine meets_of_vc (C := mkC 58 [4] [0,1,4,5,9,18,27,36,47,56] [⟨139, _, F139_ok⟩, ⟨110, _, F110_ok⟩]) (mkC_ok _ _ _ _) (fnOf_ok _) Try.func109 rfl rfl rfl (by decide) rfl ?_
  rintro ⟨a0, (a1 : Int), _⟩ hwf hpre ⟨P, C, B, X, w0, M0, pv⟩ hG rfl rfl
  show Vc _ _ [(0, ⟨0, 0, .c (.pure (.slice (.pair (.int .i64) (.pair (.int .i64) (.pair (.int .i64) (.pair (.slice (.pair (.int .i64) (.bool))) (.slice (.pair (.int .i64) (.pair (.int .i64) (.pair (.int .i64) (.pair (.int .i64) (.int .i64)))))))))))) a0⟩), (1, ⟨0, 0, .c (.pure (.int .i64)) a1⟩)] _
  have hb : List.length a0 ≤ bigLen := hwf.1.1
  have hp0 : 0 ≤ a1 := hpre.1
  have hp1 : a1 + ((cellsL (cellsC (.pair (.int .i64) (.pair (.int .i64) (.pair (.int .i64) (.pair (.slice (.pair (.int .i64) (.bool))) (.slice (.pair (.int .i64) (.pair (.int .i64) (.pair (.int .i64) (.pair (.int .i64) (.int .i64))))))))))) a0 : Nat) : Int) ≤ bnd := hpre.2
  refine Vc.seq ?_
  refine Vc.region hG rfl ?_ ?_
  · trivial
  refine Vc.seq ?_
  refine Vc.seq ?_
  refine Vc.region hG rfl ?_ ?_
  · trivial
  refine Vc.block ?_
  -- slots [1, 5]; frame [0]
  refine Vc.loopF [(1, false, .pure (.int .i64)), (5, false, .pure (.int .i64))] [0] (fun v => hdInv (cellsC (.pair (.int .i64) (.pair (.int .i64) (.pair (.int .i64) (.pair (.slice (.pair (.int .i64) (.bool))) (.slice (.pair (.int .i64) (.pair (.int .i64) (.pair (.int .i64) (.pair (.int .i64) (.int .i64))))))))))) (okC (.pair (.int .i64) (.pair (.int .i64) (.pair (.int .i64) (.pair (.slice (.pair (.int .i64) (.bool))) (.slice (.pair (.int .i64) (.pair (.int .i64) (.pair (.int .i64) (.pair (.int .i64) (.int .i64))))))))))) a0 a1 v.1 v.2.1) (fun v => ((List.length a0 : Int) - v.2.1).toNat) rfl ?_ ?_
  · exact hdStart
  rintro ⟨(k : Int), (i : Int), _⟩ hI
  have hI : hdInv (cellsC (.pair (.int .i64) (.pair (.int .i64) (.pair (.int .i64) (.pair (.slice (.pair (.int .i64) (.bool))) (.slice (.pair (.int .i64) (.pair (.int .i64) (.pair (.int .i64) (.pair (.int .i64) (.int .i64))))))))))) (okC (.pair (.int .i64) (.pair (.int .i64) (.pair (.int .i64) (.pair (.slice (.pair (.int .i64) (.bool))) (.slice (.pair (.int .i64) (.pair (.int .i64) (.pair (.int .i64) (.pair (.int .i64) (.int .i64))))))))))) a0 a1 k i := hI
  refine Vc.seq ?_
  refine Vc.seq ?_
  refine Vc.region hG rfl ?_ ?_
  · trivial
  refine Vc.cond rfl (fun h0 => ?_) (fun h0 => ?_)
  · skip
    have hl : i < (List.length a0 : Int) := of_decide_eq_true h0
    have hk := hdBound hI hl (dflt (.pair (.int .i64) (.pair (.int .i64) (.pair (.int .i64) (.pair (.slice (.pair (.int .i64) (.bool))) (.slice (.pair (.int .i64) (.pair (.int .i64) (.pair (.int .i64) (.pair (.int .i64) (.int .i64))))))))))) hp0 hp1
    generalize hX : List.getD a0 i.toNat (dflt (.pair (.int .i64) (.pair (.int .i64) (.pair (.int .i64) (.pair (.slice (.pair (.int .i64) (.bool))) (.slice (.pair (.int .i64) (.pair (.int .i64) (.pair (.int .i64) (.pair (.int .i64) (.int .i64))))))))))) = X at hk
    have hk : 0 ≤ k ∧ k + (((1 + (1 + (1 + ((cellsC (.slice (.pair (.int .i64) (.bool))) X.2.2.2.1) + (cellsC (.slice (.pair (.int .i64) (.pair (.int .i64) (.pair (.int .i64) (.pair (.int .i64) (.int .i64)))))) X.2.2.2.2))))) : Nat) : Int) ≤ bnd := hk
    have w0 : IntKind.i64.wrap (k + 1) = k + 1 := wrapB (by omega) (by omega)
    have w1 : IntKind.i64.wrap (k + 1 + 1) = k + 1 + 1 := wrapB (by omega) (by omega)
    have w2 : IntKind.i64.wrap (k + 1 + 1 + 1) = k + 1 + 1 + 1 := wrapB (by omega) (by omega)
    refine Vc.skip ?_
    refine Vc.seq ?_
    refine Vc.block ?_
    refine Vc.seq ?_
    refine Vc.seq ?_
    refine Vc.region hG rfl ?_ ?_
    · exact hdRange hI hl
    refine Vc.cond rfl (fun h1 => ?_) (fun h1 => ?_)
    · skip
      have g1 : okC (.int .i64) X.1 (k) = false := by
        have h : ((List.getD a0 i.toNat (dflt (.pair (.int .i64) (.pair (.int .i64) (.pair (.int .i64) (.pair (.slice (.pair (.int .i64) (.bool))) (.slice (.pair (.int .i64) (.pair (.int .i64) (.pair (.int .i64) (.pair (.int .i64) (.int .i64)))))))))))).1 != k) = true := h1
        try simp only [hX, w0, w1, w2] at h
        exact ok_ne h
      refine Vc.seq ?_
      refine Vc.region hG rfl ?_ ?_
      · trivial
      refine Vc.ret ?_
      refine ⟨?_, trivial⟩
      refine hdNo hI hl (dflt (.pair (.int .i64) (.pair (.int .i64) (.pair (.int .i64) (.pair (.slice (.pair (.int .i64) (.bool))) (.slice (.pair (.int .i64) (.pair (.int .i64) (.pair (.int .i64) (.pair (.int .i64) (.int .i64))))))))))) ?_
      rw [hX]
      show (okC (.int .i64) X.1 (k) && (okC (.int .i64) X.2.1 (k + 1) && (okC (.int .i64) X.2.2.1 (k + 1 + 1) && (okC (.slice (.pair (.int .i64) (.bool))) X.2.2.2.1 (k + 1 + 1 + 1) && okC (.slice (.pair (.int .i64) (.pair (.int .i64) (.pair (.int .i64) (.pair (.int .i64) (.int .i64)))))) X.2.2.2.2 (k + 1 + 1 + 1 + ((cellsC (.slice (.pair (.int .i64) (.bool))) X.2.2.2.1 : Nat) : Int)))))) = false
      simp only [g1, Bool.and_false, Bool.false_and, Bool.and_true, Bool.true_and]
    · skip
      have g1 : okC (.int .i64) X.1 (k) = true := by
        have h : ((List.getD a0 i.toNat (dflt (.pair (.int .i64) (.pair (.int .i64) (.pair (.int .i64) (.pair (.slice (.pair (.int .i64) (.bool))) (.slice (.pair (.int .i64) (.pair (.int .i64) (.pair (.int .i64) (.pair (.int .i64) (.int .i64)))))))))))).1 != k) = false := h1
        try simp only [hX, w0, w1, w2] at h
        exact ok_eq h
      refine Vc.skip ?_
      refine Vc.seq ?_
      refine Vc.region hG rfl ?_ ?_
      · trivial
      refine Vc.seq ?_
      refine Vc.seq ?_
      refine Vc.region hG rfl ?_ ?_
      · exact hdRange hI hl
      refine Vc.cond rfl (fun h2 => ?_) (fun h2 => ?_)
      · skip
        have g2 : okC (.int .i64) X.2.1 (k + 1) = false := by
          have h : ((List.getD a0 i.toNat (dflt (.pair (.int .i64) (.pair (.int .i64) (.pair (.int .i64) (.pair (.slice (.pair (.int .i64) (.bool))) (.slice (.pair (.int .i64) (.pair (.int .i64) (.pair (.int .i64) (.pair (.int .i64) (.int .i64)))))))))))).2.1 != IntKind.i64.wrap (k + 1)) = true := h2
          try simp only [hX, w0, w1, w2] at h
          exact ok_ne h
        refine Vc.seq ?_
        refine Vc.region hG rfl ?_ ?_
        · trivial
        refine Vc.ret ?_
        refine ⟨?_, trivial⟩
        refine hdNo hI hl (dflt (.pair (.int .i64) (.pair (.int .i64) (.pair (.int .i64) (.pair (.slice (.pair (.int .i64) (.bool))) (.slice (.pair (.int .i64) (.pair (.int .i64) (.pair (.int .i64) (.pair (.int .i64) (.int .i64))))))))))) ?_
        rw [hX]
        show (okC (.int .i64) X.1 (k) && (okC (.int .i64) X.2.1 (k + 1) && (okC (.int .i64) X.2.2.1 (k + 1 + 1) && (okC (.slice (.pair (.int .i64) (.bool))) X.2.2.2.1 (k + 1 + 1 + 1) && okC (.slice (.pair (.int .i64) (.pair (.int .i64) (.pair (.int .i64) (.pair (.int .i64) (.int .i64)))))) X.2.2.2.2 (k + 1 + 1 + 1 + ((cellsC (.slice (.pair (.int .i64) (.bool))) X.2.2.2.1 : Nat) : Int)))))) = false
        simp only [g1, g2, Bool.and_false, Bool.false_and, Bool.and_true, Bool.true_and]
      · skip
        have g2 : okC (.int .i64) X.2.1 (k + 1) = true := by
          have h : ((List.getD a0 i.toNat (dflt (.pair (.int .i64) (.pair (.int .i64) (.pair (.int .i64) (.pair (.slice (.pair (.int .i64) (.bool))) (.slice (.pair (.int .i64) (.pair (.int .i64) (.pair (.int .i64) (.pair (.int .i64) (.int .i64)))))))))))).2.1 != IntKind.i64.wrap (k + 1)) = false := h2
          try simp only [hX, w0, w1, w2] at h
          exact ok_eq h
        refine Vc.skip ?_
        refine Vc.seq ?_
        refine Vc.region hG rfl ?_ ?_
        · trivial
        refine Vc.seq ?_
        refine Vc.seq ?_
        refine Vc.region hG rfl ?_ ?_
        · exact hdRange hI hl
        refine Vc.cond rfl (fun h3 => ?_) (fun h3 => ?_)
        · skip
          have g3 : okC (.int .i64) X.2.2.1 (k + 1 + 1) = false := by
            have h : ((List.getD a0 i.toNat (dflt (.pair (.int .i64) (.pair (.int .i64) (.pair (.int .i64) (.pair (.slice (.pair (.int .i64) (.bool))) (.slice (.pair (.int .i64) (.pair (.int .i64) (.pair (.int .i64) (.pair (.int .i64) (.int .i64)))))))))))).2.2.1 != IntKind.i64.wrap (IntKind.i64.wrap (k + 1) + 1)) = true := h3
            try simp only [hX, w0, w1, w2] at h
            exact ok_ne h
          refine Vc.seq ?_
          refine Vc.region hG rfl ?_ ?_
          · trivial
          refine Vc.ret ?_
          refine ⟨?_, trivial⟩
          refine hdNo hI hl (dflt (.pair (.int .i64) (.pair (.int .i64) (.pair (.int .i64) (.pair (.slice (.pair (.int .i64) (.bool))) (.slice (.pair (.int .i64) (.pair (.int .i64) (.pair (.int .i64) (.pair (.int .i64) (.int .i64))))))))))) ?_
          rw [hX]
          show (okC (.int .i64) X.1 (k) && (okC (.int .i64) X.2.1 (k + 1) && (okC (.int .i64) X.2.2.1 (k + 1 + 1) && (okC (.slice (.pair (.int .i64) (.bool))) X.2.2.2.1 (k + 1 + 1 + 1) && okC (.slice (.pair (.int .i64) (.pair (.int .i64) (.pair (.int .i64) (.pair (.int .i64) (.int .i64)))))) X.2.2.2.2 (k + 1 + 1 + 1 + ((cellsC (.slice (.pair (.int .i64) (.bool))) X.2.2.2.1 : Nat) : Int)))))) = false
          simp only [g1, g2, g3, Bool.and_false, Bool.false_and, Bool.and_true, Bool.true_and]
        · skip
          have g3 : okC (.int .i64) X.2.2.1 (k + 1 + 1) = true := by
            have h : ((List.getD a0 i.toNat (dflt (.pair (.int .i64) (.pair (.int .i64) (.pair (.int .i64) (.pair (.slice (.pair (.int .i64) (.bool))) (.slice (.pair (.int .i64) (.pair (.int .i64) (.pair (.int .i64) (.pair (.int .i64) (.int .i64)))))))))))).2.2.1 != IntKind.i64.wrap (IntKind.i64.wrap (k + 1) + 1)) = false := h3
            try simp only [hX, w0, w1, w2] at h
            exact ok_eq h
          refine Vc.skip ?_
          refine Vc.seq ?_
          refine Vc.region hG rfl ?_ ?_
          · trivial
          refine Vc.seq ?_
          refine Vc.region hG rfl ?_ ?_
          · refine ⟨hdRange hI hl, ?_⟩
            show markPre (.slice (.pair (.int .i64) (.bool))) (List.getD a0 i.toNat (dflt (.pair (.int .i64) (.pair (.int .i64) (.pair (.int .i64) (.pair (.slice (.pair (.int .i64) (.bool))) (.slice (.pair (.int .i64) (.pair (.int .i64) (.pair (.int .i64) (.pair (.int .i64) (.int .i64)))))))))))).2.2.2.1 (IntKind.i64.wrap (IntKind.i64.wrap (IntKind.i64.wrap (k + 1) + 1) + 1))
            try simp only [hX, w0, w1, w2]
            exact ⟨by omega, by omega⟩
          refine Vc.seq ?_
          refine Vc.seq ?_
          refine Vc.region hG rfl ?_ ?_
          · trivial
          refine Vc.cond rfl (fun h4 => ?_) (fun h4 => ?_)
          · skip
            have q4 : 0 ≤ k + 1 + 1 + 1 := by omega
            have g4 : okC (.slice (.pair (.int .i64) (.bool))) X.2.2.2.1 (k + 1 + 1 + 1) = false := held_neg q4 (by
              have h : heldF (.slice (.pair (.int .i64) (.bool))) (List.getD a0 i.toNat (dflt (.pair (.int .i64) (.pair (.int .i64) (.pair (.int .i64) (.pair (.slice (.pair (.int .i64) (.bool))) (.slice (.pair (.int .i64) (.pair (.int .i64) (.pair (.int .i64) (.pair (.int .i64) (.int .i64)))))))))))).2.2.2.1 (IntKind.i64.wrap (IntKind.i64.wrap (IntKind.i64.wrap (k + 1) + 1) + 1)) < 0 := of_decide_eq_true h4
              try simp only [hX, w0, w1, w2] at h
              exact h)
            refine Vc.seq ?_
            refine Vc.region hG rfl ?_ ?_
            · trivial
            refine Vc.ret ?_
            refine ⟨?_, trivial⟩
            refine hdNo hI hl (dflt (.pair (.int .i64) (.pair (.int .i64) (.pair (.int .i64) (.pair (.slice (.pair (.int .i64) (.bool))) (.slice (.pair (.int .i64) (.pair (.int .i64) (.pair (.int .i64) (.pair (.int .i64) (.int .i64))))))))))) ?_
            rw [hX]
            show (okC (.int .i64) X.1 (k) && (okC (.int .i64) X.2.1 (k + 1) && (okC (.int .i64) X.2.2.1 (k + 1 + 1) && (okC (.slice (.pair (.int .i64) (.bool))) X.2.2.2.1 (k + 1 + 1 + 1) && okC (.slice (.pair (.int .i64) (.pair (.int .i64) (.pair (.int .i64) (.pair (.int .i64) (.int .i64)))))) X.2.2.2.2 (k + 1 + 1 + 1 + ((cellsC (.slice (.pair (.int .i64) (.bool))) X.2.2.2.1 : Nat) : Int)))))) = false
            simp only [g1, g2, g3, g4, Bool.and_false, Bool.false_and, Bool.and_true, Bool.true_and]
          · skip
            have q4 : 0 ≤ k + 1 + 1 + 1 := by omega
            have n4 : ¬ heldF (.slice (.pair (.int .i64) (.bool))) X.2.2.2.1 (k + 1 + 1 + 1) < 0 := by
              have h : ¬ heldF (.slice (.pair (.int .i64) (.bool))) (List.getD a0 i.toNat (dflt (.pair (.int .i64) (.pair (.int .i64) (.pair (.int .i64) (.pair (.slice (.pair (.int .i64) (.bool))) (.slice (.pair (.int .i64) (.pair (.int .i64) (.pair (.int .i64) (.pair (.int .i64) (.int .i64)))))))))))).2.2.2.1 (IntKind.i64.wrap (IntKind.i64.wrap (IntKind.i64.wrap (k + 1) + 1) + 1)) < 0 := of_decide_eq_false h4
              try simp only [hX, w0, w1, w2] at h
              exact h
            have g4 : okC (.slice (.pair (.int .i64) (.bool))) X.2.2.2.1 (k + 1 + 1 + 1) = true := held_pos n4
            have u4 : heldF (.slice (.pair (.int .i64) (.bool))) X.2.2.2.1 (k + 1 + 1 + 1) = k + 1 + 1 + 1 + ((cellsC (.slice (.pair (.int .i64) (.bool))) X.2.2.2.1 : Nat) : Int) := held_val n4
            refine Vc.skip ?_
            refine Vc.seq ?_
            refine Vc.region hG rfl ?_ ?_
            · refine ⟨hdRange hI hl, ?_⟩
              show markPre (.slice (.pair (.int .i64) (.pair (.int .i64) (.pair (.int .i64) (.pair (.int .i64) (.int .i64)))))) (List.getD a0 i.toNat (dflt (.pair (.int .i64) (.pair (.int .i64) (.pair (.int .i64) (.pair (.slice (.pair (.int .i64) (.bool))) (.slice (.pair (.int .i64) (.pair (.int .i64) (.pair (.int .i64) (.pair (.int .i64) (.int .i64)))))))))))).2.2.2.2 (heldF (.slice (.pair (.int .i64) (.bool))) (List.getD a0 i.toNat (dflt (.pair (.int .i64) (.pair (.int .i64) (.pair (.int .i64) (.pair (.slice (.pair (.int .i64) (.bool))) (.slice (.pair (.int .i64) (.pair (.int .i64) (.pair (.int .i64) (.pair (.int .i64) (.int .i64)))))))))))).2.2.2.1 (IntKind.i64.wrap (IntKind.i64.wrap (IntKind.i64.wrap (k + 1) + 1) + 1)))
              try simp only [hX, w0, w1, w2, u4]
              exact ⟨by omega, by omega⟩
            refine Vc.seq ?_
            refine Vc.region hG rfl ?_ ?_
            · trivial
            refine Vc.cond rfl (fun h5 => ?_) (fun h5 => ?_)
            · skip
              have q5 : 0 ≤ k + 1 + 1 + 1 + ((cellsC (.slice (.pair (.int .i64) (.bool))) X.2.2.2.1 : Nat) : Int) := by omega
              have g5 : okC (.slice (.pair (.int .i64) (.pair (.int .i64) (.pair (.int .i64) (.pair (.int .i64) (.int .i64)))))) X.2.2.2.2 (k + 1 + 1 + 1 + ((cellsC (.slice (.pair (.int .i64) (.bool))) X.2.2.2.1 : Nat) : Int)) = false := held_neg q5 (by
                have h : heldF (.slice (.pair (.int .i64) (.pair (.int .i64) (.pair (.int .i64) (.pair (.int .i64) (.int .i64)))))) (List.getD a0 i.toNat (dflt (.pair (.int .i64) (.pair (.int .i64) (.pair (.int .i64) (.pair (.slice (.pair (.int .i64) (.bool))) (.slice (.pair (.int .i64) (.pair (.int .i64) (.pair (.int .i64) (.pair (.int .i64) (.int .i64)))))))))))).2.2.2.2 (heldF (.slice (.pair (.int .i64) (.bool))) (List.getD a0 i.toNat (dflt (.pair (.int .i64) (.pair (.int .i64) (.pair (.int .i64) (.pair (.slice (.pair (.int .i64) (.bool))) (.slice (.pair (.int .i64) (.pair (.int .i64) (.pair (.int .i64) (.pair (.int .i64) (.int .i64)))))))))))).2.2.2.1 (IntKind.i64.wrap (IntKind.i64.wrap (IntKind.i64.wrap (k + 1) + 1) + 1))) < 0 := of_decide_eq_true h5
                try simp only [hX, w0, w1, w2, u4] at h
                exact h)
              refine Vc.seq ?_
              refine Vc.region hG rfl ?_ ?_
              · trivial
              refine Vc.ret ?_
              refine ⟨?_, trivial⟩
              refine hdNo hI hl (dflt (.pair (.int .i64) (.pair (.int .i64) (.pair (.int .i64) (.pair (.slice (.pair (.int .i64) (.bool))) (.slice (.pair (.int .i64) (.pair (.int .i64) (.pair (.int .i64) (.pair (.int .i64) (.int .i64))))))))))) ?_
              rw [hX]
              show (okC (.int .i64) X.1 (k) && (okC (.int .i64) X.2.1 (k + 1) && (okC (.int .i64) X.2.2.1 (k + 1 + 1) && (okC (.slice (.pair (.int .i64) (.bool))) X.2.2.2.1 (k + 1 + 1 + 1) && okC (.slice (.pair (.int .i64) (.pair (.int .i64) (.pair (.int .i64) (.pair (.int .i64) (.int .i64)))))) X.2.2.2.2 (k + 1 + 1 + 1 + ((cellsC (.slice (.pair (.int .i64) (.bool))) X.2.2.2.1 : Nat) : Int)))))) = false
              simp only [g1, g2, g3, g4, g5, Bool.and_false, Bool.false_and, Bool.and_true, Bool.true_and]
            · skip
              have q5 : 0 ≤ k + 1 + 1 + 1 + ((cellsC (.slice (.pair (.int .i64) (.bool))) X.2.2.2.1 : Nat) : Int) := by omega
              have n5 : ¬ heldF (.slice (.pair (.int .i64) (.pair (.int .i64) (.pair (.int .i64) (.pair (.int .i64) (.int .i64)))))) X.2.2.2.2 (k + 1 + 1 + 1 + ((cellsC (.slice (.pair (.int .i64) (.bool))) X.2.2.2.1 : Nat) : Int)) < 0 := by
                have h : ¬ heldF (.slice (.pair (.int .i64) (.pair (.int .i64) (.pair (.int .i64) (.pair (.int .i64) (.int .i64)))))) (List.getD a0 i.toNat (dflt (.pair (.int .i64) (.pair (.int .i64) (.pair (.int .i64) (.pair (.slice (.pair (.int .i64) (.bool))) (.slice (.pair (.int .i64) (.pair (.int .i64) (.pair (.int .i64) (.pair (.int .i64) (.int .i64)))))))))))).2.2.2.2 (heldF (.slice (.pair (.int .i64) (.bool))) (List.getD a0 i.toNat (dflt (.pair (.int .i64) (.pair (.int .i64) (.pair (.int .i64) (.pair (.slice (.pair (.int .i64) (.bool))) (.slice (.pair (.int .i64) (.pair (.int .i64) (.pair (.int .i64) (.pair (.int .i64) (.int .i64)))))))))))).2.2.2.1 (IntKind.i64.wrap (IntKind.i64.wrap (IntKind.i64.wrap (k + 1) + 1) + 1))) < 0 := of_decide_eq_false h5
                try simp only [hX, w0, w1, w2, u4] at h
                exact h
              have g5 : okC (.slice (.pair (.int .i64) (.pair (.int .i64) (.pair (.int .i64) (.pair (.int .i64) (.int .i64)))))) X.2.2.2.2 (k + 1 + 1 + 1 + ((cellsC (.slice (.pair (.int .i64) (.bool))) X.2.2.2.1 : Nat) : Int)) = true := held_pos n5
              have u5 : heldF (.slice (.pair (.int .i64) (.pair (.int .i64) (.pair (.int .i64) (.pair (.int .i64) (.int .i64)))))) X.2.2.2.2 (k + 1 + 1 + 1 + ((cellsC (.slice (.pair (.int .i64) (.bool))) X.2.2.2.1 : Nat) : Int)) = k + 1 + 1 + 1 + ((cellsC (.slice (.pair (.int .i64) (.bool))) X.2.2.2.1 : Nat) : Int) + ((cellsC (.slice (.pair (.int .i64) (.pair (.int .i64) (.pair (.int .i64) (.pair (.int .i64) (.int .i64)))))) X.2.2.2.2 : Nat) : Int) := held_val n5
              refine Vc.skip ?_
              refine Vc.region hG rfl ?_ ?_
              · trivial
              refine ⟨rfl, ?_⟩
              refine hdStep hI hl hb (dflt (.pair (.int .i64) (.pair (.int .i64) (.pair (.int .i64) (.pair (.slice (.pair (.int .i64) (.bool))) (.slice (.pair (.int .i64) (.pair (.int .i64) (.pair (.int .i64) (.pair (.int .i64) (.int .i64))))))))))) ?_ ?_
              · rw [hX]
                show (okC (.int .i64) X.1 (k) && (okC (.int .i64) X.2.1 (k + 1) && (okC (.int .i64) X.2.2.1 (k + 1 + 1) && (okC (.slice (.pair (.int .i64) (.bool))) X.2.2.2.1 (k + 1 + 1 + 1) && okC (.slice (.pair (.int .i64) (.pair (.int .i64) (.pair (.int .i64) (.pair (.int .i64) (.int .i64)))))) X.2.2.2.2 (k + 1 + 1 + 1 + ((cellsC (.slice (.pair (.int .i64) (.bool))) X.2.2.2.1 : Nat) : Int)))))) = true
                simp only [g1, g2, g3, g4, g5, Bool.and_true]
              · show heldF (.slice (.pair (.int .i64) (.pair (.int .i64) (.pair (.int .i64) (.pair (.int .i64) (.int .i64)))))) (List.getD a0 i.toNat (dflt (.pair (.int .i64) (.pair (.int .i64) (.pair (.int .i64) (.pair (.slice (.pair (.int .i64) (.bool))) (.slice (.pair (.int .i64) (.pair (.int .i64) (.pair (.int .i64) (.pair (.int .i64) (.int .i64)))))))))))).2.2.2.2 (heldF (.slice (.pair (.int .i64) (.bool))) (List.getD a0 i.toNat (dflt (.pair (.int .i64) (.pair (.int .i64) (.pair (.int .i64) (.pair (.slice (.pair (.int .i64) (.bool))) (.slice (.pair (.int .i64) (.pair (.int .i64) (.pair (.int .i64) (.pair (.int .i64) (.int .i64)))))))))))).2.2.2.1 (IntKind.i64.wrap (IntKind.i64.wrap (IntKind.i64.wrap (k + 1) + 1) + 1))) = k + ((cellsC (.pair (.int .i64) (.pair (.int .i64) (.pair (.int .i64) (.pair (.slice (.pair (.int .i64) (.bool))) (.slice (.pair (.int .i64) (.pair (.int .i64) (.pair (.int .i64) (.pair (.int .i64) (.int .i64)))))))))) (List.getD a0 i.toNat (dflt (.pair (.int .i64) (.pair (.int .i64) (.pair (.int .i64) (.pair (.slice (.pair (.int .i64) (.bool))) (.slice (.pair (.int .i64) (.pair (.int .i64) (.pair (.int .i64) (.pair (.int .i64) (.int .i64)))))))))))) : Nat) : Int)
                rw [hX]
                show _ = k + (((1 + (1 + (1 + ((cellsC (.slice (.pair (.int .i64) (.bool))) X.2.2.2.1) + (cellsC (.slice (.pair (.int .i64) (.pair (.int .i64) (.pair (.int .i64) (.pair (.int .i64) (.int .i64)))))) X.2.2.2.2))))) : Nat) : Int)
                try simp only [hX, w0, w1, w2, u4, u5]
                try omega
  · skip
    have hl : ¬ i < (List.length a0 : Int) := of_decide_eq_false h0
    refine Vc.exit ?_
    refine Vc.seq ?_
    refine Vc.region hG rfl ?_ ?_
    · trivial
    refine Vc.ret ?_
    refine ⟨?_, trivial⟩
    exact hdEnd hI hl
noncomputable def F60 : Fun := ⟨[.slice (.pair (.slice (.pair (.int .i64) (.pair (.slice (.int .i64)) (.int .i64)))) (.slice (.pair (.int .i64) (.pair (.int .i64) (.pair (.int .i64) (.pair (.slice (.pair (.int .i64) (.bool))) (.slice (.pair (.int .i64) (.pair (.int .i64) (.pair (.int .i64) (.pair (.int .i64) (.int .i64)))))))))))), .int .i64], [.pure (.int .i64)], fun x => (fun a0 a1 => markPre (.slice (.pair (.slice (.pair (.int .i64) (.pair (.slice (.int .i64)) (.int .i64)))) (.slice (.pair (.int .i64) (.pair (.int .i64) (.pair (.int .i64) (.pair (.slice (.pair (.int .i64) (.bool))) (.slice (.pair (.int .i64) (.pair (.int .i64) (.pair (.int .i64) (.pair (.int .i64) (.int .i64))))))))))))) a0 a1) x.1 x.2.1, fun x => ((fun a0 a1 => heldF (.slice (.pair (.slice (.pair (.int .i64) (.pair (.slice (.int .i64)) (.int .i64)))) (.slice (.pair (.int .i64) (.pair (.int .i64) (.pair (.int .i64) (.pair (.slice (.pair (.int .i64) (.bool))) (.slice (.pair (.int .i64) (.pair (.int .i64) (.pair (.int .i64) (.pair (.int .i64) (.int .i64))))))))))))) a0 a1) x.1 x.2.1, ())⟩
set_option maxRecDepth 100000 in
/-- loop.example.g00597.laws.heldStrandS -/
theorem F60_ok : Meets Try.prog 60 F60 := by
  refine meets_of_vc (C := mkC 31 [4] [0,1,4,5,9,20,29] [⟨108, _, F108_ok⟩, ⟨109, _, F109_ok⟩]) (mkC_ok _ _ _ _) (fnOf_ok _) Try.func60 rfl rfl rfl (by decide) rfl ?_
  rintro ⟨a0, (a1 : Int), _⟩ hwf hpre ⟨P, C, B, X, w0, M0, pv⟩ hG rfl rfl
  show Vc _ _ [(0, ⟨0, 0, .c (.pure (.slice (.pair (.slice (.pair (.int .i64) (.pair (.slice (.int .i64)) (.int .i64)))) (.slice (.pair (.int .i64) (.pair (.int .i64) (.pair (.int .i64) (.pair (.slice (.pair (.int .i64) (.bool))) (.slice (.pair (.int .i64) (.pair (.int .i64) (.pair (.int .i64) (.pair (.int .i64) (.int .i64)))))))))))))) a0⟩), (1, ⟨0, 0, .c (.pure (.int .i64)) a1⟩)] _
  have hb : List.length a0 ≤ bigLen := hwf.1.1
  have hp0 : 0 ≤ a1 := hpre.1
  have hp1 : a1 + ((cellsL (cellsC (.pair (.slice (.pair (.int .i64) (.pair (.slice (.int .i64)) (.int .i64)))) (.slice (.pair (.int .i64) (.pair (.int .i64) (.pair (.int .i64) (.pair (.slice (.pair (.int .i64) (.bool))) (.slice (.pair (.int .i64) (.pair (.int .i64) (.pair (.int .i64) (.pair (.int .i64) (.int .i64))))))))))))) a0 : Nat) : Int) ≤ bnd := hpre.2
  refine Vc.seq ?_
  refine Vc.region hG rfl ?_ ?_
  · trivial
  refine Vc.seq ?_
  refine Vc.seq ?_
  refine Vc.region hG rfl ?_ ?_
  · trivial
  refine Vc.block ?_
  -- slots [1, 5]; frame [0]
  refine Vc.loopF [(1, false, .pure (.int .i64)), (5, false, .pure (.int .i64))] [0] (fun v => hdInv (cellsC (.pair (.slice (.pair (.int .i64) (.pair (.slice (.int .i64)) (.int .i64)))) (.slice (.pair (.int .i64) (.pair (.int .i64) (.pair (.int .i64) (.pair (.slice (.pair (.int .i64) (.bool))) (.slice (.pair (.int .i64) (.pair (.int .i64) (.pair (.int .i64) (.pair (.int .i64) (.int .i64))))))))))))) (okC (.pair (.slice (.pair (.int .i64) (.pair (.slice (.int .i64)) (.int .i64)))) (.slice (.pair (.int .i64) (.pair (.int .i64) (.pair (.int .i64) (.pair (.slice (.pair (.int .i64) (.bool))) (.slice (.pair (.int .i64) (.pair (.int .i64) (.pair (.int .i64) (.pair (.int .i64) (.int .i64))))))))))))) a0 a1 v.1 v.2.1) (fun v => ((List.length a0 : Int) - v.2.1).toNat) rfl ?_ ?_
  · exact hdStart
  rintro ⟨(k : Int), (i : Int), _⟩ hI
  have hI : hdInv (cellsC (.pair (.slice (.pair (.int .i64) (.pair (.slice (.int .i64)) (.int .i64)))) (.slice (.pair (.int .i64) (.pair (.int .i64) (.pair (.int .i64) (.pair (.slice (.pair (.int .i64) (.bool))) (.slice (.pair (.int .i64) (.pair (.int .i64) (.pair (.int .i64) (.pair (.int .i64) (.int .i64))))))))))))) (okC (.pair (.slice (.pair (.int .i64) (.pair (.slice (.int .i64)) (.int .i64)))) (.slice (.pair (.int .i64) (.pair (.int .i64) (.pair (.int .i64) (.pair (.slice (.pair (.int .i64) (.bool))) (.slice (.pair (.int .i64) (.pair (.int .i64) (.pair (.int .i64) (.pair (.int .i64) (.int .i64))))))))))))) a0 a1 k i := hI
  refine Vc.seq ?_
  refine Vc.seq ?_
  refine Vc.region hG rfl ?_ ?_
  · trivial
  refine Vc.cond rfl (fun h0 => ?_) (fun h0 => ?_)
  · skip
    have hl : i < (List.length a0 : Int) := of_decide_eq_true h0
    have hk := hdBound hI hl (dflt (.pair (.slice (.pair (.int .i64) (.pair (.slice (.int .i64)) (.int .i64)))) (.slice (.pair (.int .i64) (.pair (.int .i64) (.pair (.int .i64) (.pair (.slice (.pair (.int .i64) (.bool))) (.slice (.pair (.int .i64) (.pair (.int .i64) (.pair (.int .i64) (.pair (.int .i64) (.int .i64))))))))))))) hp0 hp1
    generalize hX : List.getD a0 i.toNat (dflt (.pair (.slice (.pair (.int .i64) (.pair (.slice (.int .i64)) (.int .i64)))) (.slice (.pair (.int .i64) (.pair (.int .i64) (.pair (.int .i64) (.pair (.slice (.pair (.int .i64) (.bool))) (.slice (.pair (.int .i64) (.pair (.int .i64) (.pair (.int .i64) (.pair (.int .i64) (.int .i64))))))))))))) = X at hk
    have hk : 0 ≤ k ∧ k + ((((cellsC (.slice (.pair (.int .i64) (.pair (.slice (.int .i64)) (.int .i64)))) X.1) + (cellsC (.slice (.pair (.int .i64) (.pair (.int .i64) (.pair (.int .i64) (.pair (.slice (.pair (.int .i64) (.bool))) (.slice (.pair (.int .i64) (.pair (.int .i64) (.pair (.int .i64) (.pair (.int .i64) (.int .i64))))))))))) X.2)) : Nat) : Int) ≤ bnd := hk
    refine Vc.skip ?_
    refine Vc.seq ?_
    refine Vc.block ?_
    refine Vc.seq ?_
    refine Vc.region hG rfl ?_ ?_
    · refine ⟨hdRange hI hl, ?_⟩
      show markPre (.slice (.pair (.int .i64) (.pair (.slice (.int .i64)) (.int .i64)))) (List.getD a0 i.toNat (dflt (.pair (.slice (.pair (.int .i64) (.pair (.slice (.int .i64)) (.int .i64)))) (.slice (.pair (.int .i64) (.pair (.int .i64) (.pair (.int .i64) (.pair (.slice (.pair (.int .i64) (.bool))) (.slice (.pair (.int .i64) (.pair (.int .i64) (.pair (.int .i64) (.pair (.int .i64) (.int .i64)))))))))))))).1 (k)
      try simp only [hX]
      exact ⟨by omega, by omega⟩
    refine Vc.seq ?_
    refine Vc.seq ?_
    refine Vc.region hG rfl ?_ ?_
    · trivial
    refine Vc.cond rfl (fun h1 => ?_) (fun h1 => ?_)
    · skip
      have q1 : 0 ≤ k := by omega
      have g1 : okC (.slice (.pair (.int .i64) (.pair (.slice (.int .i64)) (.int .i64)))) X.1 (k) = false := held_neg q1 (by
        have h : heldF (.slice (.pair (.int .i64) (.pair (.slice (.int .i64)) (.int .i64)))) (List.getD a0 i.toNat (dflt (.pair (.slice (.pair (.int .i64) (.pair (.slice (.int .i64)) (.int .i64)))) (.slice (.pair (.int .i64) (.pair (.int .i64) (.pair (.int .i64) (.pair (.slice (.pair (.int .i64) (.bool))) (.slice (.pair (.int .i64) (.pair (.int .i64) (.pair (.int .i64) (.pair (.int .i64) (.int .i64)))))))))))))).1 (k) < 0 := of_decide_eq_true h1
        try simp only [hX] at h
        exact h)
      refine Vc.seq ?_
      refine Vc.region hG rfl ?_ ?_
      · trivial
      refine Vc.ret ?_
      refine ⟨?_, trivial⟩
      refine hdNo hI hl (dflt (.pair (.slice (.pair (.int .i64) (.pair (.slice (.int .i64)) (.int .i64)))) (.slice (.pair (.int .i64) (.pair (.int .i64) (.pair (.int .i64) (.pair (.slice (.pair (.int .i64) (.bool))) (.slice (.pair (.int .i64) (.pair (.int .i64) (.pair (.int .i64) (.pair (.int .i64) (.int .i64))))))))))))) ?_
      rw [hX]
      show (okC (.slice (.pair (.int .i64) (.pair (.slice (.int .i64)) (.int .i64)))) X.1 (k) && okC (.slice (.pair (.int .i64) (.pair (.int .i64) (.pair (.int .i64) (.pair (.slice (.pair (.int .i64) (.bool))) (.slice (.pair (.int .i64) (.pair (.int .i64) (.pair (.int .i64) (.pair (.int .i64) (.int .i64))))))))))) X.2 (k + ((cellsC (.slice (.pair (.int .i64) (.pair (.slice (.int .i64)) (.int .i64)))) X.1 : Nat) : Int))) = false
      simp only [g1, Bool.and_false, Bool.false_and, Bool.and_true, Bool.true_and]
    · skip
      have q1 : 0 ≤ k := by omega
      have n1 : ¬ heldF (.slice (.pair (.int .i64) (.pair (.slice (.int .i64)) (.int .i64)))) X.1 (k) < 0 := by
        have h : ¬ heldF (.slice (.pair (.int .i64) (.pair (.slice (.int .i64)) (.int .i64)))) (List.getD a0 i.toNat (dflt (.pair (.slice (.pair (.int .i64) (.pair (.slice (.int .i64)) (.int .i64)))) (.slice (.pair (.int .i64) (.pair (.int .i64) (.pair (.int .i64) (.pair (.slice (.pair (.int .i64) (.bool))) (.slice (.pair (.int .i64) (.pair (.int .i64) (.pair (.int .i64) (.pair (.int .i64) (.int .i64)))))))))))))).1 (k) < 0 := of_decide_eq_false h1
        try simp only [hX] at h
        exact h
      have g1 : okC (.slice (.pair (.int .i64) (.pair (.slice (.int .i64)) (.int .i64)))) X.1 (k) = true := held_pos n1
      have u1 : heldF (.slice (.pair (.int .i64) (.pair (.slice (.int .i64)) (.int .i64)))) X.1 (k) = k + ((cellsC (.slice (.pair (.int .i64) (.pair (.slice (.int .i64)) (.int .i64)))) X.1 : Nat) : Int) := held_val n1
      refine Vc.skip ?_
      refine Vc.seq ?_
      refine Vc.region hG rfl ?_ ?_
      · refine ⟨hdRange hI hl, ?_⟩
        show markPre (.slice (.pair (.int .i64) (.pair (.int .i64) (.pair (.int .i64) (.pair (.slice (.pair (.int .i64) (.bool))) (.slice (.pair (.int .i64) (.pair (.int .i64) (.pair (.int .i64) (.pair (.int .i64) (.int .i64))))))))))) (List.getD a0 i.toNat (dflt (.pair (.slice (.pair (.int .i64) (.pair (.slice (.int .i64)) (.int .i64)))) (.slice (.pair (.int .i64) (.pair (.int .i64) (.pair (.int .i64) (.pair (.slice (.pair (.int .i64) (.bool))) (.slice (.pair (.int .i64) (.pair (.int .i64) (.pair (.int .i64) (.pair (.int .i64) (.int .i64)))))))))))))).2 (heldF (.slice (.pair (.int .i64) (.pair (.slice (.int .i64)) (.int .i64)))) (List.getD a0 i.toNat (dflt (.pair (.slice (.pair (.int .i64) (.pair (.slice (.int .i64)) (.int .i64)))) (.slice (.pair (.int .i64) (.pair (.int .i64) (.pair (.int .i64) (.pair (.slice (.pair (.int .i64) (.bool))) (.slice (.pair (.int .i64) (.pair (.int .i64) (.pair (.int .i64) (.pair (.int .i64) (.int .i64)))))))))))))).1 (k))
        try simp only [hX, u1]
        exact ⟨by omega, by omega⟩
      refine Vc.seq ?_
      refine Vc.region hG rfl ?_ ?_
      · trivial
      refine Vc.cond rfl (fun h2 => ?_) (fun h2 => ?_)
      · skip
        have q2 : 0 ≤ k + ((cellsC (.slice (.pair (.int .i64) (.pair (.slice (.int .i64)) (.int .i64)))) X.1 : Nat) : Int) := by omega
        have g2 : okC (.slice (.pair (.int .i64) (.pair (.int .i64) (.pair (.int .i64) (.pair (.slice (.pair (.int .i64) (.bool))) (.slice (.pair (.int .i64) (.pair (.int .i64) (.pair (.int .i64) (.pair (.int .i64) (.int .i64))))))))))) X.2 (k + ((cellsC (.slice (.pair (.int .i64) (.pair (.slice (.int .i64)) (.int .i64)))) X.1 : Nat) : Int)) = false := held_neg q2 (by
          have h : heldF (.slice (.pair (.int .i64) (.pair (.int .i64) (.pair (.int .i64) (.pair (.slice (.pair (.int .i64) (.bool))) (.slice (.pair (.int .i64) (.pair (.int .i64) (.pair (.int .i64) (.pair (.int .i64) (.int .i64))))))))))) (List.getD a0 i.toNat (dflt (.pair (.slice (.pair (.int .i64) (.pair (.slice (.int .i64)) (.int .i64)))) (.slice (.pair (.int .i64) (.pair (.int .i64) (.pair (.int .i64) (.pair (.slice (.pair (.int .i64) (.bool))) (.slice (.pair (.int .i64) (.pair (.int .i64) (.pair (.int .i64) (.pair (.int .i64) (.int .i64)))))))))))))).2 (heldF (.slice (.pair (.int .i64) (.pair (.slice (.int .i64)) (.int .i64)))) (List.getD a0 i.toNat (dflt (.pair (.slice (.pair (.int .i64) (.pair (.slice (.int .i64)) (.int .i64)))) (.slice (.pair (.int .i64) (.pair (.int .i64) (.pair (.int .i64) (.pair (.slice (.pair (.int .i64) (.bool))) (.slice (.pair (.int .i64) (.pair (.int .i64) (.pair (.int .i64) (.pair (.int .i64) (.int .i64)))))))))))))).1 (k)) < 0 := of_decide_eq_true h2
          try simp only [hX, u1] at h
          exact h)
        refine Vc.seq ?_
        refine Vc.region hG rfl ?_ ?_
        · trivial
        refine Vc.ret ?_
        refine ⟨?_, trivial⟩
        refine hdNo hI hl (dflt (.pair (.slice (.pair (.int .i64) (.pair (.slice (.int .i64)) (.int .i64)))) (.slice (.pair (.int .i64) (.pair (.int .i64) (.pair (.int .i64) (.pair (.slice (.pair (.int .i64) (.bool))) (.slice (.pair (.int .i64) (.pair (.int .i64) (.pair (.int .i64) (.pair (.int .i64) (.int .i64))))))))))))) ?_
        rw [hX]
        show (okC (.slice (.pair (.int .i64) (.pair (.slice (.int .i64)) (.int .i64)))) X.1 (k) && okC (.slice (.pair (.int .i64) (.pair (.int .i64) (.pair (.int .i64) (.pair (.slice (.pair (.int .i64) (.bool))) (.slice (.pair (.int .i64) (.pair (.int .i64) (.pair (.int .i64) (.pair (.int .i64) (.int .i64))))))))))) X.2 (k + ((cellsC (.slice (.pair (.int .i64) (.pair (.slice (.int .i64)) (.int .i64)))) X.1 : Nat) : Int))) = false
        simp only [g1, g2, Bool.and_false, Bool.false_and, Bool.and_true, Bool.true_and]
      · skip
        have q2 : 0 ≤ k + ((cellsC (.slice (.pair (.int .i64) (.pair (.slice (.int .i64)) (.int .i64)))) X.1 : Nat) : Int) := by omega
        have n2 : ¬ heldF (.slice (.pair (.int .i64) (.pair (.int .i64) (.pair (.int .i64) (.pair (.slice (.pair (.int .i64) (.bool))) (.slice (.pair (.int .i64) (.pair (.int .i64) (.pair (.int .i64) (.pair (.int .i64) (.int .i64))))))))))) X.2 (k + ((cellsC (.slice (.pair (.int .i64) (.pair (.slice (.int .i64)) (.int .i64)))) X.1 : Nat) : Int)) < 0 := by
          have h : ¬ heldF (.slice (.pair (.int .i64) (.pair (.int .i64) (.pair (.int .i64) (.pair (.slice (.pair (.int .i64) (.bool))) (.slice (.pair (.int .i64) (.pair (.int .i64) (.pair (.int .i64) (.pair (.int .i64) (.int .i64))))))))))) (List.getD a0 i.toNat (dflt (.pair (.slice (.pair (.int .i64) (.pair (.slice (.int .i64)) (.int .i64)))) (.slice (.pair (.int .i64) (.pair (.int .i64) (.pair (.int .i64) (.pair (.slice (.pair (.int .i64) (.bool))) (.slice (.pair (.int .i64) (.pair (.int .i64) (.pair (.int .i64) (.pair (.int .i64) (.int .i64)))))))))))))).2 (heldF (.slice (.pair (.int .i64) (.pair (.slice (.int .i64)) (.int .i64)))) (List.getD a0 i.toNat (dflt (.pair (.slice (.pair (.int .i64) (.pair (.slice (.int .i64)) (.int .i64)))) (.slice (.pair (.int .i64) (.pair (.int .i64) (.pair (.int .i64) (.pair (.slice (.pair (.int .i64) (.bool))) (.slice (.pair (.int .i64) (.pair (.int .i64) (.pair (.int .i64) (.pair (.int .i64) (.int .i64)))))))))))))).1 (k)) < 0 := of_decide_eq_false h2
          try simp only [hX, u1] at h
          exact h
        have g2 : okC (.slice (.pair (.int .i64) (.pair (.int .i64) (.pair (.int .i64) (.pair (.slice (.pair (.int .i64) (.bool))) (.slice (.pair (.int .i64) (.pair (.int .i64) (.pair (.int .i64) (.pair (.int .i64) (.int .i64))))))))))) X.2 (k + ((cellsC (.slice (.pair (.int .i64) (.pair (.slice (.int .i64)) (.int .i64)))) X.1 : Nat) : Int)) = true := held_pos n2
        have u2 : heldF (.slice (.pair (.int .i64) (.pair (.int .i64) (.pair (.int .i64) (.pair (.slice (.pair (.int .i64) (.bool))) (.slice (.pair (.int .i64) (.pair (.int .i64) (.pair (.int .i64) (.pair (.int .i64) (.int .i64))))))))))) X.2 (k + ((cellsC (.slice (.pair (.int .i64) (.pair (.slice (.int .i64)) (.int .i64)))) X.1 : Nat) : Int)) = k + ((cellsC (.slice (.pair (.int .i64) (.pair (.slice (.int .i64)) (.int .i64)))) X.1 : Nat) : Int) + ((cellsC (.slice (.pair (.int .i64) (.pair (.int .i64) (.pair (.int .i64) (.pair (.slice (.pair (.int .i64) (.bool))) (.slice (.pair (.int .i64) (.pair (.int .i64) (.pair (.int .i64) (.pair (.int .i64) (.int .i64))))))))))) X.2 : Nat) : Int) := held_val n2
        refine Vc.skip ?_
        refine Vc.region hG rfl ?_ ?_
        · trivial
        refine ⟨rfl, ?_⟩
        refine hdStep hI hl hb (dflt (.pair (.slice (.pair (.int .i64) (.pair (.slice (.int .i64)) (.int .i64)))) (.slice (.pair (.int .i64) (.pair (.int .i64) (.pair (.int .i64) (.pair (.slice (.pair (.int .i64) (.bool))) (.slice (.pair (.int .i64) (.pair (.int .i64) (.pair (.int .i64) (.pair (.int .i64) (.int .i64))))))))))))) ?_ ?_
        · rw [hX]
          show (okC (.slice (.pair (.int .i64) (.pair (.slice (.int .i64)) (.int .i64)))) X.1 (k) && okC (.slice (.pair (.int .i64) (.pair (.int .i64) (.pair (.int .i64) (.pair (.slice (.pair (.int .i64) (.bool))) (.slice (.pair (.int .i64) (.pair (.int .i64) (.pair (.int .i64) (.pair (.int .i64) (.int .i64))))))))))) X.2 (k + ((cellsC (.slice (.pair (.int .i64) (.pair (.slice (.int .i64)) (.int .i64)))) X.1 : Nat) : Int))) = true
          simp only [g1, g2, Bool.and_true]
        · show heldF (.slice (.pair (.int .i64) (.pair (.int .i64) (.pair (.int .i64) (.pair (.slice (.pair (.int .i64) (.bool))) (.slice (.pair (.int .i64) (.pair (.int .i64) (.pair (.int .i64) (.pair (.int .i64) (.int .i64))))))))))) (List.getD a0 i.toNat (dflt (.pair (.slice (.pair (.int .i64) (.pair (.slice (.int .i64)) (.int .i64)))) (.slice (.pair (.int .i64) (.pair (.int .i64) (.pair (.int .i64) (.pair (.slice (.pair (.int .i64) (.bool))) (.slice (.pair (.int .i64) (.pair (.int .i64) (.pair (.int .i64) (.pair (.int .i64) (.int .i64)))))))))))))).2 (heldF (.slice (.pair (.int .i64) (.pair (.slice (.int .i64)) (.int .i64)))) (List.getD a0 i.toNat (dflt (.pair (.slice (.pair (.int .i64) (.pair (.slice (.int .i64)) (.int .i64)))) (.slice (.pair (.int .i64) (.pair (.int .i64) (.pair (.int .i64) (.pair (.slice (.pair (.int .i64) (.bool))) (.slice (.pair (.int .i64) (.pair (.int .i64) (.pair (.int .i64) (.pair (.int .i64) (.int .i64)))))))))))))).1 (k)) = k + ((cellsC (.pair (.slice (.pair (.int .i64) (.pair (.slice (.int .i64)) (.int .i64)))) (.slice (.pair (.int .i64) (.pair (.int .i64) (.pair (.int .i64) (.pair (.slice (.pair (.int .i64) (.bool))) (.slice (.pair (.int .i64) (.pair (.int .i64) (.pair (.int .i64) (.pair (.int .i64) (.int .i64)))))))))))) (List.getD a0 i.toNat (dflt (.pair (.slice (.pair (.int .i64) (.pair (.slice (.int .i64)) (.int .i64)))) (.slice (.pair (.int .i64) (.pair (.int .i64) (.pair (.int .i64) (.pair (.slice (.pair (.int .i64) (.bool))) (.slice (.pair (.int .i64) (.pair (.int .i64) (.pair (.int .i64) (.pair (.int .i64) (.int .i64)))))))))))))) : Nat) : Int)
          rw [hX]
          show _ = k + ((((cellsC (.slice (.pair (.int .i64) (.pair (.slice (.int .i64)) (.int .i64)))) X.1) + (cellsC (.slice (.pair (.int .i64) (.pair (.int .i64) (.pair (.int .i64) (.pair (.slice (.pair (.int .i64) (.bool))) (.slice (.pair (.int .i64) (.pair (.int .i64) (.pair (.int .i64) (.pair (.int .i64) (.int .i64))))))))))) X.2)) : Nat) : Int)
          try simp only [hX, u1, u2]
          try omega
  · skip
    have hl : ¬ i < (List.length a0 : Int) := of_decide_eq_false h0
    refine Vc.exit ?_
    refine Vc.seq ?_
    refine Vc.region hG rfl ?_ ?_
    · trivial
    refine Vc.ret ?_
    refine ⟨?_, trivial⟩
    exact hdEnd hI hl
noncomputable def F61 : Fun := ⟨[.slice (.slice (.pair (.int .i64) (.pair (.int .i64) (.pair (.int .i64) (.pair (.int .i64) (.int .i64)))))), .int .i64], [.pure (.int .i64)], fun x => (fun a0 a1 => markPre (.slice (.slice (.pair (.int .i64) (.pair (.int .i64) (.pair (.int .i64) (.pair (.int .i64) (.int .i64))))))) a0 a1) x.1 x.2.1, fun x => ((fun a0 a1 => heldF (.slice (.slice (.pair (.int .i64) (.pair (.int .i64) (.pair (.int .i64) (.pair (.int .i64) (.int .i64))))))) a0 a1) x.1 x.2.1, ())⟩
set_option maxRecDepth 100000 in
/-- loop.example.g00597.laws.heldStampSS -/
theorem F61_ok : Meets Try.prog 61 F61 := by
  refine meets_of_vc (C := mkC 21 [4] [0,1,4,5,9,19] [⟨110, _, F110_ok⟩]) (mkC_ok _ _ _ _) (fnOf_ok _) Try.func61 rfl rfl rfl (by decide) rfl ?_
  rintro ⟨a0, (a1 : Int), _⟩ hwf hpre ⟨P, C, B, X, w0, M0, pv⟩ hG rfl rfl
  show Vc _ _ [(0, ⟨0, 0, .c (.pure (.slice (.slice (.pair (.int .i64) (.pair (.int .i64) (.pair (.int .i64) (.pair (.int .i64) (.int .i64)))))))) a0⟩), (1, ⟨0, 0, .c (.pure (.int .i64)) a1⟩)] _
  have hb : List.length a0 ≤ bigLen := hwf.1.1
  have hp0 : 0 ≤ a1 := hpre.1
  have hp1 : a1 + ((cellsL (cellsC (.slice (.pair (.int .i64) (.pair (.int .i64) (.pair (.int .i64) (.pair (.int .i64) (.int .i64))))))) a0 : Nat) : Int) ≤ bnd := hpre.2
  refine Vc.seq ?_
  refine Vc.region hG rfl ?_ ?_
  · trivial
  refine Vc.seq ?_
  refine Vc.seq ?_
  refine Vc.region hG rfl ?_ ?_
  · trivial
  refine Vc.block ?_
  -- slots [1, 5]; frame [0]
  refine Vc.loopF [(1, false, .pure (.int .i64)), (5, false, .pure (.int .i64))] [0] (fun v => hdInv (cellsC (.slice (.pair (.int .i64) (.pair (.int .i64) (.pair (.int .i64) (.pair (.int .i64) (.int .i64))))))) (okC (.slice (.pair (.int .i64) (.pair (.int .i64) (.pair (.int .i64) (.pair (.int .i64) (.int .i64))))))) a0 a1 v.1 v.2.1) (fun v => ((List.length a0 : Int) - v.2.1).toNat) rfl ?_ ?_
  · exact hdStart
  rintro ⟨(k : Int), (i : Int), _⟩ hI
  have hI : hdInv (cellsC (.slice (.pair (.int .i64) (.pair (.int .i64) (.pair (.int .i64) (.pair (.int .i64) (.int .i64))))))) (okC (.slice (.pair (.int .i64) (.pair (.int .i64) (.pair (.int .i64) (.pair (.int .i64) (.int .i64))))))) a0 a1 k i := hI
  refine Vc.seq ?_
  refine Vc.seq ?_
  refine Vc.region hG rfl ?_ ?_
  · trivial
  refine Vc.cond rfl (fun h0 => ?_) (fun h0 => ?_)
  · skip
    have hl : i < (List.length a0 : Int) := of_decide_eq_true h0
    have hk := hdBound hI hl (dflt (.slice (.pair (.int .i64) (.pair (.int .i64) (.pair (.int .i64) (.pair (.int .i64) (.int .i64))))))) hp0 hp1
    generalize hX : List.getD a0 i.toNat (dflt (.slice (.pair (.int .i64) (.pair (.int .i64) (.pair (.int .i64) (.pair (.int .i64) (.int .i64))))))) = X at hk
    have hk : 0 ≤ k ∧ k + (((cellsC (.slice (.pair (.int .i64) (.pair (.int .i64) (.pair (.int .i64) (.pair (.int .i64) (.int .i64)))))) X) : Nat) : Int) ≤ bnd := hk
    refine Vc.skip ?_
    refine Vc.seq ?_
    refine Vc.block ?_
    refine Vc.seq ?_
    refine Vc.region hG rfl ?_ ?_
    · refine ⟨hdRange hI hl, ?_⟩
      show markPre (.slice (.pair (.int .i64) (.pair (.int .i64) (.pair (.int .i64) (.pair (.int .i64) (.int .i64)))))) (List.getD a0 i.toNat (dflt (.slice (.pair (.int .i64) (.pair (.int .i64) (.pair (.int .i64) (.pair (.int .i64) (.int .i64)))))))) (k)
      try simp only [hX]
      exact ⟨by omega, by omega⟩
    refine Vc.seq ?_
    refine Vc.region hG rfl ?_ ?_
    · trivial
    refine Vc.cond rfl (fun h1 => ?_) (fun h1 => ?_)
    · skip
      have q1 : 0 ≤ k := by omega
      have g1 : okC (.slice (.pair (.int .i64) (.pair (.int .i64) (.pair (.int .i64) (.pair (.int .i64) (.int .i64)))))) X (k) = false := held_neg q1 (by
        have h : heldF (.slice (.pair (.int .i64) (.pair (.int .i64) (.pair (.int .i64) (.pair (.int .i64) (.int .i64)))))) (List.getD a0 i.toNat (dflt (.slice (.pair (.int .i64) (.pair (.int .i64) (.pair (.int .i64) (.pair (.int .i64) (.int .i64)))))))) (k) < 0 := of_decide_eq_true h1
        try simp only [hX] at h
        exact h)
      refine Vc.seq ?_
      refine Vc.region hG rfl ?_ ?_
      · trivial
      refine Vc.ret ?_
      refine ⟨?_, trivial⟩
      refine hdNo hI hl (dflt (.slice (.pair (.int .i64) (.pair (.int .i64) (.pair (.int .i64) (.pair (.int .i64) (.int .i64))))))) ?_
      rw [hX]
      show okC (.slice (.pair (.int .i64) (.pair (.int .i64) (.pair (.int .i64) (.pair (.int .i64) (.int .i64)))))) X (k) = false
      simp only [g1, Bool.and_false, Bool.false_and, Bool.and_true, Bool.true_and]
    · skip
      have q1 : 0 ≤ k := by omega
      have n1 : ¬ heldF (.slice (.pair (.int .i64) (.pair (.int .i64) (.pair (.int .i64) (.pair (.int .i64) (.int .i64)))))) X (k) < 0 := by
        have h : ¬ heldF (.slice (.pair (.int .i64) (.pair (.int .i64) (.pair (.int .i64) (.pair (.int .i64) (.int .i64)))))) (List.getD a0 i.toNat (dflt (.slice (.pair (.int .i64) (.pair (.int .i64) (.pair (.int .i64) (.pair (.int .i64) (.int .i64)))))))) (k) < 0 := of_decide_eq_false h1
        try simp only [hX] at h
        exact h
      have g1 : okC (.slice (.pair (.int .i64) (.pair (.int .i64) (.pair (.int .i64) (.pair (.int .i64) (.int .i64)))))) X (k) = true := held_pos n1
      have u1 : heldF (.slice (.pair (.int .i64) (.pair (.int .i64) (.pair (.int .i64) (.pair (.int .i64) (.int .i64)))))) X (k) = k + ((cellsC (.slice (.pair (.int .i64) (.pair (.int .i64) (.pair (.int .i64) (.pair (.int .i64) (.int .i64)))))) X : Nat) : Int) := held_val n1
      refine Vc.skip ?_
      refine Vc.region hG rfl ?_ ?_
      · trivial
      refine ⟨rfl, ?_⟩
      refine hdStep hI hl hb (dflt (.slice (.pair (.int .i64) (.pair (.int .i64) (.pair (.int .i64) (.pair (.int .i64) (.int .i64))))))) ?_ ?_
      · rw [hX]
        show okC (.slice (.pair (.int .i64) (.pair (.int .i64) (.pair (.int .i64) (.pair (.int .i64) (.int .i64)))))) X (k) = true
        simp only [g1, Bool.and_true]
      · show heldF (.slice (.pair (.int .i64) (.pair (.int .i64) (.pair (.int .i64) (.pair (.int .i64) (.int .i64)))))) (List.getD a0 i.toNat (dflt (.slice (.pair (.int .i64) (.pair (.int .i64) (.pair (.int .i64) (.pair (.int .i64) (.int .i64)))))))) (k) = k + ((cellsC (.slice (.pair (.int .i64) (.pair (.int .i64) (.pair (.int .i64) (.pair (.int .i64) (.int .i64)))))) (List.getD a0 i.toNat (dflt (.slice (.pair (.int .i64) (.pair (.int .i64) (.pair (.int .i64) (.pair (.int .i64) (.int .i64)))))))) : Nat) : Int)
        rw [hX]
        show _ = k + (((cellsC (.slice (.pair (.int .i64) (.pair (.int .i64) (.pair (.int .i64) (.pair (.int .i64) (.int .i64)))))) X) : Nat) : Int)
        try simp only [hX, u1]
        try omega
  · skip
    have hl : ¬ i < (List.length a0 : Int) := of_decide_eq_false h0
    refine Vc.exit ?_
    refine Vc.seq ?_
    refine Vc.region hG rfl ?_ ?_
    · trivial
    refine Vc.ret ?_
    refine ⟨?_, trivial⟩
    exact hdEnd hI hl
noncomputable def F17 : Fun := ⟨[.pair (.slice (.pair (.slice (.pair (.int .i64) (.pair (.slice (.int .i64)) (.int .i64)))) (.slice (.pair (.int .i64) (.pair (.int .i64) (.pair (.int .i64) (.pair (.slice (.pair (.int .i64) (.bool))) (.slice (.pair (.int .i64) (.pair (.int .i64) (.pair (.int .i64) (.pair (.int .i64) (.int .i64))))))))))))) (.slice (.slice (.pair (.int .i64) (.pair (.int .i64) (.pair (.int .i64) (.pair (.int .i64) (.int .i64))))))), .int .i64], [.pure (.int .i64)], fun x => (fun a0 a1 => markPreV (.pair (.slice (.pair (.slice (.pair (.int .i64) (.pair (.slice (.int .i64)) (.int .i64)))) (.slice (.pair (.int .i64) (.pair (.int .i64) (.pair (.int .i64) (.pair (.slice (.pair (.int .i64) (.bool))) (.slice (.pair (.int .i64) (.pair (.int .i64) (.pair (.int .i64) (.pair (.int .i64) (.int .i64))))))))))))) (.slice (.slice (.pair (.int .i64) (.pair (.int .i64) (.pair (.int .i64) (.pair (.int .i64) (.int .i64)))))))) a0 a1) x.1 x.2.1, fun x => ((fun a0 a1 => heldVF (.pair (.slice (.pair (.slice (.pair (.int .i64) (.pair (.slice (.int .i64)) (.int .i64)))) (.slice (.pair (.int .i64) (.pair (.int .i64) (.pair (.int .i64) (.pair (.slice (.pair (.int .i64) (.bool))) (.slice (.pair (.int .i64) (.pair (.int .i64) (.pair (.int .i64) (.pair (.int .i64) (.int .i64))))))))))))) (.slice (.slice (.pair (.int .i64) (.pair (.int .i64) (.pair (.int .i64) (.pair (.int .i64) (.int .i64)))))))) a0 a1) x.1 x.2.1, ())⟩
set_option maxRecDepth 100000 in
/-- loop.example.g00597.laws.heldEvidence -/
theorem F17_ok : Meets Try.prog 17 F17 := by
  refine meets_of_vc (C := mkC 18 [4] [0,1,2,4,10,16] [⟨60, _, F60_ok⟩, ⟨61, _, F61_ok⟩]) (mkC_ok _ _ _ _) (fnOf_ok _) Try.func17 rfl rfl rfl (by decide) rfl ?_
  rintro ⟨a0, (a1 : Int), _⟩ hwf hpre ⟨P, C, B, X, w0, M0, pv⟩ hG rfl rfl
  show Vc _ _ [(0, ⟨0, 0, .c (.pure (.pair (.slice (.pair (.slice (.pair (.int .i64) (.pair (.slice (.int .i64)) (.int .i64)))) (.slice (.pair (.int .i64) (.pair (.int .i64) (.pair (.int .i64) (.pair (.slice (.pair (.int .i64) (.bool))) (.slice (.pair (.int .i64) (.pair (.int .i64) (.pair (.int .i64) (.pair (.int .i64) (.int .i64))))))))))))) (.slice (.slice (.pair (.int .i64) (.pair (.int .i64) (.pair (.int .i64) (.pair (.int .i64) (.int .i64))))))))) a0⟩), (1, ⟨0, 0, .c (.pure (.int .i64)) a1⟩)] _
  have hp0 : 0 ≤ a1 := hpre.1
  have hp1 : a1 + ((cellsV (.pair (.slice (.pair (.slice (.pair (.int .i64) (.pair (.slice (.int .i64)) (.int .i64)))) (.slice (.pair (.int .i64) (.pair (.int .i64) (.pair (.int .i64) (.pair (.slice (.pair (.int .i64) (.bool))) (.slice (.pair (.int .i64) (.pair (.int .i64) (.pair (.int .i64) (.pair (.int .i64) (.int .i64))))))))))))) (.slice (.slice (.pair (.int .i64) (.pair (.int .i64) (.pair (.int .i64) (.pair (.int .i64) (.int .i64)))))))) a0 : Nat) : Int) ≤ bnd := hpre.2
  have hc : ((cellsV (.pair (.slice (.pair (.slice (.pair (.int .i64) (.pair (.slice (.int .i64)) (.int .i64)))) (.slice (.pair (.int .i64) (.pair (.int .i64) (.pair (.int .i64) (.pair (.slice (.pair (.int .i64) (.bool))) (.slice (.pair (.int .i64) (.pair (.int .i64) (.pair (.int .i64) (.pair (.int .i64) (.int .i64))))))))))))) (.slice (.slice (.pair (.int .i64) (.pair (.int .i64) (.pair (.int .i64) (.pair (.int .i64) (.int .i64)))))))) a0 : Nat) : Int) = ((cellsC (.slice (.pair (.slice (.pair (.int .i64) (.pair (.slice (.int .i64)) (.int .i64)))) (.slice (.pair (.int .i64) (.pair (.int .i64) (.pair (.int .i64) (.pair (.slice (.pair (.int .i64) (.bool))) (.slice (.pair (.int .i64) (.pair (.int .i64) (.pair (.int .i64) (.pair (.int .i64) (.int .i64))))))))))))) a0.1 : Nat) : Int) + ((cellsC (.slice (.slice (.pair (.int .i64) (.pair (.int .i64) (.pair (.int .i64) (.pair (.int .i64) (.int .i64))))))) a0.2 : Nat) : Int) := by
    show (((cellsC (.slice (.pair (.slice (.pair (.int .i64) (.pair (.slice (.int .i64)) (.int .i64)))) (.slice (.pair (.int .i64) (.pair (.int .i64) (.pair (.int .i64) (.pair (.slice (.pair (.int .i64) (.bool))) (.slice (.pair (.int .i64) (.pair (.int .i64) (.pair (.int .i64) (.pair (.int .i64) (.int .i64))))))))))))) a0.1 + cellsC (.slice (.slice (.pair (.int .i64) (.pair (.int .i64) (.pair (.int .i64) (.pair (.int .i64) (.int .i64))))))) a0.2) : Nat) : Int) = _
    omega
  refine Vc.seq ?_
  refine Vc.region hG rfl ?_ ?_
  · trivial
  refine Vc.seq ?_
  refine Vc.region hG rfl ?_ ?_
  · show markPre (.slice (.pair (.slice (.pair (.int .i64) (.pair (.slice (.int .i64)) (.int .i64)))) (.slice (.pair (.int .i64) (.pair (.int .i64) (.pair (.int .i64) (.pair (.slice (.pair (.int .i64) (.bool))) (.slice (.pair (.int .i64) (.pair (.int .i64) (.pair (.int .i64) (.pair (.int .i64) (.int .i64))))))))))))) a0.1 (a1)
    skip
    exact ⟨by omega, by omega⟩
  refine Vc.seq ?_
  refine Vc.seq ?_
  refine Vc.region hG rfl ?_ ?_
  · trivial
  refine Vc.cond rfl (fun h0 => ?_) (fun h0 => ?_)
  · skip
    have q0 : 0 ≤ a1 := by omega
    have z0 : a1 = a1 := by omega
    have g0 : okC (.slice (.pair (.slice (.pair (.int .i64) (.pair (.slice (.int .i64)) (.int .i64)))) (.slice (.pair (.int .i64) (.pair (.int .i64) (.pair (.int .i64) (.pair (.slice (.pair (.int .i64) (.bool))) (.slice (.pair (.int .i64) (.pair (.int .i64) (.pair (.int .i64) (.pair (.int .i64) (.int .i64))))))))))))) a0.1 (a1) = false := held_neg q0 (by
      have h : heldF (.slice (.pair (.slice (.pair (.int .i64) (.pair (.slice (.int .i64)) (.int .i64)))) (.slice (.pair (.int .i64) (.pair (.int .i64) (.pair (.int .i64) (.pair (.slice (.pair (.int .i64) (.bool))) (.slice (.pair (.int .i64) (.pair (.int .i64) (.pair (.int .i64) (.pair (.int .i64) (.int .i64))))))))))))) a0.1 (a1) < 0 := of_decide_eq_true h0
      exact h)
    refine Vc.seq ?_
    refine Vc.region hG rfl ?_ ?_
    · trivial
    refine Vc.ret ?_
    refine ⟨?_, trivial⟩
    show (-1 : Int) = heldVF (.pair (.slice (.pair (.slice (.pair (.int .i64) (.pair (.slice (.int .i64)) (.int .i64)))) (.slice (.pair (.int .i64) (.pair (.int .i64) (.pair (.int .i64) (.pair (.slice (.pair (.int .i64) (.bool))) (.slice (.pair (.int .i64) (.pair (.int .i64) (.pair (.int .i64) (.pair (.int .i64) (.int .i64))))))))))))) (.slice (.slice (.pair (.int .i64) (.pair (.int .i64) (.pair (.int .i64) (.pair (.int .i64) (.int .i64)))))))) a0 a1
    unfold heldVF
    have f : okV (.pair (.slice (.pair (.slice (.pair (.int .i64) (.pair (.slice (.int .i64)) (.int .i64)))) (.slice (.pair (.int .i64) (.pair (.int .i64) (.pair (.int .i64) (.pair (.slice (.pair (.int .i64) (.bool))) (.slice (.pair (.int .i64) (.pair (.int .i64) (.pair (.int .i64) (.pair (.int .i64) (.int .i64))))))))))))) (.slice (.slice (.pair (.int .i64) (.pair (.int .i64) (.pair (.int .i64) (.pair (.int .i64) (.int .i64)))))))) a0 a1 = false := by
      show (okC (.slice (.pair (.slice (.pair (.int .i64) (.pair (.slice (.int .i64)) (.int .i64)))) (.slice (.pair (.int .i64) (.pair (.int .i64) (.pair (.int .i64) (.pair (.slice (.pair (.int .i64) (.bool))) (.slice (.pair (.int .i64) (.pair (.int .i64) (.pair (.int .i64) (.pair (.int .i64) (.int .i64))))))))))))) a0.1 (a1) && okC (.slice (.slice (.pair (.int .i64) (.pair (.int .i64) (.pair (.int .i64) (.pair (.int .i64) (.int .i64))))))) a0.2 (a1 + ((cellsC (.slice (.pair (.slice (.pair (.int .i64) (.pair (.slice (.int .i64)) (.int .i64)))) (.slice (.pair (.int .i64) (.pair (.int .i64) (.pair (.int .i64) (.pair (.slice (.pair (.int .i64) (.bool))) (.slice (.pair (.int .i64) (.pair (.int .i64) (.pair (.int .i64) (.pair (.int .i64) (.int .i64))))))))))))) a0.1 : Nat) : Int))) = false
      simp only [z0, g0, Bool.and_false, Bool.false_and, Bool.and_true, Bool.true_and]
    rw [if_neg (by rw [f]; decide)]
  · skip
    have q0 : 0 ≤ a1 := by omega
    have z0 : a1 = a1 := by omega
    have n0 : ¬ heldF (.slice (.pair (.slice (.pair (.int .i64) (.pair (.slice (.int .i64)) (.int .i64)))) (.slice (.pair (.int .i64) (.pair (.int .i64) (.pair (.int .i64) (.pair (.slice (.pair (.int .i64) (.bool))) (.slice (.pair (.int .i64) (.pair (.int .i64) (.pair (.int .i64) (.pair (.int .i64) (.int .i64))))))))))))) a0.1 (a1) < 0 := by
      have h : ¬ heldF (.slice (.pair (.slice (.pair (.int .i64) (.pair (.slice (.int .i64)) (.int .i64)))) (.slice (.pair (.int .i64) (.pair (.int .i64) (.pair (.int .i64) (.pair (.slice (.pair (.int .i64) (.bool))) (.slice (.pair (.int .i64) (.pair (.int .i64) (.pair (.int .i64) (.pair (.int .i64) (.int .i64))))))))))))) a0.1 (a1) < 0 := of_decide_eq_false h0
      exact h
    have g0 : okC (.slice (.pair (.slice (.pair (.int .i64) (.pair (.slice (.int .i64)) (.int .i64)))) (.slice (.pair (.int .i64) (.pair (.int .i64) (.pair (.int .i64) (.pair (.slice (.pair (.int .i64) (.bool))) (.slice (.pair (.int .i64) (.pair (.int .i64) (.pair (.int .i64) (.pair (.int .i64) (.int .i64))))))))))))) a0.1 (a1) = true := held_pos n0
    have u0 : heldF (.slice (.pair (.slice (.pair (.int .i64) (.pair (.slice (.int .i64)) (.int .i64)))) (.slice (.pair (.int .i64) (.pair (.int .i64) (.pair (.int .i64) (.pair (.slice (.pair (.int .i64) (.bool))) (.slice (.pair (.int .i64) (.pair (.int .i64) (.pair (.int .i64) (.pair (.int .i64) (.int .i64))))))))))))) a0.1 (a1) = a1 + ((cellsC (.slice (.pair (.slice (.pair (.int .i64) (.pair (.slice (.int .i64)) (.int .i64)))) (.slice (.pair (.int .i64) (.pair (.int .i64) (.pair (.int .i64) (.pair (.slice (.pair (.int .i64) (.bool))) (.slice (.pair (.int .i64) (.pair (.int .i64) (.pair (.int .i64) (.pair (.int .i64) (.int .i64))))))))))))) a0.1 : Nat) : Int) := held_val n0
    refine Vc.skip ?_
    refine Vc.seq ?_
    refine Vc.region hG rfl ?_ ?_
    · show markPre (.slice (.slice (.pair (.int .i64) (.pair (.int .i64) (.pair (.int .i64) (.pair (.int .i64) (.int .i64))))))) a0.2 (heldF (.slice (.pair (.slice (.pair (.int .i64) (.pair (.slice (.int .i64)) (.int .i64)))) (.slice (.pair (.int .i64) (.pair (.int .i64) (.pair (.int .i64) (.pair (.slice (.pair (.int .i64) (.bool))) (.slice (.pair (.int .i64) (.pair (.int .i64) (.pair (.int .i64) (.pair (.int .i64) (.int .i64))))))))))))) a0.1 (a1))
      try simp only [u0]
      exact ⟨by omega, by omega⟩
    refine Vc.seq ?_
    refine Vc.seq ?_
    refine Vc.region hG rfl ?_ ?_
    · trivial
    refine Vc.cond rfl (fun h1 => ?_) (fun h1 => ?_)
    · skip
      have q1 : 0 ≤ a1 + ((cellsC (.slice (.pair (.slice (.pair (.int .i64) (.pair (.slice (.int .i64)) (.int .i64)))) (.slice (.pair (.int .i64) (.pair (.int .i64) (.pair (.int .i64) (.pair (.slice (.pair (.int .i64) (.bool))) (.slice (.pair (.int .i64) (.pair (.int .i64) (.pair (.int .i64) (.pair (.int .i64) (.int .i64))))))))))))) a0.1 : Nat) : Int) := by omega
      have z1 : a1 + ((cellsC (.slice (.pair (.slice (.pair (.int .i64) (.pair (.slice (.int .i64)) (.int .i64)))) (.slice (.pair (.int .i64) (.pair (.int .i64) (.pair (.int .i64) (.pair (.slice (.pair (.int .i64) (.bool))) (.slice (.pair (.int .i64) (.pair (.int .i64) (.pair (.int .i64) (.pair (.int .i64) (.int .i64))))))))))))) a0.1 : Nat) : Int) = a1 + ((cellsC (.slice (.pair (.slice (.pair (.int .i64) (.pair (.slice (.int .i64)) (.int .i64)))) (.slice (.pair (.int .i64) (.pair (.int .i64) (.pair (.int .i64) (.pair (.slice (.pair (.int .i64) (.bool))) (.slice (.pair (.int .i64) (.pair (.int .i64) (.pair (.int .i64) (.pair (.int .i64) (.int .i64))))))))))))) a0.1 : Nat) : Int) := by omega
      have g1 : okC (.slice (.slice (.pair (.int .i64) (.pair (.int .i64) (.pair (.int .i64) (.pair (.int .i64) (.int .i64))))))) a0.2 (a1 + ((cellsC (.slice (.pair (.slice (.pair (.int .i64) (.pair (.slice (.int .i64)) (.int .i64)))) (.slice (.pair (.int .i64) (.pair (.int .i64) (.pair (.int .i64) (.pair (.slice (.pair (.int .i64) (.bool))) (.slice (.pair (.int .i64) (.pair (.int .i64) (.pair (.int .i64) (.pair (.int .i64) (.int .i64))))))))))))) a0.1 : Nat) : Int)) = false := held_neg q1 (by
        have h : heldF (.slice (.slice (.pair (.int .i64) (.pair (.int .i64) (.pair (.int .i64) (.pair (.int .i64) (.int .i64))))))) a0.2 (heldF (.slice (.pair (.slice (.pair (.int .i64) (.pair (.slice (.int .i64)) (.int .i64)))) (.slice (.pair (.int .i64) (.pair (.int .i64) (.pair (.int .i64) (.pair (.slice (.pair (.int .i64) (.bool))) (.slice (.pair (.int .i64) (.pair (.int .i64) (.pair (.int .i64) (.pair (.int .i64) (.int .i64))))))))))))) a0.1 (a1)) < 0 := of_decide_eq_true h1
        try simp only [u0] at h
        exact h)
      refine Vc.seq ?_
      refine Vc.region hG rfl ?_ ?_
      · trivial
      refine Vc.ret ?_
      refine ⟨?_, trivial⟩
      show (-1 : Int) = heldVF (.pair (.slice (.pair (.slice (.pair (.int .i64) (.pair (.slice (.int .i64)) (.int .i64)))) (.slice (.pair (.int .i64) (.pair (.int .i64) (.pair (.int .i64) (.pair (.slice (.pair (.int .i64) (.bool))) (.slice (.pair (.int .i64) (.pair (.int .i64) (.pair (.int .i64) (.pair (.int .i64) (.int .i64))))))))))))) (.slice (.slice (.pair (.int .i64) (.pair (.int .i64) (.pair (.int .i64) (.pair (.int .i64) (.int .i64)))))))) a0 a1
      unfold heldVF
      have f : okV (.pair (.slice (.pair (.slice (.pair (.int .i64) (.pair (.slice (.int .i64)) (.int .i64)))) (.slice (.pair (.int .i64) (.pair (.int .i64) (.pair (.int .i64) (.pair (.slice (.pair (.int .i64) (.bool))) (.slice (.pair (.int .i64) (.pair (.int .i64) (.pair (.int .i64) (.pair (.int .i64) (.int .i64))))))))))))) (.slice (.slice (.pair (.int .i64) (.pair (.int .i64) (.pair (.int .i64) (.pair (.int .i64) (.int .i64)))))))) a0 a1 = false := by
        show (okC (.slice (.pair (.slice (.pair (.int .i64) (.pair (.slice (.int .i64)) (.int .i64)))) (.slice (.pair (.int .i64) (.pair (.int .i64) (.pair (.int .i64) (.pair (.slice (.pair (.int .i64) (.bool))) (.slice (.pair (.int .i64) (.pair (.int .i64) (.pair (.int .i64) (.pair (.int .i64) (.int .i64))))))))))))) a0.1 (a1) && okC (.slice (.slice (.pair (.int .i64) (.pair (.int .i64) (.pair (.int .i64) (.pair (.int .i64) (.int .i64))))))) a0.2 (a1 + ((cellsC (.slice (.pair (.slice (.pair (.int .i64) (.pair (.slice (.int .i64)) (.int .i64)))) (.slice (.pair (.int .i64) (.pair (.int .i64) (.pair (.int .i64) (.pair (.slice (.pair (.int .i64) (.bool))) (.slice (.pair (.int .i64) (.pair (.int .i64) (.pair (.int .i64) (.pair (.int .i64) (.int .i64))))))))))))) a0.1 : Nat) : Int))) = false
        simp only [z0, z1, g0, g1, Bool.and_false, Bool.false_and, Bool.and_true, Bool.true_and]
      rw [if_neg (by rw [f]; decide)]
    · skip
      have q1 : 0 ≤ a1 + ((cellsC (.slice (.pair (.slice (.pair (.int .i64) (.pair (.slice (.int .i64)) (.int .i64)))) (.slice (.pair (.int .i64) (.pair (.int .i64) (.pair (.int .i64) (.pair (.slice (.pair (.int .i64) (.bool))) (.slice (.pair (.int .i64) (.pair (.int .i64) (.pair (.int .i64) (.pair (.int .i64) (.int .i64))))))))))))) a0.1 : Nat) : Int) := by omega
      have z1 : a1 + ((cellsC (.slice (.pair (.slice (.pair (.int .i64) (.pair (.slice (.int .i64)) (.int .i64)))) (.slice (.pair (.int .i64) (.pair (.int .i64) (.pair (.int .i64) (.pair (.slice (.pair (.int .i64) (.bool))) (.slice (.pair (.int .i64) (.pair (.int .i64) (.pair (.int .i64) (.pair (.int .i64) (.int .i64))))))))))))) a0.1 : Nat) : Int) = a1 + ((cellsC (.slice (.pair (.slice (.pair (.int .i64) (.pair (.slice (.int .i64)) (.int .i64)))) (.slice (.pair (.int .i64) (.pair (.int .i64) (.pair (.int .i64) (.pair (.slice (.pair (.int .i64) (.bool))) (.slice (.pair (.int .i64) (.pair (.int .i64) (.pair (.int .i64) (.pair (.int .i64) (.int .i64))))))))))))) a0.1 : Nat) : Int) := by omega
      have n1 : ¬ heldF (.slice (.slice (.pair (.int .i64) (.pair (.int .i64) (.pair (.int .i64) (.pair (.int .i64) (.int .i64))))))) a0.2 (a1 + ((cellsC (.slice (.pair (.slice (.pair (.int .i64) (.pair (.slice (.int .i64)) (.int .i64)))) (.slice (.pair (.int .i64) (.pair (.int .i64) (.pair (.int .i64) (.pair (.slice (.pair (.int .i64) (.bool))) (.slice (.pair (.int .i64) (.pair (.int .i64) (.pair (.int .i64) (.pair (.int .i64) (.int .i64))))))))))))) a0.1 : Nat) : Int)) < 0 := by
        have h : ¬ heldF (.slice (.slice (.pair (.int .i64) (.pair (.int .i64) (.pair (.int .i64) (.pair (.int .i64) (.int .i64))))))) a0.2 (heldF (.slice (.pair (.slice (.pair (.int .i64) (.pair (.slice (.int .i64)) (.int .i64)))) (.slice (.pair (.int .i64) (.pair (.int .i64) (.pair (.int .i64) (.pair (.slice (.pair (.int .i64) (.bool))) (.slice (.pair (.int .i64) (.pair (.int .i64) (.pair (.int .i64) (.pair (.int .i64) (.int .i64))))))))))))) a0.1 (a1)) < 0 := of_decide_eq_false h1
        try simp only [u0] at h
        exact h
      have g1 : okC (.slice (.slice (.pair (.int .i64) (.pair (.int .i64) (.pair (.int .i64) (.pair (.int .i64) (.int .i64))))))) a0.2 (a1 + ((cellsC (.slice (.pair (.slice (.pair (.int .i64) (.pair (.slice (.int .i64)) (.int .i64)))) (.slice (.pair (.int .i64) (.pair (.int .i64) (.pair (.int .i64) (.pair (.slice (.pair (.int .i64) (.bool))) (.slice (.pair (.int .i64) (.pair (.int .i64) (.pair (.int .i64) (.pair (.int .i64) (.int .i64))))))))))))) a0.1 : Nat) : Int)) = true := held_pos n1
      have u1 : heldF (.slice (.slice (.pair (.int .i64) (.pair (.int .i64) (.pair (.int .i64) (.pair (.int .i64) (.int .i64))))))) a0.2 (a1 + ((cellsC (.slice (.pair (.slice (.pair (.int .i64) (.pair (.slice (.int .i64)) (.int .i64)))) (.slice (.pair (.int .i64) (.pair (.int .i64) (.pair (.int .i64) (.pair (.slice (.pair (.int .i64) (.bool))) (.slice (.pair (.int .i64) (.pair (.int .i64) (.pair (.int .i64) (.pair (.int .i64) (.int .i64))))))))))))) a0.1 : Nat) : Int)) = a1 + ((cellsC (.slice (.pair (.slice (.pair (.int .i64) (.pair (.slice (.int .i64)) (.int .i64)))) (.slice (.pair (.int .i64) (.pair (.int .i64) (.pair (.int .i64) (.pair (.slice (.pair (.int .i64) (.bool))) (.slice (.pair (.int .i64) (.pair (.int .i64) (.pair (.int .i64) (.pair (.int .i64) (.int .i64))))))))))))) a0.1 : Nat) : Int) + ((cellsC (.slice (.slice (.pair (.int .i64) (.pair (.int .i64) (.pair (.int .i64) (.pair (.int .i64) (.int .i64))))))) a0.2 : Nat) : Int) := held_val n1
      refine Vc.skip ?_
      refine Vc.seq ?_
      refine Vc.region hG rfl ?_ ?_
      · trivial
      refine Vc.ret ?_
      refine ⟨?_, trivial⟩
      show heldF (.slice (.slice (.pair (.int .i64) (.pair (.int .i64) (.pair (.int .i64) (.pair (.int .i64) (.int .i64))))))) a0.2 (heldF (.slice (.pair (.slice (.pair (.int .i64) (.pair (.slice (.int .i64)) (.int .i64)))) (.slice (.pair (.int .i64) (.pair (.int .i64) (.pair (.int .i64) (.pair (.slice (.pair (.int .i64) (.bool))) (.slice (.pair (.int .i64) (.pair (.int .i64) (.pair (.int .i64) (.pair (.int .i64) (.int .i64))))))))))))) a0.1 (a1)) = heldVF (.pair (.slice (.pair (.slice (.pair (.int .i64) (.pair (.slice (.int .i64)) (.int .i64)))) (.slice (.pair (.int .i64) (.pair (.int .i64) (.pair (.int .i64) (.pair (.slice (.pair (.int .i64) (.bool))) (.slice (.pair (.int .i64) (.pair (.int .i64) (.pair (.int .i64) (.pair (.int .i64) (.int .i64))))))))))))) (.slice (.slice (.pair (.int .i64) (.pair (.int .i64) (.pair (.int .i64) (.pair (.int .i64) (.int .i64)))))))) a0 a1
      unfold heldVF
      have f : okV (.pair (.slice (.pair (.slice (.pair (.int .i64) (.pair (.slice (.int .i64)) (.int .i64)))) (.slice (.pair (.int .i64) (.pair (.int .i64) (.pair (.int .i64) (.pair (.slice (.pair (.int .i64) (.bool))) (.slice (.pair (.int .i64) (.pair (.int .i64) (.pair (.int .i64) (.pair (.int .i64) (.int .i64))))))))))))) (.slice (.slice (.pair (.int .i64) (.pair (.int .i64) (.pair (.int .i64) (.pair (.int .i64) (.int .i64)))))))) a0 a1 = true := by
        show (okC (.slice (.pair (.slice (.pair (.int .i64) (.pair (.slice (.int .i64)) (.int .i64)))) (.slice (.pair (.int .i64) (.pair (.int .i64) (.pair (.int .i64) (.pair (.slice (.pair (.int .i64) (.bool))) (.slice (.pair (.int .i64) (.pair (.int .i64) (.pair (.int .i64) (.pair (.int .i64) (.int .i64))))))))))))) a0.1 (a1) && okC (.slice (.slice (.pair (.int .i64) (.pair (.int .i64) (.pair (.int .i64) (.pair (.int .i64) (.int .i64))))))) a0.2 (a1 + ((cellsC (.slice (.pair (.slice (.pair (.int .i64) (.pair (.slice (.int .i64)) (.int .i64)))) (.slice (.pair (.int .i64) (.pair (.int .i64) (.pair (.int .i64) (.pair (.slice (.pair (.int .i64) (.bool))) (.slice (.pair (.int .i64) (.pair (.int .i64) (.pair (.int .i64) (.pair (.int .i64) (.int .i64))))))))))))) a0.1 : Nat) : Int))) = true
        simp only [z0, z1, g0, g1, Bool.and_true, Bool.true_and]
      rw [if_pos f]
      try simp only [u0, u1]
      try omega
noncomputable def F3 : Fun := ⟨[.pair (.int .i64) (.pair (.int .i64) (.pair (.pair (.int .i64) (.pair (.slice (.str)) (.slice (.int .i64)))) (.pair (.pair (.int .i64) (.pair (.int .i64) (.pair (.int .i64) (.pair (.int .i64) (.pair (.int .i64) (.pair (.int .i64) (.pair (.int .i64) (.pair (.int .i64) (.int .i64))))))))) (.pair (.slice (.pair (.int .i64) (.pair (.slice (.int .i64)) (.int .i64)))) (.slice (.pair (.int .i64) (.pair (.int .i64) (.pair (.int .i64) (.pair (.slice (.pair (.int .i64) (.bool))) (.slice (.pair (.int .i64) (.pair (.int .i64) (.pair (.int .i64) (.pair (.int .i64) (.int .i64)))))))))))))))], [.pure (.bool)], fun _ => True, fun x => ((fun _ => true) x.1, ())⟩
set_option maxRecDepth 100000 in
set_option maxHeartbeats 2000000 in
/-- loop.example.g00597.laws.FnExactItemEvidence -/
theorem F3_ok : Meets Try.prog 3 F3 := by
  refine meets_of_vc (C := mkCM 69 [2] [0,1,2,3,4,5,6,7,8,9,10,15,26,31,42,50,53,60,65,68] [⟨9, _, F9_ok⟩, ⟨11, _, F11_ok⟩, ⟨10, _, F10_ok⟩, ⟨12, _, F12_ok⟩, ⟨13, _, F13_ok⟩, ⟨14, _, F14_ok⟩, ⟨17, _, F17_ok⟩] [⟨15, _, M15_ok⟩, ⟨16, _, M16_ok⟩] [] []) (mkCM_ok _ _ _ _ _ _ _) (fnOf_ok _) Try.func3 rfl rfl rfl (by decide) rfl ?_
  rintro ⟨a0, _⟩ hwf hpre ⟨P, C, B, X, w0, M0, pv⟩ hG rfl rfl
  show Vc _ _ [(0, ⟨0, 0, .c (.pure (.pair (.int .i64) (.pair (.int .i64) (.pair (.pair (.int .i64) (.pair (.slice (.str)) (.slice (.int .i64)))) (.pair (.pair (.int .i64) (.pair (.int .i64) (.pair (.int .i64) (.pair (.int .i64) (.pair (.int .i64) (.pair (.int .i64) (.pair (.int .i64) (.pair (.int .i64) (.int .i64))))))))) (.pair (.slice (.pair (.int .i64) (.pair (.slice (.int .i64)) (.int .i64)))) (.slice (.pair (.int .i64) (.pair (.int .i64) (.pair (.int .i64) (.pair (.slice (.pair (.int .i64) (.bool))) (.slice (.pair (.int .i64) (.pair (.int .i64) (.pair (.int .i64) (.pair (.int .i64) (.int .i64))))))))))))))))) a0⟩)] _
  have q0 : (0 : Int) ≤ 1048576 ∧ (1048576 : Int) ≤ (big20 : Int) := by decide
  refine Vc.seq ?_
  refine Vc.region hG rfl ?_ ?_
  · trivial
  refine Vc.seq ?_
  refine Vc.region hG rfl ?_ ?_
  · trivial
  refine Vc.seq ?_
  refine Vc.region hG rfl ?_ ?_
  · exact (show (0 : Int) ≤ 1048576 ∧ 1048576 ≤ (big20 : Int) from ⟨by omega, by omega⟩)
  refine Vc.seq ?_
  refine Vc.seq ?_
  refine Vc.region hG rfl ?_ ?_
  · trivial
  refine Vc.cond rfl (fun h0 => ?_) (fun h0 => ?_)
  · skip
    refine Vc.seq ?_
    refine Vc.region hG rfl ?_ ?_
    · trivial
    refine Vc.ret ?_
    refine ⟨?_, trivial⟩
    all_goals exact rfl
  · skip
    have g0 : ¬ szF (.pair (.int .i64) (.pair (.int .i64) (.pair (.pair (.int .i64) (.pair (.slice (.str)) (.slice (.int .i64)))) (.pair (.pair (.int .i64) (.pair (.int .i64) (.pair (.int .i64) (.pair (.int .i64) (.pair (.int .i64) (.pair (.int .i64) (.pair (.int .i64) (.pair (.int .i64) (.int .i64))))))))) (.pair (.slice (.pair (.int .i64) (.pair (.slice (.int .i64)) (.int .i64)))) (.slice (.pair (.int .i64) (.pair (.int .i64) (.pair (.int .i64) (.pair (.slice (.pair (.int .i64) (.bool))) (.slice (.pair (.int .i64) (.pair (.int .i64) (.pair (.int .i64) (.pair (.int .i64) (.int .i64)))))))))))))))) a0 (1048576) < 0 := of_decide_eq_false h0
    have k0 := szF_le (.pair (.int .i64) (.pair (.int .i64) (.pair (.pair (.int .i64) (.pair (.slice (.str)) (.slice (.int .i64)))) (.pair (.pair (.int .i64) (.pair (.int .i64) (.pair (.int .i64) (.pair (.int .i64) (.pair (.int .i64) (.pair (.int .i64) (.pair (.int .i64) (.pair (.int .i64) (.int .i64))))))))) (.pair (.slice (.pair (.int .i64) (.pair (.slice (.int .i64)) (.int .i64)))) (.slice (.pair (.int .i64) (.pair (.int .i64) (.pair (.int .i64) (.pair (.slice (.pair (.int .i64) (.bool))) (.slice (.pair (.int .i64) (.pair (.int .i64) (.pair (.int .i64) (.pair (.int .i64) (.int .i64)))))))))))))))) a0 (1048576)
    have hs0 : Sm big20 (.pair (.int .i64) (.pair (.int .i64) (.pair (.pair (.int .i64) (.pair (.slice (.str)) (.slice (.int .i64)))) (.pair (.pair (.int .i64) (.pair (.int .i64) (.pair (.int .i64) (.pair (.int .i64) (.pair (.int .i64) (.pair (.int .i64) (.pair (.int .i64) (.pair (.int .i64) (.int .i64))))))))) (.pair (.slice (.pair (.int .i64) (.pair (.slice (.int .i64)) (.int .i64)))) (.slice (.pair (.int .i64) (.pair (.int .i64) (.pair (.int .i64) (.pair (.slice (.pair (.int .i64) (.bool))) (.slice (.pair (.int .i64) (.pair (.int .i64) (.pair (.int .i64) (.pair (.int .i64) (.int .i64)))))))))))))))) a0 := szF_sm (n := big20) (.pair (.int .i64) (.pair (.int .i64) (.pair (.pair (.int .i64) (.pair (.slice (.str)) (.slice (.int .i64)))) (.pair (.pair (.int .i64) (.pair (.int .i64) (.pair (.int .i64) (.pair (.int .i64) (.pair (.int .i64) (.pair (.int .i64) (.pair (.int .i64) (.pair (.int .i64) (.int .i64))))))))) (.pair (.slice (.pair (.int .i64) (.pair (.slice (.int .i64)) (.int .i64)))) (.slice (.pair (.int .i64) (.pair (.int .i64) (.pair (.int .i64) (.pair (.slice (.pair (.int .i64) (.bool))) (.slice (.pair (.int .i64) (.pair (.int .i64) (.pair (.int .i64) (.pair (.int .i64) (.int .i64)))))))))))))))) a0 (1048576) (by omega) (by omega)
    have cz0 := cellsLe (.pair (.int .i64) (.pair (.int .i64) (.pair (.pair (.int .i64) (.pair (.slice (.str)) (.slice (.int .i64)))) (.pair (.pair (.int .i64) (.pair (.int .i64) (.pair (.int .i64) (.pair (.int .i64) (.pair (.int .i64) (.pair (.int .i64) (.pair (.int .i64) (.pair (.int .i64) (.int .i64))))))))) (.pair (.slice (.pair (.int .i64) (.pair (.slice (.int .i64)) (.int .i64)))) (.slice (.pair (.int .i64) (.pair (.int .i64) (.pair (.int .i64) (.pair (.slice (.pair (.int .i64) (.bool))) (.slice (.pair (.int .i64) (.pair (.int .i64) (.pair (.int .i64) (.pair (.int .i64) (.int .i64)))))))))))))))) a0 (1048576) (by omega) (by omega) (by decide)
    have cv0 := cellsV_le (.pair (.int .i64) (.pair (.int .i64) (.pair (.pair (.int .i64) (.pair (.slice (.str)) (.slice (.int .i64)))) (.pair (.pair (.int .i64) (.pair (.int .i64) (.pair (.int .i64) (.pair (.int .i64) (.pair (.int .i64) (.pair (.int .i64) (.pair (.int .i64) (.pair (.int .i64) (.int .i64))))))))) (.pair (.slice (.pair (.int .i64) (.pair (.slice (.int .i64)) (.int .i64)))) (.slice (.pair (.int .i64) (.pair (.int .i64) (.pair (.int .i64) (.pair (.slice (.pair (.int .i64) (.bool))) (.slice (.pair (.int .i64) (.pair (.int .i64) (.pair (.int .i64) (.pair (.int .i64) (.int .i64)))))))))))))))) a0
    refine Vc.skip ?_
    refine Vc.seq ?_
    refine Vc.region hG rfl ?_ ?_
    · exact ⟨hs0, hs0⟩
    refine Vc.seq ?_
    refine Vc.region hG rfl ?_ ?_
    · exact hs0
    refine Vc.seq ?_
    refine Vc.region hG rfl ?_ ?_
    · exact hs0
    refine Vc.seq ?_
    refine Vc.seq ?_
    refine Vc.region hG rfl ?_ ?_
    · exact trivial
    refine Vc.cond rfl (fun h1 => ?_) (fun h1 => ?_)
    · skip
      exact (ne_selfC h1).elim
    · skip
      have cr0 : ((cellsV (.pair (.slice (.pair (.slice (.pair (.int .i64) (.pair (.slice (.int .i64)) (.int .i64)))) (.slice (.pair (.int .i64) (.pair (.int .i64) (.pair (.int .i64) (.pair (.slice (.pair (.int .i64) (.bool))) (.slice (.pair (.int .i64) (.pair (.int .i64) (.pair (.int .i64) (.pair (.int .i64) (.int .i64))))))))))))) (.slice (.slice (.pair (.int .i64) (.pair (.int .i64) (.pair (.int .i64) (.pair (.int .i64) (.int .i64)))))))) (itemEvF a0) : Nat) : Int) ≤ 10000000000000000 := evCells cz0
      refine Vc.skip ?_
      refine Vc.seq ?_
      refine Vc.seq ?_
      refine Vc.regionD mixed hG rfl (by kernel_rfl) ?_ ?_
      · exact ⟨hs0, trivial⟩
      refine Vc.cond rfl (fun h2 => ?_) (fun h2 => ?_)
      · skip
        exact (ne_selfC h2).elim
      · skip
        refine Vc.skip ?_
        refine Vc.seq ?_
        refine Vc.region hG rfl ?_ ?_
        · trivial
        refine Vc.seq ?_
        refine Vc.region hG rfl ?_ ?_
        · have ce0 := cntV_eq (.pair (.int .i64) (.pair (.int .i64) (.pair (.pair (.int .i64) (.pair (.slice (.str)) (.slice (.int .i64)))) (.pair (.pair (.int .i64) (.pair (.int .i64) (.pair (.int .i64) (.pair (.int .i64) (.pair (.int .i64) (.pair (.int .i64) (.pair (.int .i64) (.pair (.int .i64) (.int .i64))))))))) (.pair (.slice (.pair (.int .i64) (.pair (.slice (.int .i64)) (.int .i64)))) (.slice (.pair (.int .i64) (.pair (.int .i64) (.pair (.int .i64) (.pair (.slice (.pair (.int .i64) (.bool))) (.slice (.pair (.int .i64) (.pair (.int .i64) (.pair (.int .i64) (.pair (.int .i64) (.int .i64)))))))))))))))) a0 (1)
          exact (show markPreV (.pair (.int .i64) (.pair (.int .i64) (.pair (.pair (.int .i64) (.pair (.slice (.str)) (.slice (.int .i64)))) (.pair (.pair (.int .i64) (.pair (.int .i64) (.pair (.int .i64) (.pair (.int .i64) (.pair (.int .i64) (.pair (.int .i64) (.pair (.int .i64) (.pair (.int .i64) (.int .i64))))))))) (.pair (.slice (.pair (.int .i64) (.pair (.slice (.int .i64)) (.int .i64)))) (.slice (.pair (.int .i64) (.pair (.int .i64) (.pair (.int .i64) (.pair (.slice (.pair (.int .i64) (.bool))) (.slice (.pair (.int .i64) (.pair (.int .i64) (.pair (.int .i64) (.pair (.int .i64) (.int .i64)))))))))))))))) a0 (1) from ⟨by first | omega | (unfold bnd; omega), by first | omega | (unfold bnd; omega)⟩)
        refine Vc.seq ?_
        refine Vc.seq ?_
        refine Vc.region hG rfl ?_ ?_
        · repeat' (first | exact trivial | exact hs0 | exact hs1 | refine And.intro ?_ ?_ | intro _)
        refine Vc.cond rfl (fun h3 => ?_) (fun h3 => ?_)
        · skip
          have ce0 := cntV_eq (.pair (.int .i64) (.pair (.int .i64) (.pair (.pair (.int .i64) (.pair (.slice (.str)) (.slice (.int .i64)))) (.pair (.pair (.int .i64) (.pair (.int .i64) (.pair (.int .i64) (.pair (.int .i64) (.pair (.int .i64) (.pair (.int .i64) (.pair (.int .i64) (.pair (.int .i64) (.int .i64))))))))) (.pair (.slice (.pair (.int .i64) (.pair (.slice (.int .i64)) (.int .i64)))) (.slice (.pair (.int .i64) (.pair (.int .i64) (.pair (.int .i64) (.pair (.slice (.pair (.int .i64) (.bool))) (.slice (.pair (.int .i64) (.pair (.int .i64) (.pair (.int .i64) (.pair (.int .i64) (.int .i64)))))))))))))))) a0 (1)
          exact (orNe (K := cntV (.pair (.int .i64) (.pair (.int .i64) (.pair (.pair (.int .i64) (.pair (.slice (.str)) (.slice (.int .i64)))) (.pair (.pair (.int .i64) (.pair (.int .i64) (.pair (.int .i64) (.pair (.int .i64) (.pair (.int .i64) (.pair (.int .i64) (.pair (.int .i64) (.pair (.int .i64) (.int .i64))))))))) (.pair (.slice (.pair (.int .i64) (.pair (.slice (.int .i64)) (.int .i64)))) (.slice (.pair (.int .i64) (.pair (.int .i64) (.pair (.int .i64) (.pair (.slice (.pair (.int .i64) (.bool))) (.slice (.pair (.int .i64) (.pair (.int .i64) (.pair (.int .i64) (.pair (.int .i64) (.int .i64)))))))))))))))) a0 (1)) (by first | omega | (unfold bnd; omega)) h3).elim
        · skip
          refine Vc.skip ?_
          refine Vc.seq ?_
          refine Vc.region hG rfl ?_ ?_
          · trivial
          refine Vc.seq ?_
          refine Vc.region hG rfl ?_ ?_
          · have ce0 := cntV_eq (.pair (.int .i64) (.pair (.int .i64) (.pair (.pair (.int .i64) (.pair (.slice (.str)) (.slice (.int .i64)))) (.pair (.pair (.int .i64) (.pair (.int .i64) (.pair (.int .i64) (.pair (.int .i64) (.pair (.int .i64) (.pair (.int .i64) (.pair (.int .i64) (.pair (.int .i64) (.int .i64))))))))) (.pair (.slice (.pair (.int .i64) (.pair (.slice (.int .i64)) (.int .i64)))) (.slice (.pair (.int .i64) (.pair (.int .i64) (.pair (.int .i64) (.pair (.slice (.pair (.int .i64) (.bool))) (.slice (.pair (.int .i64) (.pair (.int .i64) (.pair (.int .i64) (.pair (.int .i64) (.int .i64)))))))))))))))) a0 (1)
            have ce1 := cntV_eq (.pair (.slice (.pair (.slice (.pair (.int .i64) (.pair (.slice (.int .i64)) (.int .i64)))) (.slice (.pair (.int .i64) (.pair (.int .i64) (.pair (.int .i64) (.pair (.slice (.pair (.int .i64) (.bool))) (.slice (.pair (.int .i64) (.pair (.int .i64) (.pair (.int .i64) (.pair (.int .i64) (.int .i64))))))))))))) (.slice (.slice (.pair (.int .i64) (.pair (.int .i64) (.pair (.int .i64) (.pair (.int .i64) (.int .i64)))))))) (itemEvF a0) (1)
            exact (show markPreV (.pair (.slice (.pair (.slice (.pair (.int .i64) (.pair (.slice (.int .i64)) (.int .i64)))) (.slice (.pair (.int .i64) (.pair (.int .i64) (.pair (.int .i64) (.pair (.slice (.pair (.int .i64) (.bool))) (.slice (.pair (.int .i64) (.pair (.int .i64) (.pair (.int .i64) (.pair (.int .i64) (.int .i64))))))))))))) (.slice (.slice (.pair (.int .i64) (.pair (.int .i64) (.pair (.int .i64) (.pair (.int .i64) (.int .i64)))))))) (itemEvF a0) (1) from ⟨by first | omega | (unfold bnd; omega), by first | omega | (unfold bnd; omega)⟩)
          refine Vc.seq ?_
          refine Vc.region hG rfl ?_ ?_
          · trivial
          refine Vc.seq ?_
          refine Vc.region hG rfl ?_ ?_
          · have ce0 := cntV_eq (.pair (.int .i64) (.pair (.int .i64) (.pair (.pair (.int .i64) (.pair (.slice (.str)) (.slice (.int .i64)))) (.pair (.pair (.int .i64) (.pair (.int .i64) (.pair (.int .i64) (.pair (.int .i64) (.pair (.int .i64) (.pair (.int .i64) (.pair (.int .i64) (.pair (.int .i64) (.int .i64))))))))) (.pair (.slice (.pair (.int .i64) (.pair (.slice (.int .i64)) (.int .i64)))) (.slice (.pair (.int .i64) (.pair (.int .i64) (.pair (.int .i64) (.pair (.slice (.pair (.int .i64) (.bool))) (.slice (.pair (.int .i64) (.pair (.int .i64) (.pair (.int .i64) (.pair (.int .i64) (.int .i64)))))))))))))))) a0 (1)
            have ce1 := cntV_eq (.pair (.slice (.pair (.slice (.pair (.int .i64) (.pair (.slice (.int .i64)) (.int .i64)))) (.slice (.pair (.int .i64) (.pair (.int .i64) (.pair (.int .i64) (.pair (.slice (.pair (.int .i64) (.bool))) (.slice (.pair (.int .i64) (.pair (.int .i64) (.pair (.int .i64) (.pair (.int .i64) (.int .i64))))))))))))) (.slice (.slice (.pair (.int .i64) (.pair (.int .i64) (.pair (.int .i64) (.pair (.int .i64) (.int .i64)))))))) (itemEvF a0) (1)
            exact (show markPreV (.pair (.slice (.pair (.slice (.pair (.int .i64) (.pair (.slice (.int .i64)) (.int .i64)))) (.slice (.pair (.int .i64) (.pair (.int .i64) (.pair (.int .i64) (.pair (.slice (.pair (.int .i64) (.bool))) (.slice (.pair (.int .i64) (.pair (.int .i64) (.pair (.int .i64) (.pair (.int .i64) (.int .i64))))))))))))) (.slice (.slice (.pair (.int .i64) (.pair (.int .i64) (.pair (.int .i64) (.pair (.int .i64) (.int .i64)))))))) (markV (.pair (.slice (.pair (.slice (.pair (.int .i64) (.pair (.slice (.int .i64)) (.int .i64)))) (.slice (.pair (.int .i64) (.pair (.int .i64) (.pair (.int .i64) (.pair (.slice (.pair (.int .i64) (.bool))) (.slice (.pair (.int .i64) (.pair (.int .i64) (.pair (.int .i64) (.pair (.int .i64) (.int .i64))))))))))))) (.slice (.slice (.pair (.int .i64) (.pair (.int .i64) (.pair (.int .i64) (.pair (.int .i64) (.int .i64)))))))) (itemEvF a0) (1)) (1) from ⟨by first | omega | (unfold bnd; omega), by rw [cellsV_mark]; first | omega | (unfold bnd; omega)⟩)
          refine Vc.seq ?_
          refine Vc.seq ?_
          refine Vc.region hG rfl ?_ ?_
          · trivial
          refine Vc.cond rfl (fun h4 => ?_) (fun h4 => ?_)
          · skip
            have ce0 := cntV_eq (.pair (.int .i64) (.pair (.int .i64) (.pair (.pair (.int .i64) (.pair (.slice (.str)) (.slice (.int .i64)))) (.pair (.pair (.int .i64) (.pair (.int .i64) (.pair (.int .i64) (.pair (.int .i64) (.pair (.int .i64) (.pair (.int .i64) (.pair (.int .i64) (.pair (.int .i64) (.int .i64))))))))) (.pair (.slice (.pair (.int .i64) (.pair (.slice (.int .i64)) (.int .i64)))) (.slice (.pair (.int .i64) (.pair (.int .i64) (.pair (.int .i64) (.pair (.slice (.pair (.int .i64) (.bool))) (.slice (.pair (.int .i64) (.pair (.int .i64) (.pair (.int .i64) (.pair (.int .i64) (.int .i64)))))))))))))))) a0 (1)
            have ce1 := cntV_eq (.pair (.slice (.pair (.slice (.pair (.int .i64) (.pair (.slice (.int .i64)) (.int .i64)))) (.slice (.pair (.int .i64) (.pair (.int .i64) (.pair (.int .i64) (.pair (.slice (.pair (.int .i64) (.bool))) (.slice (.pair (.int .i64) (.pair (.int .i64) (.pair (.int .i64) (.pair (.int .i64) (.int .i64))))))))))))) (.slice (.slice (.pair (.int .i64) (.pair (.int .i64) (.pair (.int .i64) (.pair (.int .i64) (.int .i64)))))))) (itemEvF a0) (1)
            exact (heldVLt (t := .pair (.slice (.pair (.slice (.pair (.int .i64) (.pair (.slice (.int .i64)) (.int .i64)))) (.slice (.pair (.int .i64) (.pair (.int .i64) (.pair (.int .i64) (.pair (.slice (.pair (.int .i64) (.bool))) (.slice (.pair (.int .i64) (.pair (.int .i64) (.pair (.int .i64) (.pair (.int .i64) (.int .i64))))))))))))) (.slice (.slice (.pair (.int .i64) (.pair (.int .i64) (.pair (.int .i64) (.pair (.int .i64) (.int .i64)))))))) (x := (itemEvF a0)) (n := 1) (by first | omega | (unfold bnd; omega)) (of_decide_eq_true h4)).elim
          · skip
            refine Vc.skip ?_
            refine Vc.seq ?_
            refine Vc.seq ?_
            refine Vc.region hG rfl ?_ ?_
            · trivial
            refine Vc.cond rfl (fun h5 => ?_) (fun h5 => ?_)
            · skip
              exact (heldVNe (t := .pair (.slice (.pair (.slice (.pair (.int .i64) (.pair (.slice (.int .i64)) (.int .i64)))) (.slice (.pair (.int .i64) (.pair (.int .i64) (.pair (.int .i64) (.pair (.slice (.pair (.int .i64) (.bool))) (.slice (.pair (.int .i64) (.pair (.int .i64) (.pair (.int .i64) (.pair (.int .i64) (.int .i64))))))))))))) (.slice (.slice (.pair (.int .i64) (.pair (.int .i64) (.pair (.int .i64) (.pair (.int .i64) (.int .i64)))))))) (x := (itemEvF a0)) (n := 1) h5).elim
            · skip
              refine Vc.skip ?_
              refine Vc.seq ?_
              refine Vc.region hG rfl ?_ ?_
              · have ce0 := cntV_eq (.pair (.int .i64) (.pair (.int .i64) (.pair (.pair (.int .i64) (.pair (.slice (.str)) (.slice (.int .i64)))) (.pair (.pair (.int .i64) (.pair (.int .i64) (.pair (.int .i64) (.pair (.int .i64) (.pair (.int .i64) (.pair (.int .i64) (.pair (.int .i64) (.pair (.int .i64) (.int .i64))))))))) (.pair (.slice (.pair (.int .i64) (.pair (.slice (.int .i64)) (.int .i64)))) (.slice (.pair (.int .i64) (.pair (.int .i64) (.pair (.int .i64) (.pair (.slice (.pair (.int .i64) (.bool))) (.slice (.pair (.int .i64) (.pair (.int .i64) (.pair (.int .i64) (.pair (.int .i64) (.int .i64)))))))))))))))) a0 (1)
                have ce1 := cntV_eq (.pair (.slice (.pair (.slice (.pair (.int .i64) (.pair (.slice (.int .i64)) (.int .i64)))) (.slice (.pair (.int .i64) (.pair (.int .i64) (.pair (.int .i64) (.pair (.slice (.pair (.int .i64) (.bool))) (.slice (.pair (.int .i64) (.pair (.int .i64) (.pair (.int .i64) (.pair (.int .i64) (.int .i64))))))))))))) (.slice (.slice (.pair (.int .i64) (.pair (.int .i64) (.pair (.int .i64) (.pair (.int .i64) (.int .i64)))))))) (itemEvF a0) (1)
                exact ⟨hs0, hs0⟩
              refine Vc.seq ?_
              refine Vc.seq ?_
              refine Vc.region hG rfl ?_ ?_
              · have ce0 := cntV_eq (.pair (.int .i64) (.pair (.int .i64) (.pair (.pair (.int .i64) (.pair (.slice (.str)) (.slice (.int .i64)))) (.pair (.pair (.int .i64) (.pair (.int .i64) (.pair (.int .i64) (.pair (.int .i64) (.pair (.int .i64) (.pair (.int .i64) (.pair (.int .i64) (.pair (.int .i64) (.int .i64))))))))) (.pair (.slice (.pair (.int .i64) (.pair (.slice (.int .i64)) (.int .i64)))) (.slice (.pair (.int .i64) (.pair (.int .i64) (.pair (.int .i64) (.pair (.slice (.pair (.int .i64) (.bool))) (.slice (.pair (.int .i64) (.pair (.int .i64) (.pair (.int .i64) (.pair (.int .i64) (.int .i64)))))))))))))))) a0 (1)
                have ce1 := cntV_eq (.pair (.slice (.pair (.slice (.pair (.int .i64) (.pair (.slice (.int .i64)) (.int .i64)))) (.slice (.pair (.int .i64) (.pair (.int .i64) (.pair (.int .i64) (.pair (.slice (.pair (.int .i64) (.bool))) (.slice (.pair (.int .i64) (.pair (.int .i64) (.pair (.int .i64) (.pair (.int .i64) (.int .i64))))))))))))) (.slice (.slice (.pair (.int .i64) (.pair (.int .i64) (.pair (.int .i64) (.pair (.int .i64) (.int .i64)))))))) (itemEvF a0) (1)
                exact trivial
              refine Vc.cond rfl (fun h6 => ?_) (fun h6 => ?_)
              · skip
                exact (ne_selfC h6).elim
              · skip
                refine Vc.skip ?_
                refine Vc.seq ?_
                refine Vc.region hG rfl ?_ ?_
                · trivial
                refine Vc.seq ?_
                refine Vc.region hG rfl ?_ ?_
                · have ce0 := cntV_eq (.pair (.int .i64) (.pair (.int .i64) (.pair (.pair (.int .i64) (.pair (.slice (.str)) (.slice (.int .i64)))) (.pair (.pair (.int .i64) (.pair (.int .i64) (.pair (.int .i64) (.pair (.int .i64) (.pair (.int .i64) (.pair (.int .i64) (.pair (.int .i64) (.pair (.int .i64) (.int .i64))))))))) (.pair (.slice (.pair (.int .i64) (.pair (.slice (.int .i64)) (.int .i64)))) (.slice (.pair (.int .i64) (.pair (.int .i64) (.pair (.int .i64) (.pair (.slice (.pair (.int .i64) (.bool))) (.slice (.pair (.int .i64) (.pair (.int .i64) (.pair (.int .i64) (.pair (.int .i64) (.int .i64)))))))))))))))) a0 (1)
                  have ce1 := cntV_eq (.pair (.slice (.pair (.slice (.pair (.int .i64) (.pair (.slice (.int .i64)) (.int .i64)))) (.slice (.pair (.int .i64) (.pair (.int .i64) (.pair (.int .i64) (.pair (.slice (.pair (.int .i64) (.bool))) (.slice (.pair (.int .i64) (.pair (.int .i64) (.pair (.int .i64) (.pair (.int .i64) (.int .i64))))))))))))) (.slice (.slice (.pair (.int .i64) (.pair (.int .i64) (.pair (.int .i64) (.pair (.int .i64) (.int .i64)))))))) (itemEvF a0) (1)
                  exact (show markPreV (.pair (.slice (.pair (.slice (.pair (.int .i64) (.pair (.slice (.int .i64)) (.int .i64)))) (.slice (.pair (.int .i64) (.pair (.int .i64) (.pair (.int .i64) (.pair (.slice (.pair (.int .i64) (.bool))) (.slice (.pair (.int .i64) (.pair (.int .i64) (.pair (.int .i64) (.pair (.int .i64) (.int .i64))))))))))))) (.slice (.slice (.pair (.int .i64) (.pair (.int .i64) (.pair (.int .i64) (.pair (.int .i64) (.int .i64)))))))) (markV (.pair (.slice (.pair (.slice (.pair (.int .i64) (.pair (.slice (.int .i64)) (.int .i64)))) (.slice (.pair (.int .i64) (.pair (.int .i64) (.pair (.int .i64) (.pair (.slice (.pair (.int .i64) (.bool))) (.slice (.pair (.int .i64) (.pair (.int .i64) (.pair (.int .i64) (.pair (.int .i64) (.int .i64))))))))))))) (.slice (.slice (.pair (.int .i64) (.pair (.int .i64) (.pair (.int .i64) (.pair (.int .i64) (.int .i64)))))))) (itemEvF a0) (1)) (1) from ⟨by first | omega | (unfold bnd; omega), by rw [cellsV_mark]; first | omega | (unfold bnd; omega)⟩)
                refine Vc.seq ?_
                refine Vc.seq ?_
                refine Vc.region hG rfl ?_ ?_
                · trivial
                refine Vc.cond rfl (fun h7 => ?_) (fun h7 => ?_)
                · skip
                  have ce0 := cntV_eq (.pair (.int .i64) (.pair (.int .i64) (.pair (.pair (.int .i64) (.pair (.slice (.str)) (.slice (.int .i64)))) (.pair (.pair (.int .i64) (.pair (.int .i64) (.pair (.int .i64) (.pair (.int .i64) (.pair (.int .i64) (.pair (.int .i64) (.pair (.int .i64) (.pair (.int .i64) (.int .i64))))))))) (.pair (.slice (.pair (.int .i64) (.pair (.slice (.int .i64)) (.int .i64)))) (.slice (.pair (.int .i64) (.pair (.int .i64) (.pair (.int .i64) (.pair (.slice (.pair (.int .i64) (.bool))) (.slice (.pair (.int .i64) (.pair (.int .i64) (.pair (.int .i64) (.pair (.int .i64) (.int .i64)))))))))))))))) a0 (1)
                  have ce1 := cntV_eq (.pair (.slice (.pair (.slice (.pair (.int .i64) (.pair (.slice (.int .i64)) (.int .i64)))) (.slice (.pair (.int .i64) (.pair (.int .i64) (.pair (.int .i64) (.pair (.slice (.pair (.int .i64) (.bool))) (.slice (.pair (.int .i64) (.pair (.int .i64) (.pair (.int .i64) (.pair (.int .i64) (.int .i64))))))))))))) (.slice (.slice (.pair (.int .i64) (.pair (.int .i64) (.pair (.int .i64) (.pair (.int .i64) (.int .i64)))))))) (itemEvF a0) (1)
                  exact (heldVLt (t := .pair (.slice (.pair (.slice (.pair (.int .i64) (.pair (.slice (.int .i64)) (.int .i64)))) (.slice (.pair (.int .i64) (.pair (.int .i64) (.pair (.int .i64) (.pair (.slice (.pair (.int .i64) (.bool))) (.slice (.pair (.int .i64) (.pair (.int .i64) (.pair (.int .i64) (.pair (.int .i64) (.int .i64))))))))))))) (.slice (.slice (.pair (.int .i64) (.pair (.int .i64) (.pair (.int .i64) (.pair (.int .i64) (.int .i64)))))))) (x := (itemEvF a0)) (n := 1) (by first | omega | (unfold bnd; omega)) (of_decide_eq_true h7)).elim
                · skip
                  refine Vc.skip ?_
                  refine Vc.seq ?_
                  refine Vc.seq ?_
                  refine Vc.region hG rfl ?_ ?_
                  · trivial
                  refine Vc.cond rfl (fun h8 => ?_) (fun h8 => ?_)
                  · skip
                    exact (heldVNe (t := .pair (.slice (.pair (.slice (.pair (.int .i64) (.pair (.slice (.int .i64)) (.int .i64)))) (.slice (.pair (.int .i64) (.pair (.int .i64) (.pair (.int .i64) (.pair (.slice (.pair (.int .i64) (.bool))) (.slice (.pair (.int .i64) (.pair (.int .i64) (.pair (.int .i64) (.pair (.int .i64) (.int .i64))))))))))))) (.slice (.slice (.pair (.int .i64) (.pair (.int .i64) (.pair (.int .i64) (.pair (.int .i64) (.int .i64)))))))) (x := (itemEvF a0)) (n := 1) h8).elim
                  · skip
                    refine Vc.skip ?_
                    refine Vc.seq ?_
                    refine Vc.region hG rfl ?_ ?_
                    · trivial
                    refine Vc.ret ?_
                    refine ⟨?_, trivial⟩
                    all_goals exact rfl
end Fw
