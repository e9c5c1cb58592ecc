/- Walks of functions of the program: what each computes. Conditions: those that each contract names. -/
import Derived.Test.YtlfmjohahkeejaaW35T
import Derived.Test.YtlfmjohahkeejaaW35m0
namespace Fw
open Go Go.Proofs
set_option linter.unusedSimpArgs false
noncomputable def F204 : Fun := ⟨[.pair (.int .i64) (.bool), .pair (.int .i64) (.bool)], [.pure (.bool)], fun _ => True, fun x => (eqC x.1 x.2.1, ())⟩
set_option maxRecDepth 100000 in
/-- loop.example.g00597.laws.eqStep -/
theorem F204_ok : Meets Try.prog 204 F204 := by
  refine meets_of_vc (C := mkC 15 [4] [0,1,2,3,4,9,14] []) (mkC_ok _ _ _ _) (fnOf_ok _) Try.func204 rfl rfl rfl (by decide) rfl ?_
  rintro ⟨a0, a1, _⟩ hwf hpre ⟨P, C, B, X, w0, M0, pv⟩ hG rfl rfl
  show Vc _ _ [(0, ⟨0, 0, .c Z6 a0⟩), (1, ⟨0, 0, .c Z6 a1⟩)] _
  refine Vc.seq ?_
  refine Vc.region hG rfl ?_ ?_
  · trivial
  refine Vc.seq ?_
  refine Vc.seq ?_
  refine Vc.region hG rfl ?_ ?_
  · trivial
  refine Vc.cond rfl (fun h0 => ?_) (fun h0 => ?_)
  · skip
    refine Vc.seq ?_
    refine Vc.region hG rfl ?_ ?_
    · trivial
    refine Vc.ret ?_
    refine ⟨?_, trivial⟩
    exact eqC_no (fun e => absurd (show (a0.1 != a1.1) = true from h0) (by have e : a0 = a1 := e; rw [e]; simp))
  · skip
    have g0 : a0.1 = a1.1 := bneI h0
    refine Vc.skip ?_
    refine Vc.seq ?_
    refine Vc.seq ?_
    refine Vc.region hG rfl ?_ ?_
    · trivial
    refine Vc.cond rfl (fun h1 => ?_) (fun h1 => ?_)
    · skip
      refine Vc.seq ?_
      refine Vc.region hG rfl ?_ ?_
      · trivial
      refine Vc.ret ?_
      refine ⟨?_, trivial⟩
      exact eqC_no (fun e => absurd (show (a0.2 != a1.2) = true from h1) (by have e : a0 = a1 := e; rw [e]; simp))
    · skip
      have g1 : a0.2 = a1.2 := bneB h1
      refine Vc.skip ?_
      refine Vc.seq ?_
      refine Vc.region hG rfl ?_ ?_
      · trivial
      refine Vc.ret ?_
      refine ⟨?_, trivial⟩
      exact eqC_yes (Prod.ext g0 g1)
noncomputable def F190 : Fun := ⟨[.slice Y1, .slice Y1], [.pure (.bool)], fun _ => True, fun x => (eqC x.1 x.2.1, ())⟩
set_option maxRecDepth 100000 in
/-- loop.example.g00597.laws.eqStepS -/
theorem F190_ok : Meets Try.prog 190 F190 := by
  refine meets_of_vc (C := mkC 27 [4] [0,1,4,5,10,14,26] [⟨204, _, F204_ok⟩]) (mkC_ok _ _ _ _) (fnOf_ok _) Try.func190 rfl rfl rfl (by decide) rfl ?_
  rintro ⟨a0, a1, _⟩ hwf hpre ⟨P, C, B, X, w0, M0, pv⟩ hG rfl rfl
  show Vc _ _ [(0, ⟨0, 0, .c Z11 a0⟩), (1, ⟨0, 0, .c Z11 a1⟩)] _
  have hb : List.length a0 ≤ bigLen := hwf.1.1
  refine Vc.seq ?_
  refine Vc.region hG rfl ?_ ?_
  · trivial
  refine Vc.seq ?_
  refine Vc.seq ?_
  refine Vc.region hG rfl ?_ ?_
  · trivial
  refine Vc.cond rfl (fun h0 => ?_) (fun h0 => ?_)
  · skip
    refine Vc.seq ?_
    refine Vc.region hG rfl ?_ ?_
    · trivial
    refine Vc.ret ?_
    refine ⟨?_, trivial⟩
    exact eqC_no (fun e => absurd (show ((List.length a0 : Int) != (List.length a1 : Int)) = true from h0) (by have e : a0 = a1 := e; rw [e]; simp))
  · skip
    have g0 : List.length a0 = List.length a1 := lenEq h0
    refine Vc.skip ?_
    refine Vc.seq ?_
    refine Vc.seq ?_
    refine Vc.region hG rfl ?_ ?_
    · trivial
    refine Vc.block ?_
    -- slots [5]; frame [0, 1, 10]
    refine Vc.loopF [(5, false, .pure (.int .i64))] [0, 1, 10] (fun v => eqInv a0 a1 v.1) (fun v => ((List.length a0 : Int) - v.1).toNat) rfl ?_ ?_
    · exact eqStart g0
    rintro ⟨(i : Int), _⟩ hI
    have hI : eqInv a0 a1 i := hI
    refine Vc.seq ?_
    refine Vc.seq ?_
    refine Vc.region hG rfl ?_ ?_
    · trivial
    refine Vc.cond rfl (fun h1 => ?_) (fun h1 => ?_)
    · skip
      have hl : i < (List.length a0 : Int) := of_decide_eq_true h1
      refine Vc.skip ?_
      refine Vc.seq ?_
      refine Vc.block ?_
      refine Vc.seq ?_
      refine Vc.regionD mixed hG rfl (by kernel_rfl) ?_ ?_
      · exact ⟨(eqRange hI hl).1, (eqRange hI hl).2, trivial⟩
      refine Vc.cond rfl (fun h2 => ?_) (fun h2 => ?_)
      · skip
        have g2 : (!(eqC (List.getD a0 i.toNat (dflt Y1)) (List.getD a1 i.toNat (dflt Y1)))) = true := h2
        refine Vc.seq ?_
        refine Vc.region hG rfl ?_ ?_
        · trivial
        refine Vc.ret ?_
        refine ⟨?_, trivial⟩
        exact eqNo (d := dflt Y1) (i := i) (fun e => by rw [e, eqC_self] at g2; cases g2)
      · skip
        have g2 : (List.getD a0 i.toNat (dflt Y1)) = (List.getD a1 i.toNat (dflt Y1)) := notC h2
        refine Vc.skip ?_
        refine Vc.region hG rfl ?_ ?_
        · trivial
        refine ⟨rfl, ?_⟩
        exact ⟨eqStep (d := dflt Y1) hI hl hb g2, (upStep hI.1 hl hb).2.2⟩
    · skip
      have hl : ¬ i < (List.length a0 : Int) := of_decide_eq_false h1
      refine Vc.exit ?_
      refine Vc.seq ?_
      refine Vc.region hG rfl ?_ ?_
      · trivial
      refine Vc.ret ?_
      refine ⟨?_, trivial⟩
      exact eqC_yes (eqEnd hI hl)
noncomputable def F111 : Fun := ⟨[.pair (.int .i64) Y20, .pair (.int .i64) Y20], [.pure (.bool)], fun _ => True, fun x => (eqC x.1 x.2.1, ())⟩
set_option maxRecDepth 100000 in
/-- loop.example.g00597.laws.eqStamp -/
theorem F111_ok : Meets Try.prog 111 F111 := by
  refine meets_of_vc (C := mkC 30 [4] [0,1,2,3,4,9,14,19,24,29] []) (mkC_ok _ _ _ _) (fnOf_ok _) Try.func111 rfl rfl rfl (by decide) rfl ?_
  rintro ⟨a0, a1, _⟩ hwf hpre ⟨P, C, B, X, w0, M0, pv⟩ hG rfl rfl
  show Vc _ _ [(0, ⟨0, 0, .c Z27 a0⟩), (1, ⟨0, 0, .c Z27 a1⟩)] _
  refine Vc.seq ?_
  refine Vc.region hG rfl ?_ ?_
  · trivial
  refine Vc.seq ?_
  refine Vc.seq ?_
  refine Vc.region hG rfl ?_ ?_
  · trivial
  refine Vc.cond rfl (fun h0 => ?_) (fun h0 => ?_)
  · skip
    refine Vc.seq ?_
    refine Vc.region hG rfl ?_ ?_
    · trivial
    refine Vc.ret ?_
    refine ⟨?_, trivial⟩
    exact eqC_no (fun e => absurd (show (a0.1 != a1.1) = true from h0) (by have e : a0 = a1 := e; rw [e]; simp))
  · skip
    have g0 : a0.1 = a1.1 := bneI h0
    refine Vc.skip ?_
    refine Vc.seq ?_
    refine Vc.seq ?_
    refine Vc.region hG rfl ?_ ?_
    · trivial
    refine Vc.cond rfl (fun h1 => ?_) (fun h1 => ?_)
    · skip
      refine Vc.seq ?_
      refine Vc.region hG rfl ?_ ?_
      · trivial
      refine Vc.ret ?_
      refine ⟨?_, trivial⟩
      exact eqC_no (fun e => absurd (show (a0.2.1 != a1.2.1) = true from h1) (by have e : a0 = a1 := e; rw [e]; simp))
    · skip
      have g1 : a0.2.1 = a1.2.1 := bneI h1
      refine Vc.skip ?_
      refine Vc.seq ?_
      refine Vc.seq ?_
      refine Vc.region hG rfl ?_ ?_
      · trivial
      refine Vc.cond rfl (fun h2 => ?_) (fun h2 => ?_)
      · skip
        refine Vc.seq ?_
        refine Vc.region hG rfl ?_ ?_
        · trivial
        refine Vc.ret ?_
        refine ⟨?_, trivial⟩
        exact eqC_no (fun e => absurd (show (a0.2.2.1 != a1.2.2.1) = true from h2) (by have e : a0 = a1 := e; rw [e]; simp))
      · skip
        have g2 : a0.2.2.1 = a1.2.2.1 := bneI h2
        refine Vc.skip ?_
        refine Vc.seq ?_
        refine Vc.seq ?_
        refine Vc.region hG rfl ?_ ?_
        · trivial
        refine Vc.cond rfl (fun h3 => ?_) (fun h3 => ?_)
        · skip
          refine Vc.seq ?_
          refine Vc.region hG rfl ?_ ?_
          · trivial
          refine Vc.ret ?_
          refine ⟨?_, trivial⟩
          exact eqC_no (fun e => absurd (show (a0.2.2.2.1 != a1.2.2.2.1) = true from h3) (by have e : a0 = a1 := e; rw [e]; simp))
        · skip
          have g3 : a0.2.2.2.1 = a1.2.2.2.1 := bneI h3
          refine Vc.skip ?_
          refine Vc.seq ?_
          refine Vc.seq ?_
          refine Vc.region hG rfl ?_ ?_
          · trivial
          refine Vc.cond rfl (fun h4 => ?_) (fun h4 => ?_)
          · skip
            refine Vc.seq ?_
            refine Vc.region hG rfl ?_ ?_
            · trivial
            refine Vc.ret ?_
            refine ⟨?_, trivial⟩
            exact eqC_no (fun e => absurd (show (a0.2.2.2.2 != a1.2.2.2.2) = true from h4) (by have e : a0 = a1 := e; rw [e]; simp))
          · skip
            have g4 : a0.2.2.2.2 = a1.2.2.2.2 := bneI h4
            refine Vc.skip ?_
            refine Vc.seq ?_
            refine Vc.region hG rfl ?_ ?_
            · trivial
            refine Vc.ret ?_
            refine ⟨?_, trivial⟩
            exact eqC_yes (Prod.ext g0 (Prod.ext g1 (Prod.ext g2 (Prod.ext g3 g4))))
noncomputable def F41 : Fun := ⟨[.slice Y25, .slice Y25], [.pure (.bool)], fun _ => True, fun x => (eqC x.1 x.2.1, ())⟩
set_option maxRecDepth 100000 in
/-- loop.example.g00597.laws.eqStampS -/
theorem F41_ok : Meets Try.prog 41 F41 := by
  refine meets_of_vc (C := mkC 27 [4] [0,1,4,5,10,14,26] [⟨111, _, F111_ok⟩]) (mkC_ok _ _ _ _) (fnOf_ok _) Try.func41 rfl rfl rfl (by decide) rfl ?_
  rintro ⟨a0, a1, _⟩ hwf hpre ⟨P, C, B, X, w0, M0, pv⟩ hG rfl rfl
  show Vc _ _ [(0, ⟨0, 0, .c Z31 a0⟩), (1, ⟨0, 0, .c Z31 a1⟩)] _
  have hb : List.length a0 ≤ bigLen := hwf.1.1
  refine Vc.seq ?_
  refine Vc.region hG rfl ?_ ?_
  · trivial
  refine Vc.seq ?_
  refine Vc.seq ?_
  refine Vc.region hG rfl ?_ ?_
  · trivial
  refine Vc.cond rfl (fun h0 => ?_) (fun h0 => ?_)
  · skip
    refine Vc.seq ?_
    refine Vc.region hG rfl ?_ ?_
    · trivial
    refine Vc.ret ?_
    refine ⟨?_, trivial⟩
    exact eqC_no (fun e => absurd (show ((List.length a0 : Int) != (List.length a1 : Int)) = true from h0) (by have e : a0 = a1 := e; rw [e]; simp))
  · skip
    have g0 : List.length a0 = List.length a1 := lenEq h0
    refine Vc.skip ?_
    refine Vc.seq ?_
    refine Vc.seq ?_
    refine Vc.region hG rfl ?_ ?_
    · trivial
    refine Vc.block ?_
    -- slots [5]; frame [0, 1, 10]
    refine Vc.loopF [(5, false, .pure (.int .i64))] [0, 1, 10] (fun v => eqInv a0 a1 v.1) (fun v => ((List.length a0 : Int) - v.1).toNat) rfl ?_ ?_
    · exact eqStart g0
    rintro ⟨(i : Int), _⟩ hI
    have hI : eqInv a0 a1 i := hI
    refine Vc.seq ?_
    refine Vc.seq ?_
    refine Vc.region hG rfl ?_ ?_
    · trivial
    refine Vc.cond rfl (fun h1 => ?_) (fun h1 => ?_)
    · skip
      have hl : i < (List.length a0 : Int) := of_decide_eq_true h1
      refine Vc.skip ?_
      refine Vc.seq ?_
      refine Vc.block ?_
      refine Vc.seq ?_
      refine Vc.regionD mixed hG rfl (by kernel_rfl) ?_ ?_
      · exact ⟨(eqRange hI hl).1, (eqRange hI hl).2, trivial⟩
      refine Vc.cond rfl (fun h2 => ?_) (fun h2 => ?_)
      · skip
        have g2 : (!(eqC (List.getD a0 i.toNat (dflt Y25)) (List.getD a1 i.toNat (dflt Y25)))) = true := h2
        refine Vc.seq ?_
        refine Vc.region hG rfl ?_ ?_
        · trivial
        refine Vc.ret ?_
        refine ⟨?_, trivial⟩
        exact eqNo (d := dflt Y25) (i := i) (fun e => by rw [e, eqC_self] at g2; cases g2)
      · skip
        have g2 : (List.getD a0 i.toNat (dflt Y25)) = (List.getD a1 i.toNat (dflt Y25)) := notC h2
        refine Vc.skip ?_
        refine Vc.region hG rfl ?_ ?_
        · trivial
        refine ⟨rfl, ?_⟩
        exact ⟨eqStep (d := dflt Y25) hI hl hb g2, (upStep hI.1 hl hb).2.2⟩
    · skip
      have hl : ¬ i < (List.length a0 : Int) := of_decide_eq_false h1
      refine Vc.exit ?_
      refine Vc.seq ?_
      refine Vc.region hG rfl ?_ ?_
      · trivial
      refine Vc.ret ?_
      refine ⟨?_, trivial⟩
      exact eqC_yes (eqEnd hI hl)
noncomputable def F178 : Fun := ⟨[.pair (.int .i64) Y43, .pair (.int .i64) Y43], [.pure (.bool)], fun _ => True, fun x => (eqC x.1 x.2.1, ())⟩
set_option maxRecDepth 100000 in
/-- loop.example.g00597.laws.eqRenewal -/
theorem F178_ok : Meets Try.prog 178 F178 := by
  refine meets_of_vc (C := mkC 32 [4] [0,1,2,3,4,9,14,19,25,31] [⟨190, _, F190_ok⟩, ⟨41, _, F41_ok⟩]) (mkC_ok _ _ _ _) (fnOf_ok _) Try.func178 rfl rfl rfl (by decide) rfl ?_
  rintro ⟨a0, a1, _⟩ hwf hpre ⟨P, C, B, X, w0, M0, pv⟩ hG rfl rfl
  show Vc _ _ [(0, ⟨0, 0, .c Z46 a0⟩), (1, ⟨0, 0, .c Z46 a1⟩)] _
  refine Vc.seq ?_
  refine Vc.region hG rfl ?_ ?_
  · trivial
  refine Vc.seq ?_
  refine Vc.seq ?_
  refine Vc.region hG rfl ?_ ?_
  · trivial
  refine Vc.cond rfl (fun h0 => ?_) (fun h0 => ?_)
  · skip
    refine Vc.seq ?_
    refine Vc.region hG rfl ?_ ?_
    · trivial
    refine Vc.ret ?_
    refine ⟨?_, trivial⟩
    exact eqC_no (fun e => absurd (show (a0.1 != a1.1) = true from h0) (by have e : a0 = a1 := e; rw [e]; simp))
  · skip
    have g0 : a0.1 = a1.1 := bneI h0
    refine Vc.skip ?_
    refine Vc.seq ?_
    refine Vc.seq ?_
    refine Vc.region hG rfl ?_ ?_
    · trivial
    refine Vc.cond rfl (fun h1 => ?_) (fun h1 => ?_)
    · skip
      refine Vc.seq ?_
      refine Vc.region hG rfl ?_ ?_
      · trivial
      refine Vc.ret ?_
      refine ⟨?_, trivial⟩
      exact eqC_no (fun e => absurd (show (a0.2.1 != a1.2.1) = true from h1) (by have e : a0 = a1 := e; rw [e]; simp))
    · skip
      have g1 : a0.2.1 = a1.2.1 := bneI h1
      refine Vc.skip ?_
      refine Vc.seq ?_
      refine Vc.seq ?_
      refine Vc.region hG rfl ?_ ?_
      · trivial
      refine Vc.cond rfl (fun h2 => ?_) (fun h2 => ?_)
      · skip
        refine Vc.seq ?_
        refine Vc.region hG rfl ?_ ?_
        · trivial
        refine Vc.ret ?_
        refine ⟨?_, trivial⟩
        exact eqC_no (fun e => absurd (show (a0.2.2.1 != a1.2.2.1) = true from h2) (by have e : a0 = a1 := e; rw [e]; simp))
      · skip
        have g2 : a0.2.2.1 = a1.2.2.1 := bneI h2
        refine Vc.skip ?_
        refine Vc.seq ?_
        refine Vc.seq ?_
        refine Vc.region hG rfl ?_ ?_
        · trivial
        refine Vc.cond rfl (fun h3 => ?_) (fun h3 => ?_)
        · skip
          refine Vc.seq ?_
          refine Vc.region hG rfl ?_ ?_
          · trivial
          refine Vc.ret ?_
          refine ⟨?_, trivial⟩
          exact eqC_no (fun e => absurd (show (!(eqC a0.2.2.2.1 a1.2.2.2.1)) = true from h3) (by have e : a0 = a1 := e; rw [e, eqC_self]; decide))
        · skip
          have g3 : a0.2.2.2.1 = a1.2.2.2.1 := notC h3
          refine Vc.skip ?_
          refine Vc.seq ?_
          refine Vc.seq ?_
          refine Vc.region hG rfl ?_ ?_
          · trivial
          refine Vc.cond rfl (fun h4 => ?_) (fun h4 => ?_)
          · skip
            refine Vc.seq ?_
            refine Vc.region hG rfl ?_ ?_
            · trivial
            refine Vc.ret ?_
            refine ⟨?_, trivial⟩
            exact eqC_no (fun e => absurd (show (!(eqC a0.2.2.2.2 a1.2.2.2.2)) = true from h4) (by have e : a0 = a1 := e; rw [e, eqC_self]; decide))
          · skip
            have g4 : a0.2.2.2.2 = a1.2.2.2.2 := notC h4
            refine Vc.skip ?_
            refine Vc.seq ?_
            refine Vc.region hG rfl ?_ ?_
            · trivial
            refine Vc.ret ?_
            refine ⟨?_, trivial⟩
            exact eqC_yes (Prod.ext g0 (Prod.ext g1 (Prod.ext g2 (Prod.ext g3 g4))))
noncomputable def F155 : Fun := ⟨[.slice Y45, .slice Y45], [.pure (.bool)], fun _ => True, fun x => (eqC x.1 x.2.1, ())⟩
set_option maxRecDepth 100000 in
/-- loop.example.g00597.laws.eqRenewalS -/
theorem F155_ok : Meets Try.prog 155 F155 := by
  refine meets_of_vc (C := mkC 27 [4] [0,1,4,5,10,14,26] [⟨178, _, F178_ok⟩]) (mkC_ok _ _ _ _) (fnOf_ok _) Try.func155 rfl rfl rfl (by decide) rfl ?_
  rintro ⟨a0, a1, _⟩ hwf hpre ⟨P, C, B, X, w0, M0, pv⟩ hG rfl rfl
  show Vc _ _ [(0, ⟨0, 0, .c Z49 a0⟩), (1, ⟨0, 0, .c Z49 a1⟩)] _
  have hb : List.length a0 ≤ bigLen := hwf.1.1
  refine Vc.seq ?_
  refine Vc.region hG rfl ?_ ?_
  · trivial
  refine Vc.seq ?_
  refine Vc.seq ?_
  refine Vc.region hG rfl ?_ ?_
  · trivial
  refine Vc.cond rfl (fun h0 => ?_) (fun h0 => ?_)
  · skip
    refine Vc.seq ?_
    refine Vc.region hG rfl ?_ ?_
    · trivial
    refine Vc.ret ?_
    refine ⟨?_, trivial⟩
    exact eqC_no (fun e => absurd (show ((List.length a0 : Int) != (List.length a1 : Int)) = true from h0) (by have e : a0 = a1 := e; rw [e]; simp))
  · skip
    have g0 : List.length a0 = List.length a1 := lenEq h0
    refine Vc.skip ?_
    refine Vc.seq ?_
    refine Vc.seq ?_
    refine Vc.region hG rfl ?_ ?_
    · trivial
    refine Vc.block ?_
    -- slots [5]; frame [0, 1, 10]
    refine Vc.loopF [(5, false, .pure (.int .i64))] [0, 1, 10] (fun v => eqInv a0 a1 v.1) (fun v => ((List.length a0 : Int) - v.1).toNat) rfl ?_ ?_
    · exact eqStart g0
    rintro ⟨(i : Int), _⟩ hI
    have hI : eqInv a0 a1 i := hI
    refine Vc.seq ?_
    refine Vc.seq ?_
    refine Vc.region hG rfl ?_ ?_
    · trivial
    refine Vc.cond rfl (fun h1 => ?_) (fun h1 => ?_)
    · skip
      have hl : i < (List.length a0 : Int) := of_decide_eq_true h1
      refine Vc.skip ?_
      refine Vc.seq ?_
      refine Vc.block ?_
      refine Vc.seq ?_
      refine Vc.regionD mixed hG rfl (by kernel_rfl) ?_ ?_
      · exact ⟨(eqRange hI hl).1, (eqRange hI hl).2, trivial⟩
      refine Vc.cond rfl (fun h2 => ?_) (fun h2 => ?_)
      · skip
        have g2 : (!(eqC (List.getD a0 i.toNat (dflt Y45)) (List.getD a1 i.toNat (dflt Y45)))) = true := h2
        refine Vc.seq ?_
        refine Vc.region hG rfl ?_ ?_
        · trivial
        refine Vc.ret ?_
        refine ⟨?_, trivial⟩
        exact eqNo (d := dflt Y45) (i := i) (fun e => by rw [e, eqC_self] at g2; cases g2)
      · skip
        have g2 : (List.getD a0 i.toNat (dflt Y45)) = (List.getD a1 i.toNat (dflt Y45)) := notC h2
        refine Vc.skip ?_
        refine Vc.region hG rfl ?_ ?_
        · trivial
        refine ⟨rfl, ?_⟩
        exact ⟨eqStep (d := dflt Y45) hI hl hb g2, (upStep hI.1 hl hb).2.2⟩
    · skip
      have hl : ¬ i < (List.length a0 : Int) := of_decide_eq_false h1
      refine Vc.exit ?_
      refine Vc.seq ?_
      refine Vc.region hG rfl ?_ ?_
      · trivial
      refine Vc.ret ?_
      refine ⟨?_, trivial⟩
      exact eqC_yes (eqEnd hI hl)
noncomputable def F96 : Fun := ⟨[.pair Y19 Y48, .pair Y19 Y48], [.pure (.bool)], fun _ => True, fun x => (eqC x.1 x.2.1, ())⟩
set_option maxRecDepth 100000 in
/-- loop.example.g00597.laws.eqStrand -/
theorem F96_ok : Meets Try.prog 96 F96 := by
  refine meets_of_vc (C := mkC 17 [4] [0,1,2,3,4,10,16] [⟨154, _, F154_ok⟩, ⟨155, _, F155_ok⟩]) (mkC_ok _ _ _ _) (fnOf_ok _) Try.func96 rfl rfl rfl (by decide) rfl ?_
  rintro ⟨a0, a1, _⟩ hwf hpre ⟨P, C, B, X, w0, M0, pv⟩ hG rfl rfl
  show Vc _ _ [(0, ⟨0, 0, .c Z52 a0⟩), (1, ⟨0, 0, .c Z52 a1⟩)] _
  refine Vc.seq ?_
  refine Vc.region hG rfl ?_ ?_
  · trivial
  refine Vc.seq ?_
  refine Vc.seq ?_
  refine Vc.region hG rfl ?_ ?_
  · trivial
  refine Vc.cond rfl (fun h0 => ?_) (fun h0 => ?_)
  · skip
    refine Vc.seq ?_
    refine Vc.region hG rfl ?_ ?_
    · trivial
    refine Vc.ret ?_
    refine ⟨?_, trivial⟩
    exact eqC_no (fun e => absurd (show (!(eqC a0.1 a1.1)) = true from h0) (by have e : a0 = a1 := e; rw [e, eqC_self]; decide))
  · skip
    have g0 : a0.1 = a1.1 := notC h0
    refine Vc.skip ?_
    refine Vc.seq ?_
    refine Vc.seq ?_
    refine Vc.region hG rfl ?_ ?_
    · trivial
    refine Vc.cond rfl (fun h1 => ?_) (fun h1 => ?_)
    · skip
      refine Vc.seq ?_
      refine Vc.region hG rfl ?_ ?_
      · trivial
      refine Vc.ret ?_
      refine ⟨?_, trivial⟩
      exact eqC_no (fun e => absurd (show (!(eqC a0.2 a1.2)) = true from h1) (by have e : a0 = a1 := e; rw [e, eqC_self]; decide))
    · skip
      have g1 : a0.2 = a1.2 := notC h1
      refine Vc.skip ?_
      refine Vc.seq ?_
      refine Vc.region hG rfl ?_ ?_
      · trivial
      refine Vc.ret ?_
      refine ⟨?_, trivial⟩
      exact eqC_yes (Prod.ext g0 g1)
noncomputable def F29 : Fun := ⟨[.pair (.int .i64) Y55, .pair (.int .i64) Y55], [.pure (.bool)], fun _ => True, fun x => (eqC x.1 x.2.1, ())⟩
set_option maxRecDepth 100000 in
/-- loop.example.g00597.laws.eqItem -/
theorem F29_ok : Meets Try.prog 29 F29 := by
  refine meets_of_vc (C := mkC 33 [4] [0,1,2,3,4,9,14,20,26,32] [⟨94, _, F94_ok⟩, ⟨95, _, F95_ok⟩, ⟨96, _, F96_ok⟩]) (mkC_ok _ _ _ _) (fnOf_ok _) Try.func29 rfl rfl rfl (by decide) rfl ?_
  rintro ⟨a0, a1, _⟩ hwf hpre ⟨P, C, B, X, w0, M0, pv⟩ hG rfl rfl
  show Vc _ _ [(0, ⟨0, 0, .c Z57 a0⟩), (1, ⟨0, 0, .c Z57 a1⟩)] _
  refine Vc.seq ?_
  refine Vc.region hG rfl ?_ ?_
  · trivial
  refine Vc.seq ?_
  refine Vc.seq ?_
  refine Vc.region hG rfl ?_ ?_
  · trivial
  refine Vc.cond rfl (fun h0 => ?_) (fun h0 => ?_)
  · skip
    refine Vc.seq ?_
    refine Vc.region hG rfl ?_ ?_
    · trivial
    refine Vc.ret ?_
    refine ⟨?_, trivial⟩
    exact eqC_no (fun e => absurd (show (a0.1 != a1.1) = true from h0) (by have e : a0 = a1 := e; rw [e]; simp))
  · skip
    have g0 : a0.1 = a1.1 := bneI h0
    refine Vc.skip ?_
    refine Vc.seq ?_
    refine Vc.seq ?_
    refine Vc.region hG rfl ?_ ?_
    · trivial
    refine Vc.cond rfl (fun h1 => ?_) (fun h1 => ?_)
    · skip
      refine Vc.seq ?_
      refine Vc.region hG rfl ?_ ?_
      · trivial
      refine Vc.ret ?_
      refine ⟨?_, trivial⟩
      exact eqC_no (fun e => absurd (show (a0.2.1 != a1.2.1) = true from h1) (by have e : a0 = a1 := e; rw [e]; simp))
    · skip
      have g1 : a0.2.1 = a1.2.1 := bneI h1
      refine Vc.skip ?_
      refine Vc.seq ?_
      refine Vc.seq ?_
      refine Vc.region hG rfl ?_ ?_
      · trivial
      refine Vc.cond rfl (fun h2 => ?_) (fun h2 => ?_)
      · skip
        refine Vc.seq ?_
        refine Vc.region hG rfl ?_ ?_
        · trivial
        refine Vc.ret ?_
        refine ⟨?_, trivial⟩
        exact eqC_no (fun e => absurd (show (!(eqC a0.2.2.1 a1.2.2.1)) = true from h2) (by have e : a0 = a1 := e; rw [e, eqC_self]; decide))
      · skip
        have g2 : a0.2.2.1 = a1.2.2.1 := notC h2
        refine Vc.skip ?_
        refine Vc.seq ?_
        refine Vc.seq ?_
        refine Vc.region hG rfl ?_ ?_
        · trivial
        refine Vc.cond rfl (fun h3 => ?_) (fun h3 => ?_)
        · skip
          refine Vc.seq ?_
          refine Vc.region hG rfl ?_ ?_
          · trivial
          refine Vc.ret ?_
          refine ⟨?_, trivial⟩
          exact eqC_no (fun e => absurd (show (!(eqC a0.2.2.2.1 a1.2.2.2.1)) = true from h3) (by have e : a0 = a1 := e; rw [e, eqC_self]; decide))
        · skip
          have g3 : a0.2.2.2.1 = a1.2.2.2.1 := notC h3
          refine Vc.skip ?_
          refine Vc.seq ?_
          refine Vc.seq ?_
          refine Vc.region hG rfl ?_ ?_
          · trivial
          refine Vc.cond rfl (fun h4 => ?_) (fun h4 => ?_)
          · skip
            refine Vc.seq ?_
            refine Vc.region hG rfl ?_ ?_
            · trivial
            refine Vc.ret ?_
            refine ⟨?_, trivial⟩
            exact eqC_no (fun e => absurd (show (!(eqC a0.2.2.2.2 a1.2.2.2.2)) = true from h4) (by have e : a0 = a1 := e; rw [e, eqC_self]; decide))
          · skip
            have g4 : a0.2.2.2.2 = a1.2.2.2.2 := notC h4
            refine Vc.skip ?_
            refine Vc.seq ?_
            refine Vc.region hG rfl ?_ ?_
            · trivial
            refine Vc.ret ?_
            refine ⟨?_, trivial⟩
            exact eqC_yes (Prod.ext g0 (Prod.ext g1 (Prod.ext g2 (Prod.ext g3 g4))))
noncomputable def F156 : Fun := ⟨[.int .i64], [.pure (.str)], fun _ => True, fun x => (textF x.1, ())⟩
set_option maxRecDepth 100000 in
/-- loop.example.g00597.laws.markText -/
theorem F156_ok : Meets Try.prog 156 F156 := by
  refine meets_of_vc (C := mkC 20 [2] [0,2,3,5,7] []) (mkC_ok _ _ _ _) (fnOf_ok _) Try.func156 rfl rfl rfl (by decide) rfl ?_
  rintro ⟨(a0 : Int), _⟩ hwf hpre ⟨P, C, B, X, w0, M0, pv⟩ hG rfl rfl
  show Vc _ _ [(0, ⟨0, 0, .c (.pure (.int .i64)) a0⟩)] _
  have hn : inR .i64 a0 := hwf.1
  refine Vc.seq ?_
  refine Vc.region hG rfl ?_ ?_
  · trivial
  refine Vc.seq ?_
  refine Vc.seq ?_
  refine Vc.region hG rfl ?_ ?_
  · trivial
  refine Vc.cond rfl (fun h0 => ?_) (fun h0 => ?_)
  · skip
    have g0 : a0 ≤ 0 := of_decide_eq_true h0
    refine Vc.seq ?_
    refine Vc.region hG rfl ?_ ?_
    · trivial
    refine Vc.ret ?_
    refine ⟨?_, trivial⟩
    exact text0 g0
  · skip
    have g0 : ¬ a0 ≤ 0 := of_decide_eq_false h0
    refine Vc.skip ?_
    refine Vc.seq ?_
    refine Vc.region hG rfl ?_ ?_
    · trivial
    refine Vc.seq ?_
    refine Vc.block ?_
    -- slots [0, 3]; frame [2, 5]
    refine Vc.loopF [(0, false, .pure (.int .i64)), (3, false, .pure (.str))] [2, 5] (fun v => mtInv a0 v.1 v.2.1) (fun v => v.1.natAbs) rfl ?_ ?_
    · exact mtStart hn g0
    rintro ⟨(x : Int), s, _⟩ hI
    have hI : mtInv a0 x s := hI
    refine Vc.seq ?_
    refine Vc.seq ?_
    refine Vc.region hG rfl ?_ ?_
    · trivial
    refine Vc.cond rfl (fun h1 => ?_) (fun h1 => ?_)
    · skip
      have g1 : x > 0 := of_decide_eq_true h1
      refine Vc.skip ?_
      refine Vc.block ?_
      refine Vc.seq ?_
      refine Vc.region hG rfl ?_ ?_
      · exact ⟨(show (10 : Int) ≠ 0 by decide), mtLen hn hI 1 (by decide)⟩
      refine Vc.region hG rfl ?_ ?_
      · show (10 : Int) ≠ 0
        decide
      refine ⟨rfl, ?_⟩
      exact mtStep hI g1 (congrArg (· ++ s) (mtDig g1))
    · skip
      have g1 : ¬ x > 0 := of_decide_eq_false h1
      refine Vc.exit ?_
      refine Vc.seq ?_
      refine Vc.region hG rfl ?_ ?_
      · exact mtLen hn hI 1 (by decide)
      refine Vc.ret ?_
      refine ⟨?_, trivial⟩
      exact text1 hI g0 g1
@[reducible] noncomputable def M100 : MFun := mF (.own (.pure (.str)))
set_option maxRecDepth 100000 in
set_option maxHeartbeats 2000000 in
/-- loop.example.g00597.laws.markStringS -/
theorem M100_ok : MeetsM Try.prog 100 M100 := by
  refine meetsM_of_vc (C := mkCM 20 [4] [0,1,4,5,9] [⟨156, _, F156_ok⟩] [] [] [0]) (mkCM_ok _ _ _ _ _ _ _) (fnOf_ok _) Try.func100 rfl rfl rfl (by decide) rfl rfl rfl rfl ?_
  rintro a0 (a1 : Int) hwf hin hpre ⟨P, C, B, X, w0, M0, pv⟩ hG rfl rfl
  show Vc _ _ [(0, ⟨0, 0, .c (.own (.pure (.str))) a0⟩), (1, ⟨0, 0, .c (.pure (.int .i64)) a1⟩)] _
  have hb : List.length a0 ≤ bigLen := hwf.1
  have hp0 : 0 ≤ a1 := hpre.1
  have hp1 : a1 + ((cellsL (cellsC (.str)) a0 : Nat) : Int) ≤ bnd := hpre.2
  refine Vc.seq ?_
  refine Vc.region hG rfl ?_ ?_
  · trivial
  refine Vc.seq ?_
  refine Vc.seq ?_
  refine Vc.region hG rfl ?_ ?_
  · trivial
  refine Vc.block ?_
  -- slots [0, 1, 5]; frame [4]
  refine Vc.loopF [(0, false, .own (.pure (.str))), (1, false, .pure (.int .i64)), (5, false, .pure (.int .i64))] [4] (fun v => mkInv (cellsC (.str)) (markC (.str)) a0 a1 v.1 v.2.1 v.2.2.1) (fun v => ((List.length v.1 : Int) - v.2.2.1).toNat) rfl ?_ ?_
  · exact mkStart
  rintro ⟨v, (k : Int), (i : Int), _⟩ hI
  have hI : mkInv (cellsC (.str)) (markC (.str)) a0 a1 v k i := hI
  have hbv : v.length ≤ bigLen := by rw [mkLen hI]; exact hb
  refine Vc.seq ?_
  refine Vc.seq ?_
  refine Vc.region hG rfl ?_ ?_
  · trivial
  refine Vc.cond rfl (fun h0 => ?_) (fun h0 => ?_)
  · skip
    have hl : i < (List.length v : Int) := of_decide_eq_true h0
    have hln : i.toNat < v.length := by have := hI.1; omega
    have hk := mkBound hI hl (dflt (.str)) hp0 hp1
    generalize hX : List.getD v i.toNat (dflt (.str)) = X at hk
    have hk : 0 ≤ k ∧ k + ((1 : Nat) : Int) ≤ bnd := hk
    have w0 : IntKind.i64.wrap (k + 1) = k + 1 := wrapB (by omega) (by omega)
    refine Vc.skip ?_
    refine Vc.seq ?_
    refine Vc.block ?_
    refine Vc.seq ?_
    refine Vc.region hG rfl ?_ ?_
    · refine ⟨trivial, ?_⟩
      show inRange i _
      simp only [List.length_set]
      exact mkRange hI hl
    refine Vc.region hG rfl ?_ ?_
    · trivial
    refine Vc.region hG rfl ?_ ?_
    · trivial
    refine ⟨rfl, ?_⟩
    refine mkStep hI hl hbv (dflt (.str)) ?_ ?_
    · rw [hX]
      try simp only [List.length_set, List.set_set, getD_setS hln, hX, cntF_eq, Sh.ty, w0]
      try rfl
    · rw [hX]
      show _ = k + ((1 : Nat) : Int)
      try simp only [List.length_set, List.set_set, getD_setS hln, hX, cntF_eq, Sh.ty, w0]
      try omega
  · skip
    have hl : ¬ i < (List.length v : Int) := of_decide_eq_false h0
    refine Vc.exit ?_
    refine Vc.seq ?_
    refine Vc.region hG rfl ?_ ?_
    · trivial
    refine Vc.ret ?_
    have e := mkEnd hI hl
    refine ⟨?_, ?_, trivial⟩
    · show k = cntF (.slice (.str)) a0 a1
      rw [cntF_eq]; exact e.1
    · exact e.2
@[reducible] noncomputable def M32 : MFun := mF (.own (.pure (.int .i64)))
set_option maxRecDepth 100000 in
set_option maxHeartbeats 2000000 in
/-- loop.example.g00597.laws.markIntS -/
theorem M32_ok : MeetsM Try.prog 32 M32 := by
  refine meetsM_of_vc (C := mkCM 19 [4] [0,1,4,5,9] [] [] [] [0]) (mkCM_ok _ _ _ _ _ _ _) (fnOf_ok _) Try.func32 rfl rfl rfl (by decide) rfl rfl rfl rfl ?_
  rintro a0 (a1 : Int) hwf hin hpre ⟨P, C, B, X, w0, M0, pv⟩ hG rfl rfl
  show Vc _ _ [(0, ⟨0, 0, .c (.own (.pure (.int .i64))) a0⟩), (1, ⟨0, 0, .c (.pure (.int .i64)) a1⟩)] _
  have hb : List.length a0 ≤ bigLen := hwf.1
  have hp0 : 0 ≤ a1 := hpre.1
  have hp1 : a1 + ((cellsL (cellsC (.int .i64)) a0 : Nat) : Int) ≤ bnd := hpre.2
  refine Vc.seq ?_
  refine Vc.region hG rfl ?_ ?_
  · trivial
  refine Vc.seq ?_
  refine Vc.seq ?_
  refine Vc.region hG rfl ?_ ?_
  · trivial
  refine Vc.block ?_
  -- slots [0, 1, 5]; frame [4]
  refine Vc.loopF [(0, false, .own (.pure (.int .i64))), (1, false, .pure (.int .i64)), (5, false, .pure (.int .i64))] [4] (fun v => mkInv (cellsC (.int .i64)) (markC (.int .i64)) a0 a1 v.1 v.2.1 v.2.2.1) (fun v => ((List.length v.1 : Int) - v.2.2.1).toNat) rfl ?_ ?_
  · exact mkStart
  rintro ⟨v, (k : Int), (i : Int), _⟩ hI
  have hI : mkInv (cellsC (.int .i64)) (markC (.int .i64)) a0 a1 v k i := hI
  have hbv : v.length ≤ bigLen := by rw [mkLen hI]; exact hb
  refine Vc.seq ?_
  refine Vc.seq ?_
  refine Vc.region hG rfl ?_ ?_
  · trivial
  refine Vc.cond rfl (fun h0 => ?_) (fun h0 => ?_)
  · skip
    have hl : i < (List.length v : Int) := of_decide_eq_true h0
    have hln : i.toNat < v.length := by have := hI.1; omega
    have hk := mkBound hI hl (dflt (.int .i64)) hp0 hp1
    generalize hX : List.getD v i.toNat (dflt (.int .i64)) = X at hk
    have hk : 0 ≤ k ∧ k + ((1 : Nat) : Int) ≤ bnd := hk
    have w0 : IntKind.i64.wrap (k + 1) = k + 1 := wrapB (by omega) (by omega)
    refine Vc.skip ?_
    refine Vc.seq ?_
    refine Vc.block ?_
    refine Vc.seq ?_
    refine Vc.region hG rfl ?_ ?_
    · show inRange i _
      exact mkRange hI hl
    refine Vc.region hG rfl ?_ ?_
    · trivial
    refine Vc.region hG rfl ?_ ?_
    · trivial
    refine ⟨rfl, ?_⟩
    refine mkStep hI hl hbv (dflt (.int .i64)) ?_ ?_
    · rw [hX]
      try simp only [List.length_set, List.set_set, getD_setS hln, hX, cntF_eq, Sh.ty, w0]
      try rfl
    · rw [hX]
      show _ = k + ((1 : Nat) : Int)
      try simp only [List.length_set, List.set_set, getD_setS hln, hX, cntF_eq, Sh.ty, w0]
      try omega
  · skip
    have hl : ¬ i < (List.length v : Int) := of_decide_eq_false h0
    refine Vc.exit ?_
    refine Vc.seq ?_
    refine Vc.region hG rfl ?_ ?_
    · trivial
    refine Vc.ret ?_
    have e := mkEnd hI hl
    refine ⟨?_, ?_, trivial⟩
    · show k = cntF (.slice (.int .i64)) a0 a1
      rw [cntF_eq]; exact e.1
    · exact e.2
@[reducible] noncomputable def M97 : MFun := mV (.pair (.pure (.int .i64)) (.pair (.own (.pure (.str))) (.own (.pure (.int .i64)))))
set_option maxRecDepth 100000 in
/-- loop.example.g00597.laws.markDocument -/
theorem M97_ok : MeetsM Try.prog 97 M97 := by
  refine meetsM_of_vc (C := mkCM 14 [4] [0,1,2,4] [] [⟨100, _, M100_ok⟩, ⟨32, _, M32_ok⟩] [] [0]) (mkCM_ok _ _ _ _ _ _ _) (fnOf_ok _) Try.func97 rfl rfl rfl (by decide) rfl rfl rfl rfl ?_
  rintro a0 (a1 : Int) hwf hin hpre ⟨P, C, B, X, w0, M0, pv⟩ hG rfl rfl
  show Vc _ _ [(0, ⟨0, 0, .c (.pair (.pure (.int .i64)) (.pair (.own (.pure (.str))) (.own (.pure (.int .i64))))) a0⟩), (1, ⟨0, 0, .c (.pure (.int .i64)) a1⟩)] _
  have hp0 : 0 ≤ a1 := hpre.1
  have hp1 : a1 + ((cellsV (.pair (.int .i64) (.pair (.slice (.str)) (.slice (.int .i64)))) a0 : Nat) : Int) ≤ bnd := hpre.2
  have hc : ((cellsV (.pair (.int .i64) (.pair (.slice (.str)) (.slice (.int .i64)))) a0 : Nat) : Int) = ((cellsC (.slice (.str)) a0.2.1 : Nat) : Int) + ((cellsC (.slice (.int .i64)) a0.2.2 : Nat) : Int) := by
    show (((0 + (cellsC (.slice (.str)) a0.2.1 + cellsC (.slice (.int .i64)) a0.2.2)) : Nat) : Int) = _
    omega
  refine Vc.seq ?_
  refine Vc.region hG rfl ?_ ?_
  · trivial
  refine Vc.seq ?_
  refine Vc.region hG rfl ?_ ?_
  · exact (show markPre (.slice (.str)) a0.2.1 (a1) from ⟨by omega, by omega⟩)
  refine Vc.seq ?_
  refine Vc.region hG rfl ?_ ?_
  · have ce0 := cntF_eq (.slice (.str)) a0.2.1 (a1)
    exact (show markPre (.slice (.int .i64)) a0.2.2 (cntF (.slice (.str)) a0.2.1 (a1)) from ⟨by omega, by omega⟩)
  refine Vc.seq ?_
  refine Vc.region hG rfl ?_ ?_
  · trivial
  refine Vc.ret ?_
  have ce0 := cntF_eq (.slice (.str)) a0.2.1 (a1)
  have ce1 := cntF_eq (.slice (.int .i64)) a0.2.2 (cntF (.slice (.str)) a0.2.1 (a1))
  refine ⟨?_, ?_, trivial⟩
  · show cntF (.slice (.int .i64)) a0.2.2 (cntF (.slice (.str)) a0.2.1 (a1)) = cntV (.pair (.int .i64) (.pair (.slice (.str)) (.slice (.int .i64)))) a0 a1
    rw [cntV_eq (.pair (.int .i64) (.pair (.slice (.str)) (.slice (.int .i64)))) a0 a1]
    omega
  · exact (Prod.ext rfl (Prod.ext (congrArg (markC (.slice (.str)) a0.2.1) (show a1 = a1 + ((0 : Nat) : Int) from by omega)) (congrArg (markC (.slice (.int .i64)) a0.2.2) (show cntF (.slice (.str)) a0.2.1 (a1) = a1 + ((0 : Nat) : Int) + ((cellsC (.slice (.str)) a0.2.1 : Nat) : Int) from by omega))))
@[reducible] noncomputable def M132 : MFun := mF (.own (.pair (.pure (.int .i64)) (.pair (.own (.pure (.int .i64))) (.pure (.int .i64)))))
set_option maxRecDepth 100000 in
set_option maxHeartbeats 2000000 in
/-- loop.example.g00597.laws.markPieceS -/
theorem M132_ok : MeetsM Try.prog 132 M132 := by
  refine meetsM_of_vc (C := mkCM 34 [4] [0,1,4,5,9] [] [⟨32, _, M32_ok⟩] [] [0]) (mkCM_ok _ _ _ _ _ _ _) (fnOf_ok _) Try.func132 rfl rfl rfl (by decide) rfl rfl rfl rfl ?_
  rintro a0 (a1 : Int) hwf hin hpre ⟨P, C, B, X, w0, M0, pv⟩ hG rfl rfl
  show Vc _ _ [(0, ⟨0, 0, .c (.own (.pair (.pure (.int .i64)) (.pair (.own (.pure (.int .i64))) (.pure (.int .i64))))) a0⟩), (1, ⟨0, 0, .c (.pure (.int .i64)) a1⟩)] _
  have hb : List.length a0 ≤ bigLen := hwf.1
  have hp0 : 0 ≤ a1 := hpre.1
  have hp1 : a1 + ((cellsL (cellsC (.pair (.int .i64) (.pair (.slice (.int .i64)) (.int .i64)))) a0 : Nat) : Int) ≤ bnd := hpre.2
  refine Vc.seq ?_
  refine Vc.region hG rfl ?_ ?_
  · trivial
  refine Vc.seq ?_
  refine Vc.seq ?_
  refine Vc.region hG rfl ?_ ?_
  · trivial
  refine Vc.block ?_
  -- slots [0, 1, 5]; frame [4]
  refine Vc.loopF [(0, false, .own (.pair (.pure (.int .i64)) (.pair (.own (.pure (.int .i64))) (.pure (.int .i64))))), (1, false, .pure (.int .i64)), (5, false, .pure (.int .i64))] [4] (fun v => mkInv (cellsC (.pair (.int .i64) (.pair (.slice (.int .i64)) (.int .i64)))) (markC (.pair (.int .i64) (.pair (.slice (.int .i64)) (.int .i64)))) a0 a1 v.1 v.2.1 v.2.2.1) (fun v => ((List.length v.1 : Int) - v.2.2.1).toNat) rfl ?_ ?_
  · exact mkStart
  rintro ⟨v, (k : Int), (i : Int), _⟩ hI
  have hI : mkInv (cellsC (.pair (.int .i64) (.pair (.slice (.int .i64)) (.int .i64)))) (markC (.pair (.int .i64) (.pair (.slice (.int .i64)) (.int .i64)))) a0 a1 v k i := hI
  have hbv : v.length ≤ bigLen := by rw [mkLen hI]; exact hb
  refine Vc.seq ?_
  refine Vc.seq ?_
  refine Vc.region hG rfl ?_ ?_
  · trivial
  refine Vc.cond rfl (fun h0 => ?_) (fun h0 => ?_)
  · skip
    have hl : i < (List.length v : Int) := of_decide_eq_true h0
    have hln : i.toNat < v.length := by have := hI.1; omega
    have hk := mkBound hI hl (dflt (.pair (.int .i64) (.pair (.slice (.int .i64)) (.int .i64)))) hp0 hp1
    generalize hX : List.getD v i.toNat (dflt (.pair (.int .i64) (.pair (.slice (.int .i64)) (.int .i64)))) = X at hk
    have hk : 0 ≤ k ∧ k + (((1 + ((cellsC (.slice (.int .i64)) X.2.1) + 1)) : Nat) : Int) ≤ bnd := hk
    have w0 : IntKind.i64.wrap (k + 1) = k + 1 := wrapB (by omega) (by omega)
    have w1 : IntKind.i64.wrap (k + 1 + ((cellsC (.slice (.int .i64)) X.2.1 : Nat) : Int) + 1) = k + 1 + ((cellsC (.slice (.int .i64)) X.2.1 : Nat) : Int) + 1 := wrapB (by omega) (by omega)
    refine Vc.skip ?_
    refine Vc.seq ?_
    refine Vc.block ?_
    refine Vc.seq ?_
    refine Vc.region hG rfl ?_ ?_
    · show inRange i _
      exact mkRange hI hl
    refine Vc.seq ?_
    refine Vc.region hG rfl ?_ ?_
    · trivial
    refine Vc.seq ?_
    refine Vc.region hG rfl ?_ ?_
    · refine ⟨?_, ?_⟩
      · show inRange i _
        simp only [List.length_set]
        exact mkRange hI hl
      · show markPre (.slice (.int .i64)) _ _
        try simp only [List.length_set, List.set_set, getD_setS hln, hX, cntF_eq, Sh.ty, w0, w1]
        exact ⟨by omega, by omega⟩
    refine Vc.seq ?_
    refine Vc.region hG rfl ?_ ?_
    · show inRange i _
      simp only [List.length_set]
      exact mkRange hI hl
    refine Vc.region hG rfl ?_ ?_
    · trivial
    refine Vc.region hG rfl ?_ ?_
    · trivial
    refine ⟨rfl, ?_⟩
    refine mkStep hI hl hbv (dflt (.pair (.int .i64) (.pair (.slice (.int .i64)) (.int .i64)))) ?_ ?_
    · rw [hX]
      try simp only [List.length_set, List.set_set, getD_setS hln, hX, cntF_eq, Sh.ty, w0, w1]
      try rfl
    · rw [hX]
      show _ = k + (((1 + ((cellsC (.slice (.int .i64)) X.2.1) + 1)) : Nat) : Int)
      try simp only [List.length_set, List.set_set, getD_setS hln, hX, cntF_eq, Sh.ty, w0, w1]
      try omega
  · skip
    have hl : ¬ i < (List.length v : Int) := of_decide_eq_false h0
    refine Vc.exit ?_
    refine Vc.seq ?_
    refine Vc.region hG rfl ?_ ?_
    · trivial
    refine Vc.ret ?_
    have e := mkEnd hI hl
    refine ⟨?_, ?_, trivial⟩
    · show k = cntF (.slice (.pair (.int .i64) (.pair (.slice (.int .i64)) (.int .i64)))) a0 a1
      rw [cntF_eq]; exact e.1
    · exact e.2
@[reducible] noncomputable def M167 : MFun := mF (.own (.pure (.pair (.int .i64) (.bool))))
set_option maxRecDepth 100000 in
set_option maxHeartbeats 2000000 in
/-- loop.example.g00597.laws.markStepS -/
theorem M167_ok : MeetsM Try.prog 167 M167 := by
  refine meetsM_of_vc (C := mkCM 29 [4] [0,1,4,5,9] [] [] [] [0]) (mkCM_ok _ _ _ _ _ _ _) (fnOf_ok _) Try.func167 rfl rfl rfl (by decide) rfl rfl rfl rfl ?_
  rintro a0 (a1 : Int) hwf hin hpre ⟨P, C, B, X, w0, M0, pv⟩ hG rfl rfl
  show Vc _ _ [(0, ⟨0, 0, .c (.own (.pure (.pair (.int .i64) (.bool)))) a0⟩), (1, ⟨0, 0, .c (.pure (.int .i64)) a1⟩)] _
  have hb : List.length a0 ≤ bigLen := hwf.1
  have hp0 : 0 ≤ a1 := hpre.1
  have hp1 : a1 + ((cellsL (cellsC (.pair (.int .i64) (.bool))) a0 : Nat) : Int) ≤ bnd := hpre.2
  refine Vc.seq ?_
  refine Vc.region hG rfl ?_ ?_
  · trivial
  refine Vc.seq ?_
  refine Vc.seq ?_
  refine Vc.region hG rfl ?_ ?_
  · trivial
  refine Vc.block ?_
  -- slots [0, 1, 5]; frame [4]
  refine Vc.loopF [(0, false, .own (.pure (.pair (.int .i64) (.bool)))), (1, false, .pure (.int .i64)), (5, false, .pure (.int .i64))] [4] (fun v => mkInv (cellsC (.pair (.int .i64) (.bool))) (markC (.pair (.int .i64) (.bool))) a0 a1 v.1 v.2.1 v.2.2.1) (fun v => ((List.length v.1 : Int) - v.2.2.1).toNat) rfl ?_ ?_
  · exact mkStart
  rintro ⟨v, (k : Int), (i : Int), _⟩ hI
  have hI : mkInv (cellsC (.pair (.int .i64) (.bool))) (markC (.pair (.int .i64) (.bool))) a0 a1 v k i := hI
  have hbv : v.length ≤ bigLen := by rw [mkLen hI]; exact hb
  refine Vc.seq ?_
  refine Vc.seq ?_
  refine Vc.region hG rfl ?_ ?_
  · trivial
  refine Vc.cond rfl (fun h0 => ?_) (fun h0 => ?_)
  · skip
    have hl : i < (List.length v : Int) := of_decide_eq_true h0
    have hln : i.toNat < v.length := by have := hI.1; omega
    have hk := mkBound hI hl (dflt (.pair (.int .i64) (.bool))) hp0 hp1
    generalize hX : List.getD v i.toNat (dflt (.pair (.int .i64) (.bool))) = X at hk
    have hk : 0 ≤ k ∧ k + (((1 + 1) : Nat) : Int) ≤ bnd := hk
    have w0 : IntKind.i64.wrap (k + 1) = k + 1 := wrapB (by omega) (by omega)
    have w1 : IntKind.i64.wrap (k + 1 + 1) = k + 1 + 1 := wrapB (by omega) (by omega)
    refine Vc.skip ?_
    refine Vc.seq ?_
    refine Vc.block ?_
    refine Vc.seq ?_
    refine Vc.region hG rfl ?_ ?_
    · show inRange i _
      exact mkRange hI hl
    refine Vc.seq ?_
    refine Vc.region hG rfl ?_ ?_
    · trivial
    refine Vc.seq ?_
    refine Vc.region hG rfl ?_ ?_
    · refine ⟨by decide, ?_⟩
      show inRange i _
      simp only [List.length_set]
      exact mkRange hI hl
    refine Vc.region hG rfl ?_ ?_
    · trivial
    refine Vc.region hG rfl ?_ ?_
    · trivial
    refine ⟨rfl, ?_⟩
    refine mkStep hI hl hbv (dflt (.pair (.int .i64) (.bool))) ?_ ?_
    · rw [hX]
      try simp only [List.length_set, List.set_set, getD_setS hln, hX, cntF_eq, Sh.ty, w0, w1]
      try rfl
    · rw [hX]
      show _ = k + (((1 + 1) : Nat) : Int)
      try simp only [List.length_set, List.set_set, getD_setS hln, hX, cntF_eq, Sh.ty, w0, w1]
      try omega
  · skip
    have hl : ¬ i < (List.length v : Int) := of_decide_eq_false h0
    refine Vc.exit ?_
    refine Vc.seq ?_
    refine Vc.region hG rfl ?_ ?_
    · trivial
    refine Vc.ret ?_
    have e := mkEnd hI hl
    refine ⟨?_, ?_, trivial⟩
    · show k = cntF (.slice (.pair (.int .i64) (.bool))) a0 a1
      rw [cntF_eq]; exact e.1
    · exact e.2
@[reducible] noncomputable def M44 : MFun := mF (.own (.pure (.pair (.int .i64) (.pair (.int .i64) (.pair (.int .i64) (.pair (.int .i64) (.int .i64)))))))
set_option maxRecDepth 100000 in
set_option maxHeartbeats 2000000 in
/-- loop.example.g00597.laws.markStampS -/
theorem M44_ok : MeetsM Try.prog 44 M44 := by
  refine meetsM_of_vc (C := mkCM 48 [4] [0,1,4,5,9] [] [] [] [0]) (mkCM_ok _ _ _ _ _ _ _) (fnOf_ok _) Try.func44 rfl rfl rfl (by decide) rfl rfl rfl rfl ?_
  rintro a0 (a1 : Int) hwf hin hpre ⟨P, C, B, X, w0, M0, pv⟩ hG rfl rfl
  show Vc _ _ [(0, ⟨0, 0, .c (.own (.pure (.pair (.int .i64) (.pair (.int .i64) (.pair (.int .i64) (.pair (.int .i64) (.int .i64))))))) a0⟩), (1, ⟨0, 0, .c (.pure (.int .i64)) a1⟩)] _
  have hb : List.length a0 ≤ bigLen := hwf.1
  have hp0 : 0 ≤ a1 := hpre.1
  have hp1 : a1 + ((cellsL (cellsC (.pair (.int .i64) (.pair (.int .i64) (.pair (.int .i64) (.pair (.int .i64) (.int .i64)))))) a0 : Nat) : Int) ≤ bnd := hpre.2
  refine Vc.seq ?_
  refine Vc.region hG rfl ?_ ?_
  · trivial
  refine Vc.seq ?_
  refine Vc.seq ?_
  refine Vc.region hG rfl ?_ ?_
  · trivial
  refine Vc.block ?_
  -- slots [0, 1, 5]; frame [4]
  refine Vc.loopF [(0, false, .own (.pure (.pair (.int .i64) (.pair (.int .i64) (.pair (.int .i64) (.pair (.int .i64) (.int .i64))))))), (1, false, .pure (.int .i64)), (5, false, .pure (.int .i64))] [4] (fun v => mkInv (cellsC (.pair (.int .i64) (.pair (.int .i64) (.pair (.int .i64) (.pair (.int .i64) (.int .i64)))))) (markC (.pair (.int .i64) (.pair (.int .i64) (.pair (.int .i64) (.pair (.int .i64) (.int .i64)))))) a0 a1 v.1 v.2.1 v.2.2.1) (fun v => ((List.length v.1 : Int) - v.2.2.1).toNat) rfl ?_ ?_
  · exact mkStart
  rintro ⟨v, (k : Int), (i : Int), _⟩ hI
  have hI : mkInv (cellsC (.pair (.int .i64) (.pair (.int .i64) (.pair (.int .i64) (.pair (.int .i64) (.int .i64)))))) (markC (.pair (.int .i64) (.pair (.int .i64) (.pair (.int .i64) (.pair (.int .i64) (.int .i64)))))) a0 a1 v k i := hI
  have hbv : v.length ≤ bigLen := by rw [mkLen hI]; exact hb
  refine Vc.seq ?_
  refine Vc.seq ?_
  refine Vc.region hG rfl ?_ ?_
  · trivial
  refine Vc.cond rfl (fun h0 => ?_) (fun h0 => ?_)
  · skip
    have hl : i < (List.length v : Int) := of_decide_eq_true h0
    have hln : i.toNat < v.length := by have := hI.1; omega
    have hk := mkBound hI hl (dflt (.pair (.int .i64) (.pair (.int .i64) (.pair (.int .i64) (.pair (.int .i64) (.int .i64)))))) hp0 hp1
    generalize hX : List.getD v i.toNat (dflt (.pair (.int .i64) (.pair (.int .i64) (.pair (.int .i64) (.pair (.int .i64) (.int .i64)))))) = X at hk
    have hk : 0 ≤ k ∧ k + (((1 + (1 + (1 + (1 + 1)))) : Nat) : Int) ≤ bnd := hk
    have w0 : IntKind.i64.wrap (k + 1) = k + 1 := wrapB (by omega) (by omega)
    have w1 : IntKind.i64.wrap (k + 1 + 1) = k + 1 + 1 := wrapB (by omega) (by omega)
    have w2 : IntKind.i64.wrap (k + 1 + 1 + 1) = k + 1 + 1 + 1 := wrapB (by omega) (by omega)
    have w3 : IntKind.i64.wrap (k + 1 + 1 + 1 + 1) = k + 1 + 1 + 1 + 1 := wrapB (by omega) (by omega)
    have w4 : IntKind.i64.wrap (k + 1 + 1 + 1 + 1 + 1) = k + 1 + 1 + 1 + 1 + 1 := wrapB (by omega) (by omega)
    refine Vc.skip ?_
    refine Vc.seq ?_
    refine Vc.block ?_
    refine Vc.seq ?_
    refine Vc.region hG rfl ?_ ?_
    · show inRange i _
      exact mkRange hI hl
    refine Vc.seq ?_
    refine Vc.region hG rfl ?_ ?_
    · trivial
    refine Vc.seq ?_
    refine Vc.region hG rfl ?_ ?_
    · show inRange i _
      simp only [List.length_set]
      exact mkRange hI hl
    refine Vc.seq ?_
    refine Vc.region hG rfl ?_ ?_
    · trivial
    refine Vc.seq ?_
    refine Vc.region hG rfl ?_ ?_
    · show inRange i _
      simp only [List.length_set]
      exact mkRange hI hl
    refine Vc.seq ?_
    refine Vc.region hG rfl ?_ ?_
    · trivial
    refine Vc.seq ?_
    refine Vc.region hG rfl ?_ ?_
    · show inRange i _
      simp only [List.length_set]
      exact mkRange hI hl
    refine Vc.seq ?_
    refine Vc.region hG rfl ?_ ?_
    · trivial
    refine Vc.seq ?_
    refine Vc.region hG rfl ?_ ?_
    · show inRange i _
      simp only [List.length_set]
      exact mkRange hI hl
    refine Vc.region hG rfl ?_ ?_
    · trivial
    refine Vc.region hG rfl ?_ ?_
    · trivial
    refine ⟨rfl, ?_⟩
    refine mkStep hI hl hbv (dflt (.pair (.int .i64) (.pair (.int .i64) (.pair (.int .i64) (.pair (.int .i64) (.int .i64)))))) ?_ ?_
    · rw [hX]
      try simp only [List.length_set, List.set_set, getD_setS hln, hX, cntF_eq, Sh.ty, w0, w1, w2, w3, w4]
      try rfl
    · rw [hX]
      show _ = k + (((1 + (1 + (1 + (1 + 1)))) : Nat) : Int)
      try simp only [List.length_set, List.set_set, getD_setS hln, hX, cntF_eq, Sh.ty, w0, w1, w2, w3, w4]
      try omega
  · skip
    have hl : ¬ i < (List.length v : Int) := of_decide_eq_false h0
    refine Vc.exit ?_
    refine Vc.seq ?_
    refine Vc.region hG rfl ?_ ?_
    · trivial
    refine Vc.ret ?_
    have e := mkEnd hI hl
    refine ⟨?_, ?_, trivial⟩
    · show k = cntF (.slice (.pair (.int .i64) (.pair (.int .i64) (.pair (.int .i64) (.pair (.int .i64) (.int .i64)))))) a0 a1
      rw [cntF_eq]; exact e.1
    · exact e.2
@[reducible] noncomputable def M133 : MFun := mF (.own (.pair (.pure (.int .i64)) (.pair (.pure (.int .i64)) (.pair (.pure (.int .i64)) (.pair (.own (.pure (.pair (.int .i64) (.bool)))) (.own (.pure (.pair (.int .i64) (.pair (.int .i64) (.pair (.int .i64) (.pair (.int .i64) (.int .i64))))))))))))
set_option maxRecDepth 100000 in
set_option maxHeartbeats 2000000 in
/-- loop.example.g00597.laws.markRenewalS -/
theorem M133_ok : MeetsM Try.prog 133 M133 := by
  refine meetsM_of_vc (C := mkCM 48 [4] [0,1,4,5,9] [] [⟨167, _, M167_ok⟩, ⟨44, _, M44_ok⟩] [] [0]) (mkCM_ok _ _ _ _ _ _ _) (fnOf_ok _) Try.func133 rfl rfl rfl (by decide) rfl rfl rfl rfl ?_
  rintro a0 (a1 : Int) hwf hin hpre ⟨P, C, B, X, w0, M0, pv⟩ hG rfl rfl
  show Vc _ _ [(0, ⟨0, 0, .c (.own (.pair (.pure (.int .i64)) (.pair (.pure (.int .i64)) (.pair (.pure (.int .i64)) (.pair (.own (.pure (.pair (.int .i64) (.bool)))) (.own (.pure (.pair (.int .i64) (.pair (.int .i64) (.pair (.int .i64) (.pair (.int .i64) (.int .i64)))))))))))) a0⟩), (1, ⟨0, 0, .c (.pure (.int .i64)) a1⟩)] _
  have hb : List.length a0 ≤ bigLen := hwf.1
  have hp0 : 0 ≤ a1 := hpre.1
  have hp1 : a1 + ((cellsL (cellsC (.pair (.int .i64) (.pair (.int .i64) (.pair (.int .i64) (.pair (.slice (.pair (.int .i64) (.bool))) (.slice (.pair (.int .i64) (.pair (.int .i64) (.pair (.int .i64) (.pair (.int .i64) (.int .i64))))))))))) a0 : Nat) : Int) ≤ bnd := hpre.2
  refine Vc.seq ?_
  refine Vc.region hG rfl ?_ ?_
  · trivial
  refine Vc.seq ?_
  refine Vc.seq ?_
  refine Vc.region hG rfl ?_ ?_
  · trivial
  refine Vc.block ?_
  -- slots [0, 1, 5]; frame [4]
  refine Vc.loopF [(0, false, .own (.pair (.pure (.int .i64)) (.pair (.pure (.int .i64)) (.pair (.pure (.int .i64)) (.pair (.own (.pure (.pair (.int .i64) (.bool)))) (.own (.pure (.pair (.int .i64) (.pair (.int .i64) (.pair (.int .i64) (.pair (.int .i64) (.int .i64)))))))))))), (1, false, .pure (.int .i64)), (5, false, .pure (.int .i64))] [4] (fun v => mkInv (cellsC (.pair (.int .i64) (.pair (.int .i64) (.pair (.int .i64) (.pair (.slice (.pair (.int .i64) (.bool))) (.slice (.pair (.int .i64) (.pair (.int .i64) (.pair (.int .i64) (.pair (.int .i64) (.int .i64))))))))))) (markC (.pair (.int .i64) (.pair (.int .i64) (.pair (.int .i64) (.pair (.slice (.pair (.int .i64) (.bool))) (.slice (.pair (.int .i64) (.pair (.int .i64) (.pair (.int .i64) (.pair (.int .i64) (.int .i64))))))))))) a0 a1 v.1 v.2.1 v.2.2.1) (fun v => ((List.length v.1 : Int) - v.2.2.1).toNat) rfl ?_ ?_
  · exact mkStart
  rintro ⟨v, (k : Int), (i : Int), _⟩ hI
  have hI : mkInv (cellsC (.pair (.int .i64) (.pair (.int .i64) (.pair (.int .i64) (.pair (.slice (.pair (.int .i64) (.bool))) (.slice (.pair (.int .i64) (.pair (.int .i64) (.pair (.int .i64) (.pair (.int .i64) (.int .i64))))))))))) (markC (.pair (.int .i64) (.pair (.int .i64) (.pair (.int .i64) (.pair (.slice (.pair (.int .i64) (.bool))) (.slice (.pair (.int .i64) (.pair (.int .i64) (.pair (.int .i64) (.pair (.int .i64) (.int .i64))))))))))) a0 a1 v k i := hI
  have hbv : v.length ≤ bigLen := by rw [mkLen hI]; exact hb
  refine Vc.seq ?_
  refine Vc.seq ?_
  refine Vc.region hG rfl ?_ ?_
  · trivial
  refine Vc.cond rfl (fun h0 => ?_) (fun h0 => ?_)
  · skip
    have hl : i < (List.length v : Int) := of_decide_eq_true h0
    have hln : i.toNat < v.length := by have := hI.1; omega
    have hk := mkBound hI hl (dflt (.pair (.int .i64) (.pair (.int .i64) (.pair (.int .i64) (.pair (.slice (.pair (.int .i64) (.bool))) (.slice (.pair (.int .i64) (.pair (.int .i64) (.pair (.int .i64) (.pair (.int .i64) (.int .i64))))))))))) hp0 hp1
    generalize hX : List.getD v i.toNat (dflt (.pair (.int .i64) (.pair (.int .i64) (.pair (.int .i64) (.pair (.slice (.pair (.int .i64) (.bool))) (.slice (.pair (.int .i64) (.pair (.int .i64) (.pair (.int .i64) (.pair (.int .i64) (.int .i64))))))))))) = X at hk
    have hk : 0 ≤ k ∧ k + (((1 + (1 + (1 + ((cellsC (.slice (.pair (.int .i64) (.bool))) X.2.2.2.1) + (cellsC (.slice (.pair (.int .i64) (.pair (.int .i64) (.pair (.int .i64) (.pair (.int .i64) (.int .i64)))))) X.2.2.2.2))))) : Nat) : Int) ≤ bnd := hk
    have w0 : IntKind.i64.wrap (k + 1) = k + 1 := wrapB (by omega) (by omega)
    have w1 : IntKind.i64.wrap (k + 1 + 1) = k + 1 + 1 := wrapB (by omega) (by omega)
    have w2 : IntKind.i64.wrap (k + 1 + 1 + 1) = k + 1 + 1 + 1 := wrapB (by omega) (by omega)
    refine Vc.skip ?_
    refine Vc.seq ?_
    refine Vc.block ?_
    refine Vc.seq ?_
    refine Vc.region hG rfl ?_ ?_
    · show inRange i _
      exact mkRange hI hl
    refine Vc.seq ?_
    refine Vc.region hG rfl ?_ ?_
    · trivial
    refine Vc.seq ?_
    refine Vc.region hG rfl ?_ ?_
    · show inRange i _
      simp only [List.length_set]
      exact mkRange hI hl
    refine Vc.seq ?_
    refine Vc.region hG rfl ?_ ?_
    · trivial
    refine Vc.seq ?_
    refine Vc.region hG rfl ?_ ?_
    · show inRange i _
      simp only [List.length_set]
      exact mkRange hI hl
    refine Vc.seq ?_
    refine Vc.region hG rfl ?_ ?_
    · trivial
    refine Vc.seq ?_
    refine Vc.region hG rfl ?_ ?_
    · refine ⟨?_, ?_⟩
      · show inRange i _
        simp only [List.length_set]
        exact mkRange hI hl
      · show markPre (.slice (.pair (.int .i64) (.bool))) _ _
        try simp only [List.length_set, List.set_set, getD_setS hln, hX, cntF_eq, Sh.ty, w0, w1, w2]
        exact ⟨by omega, by omega⟩
    refine Vc.region hG rfl ?_ ?_
    · refine ⟨?_, ?_⟩
      · show inRange i _
        simp only [List.length_set]
        exact mkRange hI hl
      · show markPre (.slice (.pair (.int .i64) (.pair (.int .i64) (.pair (.int .i64) (.pair (.int .i64) (.int .i64)))))) _ _
        try simp only [List.length_set, List.set_set, getD_setS hln, hX, cntF_eq, Sh.ty, w0, w1, w2]
        exact ⟨by omega, by omega⟩
    refine Vc.region hG rfl ?_ ?_
    · trivial
    refine ⟨rfl, ?_⟩
    refine mkStep hI hl hbv (dflt (.pair (.int .i64) (.pair (.int .i64) (.pair (.int .i64) (.pair (.slice (.pair (.int .i64) (.bool))) (.slice (.pair (.int .i64) (.pair (.int .i64) (.pair (.int .i64) (.pair (.int .i64) (.int .i64))))))))))) ?_ ?_
    · rw [hX]
      try simp only [List.length_set, List.set_set, getD_setS hln, hX, cntF_eq, Sh.ty, w0, w1, w2]
      try rfl
    · rw [hX]
      show _ = k + (((1 + (1 + (1 + ((cellsC (.slice (.pair (.int .i64) (.bool))) X.2.2.2.1) + (cellsC (.slice (.pair (.int .i64) (.pair (.int .i64) (.pair (.int .i64) (.pair (.int .i64) (.int .i64)))))) X.2.2.2.2))))) : Nat) : Int)
      try simp only [List.length_set, List.set_set, getD_setS hln, hX, cntF_eq, Sh.ty, w0, w1, w2]
      try omega
  · skip
    have hl : ¬ i < (List.length v : Int) := of_decide_eq_false h0
    refine Vc.exit ?_
    refine Vc.seq ?_
    refine Vc.region hG rfl ?_ ?_
    · trivial
    refine Vc.ret ?_
    have e := mkEnd hI hl
    refine ⟨?_, ?_, trivial⟩
    · show k = cntF (.slice (.pair (.int .i64) (.pair (.int .i64) (.pair (.int .i64) (.pair (.slice (.pair (.int .i64) (.bool))) (.slice (.pair (.int .i64) (.pair (.int .i64) (.pair (.int .i64) (.pair (.int .i64) (.int .i64))))))))))) a0 a1
      rw [cntF_eq]; exact e.1
    · exact e.2
@[reducible] noncomputable def M98 : MFun := mV (.pair (.own (.pair (.pure (.int .i64)) (.pair (.own (.pure (.int .i64))) (.pure (.int .i64))))) (.own (.pair (.pure (.int .i64)) (.pair (.pure (.int .i64)) (.pair (.pure (.int .i64)) (.pair (.own (.pure (.pair (.int .i64) (.bool)))) (.own (.pure (.pair (.int .i64) (.pair (.int .i64) (.pair (.int .i64) (.pair (.int .i64) (.int .i64)))))))))))))
set_option maxRecDepth 100000 in
/-- loop.example.g00597.laws.markStrand -/
theorem M98_ok : MeetsM Try.prog 98 M98 := by
  refine meetsM_of_vc (C := mkCM 14 [4] [0,1,2,4] [] [⟨132, _, M132_ok⟩, ⟨133, _, M133_ok⟩] [] [0]) (mkCM_ok _ _ _ _ _ _ _) (fnOf_ok _) Try.func98 rfl rfl rfl (by decide) rfl rfl rfl rfl ?_
  rintro a0 (a1 : Int) hwf hin hpre ⟨P, C, B, X, w0, M0, pv⟩ hG rfl rfl
  show Vc _ _ [(0, ⟨0, 0, .c (.pair (.own (.pair (.pure (.int .i64)) (.pair (.own (.pure (.int .i64))) (.pure (.int .i64))))) (.own (.pair (.pure (.int .i64)) (.pair (.pure (.int .i64)) (.pair (.pure (.int .i64)) (.pair (.own (.pure (.pair (.int .i64) (.bool)))) (.own (.pure (.pair (.int .i64) (.pair (.int .i64) (.pair (.int .i64) (.pair (.int .i64) (.int .i64))))))))))))) a0⟩), (1, ⟨0, 0, .c (.pure (.int .i64)) a1⟩)] _
  have hp0 : 0 ≤ a1 := hpre.1
  have hp1 : a1 + ((cellsV (.pair (.slice (.pair (.int .i64) (.pair (.slice (.int .i64)) (.int .i64)))) (.slice (.pair (.int .i64) (.pair (.int .i64) (.pair (.int .i64) (.pair (.slice (.pair (.int .i64) (.bool))) (.slice (.pair (.int .i64) (.pair (.int .i64) (.pair (.int .i64) (.pair (.int .i64) (.int .i64)))))))))))) a0 : Nat) : Int) ≤ bnd := hpre.2
  have hc : ((cellsV (.pair (.slice (.pair (.int .i64) (.pair (.slice (.int .i64)) (.int .i64)))) (.slice (.pair (.int .i64) (.pair (.int .i64) (.pair (.int .i64) (.pair (.slice (.pair (.int .i64) (.bool))) (.slice (.pair (.int .i64) (.pair (.int .i64) (.pair (.int .i64) (.pair (.int .i64) (.int .i64)))))))))))) a0 : Nat) : Int) = ((cellsC (.slice (.pair (.int .i64) (.pair (.slice (.int .i64)) (.int .i64)))) a0.1 : Nat) : Int) + ((cellsC (.slice (.pair (.int .i64) (.pair (.int .i64) (.pair (.int .i64) (.pair (.slice (.pair (.int .i64) (.bool))) (.slice (.pair (.int .i64) (.pair (.int .i64) (.pair (.int .i64) (.pair (.int .i64) (.int .i64))))))))))) a0.2 : Nat) : Int) := by
    show (((cellsC (.slice (.pair (.int .i64) (.pair (.slice (.int .i64)) (.int .i64)))) a0.1 + cellsC (.slice (.pair (.int .i64) (.pair (.int .i64) (.pair (.int .i64) (.pair (.slice (.pair (.int .i64) (.bool))) (.slice (.pair (.int .i64) (.pair (.int .i64) (.pair (.int .i64) (.pair (.int .i64) (.int .i64))))))))))) a0.2) : Nat) : Int) = _
    omega
  refine Vc.seq ?_
  refine Vc.region hG rfl ?_ ?_
  · trivial
  refine Vc.seq ?_
  refine Vc.region hG rfl ?_ ?_
  · exact (show markPre (.slice (.pair (.int .i64) (.pair (.slice (.int .i64)) (.int .i64)))) a0.1 (a1) from ⟨by omega, by omega⟩)
  refine Vc.seq ?_
  refine Vc.region hG rfl ?_ ?_
  · have ce0 := cntF_eq (.slice (.pair (.int .i64) (.pair (.slice (.int .i64)) (.int .i64)))) a0.1 (a1)
    exact (show markPre (.slice (.pair (.int .i64) (.pair (.int .i64) (.pair (.int .i64) (.pair (.slice (.pair (.int .i64) (.bool))) (.slice (.pair (.int .i64) (.pair (.int .i64) (.pair (.int .i64) (.pair (.int .i64) (.int .i64))))))))))) a0.2 (cntF (.slice (.pair (.int .i64) (.pair (.slice (.int .i64)) (.int .i64)))) a0.1 (a1)) from ⟨by omega, by omega⟩)
  refine Vc.seq ?_
  refine Vc.region hG rfl ?_ ?_
  · trivial
  refine Vc.ret ?_
  have ce0 := cntF_eq (.slice (.pair (.int .i64) (.pair (.slice (.int .i64)) (.int .i64)))) a0.1 (a1)
  have ce1 := cntF_eq (.slice (.pair (.int .i64) (.pair (.int .i64) (.pair (.int .i64) (.pair (.slice (.pair (.int .i64) (.bool))) (.slice (.pair (.int .i64) (.pair (.int .i64) (.pair (.int .i64) (.pair (.int .i64) (.int .i64))))))))))) a0.2 (cntF (.slice (.pair (.int .i64) (.pair (.slice (.int .i64)) (.int .i64)))) a0.1 (a1))
  refine ⟨?_, ?_, trivial⟩
  · show cntF (.slice (.pair (.int .i64) (.pair (.int .i64) (.pair (.int .i64) (.pair (.slice (.pair (.int .i64) (.bool))) (.slice (.pair (.int .i64) (.pair (.int .i64) (.pair (.int .i64) (.pair (.int .i64) (.int .i64))))))))))) a0.2 (cntF (.slice (.pair (.int .i64) (.pair (.slice (.int .i64)) (.int .i64)))) a0.1 (a1)) = cntV (.pair (.slice (.pair (.int .i64) (.pair (.slice (.int .i64)) (.int .i64)))) (.slice (.pair (.int .i64) (.pair (.int .i64) (.pair (.int .i64) (.pair (.slice (.pair (.int .i64) (.bool))) (.slice (.pair (.int .i64) (.pair (.int .i64) (.pair (.int .i64) (.pair (.int .i64) (.int .i64)))))))))))) a0 a1
    rw [cntV_eq (.pair (.slice (.pair (.int .i64) (.pair (.slice (.int .i64)) (.int .i64)))) (.slice (.pair (.int .i64) (.pair (.int .i64) (.pair (.int .i64) (.pair (.slice (.pair (.int .i64) (.bool))) (.slice (.pair (.int .i64) (.pair (.int .i64) (.pair (.int .i64) (.pair (.int .i64) (.int .i64)))))))))))) a0 a1]
    omega
  · exact (Prod.ext (congrArg (markC (.slice (.pair (.int .i64) (.pair (.slice (.int .i64)) (.int .i64)))) a0.1) (show a1 = a1 from by omega)) (congrArg (markC (.slice (.pair (.int .i64) (.pair (.int .i64) (.pair (.int .i64) (.pair (.slice (.pair (.int .i64) (.bool))) (.slice (.pair (.int .i64) (.pair (.int .i64) (.pair (.int .i64) (.pair (.int .i64) (.int .i64))))))))))) a0.2) (show cntF (.slice (.pair (.int .i64) (.pair (.slice (.int .i64)) (.int .i64)))) a0.1 (a1) = a1 + ((cellsC (.slice (.pair (.int .i64) (.pair (.slice (.int .i64)) (.int .i64)))) a0.1 : Nat) : Int) from by omega)))
@[reducible] noncomputable def M31 : MFun := mV (.pair (.pure (.int .i64)) (.pair (.pure (.int .i64)) (.pair (.pair (.pure (.int .i64)) (.pair (.own (.pure (.str))) (.own (.pure (.int .i64))))) (.pair (.pure (.pair (.int .i64) (.pair (.int .i64) (.pair (.int .i64) (.pair (.int .i64) (.pair (.int .i64) (.pair (.int .i64) (.pair (.int .i64) (.pair (.int .i64) (.int .i64)))))))))) (.pair (.own (.pair (.pure (.int .i64)) (.pair (.own (.pure (.int .i64))) (.pure (.int .i64))))) (.own (.pair (.pure (.int .i64)) (.pair (.pure (.int .i64)) (.pair (.pure (.int .i64)) (.pair (.own (.pure (.pair (.int .i64) (.bool)))) (.own (.pure (.pair (.int .i64) (.pair (.int .i64) (.pair (.int .i64) (.pair (.int .i64) (.int .i64)))))))))))))))))
set_option maxRecDepth 100000 in
/-- loop.example.g00597.laws.markItem -/
theorem M31_ok : MeetsM Try.prog 31 M31 := by
  refine meetsM_of_vc (C := mkCM 14 [4] [0,1,2,4] [] [⟨97, _, M97_ok⟩, ⟨98, _, M98_ok⟩] [] [0]) (mkCM_ok _ _ _ _ _ _ _) (fnOf_ok _) Try.func31 rfl rfl rfl (by decide) rfl rfl rfl rfl ?_
  rintro a0 (a1 : Int) hwf hin hpre ⟨P, C, B, X, w0, M0, pv⟩ hG rfl rfl
  show Vc _ _ [(0, ⟨0, 0, .c (.pair (.pure (.int .i64)) (.pair (.pure (.int .i64)) (.pair (.pair (.pure (.int .i64)) (.pair (.own (.pure (.str))) (.own (.pure (.int .i64))))) (.pair (.pure (.pair (.int .i64) (.pair (.int .i64) (.pair (.int .i64) (.pair (.int .i64) (.pair (.int .i64) (.pair (.int .i64) (.pair (.int .i64) (.pair (.int .i64) (.int .i64)))))))))) (.pair (.own (.pair (.pure (.int .i64)) (.pair (.own (.pure (.int .i64))) (.pure (.int .i64))))) (.own (.pair (.pure (.int .i64)) (.pair (.pure (.int .i64)) (.pair (.pure (.int .i64)) (.pair (.own (.pure (.pair (.int .i64) (.bool)))) (.own (.pure (.pair (.int .i64) (.pair (.int .i64) (.pair (.int .i64) (.pair (.int .i64) (.int .i64))))))))))))))))) a0⟩), (1, ⟨0, 0, .c (.pure (.int .i64)) a1⟩)] _
  have hp0 : 0 ≤ a1 := hpre.1
  have hp1 : a1 + ((cellsV (.pair (.int .i64) (.pair (.int .i64) (.pair (.pair (.int .i64) (.pair (.slice (.str)) (.slice (.int .i64)))) (.pair (.pair (.int .i64) (.pair (.int .i64) (.pair (.int .i64) (.pair (.int .i64) (.pair (.int .i64) (.pair (.int .i64) (.pair (.int .i64) (.pair (.int .i64) (.int .i64))))))))) (.pair (.slice (.pair (.int .i64) (.pair (.slice (.int .i64)) (.int .i64)))) (.slice (.pair (.int .i64) (.pair (.int .i64) (.pair (.int .i64) (.pair (.slice (.pair (.int .i64) (.bool))) (.slice (.pair (.int .i64) (.pair (.int .i64) (.pair (.int .i64) (.pair (.int .i64) (.int .i64)))))))))))))))) a0 : Nat) : Int) ≤ bnd := hpre.2
  have hc : ((cellsV (.pair (.int .i64) (.pair (.int .i64) (.pair (.pair (.int .i64) (.pair (.slice (.str)) (.slice (.int .i64)))) (.pair (.pair (.int .i64) (.pair (.int .i64) (.pair (.int .i64) (.pair (.int .i64) (.pair (.int .i64) (.pair (.int .i64) (.pair (.int .i64) (.pair (.int .i64) (.int .i64))))))))) (.pair (.slice (.pair (.int .i64) (.pair (.slice (.int .i64)) (.int .i64)))) (.slice (.pair (.int .i64) (.pair (.int .i64) (.pair (.int .i64) (.pair (.slice (.pair (.int .i64) (.bool))) (.slice (.pair (.int .i64) (.pair (.int .i64) (.pair (.int .i64) (.pair (.int .i64) (.int .i64)))))))))))))))) a0 : Nat) : Int) = ((cellsV (.pair (.int .i64) (.pair (.slice (.str)) (.slice (.int .i64)))) a0.2.2.1 : Nat) : Int) + ((cellsV (.pair (.slice (.pair (.int .i64) (.pair (.slice (.int .i64)) (.int .i64)))) (.slice (.pair (.int .i64) (.pair (.int .i64) (.pair (.int .i64) (.pair (.slice (.pair (.int .i64) (.bool))) (.slice (.pair (.int .i64) (.pair (.int .i64) (.pair (.int .i64) (.pair (.int .i64) (.int .i64)))))))))))) a0.2.2.2.2 : Nat) : Int) := by
    show (((0 + (0 + (cellsV (.pair (.int .i64) (.pair (.slice (.str)) (.slice (.int .i64)))) a0.2.2.1 + (0 + cellsV (.pair (.slice (.pair (.int .i64) (.pair (.slice (.int .i64)) (.int .i64)))) (.slice (.pair (.int .i64) (.pair (.int .i64) (.pair (.int .i64) (.pair (.slice (.pair (.int .i64) (.bool))) (.slice (.pair (.int .i64) (.pair (.int .i64) (.pair (.int .i64) (.pair (.int .i64) (.int .i64)))))))))))) a0.2.2.2.2)))) : Nat) : Int) = _
    omega
  refine Vc.seq ?_
  refine Vc.region hG rfl ?_ ?_
  · trivial
  refine Vc.seq ?_
  refine Vc.region hG rfl ?_ ?_
  · exact (show markPreV (.pair (.int .i64) (.pair (.slice (.str)) (.slice (.int .i64)))) a0.2.2.1 (a1) from ⟨by omega, by omega⟩)
  refine Vc.seq ?_
  refine Vc.region hG rfl ?_ ?_
  · have ce0 := cntV_eq (.pair (.int .i64) (.pair (.slice (.str)) (.slice (.int .i64)))) a0.2.2.1 (a1)
    exact (show markPreV (.pair (.slice (.pair (.int .i64) (.pair (.slice (.int .i64)) (.int .i64)))) (.slice (.pair (.int .i64) (.pair (.int .i64) (.pair (.int .i64) (.pair (.slice (.pair (.int .i64) (.bool))) (.slice (.pair (.int .i64) (.pair (.int .i64) (.pair (.int .i64) (.pair (.int .i64) (.int .i64)))))))))))) a0.2.2.2.2 (cntV (.pair (.int .i64) (.pair (.slice (.str)) (.slice (.int .i64)))) a0.2.2.1 (a1)) from ⟨by omega, by omega⟩)
  refine Vc.seq ?_
  refine Vc.region hG rfl ?_ ?_
  · trivial
  refine Vc.ret ?_
  have ce0 := cntV_eq (.pair (.int .i64) (.pair (.slice (.str)) (.slice (.int .i64)))) a0.2.2.1 (a1)
  have ce1 := cntV_eq (.pair (.slice (.pair (.int .i64) (.pair (.slice (.int .i64)) (.int .i64)))) (.slice (.pair (.int .i64) (.pair (.int .i64) (.pair (.int .i64) (.pair (.slice (.pair (.int .i64) (.bool))) (.slice (.pair (.int .i64) (.pair (.int .i64) (.pair (.int .i64) (.pair (.int .i64) (.int .i64)))))))))))) a0.2.2.2.2 (cntV (.pair (.int .i64) (.pair (.slice (.str)) (.slice (.int .i64)))) a0.2.2.1 (a1))
  refine ⟨?_, ?_, trivial⟩
  · show cntV (.pair (.slice (.pair (.int .i64) (.pair (.slice (.int .i64)) (.int .i64)))) (.slice (.pair (.int .i64) (.pair (.int .i64) (.pair (.int .i64) (.pair (.slice (.pair (.int .i64) (.bool))) (.slice (.pair (.int .i64) (.pair (.int .i64) (.pair (.int .i64) (.pair (.int .i64) (.int .i64)))))))))))) a0.2.2.2.2 (cntV (.pair (.int .i64) (.pair (.slice (.str)) (.slice (.int .i64)))) a0.2.2.1 (a1)) = cntV (.pair (.int .i64) (.pair (.int .i64) (.pair (.pair (.int .i64) (.pair (.slice (.str)) (.slice (.int .i64)))) (.pair (.pair (.int .i64) (.pair (.int .i64) (.pair (.int .i64) (.pair (.int .i64) (.pair (.int .i64) (.pair (.int .i64) (.pair (.int .i64) (.pair (.int .i64) (.int .i64))))))))) (.pair (.slice (.pair (.int .i64) (.pair (.slice (.int .i64)) (.int .i64)))) (.slice (.pair (.int .i64) (.pair (.int .i64) (.pair (.int .i64) (.pair (.slice (.pair (.int .i64) (.bool))) (.slice (.pair (.int .i64) (.pair (.int .i64) (.pair (.int .i64) (.pair (.int .i64) (.int .i64)))))))))))))))) a0 a1
    rw [cntV_eq (.pair (.int .i64) (.pair (.int .i64) (.pair (.pair (.int .i64) (.pair (.slice (.str)) (.slice (.int .i64)))) (.pair (.pair (.int .i64) (.pair (.int .i64) (.pair (.int .i64) (.pair (.int .i64) (.pair (.int .i64) (.pair (.int .i64) (.pair (.int .i64) (.pair (.int .i64) (.int .i64))))))))) (.pair (.slice (.pair (.int .i64) (.pair (.slice (.int .i64)) (.int .i64)))) (.slice (.pair (.int .i64) (.pair (.int .i64) (.pair (.int .i64) (.pair (.slice (.pair (.int .i64) (.bool))) (.slice (.pair (.int .i64) (.pair (.int .i64) (.pair (.int .i64) (.pair (.int .i64) (.int .i64)))))))))))))))) a0 a1]
    omega
  · exact (Prod.ext rfl (Prod.ext rfl (Prod.ext (congrArg (markV (.pair (.int .i64) (.pair (.slice (.str)) (.slice (.int .i64)))) a0.2.2.1) (show a1 = a1 + ((0 : Nat) : Int) + ((0 : Nat) : Int) from by omega)) (Prod.ext rfl (congrArg (markV (.pair (.slice (.pair (.int .i64) (.pair (.slice (.int .i64)) (.int .i64)))) (.slice (.pair (.int .i64) (.pair (.int .i64) (.pair (.int .i64) (.pair (.slice (.pair (.int .i64) (.bool))) (.slice (.pair (.int .i64) (.pair (.int .i64) (.pair (.int .i64) (.pair (.int .i64) (.int .i64)))))))))))) a0.2.2.2.2) (show cntV (.pair (.int .i64) (.pair (.slice (.str)) (.slice (.int .i64)))) a0.2.2.1 (a1) = a1 + ((0 : Nat) : Int) + ((0 : Nat) : Int) + ((cellsV (.pair (.int .i64) (.pair (.slice (.str)) (.slice (.int .i64)))) a0.2.2.1 : Nat) : Int) + ((0 : Nat) : Int) from by omega))))))
@[reducible] noncomputable def M99 : MFun := mF (.own (.pure (.bool)))
set_option maxRecDepth 100000 in
set_option maxHeartbeats 2000000 in
/-- loop.example.g00597.laws.markBoolS -/
theorem M99_ok : MeetsM Try.prog 99 M99 := by
  refine meetsM_of_vc (C := mkCM 21 [4] [0,1,4,5,9] [] [] [] [0]) (mkCM_ok _ _ _ _ _ _ _) (fnOf_ok _) Try.func99 rfl rfl rfl (by decide) rfl rfl rfl rfl ?_
  rintro a0 (a1 : Int) hwf hin hpre ⟨P, C, B, X, w0, M0, pv⟩ hG rfl rfl
  show Vc _ _ [(0, ⟨0, 0, .c (.own (.pure (.bool))) a0⟩), (1, ⟨0, 0, .c (.pure (.int .i64)) a1⟩)] _
  have hb : List.length a0 ≤ bigLen := hwf.1
  have hp0 : 0 ≤ a1 := hpre.1
  have hp1 : a1 + ((cellsL (cellsC (.bool)) a0 : Nat) : Int) ≤ bnd := hpre.2
  refine Vc.seq ?_
  refine Vc.region hG rfl ?_ ?_
  · trivial
  refine Vc.seq ?_
  refine Vc.seq ?_
  refine Vc.region hG rfl ?_ ?_
  · trivial
  refine Vc.block ?_
  -- slots [0, 1, 5]; frame [4]
  refine Vc.loopF [(0, false, .own (.pure (.bool))), (1, false, .pure (.int .i64)), (5, false, .pure (.int .i64))] [4] (fun v => mkInv (cellsC (.bool)) (markC (.bool)) a0 a1 v.1 v.2.1 v.2.2.1) (fun v => ((List.length v.1 : Int) - v.2.2.1).toNat) rfl ?_ ?_
  · exact mkStart
  rintro ⟨v, (k : Int), (i : Int), _⟩ hI
  have hI : mkInv (cellsC (.bool)) (markC (.bool)) a0 a1 v k i := hI
  have hbv : v.length ≤ bigLen := by rw [mkLen hI]; exact hb
  refine Vc.seq ?_
  refine Vc.seq ?_
  refine Vc.region hG rfl ?_ ?_
  · trivial
  refine Vc.cond rfl (fun h0 => ?_) (fun h0 => ?_)
  · skip
    have hl : i < (List.length v : Int) := of_decide_eq_true h0
    have hln : i.toNat < v.length := by have := hI.1; omega
    have hk := mkBound hI hl (dflt (.bool)) hp0 hp1
    generalize hX : List.getD v i.toNat (dflt (.bool)) = X at hk
    have hk : 0 ≤ k ∧ k + ((1 : Nat) : Int) ≤ bnd := hk
    have w0 : IntKind.i64.wrap (k + 1) = k + 1 := wrapB (by omega) (by omega)
    refine Vc.skip ?_
    refine Vc.seq ?_
    refine Vc.block ?_
    refine Vc.seq ?_
    refine Vc.region hG rfl ?_ ?_
    · refine ⟨by decide, ?_⟩
      show inRange i _
      simp only [List.length_set]
      exact mkRange hI hl
    refine Vc.region hG rfl ?_ ?_
    · trivial
    refine Vc.region hG rfl ?_ ?_
    · trivial
    refine ⟨rfl, ?_⟩
    refine mkStep hI hl hbv (dflt (.bool)) ?_ ?_
    · rw [hX]
      try simp only [List.length_set, List.set_set, getD_setS hln, hX, cntF_eq, Sh.ty, w0]
      try rfl
    · rw [hX]
      show _ = k + ((1 : Nat) : Int)
      try simp only [List.length_set, List.set_set, getD_setS hln, hX, cntF_eq, Sh.ty, w0]
      try omega
  · skip
    have hl : ¬ i < (List.length v : Int) := of_decide_eq_false h0
    refine Vc.exit ?_
    refine Vc.seq ?_
    refine Vc.region hG rfl ?_ ?_
    · trivial
    refine Vc.ret ?_
    have e := mkEnd hI hl
    refine ⟨?_, ?_, trivial⟩
    · show k = cntF (.slice (.bool)) a0 a1
      rw [cntF_eq]; exact e.1
    · exact e.2
@[reducible] noncomputable def M101 : MFun := mF (.own (.own (.pure (.int .i64))))
set_option maxRecDepth 100000 in
set_option maxHeartbeats 2000000 in
/-- loop.example.g00597.laws.markIntSS -/
theorem M101_ok : MeetsM Try.prog 101 M101 := by
  refine meetsM_of_vc (C := mkCM 19 [4] [0,1,4,5,9] [] [⟨32, _, M32_ok⟩] [] [0]) (mkCM_ok _ _ _ _ _ _ _) (fnOf_ok _) Try.func101 rfl rfl rfl (by decide) rfl rfl rfl rfl ?_
  rintro a0 (a1 : Int) hwf hin hpre ⟨P, C, B, X, w0, M0, pv⟩ hG rfl rfl
  show Vc _ _ [(0, ⟨0, 0, .c (.own (.own (.pure (.int .i64)))) a0⟩), (1, ⟨0, 0, .c (.pure (.int .i64)) a1⟩)] _
  have hb : List.length a0 ≤ bigLen := hwf.1
  have hp0 : 0 ≤ a1 := hpre.1
  have hp1 : a1 + ((cellsL (cellsC (.slice (.int .i64))) a0 : Nat) : Int) ≤ bnd := hpre.2
  refine Vc.seq ?_
  refine Vc.region hG rfl ?_ ?_
  · trivial
  refine Vc.seq ?_
  refine Vc.seq ?_
  refine Vc.region hG rfl ?_ ?_
  · trivial
  refine Vc.block ?_
  -- slots [0, 1, 5]; frame [4]
  refine Vc.loopF [(0, false, .own (.own (.pure (.int .i64)))), (1, false, .pure (.int .i64)), (5, false, .pure (.int .i64))] [4] (fun v => mkInv (cellsC (.slice (.int .i64))) (markC (.slice (.int .i64))) a0 a1 v.1 v.2.1 v.2.2.1) (fun v => ((List.length v.1 : Int) - v.2.2.1).toNat) rfl ?_ ?_
  · exact mkStart
  rintro ⟨v, (k : Int), (i : Int), _⟩ hI
  have hI : mkInv (cellsC (.slice (.int .i64))) (markC (.slice (.int .i64))) a0 a1 v k i := hI
  have hbv : v.length ≤ bigLen := by rw [mkLen hI]; exact hb
  refine Vc.seq ?_
  refine Vc.seq ?_
  refine Vc.region hG rfl ?_ ?_
  · trivial
  refine Vc.cond rfl (fun h0 => ?_) (fun h0 => ?_)
  · skip
    have hl : i < (List.length v : Int) := of_decide_eq_true h0
    have hln : i.toNat < v.length := by have := hI.1; omega
    have hk := mkBound hI hl (dflt (.slice (.int .i64))) hp0 hp1
    generalize hX : List.getD v i.toNat (dflt (.slice (.int .i64))) = X at hk
    have hk : 0 ≤ k ∧ k + (((cellsC (.slice (.int .i64)) X) : Nat) : Int) ≤ bnd := hk
    refine Vc.skip ?_
    refine Vc.seq ?_
    refine Vc.block ?_
    refine Vc.region hG rfl ?_ ?_
    · refine ⟨?_, ?_⟩
      · show inRange i _
        simp only [List.length_set]
        exact mkRange hI hl
      · show markPre (.slice (.int .i64)) _ _
        try simp only [List.length_set, List.set_set, getD_setS hln, hX, cntF_eq, Sh.ty]
        exact ⟨by omega, by omega⟩
    refine Vc.region hG rfl ?_ ?_
    · trivial
    refine ⟨rfl, ?_⟩
    refine mkStep hI hl hbv (dflt (.slice (.int .i64))) ?_ ?_
    · rw [hX]
      try simp only [List.length_set, List.set_set, getD_setS hln, hX, cntF_eq, Sh.ty]
      try rfl
    · rw [hX]
      show _ = k + (((cellsC (.slice (.int .i64)) X) : Nat) : Int)
      try simp only [List.length_set, List.set_set, getD_setS hln, hX, cntF_eq, Sh.ty]
      try omega
  · skip
    have hl : ¬ i < (List.length v : Int) := of_decide_eq_false h0
    refine Vc.exit ?_
    refine Vc.seq ?_
    refine Vc.region hG rfl ?_ ?_
    · trivial
    refine Vc.ret ?_
    have e := mkEnd hI hl
    refine ⟨?_, ?_, trivial⟩
    · show k = cntF (.slice (.slice (.int .i64))) a0 a1
      rw [cntF_eq]; exact e.1
    · exact e.2
@[reducible] noncomputable def M33 : MFun := mV (.pair (.pure (.int .i64)) (.pair (.own (.pure (.int .i64))) (.pair (.own (.pure (.bool))) (.pair (.own (.pure (.str))) (.pair (.own (.pure (.int .i64))) (.own (.own (.pure (.int .i64)))))))))
set_option maxRecDepth 100000 in
/-- loop.example.g00597.laws.markRedacted -/
theorem M33_ok : MeetsM Try.prog 33 M33 := by
  refine meetsM_of_vc (C := mkCM 26 [4] [0,1,2,4] [] [⟨32, _, M32_ok⟩, ⟨99, _, M99_ok⟩, ⟨100, _, M100_ok⟩, ⟨101, _, M101_ok⟩] [] [0]) (mkCM_ok _ _ _ _ _ _ _) (fnOf_ok _) Try.func33 rfl rfl rfl (by decide) rfl rfl rfl rfl ?_
  rintro a0 (a1 : Int) hwf hin hpre ⟨P, C, B, X, w0, M0, pv⟩ hG rfl rfl
  show Vc _ _ [(0, ⟨0, 0, .c (.pair (.pure (.int .i64)) (.pair (.own (.pure (.int .i64))) (.pair (.own (.pure (.bool))) (.pair (.own (.pure (.str))) (.pair (.own (.pure (.int .i64))) (.own (.own (.pure (.int .i64))))))))) a0⟩), (1, ⟨0, 0, .c (.pure (.int .i64)) a1⟩)] _
  have hp0 : 0 ≤ a1 := hpre.1
  have hp1 : a1 + ((cellsV (.pair (.int .i64) (.pair (.slice (.int .i64)) (.pair (.slice (.bool)) (.pair (.slice (.str)) (.pair (.slice (.int .i64)) (.slice (.slice (.int .i64)))))))) a0 : Nat) : Int) ≤ bnd := hpre.2
  have hc : ((cellsV (.pair (.int .i64) (.pair (.slice (.int .i64)) (.pair (.slice (.bool)) (.pair (.slice (.str)) (.pair (.slice (.int .i64)) (.slice (.slice (.int .i64)))))))) a0 : Nat) : Int) = ((cellsC (.slice (.int .i64)) a0.2.1 : Nat) : Int) + ((cellsC (.slice (.bool)) a0.2.2.1 : Nat) : Int) + ((cellsC (.slice (.str)) a0.2.2.2.1 : Nat) : Int) + ((cellsC (.slice (.int .i64)) a0.2.2.2.2.1 : Nat) : Int) + ((cellsC (.slice (.slice (.int .i64))) a0.2.2.2.2.2 : Nat) : Int) := by
    show (((0 + (cellsC (.slice (.int .i64)) a0.2.1 + (cellsC (.slice (.bool)) a0.2.2.1 + (cellsC (.slice (.str)) a0.2.2.2.1 + (cellsC (.slice (.int .i64)) a0.2.2.2.2.1 + cellsC (.slice (.slice (.int .i64))) a0.2.2.2.2.2))))) : Nat) : Int) = _
    omega
  refine Vc.seq ?_
  refine Vc.region hG rfl ?_ ?_
  · trivial
  refine Vc.seq ?_
  refine Vc.region hG rfl ?_ ?_
  · exact (show markPre (.slice (.int .i64)) a0.2.1 (a1) from ⟨by omega, by omega⟩)
  refine Vc.seq ?_
  refine Vc.region hG rfl ?_ ?_
  · have ce0 := cntF_eq (.slice (.int .i64)) a0.2.1 (a1)
    exact (show markPre (.slice (.bool)) a0.2.2.1 (cntF (.slice (.int .i64)) a0.2.1 (a1)) from ⟨by omega, by omega⟩)
  refine Vc.seq ?_
  refine Vc.region hG rfl ?_ ?_
  · have ce0 := cntF_eq (.slice (.int .i64)) a0.2.1 (a1)
    have ce1 := cntF_eq (.slice (.bool)) a0.2.2.1 (cntF (.slice (.int .i64)) a0.2.1 (a1))
    exact (show markPre (.slice (.str)) a0.2.2.2.1 (cntF (.slice (.bool)) a0.2.2.1 (cntF (.slice (.int .i64)) a0.2.1 (a1))) from ⟨by omega, by omega⟩)
  refine Vc.seq ?_
  refine Vc.region hG rfl ?_ ?_
  · have ce0 := cntF_eq (.slice (.int .i64)) a0.2.1 (a1)
    have ce1 := cntF_eq (.slice (.bool)) a0.2.2.1 (cntF (.slice (.int .i64)) a0.2.1 (a1))
    have ce2 := cntF_eq (.slice (.str)) a0.2.2.2.1 (cntF (.slice (.bool)) a0.2.2.1 (cntF (.slice (.int .i64)) a0.2.1 (a1)))
    exact (show markPre (.slice (.int .i64)) a0.2.2.2.2.1 (cntF (.slice (.str)) a0.2.2.2.1 (cntF (.slice (.bool)) a0.2.2.1 (cntF (.slice (.int .i64)) a0.2.1 (a1)))) from ⟨by omega, by omega⟩)
  refine Vc.seq ?_
  refine Vc.region hG rfl ?_ ?_
  · have ce0 := cntF_eq (.slice (.int .i64)) a0.2.1 (a1)
    have ce1 := cntF_eq (.slice (.bool)) a0.2.2.1 (cntF (.slice (.int .i64)) a0.2.1 (a1))
    have ce2 := cntF_eq (.slice (.str)) a0.2.2.2.1 (cntF (.slice (.bool)) a0.2.2.1 (cntF (.slice (.int .i64)) a0.2.1 (a1)))
    have ce3 := cntF_eq (.slice (.int .i64)) a0.2.2.2.2.1 (cntF (.slice (.str)) a0.2.2.2.1 (cntF (.slice (.bool)) a0.2.2.1 (cntF (.slice (.int .i64)) a0.2.1 (a1))))
    exact (show markPre (.slice (.slice (.int .i64))) a0.2.2.2.2.2 (cntF (.slice (.int .i64)) a0.2.2.2.2.1 (cntF (.slice (.str)) a0.2.2.2.1 (cntF (.slice (.bool)) a0.2.2.1 (cntF (.slice (.int .i64)) a0.2.1 (a1))))) from ⟨by omega, by omega⟩)
  refine Vc.seq ?_
  refine Vc.region hG rfl ?_ ?_
  · trivial
  refine Vc.ret ?_
  have ce0 := cntF_eq (.slice (.int .i64)) a0.2.1 (a1)
  have ce1 := cntF_eq (.slice (.bool)) a0.2.2.1 (cntF (.slice (.int .i64)) a0.2.1 (a1))
  have ce2 := cntF_eq (.slice (.str)) a0.2.2.2.1 (cntF (.slice (.bool)) a0.2.2.1 (cntF (.slice (.int .i64)) a0.2.1 (a1)))
  have ce3 := cntF_eq (.slice (.int .i64)) a0.2.2.2.2.1 (cntF (.slice (.str)) a0.2.2.2.1 (cntF (.slice (.bool)) a0.2.2.1 (cntF (.slice (.int .i64)) a0.2.1 (a1))))
  have ce4 := cntF_eq (.slice (.slice (.int .i64))) a0.2.2.2.2.2 (cntF (.slice (.int .i64)) a0.2.2.2.2.1 (cntF (.slice (.str)) a0.2.2.2.1 (cntF (.slice (.bool)) a0.2.2.1 (cntF (.slice (.int .i64)) a0.2.1 (a1)))))
  refine ⟨?_, ?_, trivial⟩
  · show cntF (.slice (.slice (.int .i64))) a0.2.2.2.2.2 (cntF (.slice (.int .i64)) a0.2.2.2.2.1 (cntF (.slice (.str)) a0.2.2.2.1 (cntF (.slice (.bool)) a0.2.2.1 (cntF (.slice (.int .i64)) a0.2.1 (a1))))) = cntV (.pair (.int .i64) (.pair (.slice (.int .i64)) (.pair (.slice (.bool)) (.pair (.slice (.str)) (.pair (.slice (.int .i64)) (.slice (.slice (.int .i64)))))))) a0 a1
    rw [cntV_eq (.pair (.int .i64) (.pair (.slice (.int .i64)) (.pair (.slice (.bool)) (.pair (.slice (.str)) (.pair (.slice (.int .i64)) (.slice (.slice (.int .i64)))))))) a0 a1]
    omega
  · exact (Prod.ext rfl (Prod.ext (congrArg (markC (.slice (.int .i64)) a0.2.1) (show a1 = a1 + ((0 : Nat) : Int) from by omega)) (Prod.ext (congrArg (markC (.slice (.bool)) a0.2.2.1) (show cntF (.slice (.int .i64)) a0.2.1 (a1) = a1 + ((0 : Nat) : Int) + ((cellsC (.slice (.int .i64)) a0.2.1 : Nat) : Int) from by omega)) (Prod.ext (congrArg (markC (.slice (.str)) a0.2.2.2.1) (show cntF (.slice (.bool)) a0.2.2.1 (cntF (.slice (.int .i64)) a0.2.1 (a1)) = a1 + ((0 : Nat) : Int) + ((cellsC (.slice (.int .i64)) a0.2.1 : Nat) : Int) + ((cellsC (.slice (.bool)) a0.2.2.1 : Nat) : Int) from by omega)) (Prod.ext (congrArg (markC (.slice (.int .i64)) a0.2.2.2.2.1) (show cntF (.slice (.str)) a0.2.2.2.1 (cntF (.slice (.bool)) a0.2.2.1 (cntF (.slice (.int .i64)) a0.2.1 (a1))) = a1 + ((0 : Nat) : Int) + ((cellsC (.slice (.int .i64)) a0.2.1 : Nat) : Int) + ((cellsC (.slice (.bool)) a0.2.2.1 : Nat) : Int) + ((cellsC (.slice (.str)) a0.2.2.2.1 : Nat) : Int) from by omega)) (congrArg (markC (.slice (.slice (.int .i64))) a0.2.2.2.2.2) (show cntF (.slice (.int .i64)) a0.2.2.2.2.1 (cntF (.slice (.str)) a0.2.2.2.1 (cntF (.slice (.bool)) a0.2.2.1 (cntF (.slice (.int .i64)) a0.2.1 (a1)))) = a1 + ((0 : Nat) : Int) + ((cellsC (.slice (.int .i64)) a0.2.1 : Nat) : Int) + ((cellsC (.slice (.bool)) a0.2.2.1 : Nat) : Int) + ((cellsC (.slice (.str)) a0.2.2.2.1 : Nat) : Int) + ((cellsC (.slice (.int .i64)) a0.2.2.2.2.1 : Nat) : Int) from by omega)))))))
noncomputable def F58 : Fun := ⟨[.slice (.int .i64), .int .i64], [.pure (.int .i64)], fun x => (fun a0 a1 => markPre (.slice (.int .i64)) a0 a1) x.1 x.2.1, fun x => ((fun a0 a1 => heldF (.slice (.int .i64)) a0 a1) x.1 x.2.1, ())⟩
set_option maxRecDepth 100000 in
set_option maxHeartbeats 6000000 in
/-- loop.example.g00597.laws.heldIntS -/
theorem F58_ok : Meets Try.prog 58 F58 := by
  refine meets_of_vc (C := mkC 21 [4] [0,1,4,5,9,17] []) (mkC_ok _ _ _ _) (fnOf_ok _) Try.func58 rfl rfl rfl (by decide) rfl ?_
  rintro ⟨a0, (a1 : Int), _⟩ hwf hpre ⟨P, C, B, X, w0, M0, pv⟩ hG rfl rfl
  show Vc _ _ [(0, ⟨0, 0, .c (.pure (.slice (.int .i64))) a0⟩), (1, ⟨0, 0, .c (.pure (.int .i64)) a1⟩)] _
  have hb : List.length a0 ≤ bigLen := hwf.1.1
  have hp0 : 0 ≤ a1 := hpre.1
  have hp1 : a1 + ((cellsL (cellsC (.int .i64)) a0 : Nat) : Int) ≤ bnd := hpre.2
  refine Vc.seq ?_
  refine Vc.region hG rfl ?_ ?_
  · trivial
  refine Vc.seq ?_
  refine Vc.seq ?_
  refine Vc.region hG rfl ?_ ?_
  · trivial
  refine Vc.block ?_
  -- slots [1, 5]; frame [0]
  refine Vc.loopF [(1, false, .pure (.int .i64)), (5, false, .pure (.int .i64))] [0] (fun v => hdInv (cellsC (.int .i64)) (okC (.int .i64)) a0 a1 v.1 v.2.1) (fun v => ((List.length a0 : Int) - v.2.1).toNat) rfl ?_ ?_
  · exact hdStart
  rintro ⟨(k : Int), (i : Int), _⟩ hI
  have hI : hdInv (cellsC (.int .i64)) (okC (.int .i64)) a0 a1 k i := hI
  refine Vc.seq ?_
  refine Vc.seq ?_
  refine Vc.region hG rfl ?_ ?_
  · trivial
  refine Vc.cond rfl (fun h0 => ?_) (fun h0 => ?_)
  · skip
    have hl : i < (List.length a0 : Int) := of_decide_eq_true h0
    have hk := hdBound hI hl (dflt (.int .i64)) hp0 hp1
    generalize hX : List.getD a0 i.toNat (dflt (.int .i64)) = X at hk
    have hk : 0 ≤ k ∧ k + ((1 : Nat) : Int) ≤ bnd := hk
    have w0 : IntKind.i64.wrap (k + 1) = k + 1 := wrapB (by omega) (by omega)
    refine Vc.skip ?_
    refine Vc.seq ?_
    refine Vc.block ?_
    refine Vc.seq ?_
    refine Vc.seq ?_
    refine Vc.region hG rfl ?_ ?_
    · exact hdRange hI hl
    refine Vc.cond rfl (fun h1 => ?_) (fun h1 => ?_)
    · skip
      have g1 : okC (.int .i64) X (k) = false := by
        have h : ((List.getD a0 i.toNat (dflt (.int .i64))) != k) = true := h1
        try simp only [hX, w0] at h
        exact ok_ne h
      refine Vc.seq ?_
      refine Vc.region hG rfl ?_ ?_
      · trivial
      refine Vc.ret ?_
      refine ⟨?_, trivial⟩
      refine hdNo hI hl (dflt (.int .i64)) ?_
      rw [hX]
      show okC (.int .i64) X (k) = false
      simp only [g1, Bool.and_false, Bool.false_and, Bool.and_true, Bool.true_and]
    · skip
      have g1 : okC (.int .i64) X (k) = true := by
        have h : ((List.getD a0 i.toNat (dflt (.int .i64))) != k) = false := h1
        try simp only [hX, w0] at h
        exact ok_eq h
      refine Vc.skip ?_
      refine Vc.region hG rfl ?_ ?_
      · trivial
      refine Vc.region hG rfl ?_ ?_
      · trivial
      refine ⟨rfl, ?_⟩
      refine hdStep hI hl hb (dflt (.int .i64)) ?_ ?_
      · rw [hX]
        show okC (.int .i64) X (k) = true
        simp only [g1, Bool.and_true]
      · show IntKind.i64.wrap (k + 1) = k + ((cellsC (.int .i64) (List.getD a0 i.toNat (dflt (.int .i64))) : Nat) : Int)
        rw [hX]
        show _ = k + ((1 : Nat) : Int)
        try simp only [hX, w0]
        try omega
  · skip
    have hl : ¬ i < (List.length a0 : Int) := of_decide_eq_false h0
    refine Vc.exit ?_
    refine Vc.seq ?_
    refine Vc.region hG rfl ?_ ?_
    · trivial
    refine Vc.ret ?_
    refine ⟨?_, trivial⟩
    exact hdEnd hI hl
noncomputable def F102 : Fun := ⟨[.slice (.bool), .int .i64], [.pure (.int .i64)], fun x => (fun a0 a1 => markPre (.slice (.bool)) a0 a1) x.1 x.2.1, fun x => ((fun a0 a1 => heldF (.slice (.bool)) a0 a1) x.1 x.2.1, ())⟩
set_option maxRecDepth 100000 in
set_option maxHeartbeats 6000000 in
/-- loop.example.g00597.laws.heldBoolS -/
theorem F102_ok : Meets Try.prog 102 F102 := by
  refine meets_of_vc (C := mkC 23 [4] [0,1,4,5,9,19] []) (mkC_ok _ _ _ _) (fnOf_ok _) Try.func102 rfl rfl rfl (by decide) rfl ?_
  rintro ⟨a0, (a1 : Int), _⟩ hwf hpre ⟨P, C, B, X, w0, M0, pv⟩ hG rfl rfl
  show Vc _ _ [(0, ⟨0, 0, .c (.pure (.slice (.bool))) a0⟩), (1, ⟨0, 0, .c (.pure (.int .i64)) a1⟩)] _
  have hb : List.length a0 ≤ bigLen := hwf.1.1
  have hp0 : 0 ≤ a1 := hpre.1
  have hp1 : a1 + ((cellsL (cellsC (.bool)) a0 : Nat) : Int) ≤ bnd := hpre.2
  refine Vc.seq ?_
  refine Vc.region hG rfl ?_ ?_
  · trivial
  refine Vc.seq ?_
  refine Vc.seq ?_
  refine Vc.region hG rfl ?_ ?_
  · trivial
  refine Vc.block ?_
  -- slots [1, 5]; frame [0]
  refine Vc.loopF [(1, false, .pure (.int .i64)), (5, false, .pure (.int .i64))] [0] (fun v => hdInv (cellsC (.bool)) (okC (.bool)) a0 a1 v.1 v.2.1) (fun v => ((List.length a0 : Int) - v.2.1).toNat) rfl ?_ ?_
  · exact hdStart
  rintro ⟨(k : Int), (i : Int), _⟩ hI
  have hI : hdInv (cellsC (.bool)) (okC (.bool)) a0 a1 k i := hI
  refine Vc.seq ?_
  refine Vc.seq ?_
  refine Vc.region hG rfl ?_ ?_
  · trivial
  refine Vc.cond rfl (fun h0 => ?_) (fun h0 => ?_)
  · skip
    have hl : i < (List.length a0 : Int) := of_decide_eq_true h0
    have hk := hdBound hI hl (dflt (.bool)) hp0 hp1
    generalize hX : List.getD a0 i.toNat (dflt (.bool)) = X at hk
    have hk : 0 ≤ k ∧ k + ((1 : Nat) : Int) ≤ bnd := hk
    have w0 : IntKind.i64.wrap (k + 1) = k + 1 := wrapB (by omega) (by omega)
    refine Vc.skip ?_
    refine Vc.seq ?_
    refine Vc.block ?_
    refine Vc.seq ?_
    refine Vc.seq ?_
    refine Vc.region hG rfl ?_ ?_
    · exact ⟨hdRange hI hl, (show (3 : Int) ≠ 0 by decide)⟩
    refine Vc.cond rfl (fun h1 => ?_) (fun h1 => ?_)
    · skip
      have g1 : okC (.bool) X (k) = false := by
        have h : ((List.getD a0 i.toNat (dflt (.bool))) != ((k).tmod 3 == 0)) = true := h1
        try simp only [hX, w0] at h
        exact ok_ne h
      refine Vc.seq ?_
      refine Vc.region hG rfl ?_ ?_
      · trivial
      refine Vc.ret ?_
      refine ⟨?_, trivial⟩
      refine hdNo hI hl (dflt (.bool)) ?_
      rw [hX]
      show okC (.bool) X (k) = false
      simp only [g1, Bool.and_false, Bool.false_and, Bool.and_true, Bool.true_and]
    · skip
      have g1 : okC (.bool) X (k) = true := by
        have h : ((List.getD a0 i.toNat (dflt (.bool))) != ((k).tmod 3 == 0)) = false := h1
        try simp only [hX, w0] at h
        exact ok_eq h
      refine Vc.skip ?_
      refine Vc.region hG rfl ?_ ?_
      · trivial
      refine Vc.region hG rfl ?_ ?_
      · trivial
      refine ⟨rfl, ?_⟩
      refine hdStep hI hl hb (dflt (.bool)) ?_ ?_
      · rw [hX]
        show okC (.bool) X (k) = true
        simp only [g1, Bool.and_true]
      · show IntKind.i64.wrap (k + 1) = k + ((cellsC (.bool) (List.getD a0 i.toNat (dflt (.bool))) : Nat) : Int)
        rw [hX]
        show _ = k + ((1 : Nat) : Int)
        try simp only [hX, w0]
        try omega
  · skip
    have hl : ¬ i < (List.length a0 : Int) := of_decide_eq_false h0
    refine Vc.exit ?_
    refine Vc.seq ?_
    refine Vc.region hG rfl ?_ ?_
    · trivial
    refine Vc.ret ?_
    refine ⟨?_, trivial⟩
    exact hdEnd hI hl
noncomputable def F103 : Fun := ⟨[.slice (.str), .int .i64], [.pure (.int .i64)], fun x => (fun a0 a1 => markPre (.slice (.str)) a0 a1) x.1 x.2.1, fun x => ((fun a0 a1 => heldF (.slice (.str)) a0 a1) x.1 x.2.1, ())⟩
set_option maxRecDepth 100000 in
set_option maxHeartbeats 6000000 in
/-- loop.example.g00597.laws.heldStringS -/
theorem F103_ok : Meets Try.prog 103 F103 := by
  refine meets_of_vc (C := mkC 22 [4] [0,1,4,5,9,18] [⟨156, _, F156_ok⟩]) (mkC_ok _ _ _ _) (fnOf_ok _) Try.func103 rfl rfl rfl (by decide) rfl ?_
  rintro ⟨a0, (a1 : Int), _⟩ hwf hpre ⟨P, C, B, X, w0, M0, pv⟩ hG rfl rfl
  show Vc _ _ [(0, ⟨0, 0, .c (.pure (.slice (.str))) a0⟩), (1, ⟨0, 0, .c (.pure (.int .i64)) a1⟩)] _
  have hb : List.length a0 ≤ bigLen := hwf.1.1
  have hp0 : 0 ≤ a1 := hpre.1
  have hp1 : a1 + ((cellsL (cellsC (.str)) a0 : Nat) : Int) ≤ bnd := hpre.2
  refine Vc.seq ?_
  refine Vc.region hG rfl ?_ ?_
  · trivial
  refine Vc.seq ?_
  refine Vc.seq ?_
  refine Vc.region hG rfl ?_ ?_
  · trivial
  refine Vc.block ?_
  -- slots [1, 5]; frame [0]
  refine Vc.loopF [(1, false, .pure (.int .i64)), (5, false, .pure (.int .i64))] [0] (fun v => hdInv (cellsC (.str)) (okC (.str)) a0 a1 v.1 v.2.1) (fun v => ((List.length a0 : Int) - v.2.1).toNat) rfl ?_ ?_
  · exact hdStart
  rintro ⟨(k : Int), (i : Int), _⟩ hI
  have hI : hdInv (cellsC (.str)) (okC (.str)) a0 a1 k i := hI
  refine Vc.seq ?_
  refine Vc.seq ?_
  refine Vc.region hG rfl ?_ ?_
  · trivial
  refine Vc.cond rfl (fun h0 => ?_) (fun h0 => ?_)
  · skip
    have hl : i < (List.length a0 : Int) := of_decide_eq_true h0
    have hk := hdBound hI hl (dflt (.str)) hp0 hp1
    generalize hX : List.getD a0 i.toNat (dflt (.str)) = X at hk
    have hk : 0 ≤ k ∧ k + ((1 : Nat) : Int) ≤ bnd := hk
    have w0 : IntKind.i64.wrap (k + 1) = k + 1 := wrapB (by omega) (by omega)
    refine Vc.skip ?_
    refine Vc.seq ?_
    refine Vc.block ?_
    refine Vc.seq ?_
    refine Vc.seq ?_
    refine Vc.regionD mixed hG rfl (by kernel_rfl) ?_ ?_
    · exact ⟨hdRange hI hl, trivial⟩
    refine Vc.cond rfl (fun h1 => ?_) (fun h1 => ?_)
    · skip
      have g1 : okC (.str) X (k) = false := by
        have h : ((List.getD a0 i.toNat (dflt (.str))) != textF (k)) = true := h1
        try simp only [hX, w0] at h
        exact ok_ne h
      refine Vc.seq ?_
      refine Vc.region hG rfl ?_ ?_
      · trivial
      refine Vc.ret ?_
      refine ⟨?_, trivial⟩
      refine hdNo hI hl (dflt (.str)) ?_
      rw [hX]
      show okC (.str) X (k) = false
      simp only [g1, Bool.and_false, Bool.false_and, Bool.and_true, Bool.true_and]
    · skip
      have g1 : okC (.str) X (k) = true := by
        have h : ((List.getD a0 i.toNat (dflt (.str))) != textF (k)) = false := h1
        try simp only [hX, w0] at h
        exact ok_eq h
      refine Vc.skip ?_
      refine Vc.region hG rfl ?_ ?_
      · trivial
      refine Vc.region hG rfl ?_ ?_
      · trivial
      refine ⟨rfl, ?_⟩
      refine hdStep hI hl hb (dflt (.str)) ?_ ?_
      · rw [hX]
        show okC (.str) X (k) = true
        simp only [g1, Bool.and_true]
      · show IntKind.i64.wrap (k + 1) = k + ((cellsC (.str) (List.getD a0 i.toNat (dflt (.str))) : Nat) : Int)
        rw [hX]
        show _ = k + ((1 : Nat) : Int)
        try simp only [hX, w0]
        try omega
  · skip
    have hl : ¬ i < (List.length a0 : Int) := of_decide_eq_false h0
    refine Vc.exit ?_
    refine Vc.seq ?_
    refine Vc.region hG rfl ?_ ?_
    · trivial
    refine Vc.ret ?_
    refine ⟨?_, trivial⟩
    exact hdEnd hI hl
noncomputable def F104 : Fun := ⟨[.slice (.slice (.int .i64)), .int .i64], [.pure (.int .i64)], fun x => (fun a0 a1 => markPre (.slice (.slice (.int .i64))) a0 a1) x.1 x.2.1, fun x => ((fun a0 a1 => heldF (.slice (.slice (.int .i64))) a0 a1) x.1 x.2.1, ())⟩
set_option maxRecDepth 100000 in
set_option maxHeartbeats 6000000 in
/-- loop.example.g00597.laws.heldIntSS -/
theorem F104_ok : Meets Try.prog 104 F104 := by
  refine meets_of_vc (C := mkC 21 [4] [0,1,4,5,9,19] [⟨58, _, F58_ok⟩]) (mkC_ok _ _ _ _) (fnOf_ok _) Try.func104 rfl rfl rfl (by decide) rfl ?_
  rintro ⟨a0, (a1 : Int), _⟩ hwf hpre ⟨P, C, B, X, w0, M0, pv⟩ hG rfl rfl
  show Vc _ _ [(0, ⟨0, 0, .c (.pure (.slice (.slice (.int .i64)))) a0⟩), (1, ⟨0, 0, .c (.pure (.int .i64)) a1⟩)] _
  have hb : List.length a0 ≤ bigLen := hwf.1.1
  have hp0 : 0 ≤ a1 := hpre.1
  have hp1 : a1 + ((cellsL (cellsC (.slice (.int .i64))) a0 : Nat) : Int) ≤ bnd := hpre.2
  refine Vc.seq ?_
  refine Vc.region hG rfl ?_ ?_
  · trivial
  refine Vc.seq ?_
  refine Vc.seq ?_
  refine Vc.region hG rfl ?_ ?_
  · trivial
  refine Vc.block ?_
  -- slots [1, 5]; frame [0]
  refine Vc.loopF [(1, false, .pure (.int .i64)), (5, false, .pure (.int .i64))] [0] (fun v => hdInv (cellsC (.slice (.int .i64))) (okC (.slice (.int .i64))) a0 a1 v.1 v.2.1) (fun v => ((List.length a0 : Int) - v.2.1).toNat) rfl ?_ ?_
  · exact hdStart
  rintro ⟨(k : Int), (i : Int), _⟩ hI
  have hI : hdInv (cellsC (.slice (.int .i64))) (okC (.slice (.int .i64))) a0 a1 k i := hI
  refine Vc.seq ?_
  refine Vc.seq ?_
  refine Vc.region hG rfl ?_ ?_
  · trivial
  refine Vc.cond rfl (fun h0 => ?_) (fun h0 => ?_)
  · skip
    have hl : i < (List.length a0 : Int) := of_decide_eq_true h0
    have hk := hdBound hI hl (dflt (.slice (.int .i64))) hp0 hp1
    generalize hX : List.getD a0 i.toNat (dflt (.slice (.int .i64))) = X at hk
    have hk : 0 ≤ k ∧ k + (((cellsC (.slice (.int .i64)) X) : Nat) : Int) ≤ bnd := hk
    refine Vc.skip ?_
    refine Vc.seq ?_
    refine Vc.block ?_
    refine Vc.seq ?_
    refine Vc.region hG rfl ?_ ?_
    · refine ⟨hdRange hI hl, ?_⟩
      show markPre (.slice (.int .i64)) (List.getD a0 i.toNat (dflt (.slice (.int .i64)))) (k)
      try simp only [hX]
      exact ⟨by omega, by omega⟩
    refine Vc.seq ?_
    refine Vc.region hG rfl ?_ ?_
    · trivial
    refine Vc.cond rfl (fun h1 => ?_) (fun h1 => ?_)
    · skip
      have q1 : 0 ≤ k := by omega
      have g1 : okC (.slice (.int .i64)) X (k) = false := held_neg q1 (by
        have h : heldF (.slice (.int .i64)) (List.getD a0 i.toNat (dflt (.slice (.int .i64)))) (k) < 0 := of_decide_eq_true h1
        try simp only [hX] at h
        exact h)
      refine Vc.seq ?_
      refine Vc.region hG rfl ?_ ?_
      · trivial
      refine Vc.ret ?_
      refine ⟨?_, trivial⟩
      refine hdNo hI hl (dflt (.slice (.int .i64))) ?_
      rw [hX]
      show okC (.slice (.int .i64)) X (k) = false
      simp only [g1, Bool.and_false, Bool.false_and, Bool.and_true, Bool.true_and]
    · skip
      have q1 : 0 ≤ k := by omega
      have n1 : ¬ heldF (.slice (.int .i64)) X (k) < 0 := by
        have h : ¬ heldF (.slice (.int .i64)) (List.getD a0 i.toNat (dflt (.slice (.int .i64)))) (k) < 0 := of_decide_eq_false h1
        try simp only [hX] at h
        exact h
      have g1 : okC (.slice (.int .i64)) X (k) = true := held_pos n1
      have u1 : heldF (.slice (.int .i64)) X (k) = k + ((cellsC (.slice (.int .i64)) X : Nat) : Int) := held_val n1
      refine Vc.skip ?_
      refine Vc.region hG rfl ?_ ?_
      · trivial
      refine ⟨rfl, ?_⟩
      refine hdStep hI hl hb (dflt (.slice (.int .i64))) ?_ ?_
      · rw [hX]
        show okC (.slice (.int .i64)) X (k) = true
        simp only [g1, Bool.and_true]
      · show heldF (.slice (.int .i64)) (List.getD a0 i.toNat (dflt (.slice (.int .i64)))) (k) = k + ((cellsC (.slice (.int .i64)) (List.getD a0 i.toNat (dflt (.slice (.int .i64)))) : Nat) : Int)
        rw [hX]
        show _ = k + (((cellsC (.slice (.int .i64)) X) : Nat) : Int)
        try simp only [hX, u1]
        try omega
  · skip
    have hl : ¬ i < (List.length a0 : Int) := of_decide_eq_false h0
    refine Vc.exit ?_
    refine Vc.seq ?_
    refine Vc.region hG rfl ?_ ?_
    · trivial
    refine Vc.ret ?_
    refine ⟨?_, trivial⟩
    exact hdEnd hI hl
noncomputable def F34 : Fun := ⟨[.pair (.int .i64) (.pair (.slice (.int .i64)) (.pair (.slice (.bool)) (.pair (.slice (.str)) (.pair (.slice (.int .i64)) (.slice (.slice (.int .i64))))))), .int .i64], [.pure (.int .i64)], fun x => (fun a0 a1 => markPreV (.pair (.int .i64) (.pair (.slice (.int .i64)) (.pair (.slice (.bool)) (.pair (.slice (.str)) (.pair (.slice (.int .i64)) (.slice (.slice (.int .i64)))))))) a0 a1) x.1 x.2.1, fun x => ((fun a0 a1 => heldVF (.pair (.int .i64) (.pair (.slice (.int .i64)) (.pair (.slice (.bool)) (.pair (.slice (.str)) (.pair (.slice (.int .i64)) (.slice (.slice (.int .i64)))))))) a0 a1) x.1 x.2.1, ())⟩
set_option maxRecDepth 100000 in
/-- loop.example.g00597.laws.heldRedacted -/
theorem F34_ok : Meets Try.prog 34 F34 := by
  refine meets_of_vc (C := mkC 36 [4] [0,1,2,4,10,16,22,28,34] [⟨58, _, F58_ok⟩, ⟨102, _, F102_ok⟩, ⟨103, _, F103_ok⟩, ⟨104, _, F104_ok⟩]) (mkC_ok _ _ _ _) (fnOf_ok _) Try.func34 rfl rfl rfl (by decide) rfl ?_
  rintro ⟨a0, (a1 : Int), _⟩ hwf hpre ⟨P, C, B, X, w0, M0, pv⟩ hG rfl rfl
  show Vc _ _ [(0, ⟨0, 0, .c (.pure (.pair (.int .i64) (.pair (.slice (.int .i64)) (.pair (.slice (.bool)) (.pair (.slice (.str)) (.pair (.slice (.int .i64)) (.slice (.slice (.int .i64))))))))) a0⟩), (1, ⟨0, 0, .c (.pure (.int .i64)) a1⟩)] _
  have hp0 : 0 ≤ a1 := hpre.1
  have hp1 : a1 + ((cellsV (.pair (.int .i64) (.pair (.slice (.int .i64)) (.pair (.slice (.bool)) (.pair (.slice (.str)) (.pair (.slice (.int .i64)) (.slice (.slice (.int .i64)))))))) a0 : Nat) : Int) ≤ bnd := hpre.2
  have hc : ((cellsV (.pair (.int .i64) (.pair (.slice (.int .i64)) (.pair (.slice (.bool)) (.pair (.slice (.str)) (.pair (.slice (.int .i64)) (.slice (.slice (.int .i64)))))))) a0 : Nat) : Int) = ((cellsC (.slice (.int .i64)) a0.2.1 : Nat) : Int) + ((cellsC (.slice (.bool)) a0.2.2.1 : Nat) : Int) + ((cellsC (.slice (.str)) a0.2.2.2.1 : Nat) : Int) + ((cellsC (.slice (.int .i64)) a0.2.2.2.2.1 : Nat) : Int) + ((cellsC (.slice (.slice (.int .i64))) a0.2.2.2.2.2 : Nat) : Int) := by
    show (((0 + (cellsC (.slice (.int .i64)) a0.2.1 + (cellsC (.slice (.bool)) a0.2.2.1 + (cellsC (.slice (.str)) a0.2.2.2.1 + (cellsC (.slice (.int .i64)) a0.2.2.2.2.1 + cellsC (.slice (.slice (.int .i64))) a0.2.2.2.2.2))))) : Nat) : Int) = _
    omega
  refine Vc.seq ?_
  refine Vc.region hG rfl ?_ ?_
  · trivial
  refine Vc.seq ?_
  refine Vc.region hG rfl ?_ ?_
  · show markPre (.slice (.int .i64)) a0.2.1 (a1)
    skip
    exact ⟨by omega, by omega⟩
  refine Vc.seq ?_
  refine Vc.seq ?_
  refine Vc.region hG rfl ?_ ?_
  · trivial
  refine Vc.cond rfl (fun h0 => ?_) (fun h0 => ?_)
  · skip
    have q0 : 0 ≤ a1 := by omega
    have z0 : a1 + ((0 : Nat) : Int) = a1 := by omega
    have g0 : okC (.slice (.int .i64)) a0.2.1 (a1) = false := held_neg q0 (by
      have h : heldF (.slice (.int .i64)) a0.2.1 (a1) < 0 := of_decide_eq_true h0
      exact h)
    refine Vc.seq ?_
    refine Vc.region hG rfl ?_ ?_
    · trivial
    refine Vc.ret ?_
    refine ⟨?_, trivial⟩
    show (-1 : Int) = heldVF (.pair (.int .i64) (.pair (.slice (.int .i64)) (.pair (.slice (.bool)) (.pair (.slice (.str)) (.pair (.slice (.int .i64)) (.slice (.slice (.int .i64)))))))) a0 a1
    unfold heldVF
    have f : okV (.pair (.int .i64) (.pair (.slice (.int .i64)) (.pair (.slice (.bool)) (.pair (.slice (.str)) (.pair (.slice (.int .i64)) (.slice (.slice (.int .i64)))))))) a0 a1 = false := by
      show (true && (okC (.slice (.int .i64)) a0.2.1 (a1 + ((0 : Nat) : Int)) && (okC (.slice (.bool)) a0.2.2.1 (a1 + ((0 : Nat) : Int) + ((cellsC (.slice (.int .i64)) a0.2.1 : Nat) : Int)) && (okC (.slice (.str)) a0.2.2.2.1 (a1 + ((0 : Nat) : Int) + ((cellsC (.slice (.int .i64)) a0.2.1 : Nat) : Int) + ((cellsC (.slice (.bool)) a0.2.2.1 : Nat) : Int)) && (okC (.slice (.int .i64)) a0.2.2.2.2.1 (a1 + ((0 : Nat) : Int) + ((cellsC (.slice (.int .i64)) a0.2.1 : Nat) : Int) + ((cellsC (.slice (.bool)) a0.2.2.1 : Nat) : Int) + ((cellsC (.slice (.str)) a0.2.2.2.1 : Nat) : Int)) && okC (.slice (.slice (.int .i64))) a0.2.2.2.2.2 (a1 + ((0 : Nat) : Int) + ((cellsC (.slice (.int .i64)) a0.2.1 : Nat) : Int) + ((cellsC (.slice (.bool)) a0.2.2.1 : Nat) : Int) + ((cellsC (.slice (.str)) a0.2.2.2.1 : Nat) : Int) + ((cellsC (.slice (.int .i64)) a0.2.2.2.2.1 : Nat) : Int))))))) = false
      simp only [z0, g0, Bool.and_false, Bool.false_and, Bool.and_true, Bool.true_and]
    rw [if_neg (by rw [f]; decide)]
  · skip
    have q0 : 0 ≤ a1 := by omega
    have z0 : a1 + ((0 : Nat) : Int) = a1 := by omega
    have n0 : ¬ heldF (.slice (.int .i64)) a0.2.1 (a1) < 0 := by
      have h : ¬ heldF (.slice (.int .i64)) a0.2.1 (a1) < 0 := of_decide_eq_false h0
      exact h
    have g0 : okC (.slice (.int .i64)) a0.2.1 (a1) = true := held_pos n0
    have u0 : heldF (.slice (.int .i64)) a0.2.1 (a1) = a1 + ((cellsC (.slice (.int .i64)) a0.2.1 : Nat) : Int) := held_val n0
    refine Vc.skip ?_
    refine Vc.seq ?_
    refine Vc.region hG rfl ?_ ?_
    · show markPre (.slice (.bool)) a0.2.2.1 (heldF (.slice (.int .i64)) a0.2.1 (a1))
      try simp only [u0]
      exact ⟨by omega, by omega⟩
    refine Vc.seq ?_
    refine Vc.seq ?_
    refine Vc.region hG rfl ?_ ?_
    · trivial
    refine Vc.cond rfl (fun h1 => ?_) (fun h1 => ?_)
    · skip
      have q1 : 0 ≤ a1 + ((cellsC (.slice (.int .i64)) a0.2.1 : Nat) : Int) := by omega
      have z1 : a1 + ((0 : Nat) : Int) + ((cellsC (.slice (.int .i64)) a0.2.1 : Nat) : Int) = a1 + ((cellsC (.slice (.int .i64)) a0.2.1 : Nat) : Int) := by omega
      have g1 : okC (.slice (.bool)) a0.2.2.1 (a1 + ((cellsC (.slice (.int .i64)) a0.2.1 : Nat) : Int)) = false := held_neg q1 (by
        have h : heldF (.slice (.bool)) a0.2.2.1 (heldF (.slice (.int .i64)) a0.2.1 (a1)) < 0 := of_decide_eq_true h1
        try simp only [u0] at h
        exact h)
      refine Vc.seq ?_
      refine Vc.region hG rfl ?_ ?_
      · trivial
      refine Vc.ret ?_
      refine ⟨?_, trivial⟩
      show (-1 : Int) = heldVF (.pair (.int .i64) (.pair (.slice (.int .i64)) (.pair (.slice (.bool)) (.pair (.slice (.str)) (.pair (.slice (.int .i64)) (.slice (.slice (.int .i64)))))))) a0 a1
      unfold heldVF
      have f : okV (.pair (.int .i64) (.pair (.slice (.int .i64)) (.pair (.slice (.bool)) (.pair (.slice (.str)) (.pair (.slice (.int .i64)) (.slice (.slice (.int .i64)))))))) a0 a1 = false := by
        show (true && (okC (.slice (.int .i64)) a0.2.1 (a1 + ((0 : Nat) : Int)) && (okC (.slice (.bool)) a0.2.2.1 (a1 + ((0 : Nat) : Int) + ((cellsC (.slice (.int .i64)) a0.2.1 : Nat) : Int)) && (okC (.slice (.str)) a0.2.2.2.1 (a1 + ((0 : Nat) : Int) + ((cellsC (.slice (.int .i64)) a0.2.1 : Nat) : Int) + ((cellsC (.slice (.bool)) a0.2.2.1 : Nat) : Int)) && (okC (.slice (.int .i64)) a0.2.2.2.2.1 (a1 + ((0 : Nat) : Int) + ((cellsC (.slice (.int .i64)) a0.2.1 : Nat) : Int) + ((cellsC (.slice (.bool)) a0.2.2.1 : Nat) : Int) + ((cellsC (.slice (.str)) a0.2.2.2.1 : Nat) : Int)) && okC (.slice (.slice (.int .i64))) a0.2.2.2.2.2 (a1 + ((0 : Nat) : Int) + ((cellsC (.slice (.int .i64)) a0.2.1 : Nat) : Int) + ((cellsC (.slice (.bool)) a0.2.2.1 : Nat) : Int) + ((cellsC (.slice (.str)) a0.2.2.2.1 : Nat) : Int) + ((cellsC (.slice (.int .i64)) a0.2.2.2.2.1 : Nat) : Int))))))) = false
        simp only [z0, z1, g0, g1, Bool.and_false, Bool.false_and, Bool.and_true, Bool.true_and]
      rw [if_neg (by rw [f]; decide)]
    · skip
      have q1 : 0 ≤ a1 + ((cellsC (.slice (.int .i64)) a0.2.1 : Nat) : Int) := by omega
      have z1 : a1 + ((0 : Nat) : Int) + ((cellsC (.slice (.int .i64)) a0.2.1 : Nat) : Int) = a1 + ((cellsC (.slice (.int .i64)) a0.2.1 : Nat) : Int) := by omega
      have n1 : ¬ heldF (.slice (.bool)) a0.2.2.1 (a1 + ((cellsC (.slice (.int .i64)) a0.2.1 : Nat) : Int)) < 0 := by
        have h : ¬ heldF (.slice (.bool)) a0.2.2.1 (heldF (.slice (.int .i64)) a0.2.1 (a1)) < 0 := of_decide_eq_false h1
        try simp only [u0] at h
        exact h
      have g1 : okC (.slice (.bool)) a0.2.2.1 (a1 + ((cellsC (.slice (.int .i64)) a0.2.1 : Nat) : Int)) = true := held_pos n1
      have u1 : heldF (.slice (.bool)) a0.2.2.1 (a1 + ((cellsC (.slice (.int .i64)) a0.2.1 : Nat) : Int)) = a1 + ((cellsC (.slice (.int .i64)) a0.2.1 : Nat) : Int) + ((cellsC (.slice (.bool)) a0.2.2.1 : Nat) : Int) := held_val n1
      refine Vc.skip ?_
      refine Vc.seq ?_
      refine Vc.region hG rfl ?_ ?_
      · show markPre (.slice (.str)) a0.2.2.2.1 (heldF (.slice (.bool)) a0.2.2.1 (heldF (.slice (.int .i64)) a0.2.1 (a1)))
        try simp only [u0, u1]
        exact ⟨by omega, by omega⟩
      refine Vc.seq ?_
      refine Vc.seq ?_
      refine Vc.region hG rfl ?_ ?_
      · trivial
      refine Vc.cond rfl (fun h2 => ?_) (fun h2 => ?_)
      · skip
        have q2 : 0 ≤ a1 + ((cellsC (.slice (.int .i64)) a0.2.1 : Nat) : Int) + ((cellsC (.slice (.bool)) a0.2.2.1 : Nat) : Int) := by omega
        have z2 : a1 + ((0 : Nat) : Int) + ((cellsC (.slice (.int .i64)) a0.2.1 : Nat) : Int) + ((cellsC (.slice (.bool)) a0.2.2.1 : Nat) : Int) = a1 + ((cellsC (.slice (.int .i64)) a0.2.1 : Nat) : Int) + ((cellsC (.slice (.bool)) a0.2.2.1 : Nat) : Int) := by omega
        have g2 : okC (.slice (.str)) a0.2.2.2.1 (a1 + ((cellsC (.slice (.int .i64)) a0.2.1 : Nat) : Int) + ((cellsC (.slice (.bool)) a0.2.2.1 : Nat) : Int)) = false := held_neg q2 (by
          have h : heldF (.slice (.str)) a0.2.2.2.1 (heldF (.slice (.bool)) a0.2.2.1 (heldF (.slice (.int .i64)) a0.2.1 (a1))) < 0 := of_decide_eq_true h2
          try simp only [u0, u1] at h
          exact h)
        refine Vc.seq ?_
        refine Vc.region hG rfl ?_ ?_
        · trivial
        refine Vc.ret ?_
        refine ⟨?_, trivial⟩
        show (-1 : Int) = heldVF (.pair (.int .i64) (.pair (.slice (.int .i64)) (.pair (.slice (.bool)) (.pair (.slice (.str)) (.pair (.slice (.int .i64)) (.slice (.slice (.int .i64)))))))) a0 a1
        unfold heldVF
        have f : okV (.pair (.int .i64) (.pair (.slice (.int .i64)) (.pair (.slice (.bool)) (.pair (.slice (.str)) (.pair (.slice (.int .i64)) (.slice (.slice (.int .i64)))))))) a0 a1 = false := by
          show (true && (okC (.slice (.int .i64)) a0.2.1 (a1 + ((0 : Nat) : Int)) && (okC (.slice (.bool)) a0.2.2.1 (a1 + ((0 : Nat) : Int) + ((cellsC (.slice (.int .i64)) a0.2.1 : Nat) : Int)) && (okC (.slice (.str)) a0.2.2.2.1 (a1 + ((0 : Nat) : Int) + ((cellsC (.slice (.int .i64)) a0.2.1 : Nat) : Int) + ((cellsC (.slice (.bool)) a0.2.2.1 : Nat) : Int)) && (okC (.slice (.int .i64)) a0.2.2.2.2.1 (a1 + ((0 : Nat) : Int) + ((cellsC (.slice (.int .i64)) a0.2.1 : Nat) : Int) + ((cellsC (.slice (.bool)) a0.2.2.1 : Nat) : Int) + ((cellsC (.slice (.str)) a0.2.2.2.1 : Nat) : Int)) && okC (.slice (.slice (.int .i64))) a0.2.2.2.2.2 (a1 + ((0 : Nat) : Int) + ((cellsC (.slice (.int .i64)) a0.2.1 : Nat) : Int) + ((cellsC (.slice (.bool)) a0.2.2.1 : Nat) : Int) + ((cellsC (.slice (.str)) a0.2.2.2.1 : Nat) : Int) + ((cellsC (.slice (.int .i64)) a0.2.2.2.2.1 : Nat) : Int))))))) = false
          simp only [z0, z1, z2, g0, g1, g2, Bool.and_false, Bool.false_and, Bool.and_true, Bool.true_and]
        rw [if_neg (by rw [f]; decide)]
      · skip
        have q2 : 0 ≤ a1 + ((cellsC (.slice (.int .i64)) a0.2.1 : Nat) : Int) + ((cellsC (.slice (.bool)) a0.2.2.1 : Nat) : Int) := by omega
        have z2 : a1 + ((0 : Nat) : Int) + ((cellsC (.slice (.int .i64)) a0.2.1 : Nat) : Int) + ((cellsC (.slice (.bool)) a0.2.2.1 : Nat) : Int) = a1 + ((cellsC (.slice (.int .i64)) a0.2.1 : Nat) : Int) + ((cellsC (.slice (.bool)) a0.2.2.1 : Nat) : Int) := by omega
        have n2 : ¬ heldF (.slice (.str)) a0.2.2.2.1 (a1 + ((cellsC (.slice (.int .i64)) a0.2.1 : Nat) : Int) + ((cellsC (.slice (.bool)) a0.2.2.1 : Nat) : Int)) < 0 := by
          have h : ¬ heldF (.slice (.str)) a0.2.2.2.1 (heldF (.slice (.bool)) a0.2.2.1 (heldF (.slice (.int .i64)) a0.2.1 (a1))) < 0 := of_decide_eq_false h2
          try simp only [u0, u1] at h
          exact h
        have g2 : okC (.slice (.str)) a0.2.2.2.1 (a1 + ((cellsC (.slice (.int .i64)) a0.2.1 : Nat) : Int) + ((cellsC (.slice (.bool)) a0.2.2.1 : Nat) : Int)) = true := held_pos n2
        have u2 : heldF (.slice (.str)) a0.2.2.2.1 (a1 + ((cellsC (.slice (.int .i64)) a0.2.1 : Nat) : Int) + ((cellsC (.slice (.bool)) a0.2.2.1 : Nat) : Int)) = a1 + ((cellsC (.slice (.int .i64)) a0.2.1 : Nat) : Int) + ((cellsC (.slice (.bool)) a0.2.2.1 : Nat) : Int) + ((cellsC (.slice (.str)) a0.2.2.2.1 : Nat) : Int) := held_val n2
        refine Vc.skip ?_
        refine Vc.seq ?_
        refine Vc.region hG rfl ?_ ?_
        · show markPre (.slice (.int .i64)) a0.2.2.2.2.1 (heldF (.slice (.str)) a0.2.2.2.1 (heldF (.slice (.bool)) a0.2.2.1 (heldF (.slice (.int .i64)) a0.2.1 (a1))))
          try simp only [u0, u1, u2]
          exact ⟨by omega, by omega⟩
        refine Vc.seq ?_
        refine Vc.seq ?_
        refine Vc.region hG rfl ?_ ?_
        · trivial
        refine Vc.cond rfl (fun h3 => ?_) (fun h3 => ?_)
        · skip
          have q3 : 0 ≤ a1 + ((cellsC (.slice (.int .i64)) a0.2.1 : Nat) : Int) + ((cellsC (.slice (.bool)) a0.2.2.1 : Nat) : Int) + ((cellsC (.slice (.str)) a0.2.2.2.1 : Nat) : Int) := by omega
          have z3 : a1 + ((0 : Nat) : Int) + ((cellsC (.slice (.int .i64)) a0.2.1 : Nat) : Int) + ((cellsC (.slice (.bool)) a0.2.2.1 : Nat) : Int) + ((cellsC (.slice (.str)) a0.2.2.2.1 : Nat) : Int) = a1 + ((cellsC (.slice (.int .i64)) a0.2.1 : Nat) : Int) + ((cellsC (.slice (.bool)) a0.2.2.1 : Nat) : Int) + ((cellsC (.slice (.str)) a0.2.2.2.1 : Nat) : Int) := by omega
          have g3 : okC (.slice (.int .i64)) a0.2.2.2.2.1 (a1 + ((cellsC (.slice (.int .i64)) a0.2.1 : Nat) : Int) + ((cellsC (.slice (.bool)) a0.2.2.1 : Nat) : Int) + ((cellsC (.slice (.str)) a0.2.2.2.1 : Nat) : Int)) = false := held_neg q3 (by
            have h : heldF (.slice (.int .i64)) a0.2.2.2.2.1 (heldF (.slice (.str)) a0.2.2.2.1 (heldF (.slice (.bool)) a0.2.2.1 (heldF (.slice (.int .i64)) a0.2.1 (a1)))) < 0 := of_decide_eq_true h3
            try simp only [u0, u1, u2] at h
            exact h)
          refine Vc.seq ?_
          refine Vc.region hG rfl ?_ ?_
          · trivial
          refine Vc.ret ?_
          refine ⟨?_, trivial⟩
          show (-1 : Int) = heldVF (.pair (.int .i64) (.pair (.slice (.int .i64)) (.pair (.slice (.bool)) (.pair (.slice (.str)) (.pair (.slice (.int .i64)) (.slice (.slice (.int .i64)))))))) a0 a1
          unfold heldVF
          have f : okV (.pair (.int .i64) (.pair (.slice (.int .i64)) (.pair (.slice (.bool)) (.pair (.slice (.str)) (.pair (.slice (.int .i64)) (.slice (.slice (.int .i64)))))))) a0 a1 = false := by
            show (true && (okC (.slice (.int .i64)) a0.2.1 (a1 + ((0 : Nat) : Int)) && (okC (.slice (.bool)) a0.2.2.1 (a1 + ((0 : Nat) : Int) + ((cellsC (.slice (.int .i64)) a0.2.1 : Nat) : Int)) && (okC (.slice (.str)) a0.2.2.2.1 (a1 + ((0 : Nat) : Int) + ((cellsC (.slice (.int .i64)) a0.2.1 : Nat) : Int) + ((cellsC (.slice (.bool)) a0.2.2.1 : Nat) : Int)) && (okC (.slice (.int .i64)) a0.2.2.2.2.1 (a1 + ((0 : Nat) : Int) + ((cellsC (.slice (.int .i64)) a0.2.1 : Nat) : Int) + ((cellsC (.slice (.bool)) a0.2.2.1 : Nat) : Int) + ((cellsC (.slice (.str)) a0.2.2.2.1 : Nat) : Int)) && okC (.slice (.slice (.int .i64))) a0.2.2.2.2.2 (a1 + ((0 : Nat) : Int) + ((cellsC (.slice (.int .i64)) a0.2.1 : Nat) : Int) + ((cellsC (.slice (.bool)) a0.2.2.1 : Nat) : Int) + ((cellsC (.slice (.str)) a0.2.2.2.1 : Nat) : Int) + ((cellsC (.slice (.int .i64)) a0.2.2.2.2.1 : Nat) : Int))))))) = false
            simp only [z0, z1, z2, z3, g0, g1, g2, g3, Bool.and_false, Bool.false_and, Bool.and_true, Bool.true_and]
          rw [if_neg (by rw [f]; decide)]
        · skip
          have q3 : 0 ≤ a1 + ((cellsC (.slice (.int .i64)) a0.2.1 : Nat) : Int) + ((cellsC (.slice (.bool)) a0.2.2.1 : Nat) : Int) + ((cellsC (.slice (.str)) a0.2.2.2.1 : Nat) : Int) := by omega
          have z3 : a1 + ((0 : Nat) : Int) + ((cellsC (.slice (.int .i64)) a0.2.1 : Nat) : Int) + ((cellsC (.slice (.bool)) a0.2.2.1 : Nat) : Int) + ((cellsC (.slice (.str)) a0.2.2.2.1 : Nat) : Int) = a1 + ((cellsC (.slice (.int .i64)) a0.2.1 : Nat) : Int) + ((cellsC (.slice (.bool)) a0.2.2.1 : Nat) : Int) + ((cellsC (.slice (.str)) a0.2.2.2.1 : Nat) : Int) := by omega
          have n3 : ¬ heldF (.slice (.int .i64)) a0.2.2.2.2.1 (a1 + ((cellsC (.slice (.int .i64)) a0.2.1 : Nat) : Int) + ((cellsC (.slice (.bool)) a0.2.2.1 : Nat) : Int) + ((cellsC (.slice (.str)) a0.2.2.2.1 : Nat) : Int)) < 0 := by
            have h : ¬ heldF (.slice (.int .i64)) a0.2.2.2.2.1 (heldF (.slice (.str)) a0.2.2.2.1 (heldF (.slice (.bool)) a0.2.2.1 (heldF (.slice (.int .i64)) a0.2.1 (a1)))) < 0 := of_decide_eq_false h3
            try simp only [u0, u1, u2] at h
            exact h
          have g3 : okC (.slice (.int .i64)) a0.2.2.2.2.1 (a1 + ((cellsC (.slice (.int .i64)) a0.2.1 : Nat) : Int) + ((cellsC (.slice (.bool)) a0.2.2.1 : Nat) : Int) + ((cellsC (.slice (.str)) a0.2.2.2.1 : Nat) : Int)) = true := held_pos n3
          have u3 : heldF (.slice (.int .i64)) a0.2.2.2.2.1 (a1 + ((cellsC (.slice (.int .i64)) a0.2.1 : Nat) : Int) + ((cellsC (.slice (.bool)) a0.2.2.1 : Nat) : Int) + ((cellsC (.slice (.str)) a0.2.2.2.1 : Nat) : Int)) = a1 + ((cellsC (.slice (.int .i64)) a0.2.1 : Nat) : Int) + ((cellsC (.slice (.bool)) a0.2.2.1 : Nat) : Int) + ((cellsC (.slice (.str)) a0.2.2.2.1 : Nat) : Int) + ((cellsC (.slice (.int .i64)) a0.2.2.2.2.1 : Nat) : Int) := held_val n3
          refine Vc.skip ?_
          refine Vc.seq ?_
          refine Vc.region hG rfl ?_ ?_
          · show markPre (.slice (.slice (.int .i64))) a0.2.2.2.2.2 (heldF (.slice (.int .i64)) a0.2.2.2.2.1 (heldF (.slice (.str)) a0.2.2.2.1 (heldF (.slice (.bool)) a0.2.2.1 (heldF (.slice (.int .i64)) a0.2.1 (a1)))))
            try simp only [u0, u1, u2, u3]
            exact ⟨by omega, by omega⟩
          refine Vc.seq ?_
          refine Vc.seq ?_
          refine Vc.region hG rfl ?_ ?_
          · trivial
          refine Vc.cond rfl (fun h4 => ?_) (fun h4 => ?_)
          · skip
            have q4 : 0 ≤ a1 + ((cellsC (.slice (.int .i64)) a0.2.1 : Nat) : Int) + ((cellsC (.slice (.bool)) a0.2.2.1 : Nat) : Int) + ((cellsC (.slice (.str)) a0.2.2.2.1 : Nat) : Int) + ((cellsC (.slice (.int .i64)) a0.2.2.2.2.1 : Nat) : Int) := by omega
            have z4 : a1 + ((0 : Nat) : Int) + ((cellsC (.slice (.int .i64)) a0.2.1 : Nat) : Int) + ((cellsC (.slice (.bool)) a0.2.2.1 : Nat) : Int) + ((cellsC (.slice (.str)) a0.2.2.2.1 : Nat) : Int) + ((cellsC (.slice (.int .i64)) a0.2.2.2.2.1 : Nat) : Int) = a1 + ((cellsC (.slice (.int .i64)) a0.2.1 : Nat) : Int) + ((cellsC (.slice (.bool)) a0.2.2.1 : Nat) : Int) + ((cellsC (.slice (.str)) a0.2.2.2.1 : Nat) : Int) + ((cellsC (.slice (.int .i64)) a0.2.2.2.2.1 : Nat) : Int) := by omega
            have g4 : okC (.slice (.slice (.int .i64))) a0.2.2.2.2.2 (a1 + ((cellsC (.slice (.int .i64)) a0.2.1 : Nat) : Int) + ((cellsC (.slice (.bool)) a0.2.2.1 : Nat) : Int) + ((cellsC (.slice (.str)) a0.2.2.2.1 : Nat) : Int) + ((cellsC (.slice (.int .i64)) a0.2.2.2.2.1 : Nat) : Int)) = false := held_neg q4 (by
              have h : heldF (.slice (.slice (.int .i64))) a0.2.2.2.2.2 (heldF (.slice (.int .i64)) a0.2.2.2.2.1 (heldF (.slice (.str)) a0.2.2.2.1 (heldF (.slice (.bool)) a0.2.2.1 (heldF (.slice (.int .i64)) a0.2.1 (a1))))) < 0 := of_decide_eq_true h4
              try simp only [u0, u1, u2, u3] at h
              exact h)
            refine Vc.seq ?_
            refine Vc.region hG rfl ?_ ?_
            · trivial
            refine Vc.ret ?_
            refine ⟨?_, trivial⟩
            show (-1 : Int) = heldVF (.pair (.int .i64) (.pair (.slice (.int .i64)) (.pair (.slice (.bool)) (.pair (.slice (.str)) (.pair (.slice (.int .i64)) (.slice (.slice (.int .i64)))))))) a0 a1
            unfold heldVF
            have f : okV (.pair (.int .i64) (.pair (.slice (.int .i64)) (.pair (.slice (.bool)) (.pair (.slice (.str)) (.pair (.slice (.int .i64)) (.slice (.slice (.int .i64)))))))) a0 a1 = false := by
              show (true && (okC (.slice (.int .i64)) a0.2.1 (a1 + ((0 : Nat) : Int)) && (okC (.slice (.bool)) a0.2.2.1 (a1 + ((0 : Nat) : Int) + ((cellsC (.slice (.int .i64)) a0.2.1 : Nat) : Int)) && (okC (.slice (.str)) a0.2.2.2.1 (a1 + ((0 : Nat) : Int) + ((cellsC (.slice (.int .i64)) a0.2.1 : Nat) : Int) + ((cellsC (.slice (.bool)) a0.2.2.1 : Nat) : Int)) && (okC (.slice (.int .i64)) a0.2.2.2.2.1 (a1 + ((0 : Nat) : Int) + ((cellsC (.slice (.int .i64)) a0.2.1 : Nat) : Int) + ((cellsC (.slice (.bool)) a0.2.2.1 : Nat) : Int) + ((cellsC (.slice (.str)) a0.2.2.2.1 : Nat) : Int)) && okC (.slice (.slice (.int .i64))) a0.2.2.2.2.2 (a1 + ((0 : Nat) : Int) + ((cellsC (.slice (.int .i64)) a0.2.1 : Nat) : Int) + ((cellsC (.slice (.bool)) a0.2.2.1 : Nat) : Int) + ((cellsC (.slice (.str)) a0.2.2.2.1 : Nat) : Int) + ((cellsC (.slice (.int .i64)) a0.2.2.2.2.1 : Nat) : Int))))))) = false
              simp only [z0, z1, z2, z3, z4, g0, g1, g2, g3, g4, Bool.and_false, Bool.false_and, Bool.and_true, Bool.true_and]
            rw [if_neg (by rw [f]; decide)]
          · skip
            have q4 : 0 ≤ a1 + ((cellsC (.slice (.int .i64)) a0.2.1 : Nat) : Int) + ((cellsC (.slice (.bool)) a0.2.2.1 : Nat) : Int) + ((cellsC (.slice (.str)) a0.2.2.2.1 : Nat) : Int) + ((cellsC (.slice (.int .i64)) a0.2.2.2.2.1 : Nat) : Int) := by omega
            have z4 : a1 + ((0 : Nat) : Int) + ((cellsC (.slice (.int .i64)) a0.2.1 : Nat) : Int) + ((cellsC (.slice (.bool)) a0.2.2.1 : Nat) : Int) + ((cellsC (.slice (.str)) a0.2.2.2.1 : Nat) : Int) + ((cellsC (.slice (.int .i64)) a0.2.2.2.2.1 : Nat) : Int) = a1 + ((cellsC (.slice (.int .i64)) a0.2.1 : Nat) : Int) + ((cellsC (.slice (.bool)) a0.2.2.1 : Nat) : Int) + ((cellsC (.slice (.str)) a0.2.2.2.1 : Nat) : Int) + ((cellsC (.slice (.int .i64)) a0.2.2.2.2.1 : Nat) : Int) := by omega
            have n4 : ¬ heldF (.slice (.slice (.int .i64))) a0.2.2.2.2.2 (a1 + ((cellsC (.slice (.int .i64)) a0.2.1 : Nat) : Int) + ((cellsC (.slice (.bool)) a0.2.2.1 : Nat) : Int) + ((cellsC (.slice (.str)) a0.2.2.2.1 : Nat) : Int) + ((cellsC (.slice (.int .i64)) a0.2.2.2.2.1 : Nat) : Int)) < 0 := by
              have h : ¬ heldF (.slice (.slice (.int .i64))) a0.2.2.2.2.2 (heldF (.slice (.int .i64)) a0.2.2.2.2.1 (heldF (.slice (.str)) a0.2.2.2.1 (heldF (.slice (.bool)) a0.2.2.1 (heldF (.slice (.int .i64)) a0.2.1 (a1))))) < 0 := of_decide_eq_false h4
              try simp only [u0, u1, u2, u3] at h
              exact h
            have g4 : okC (.slice (.slice (.int .i64))) a0.2.2.2.2.2 (a1 + ((cellsC (.slice (.int .i64)) a0.2.1 : Nat) : Int) + ((cellsC (.slice (.bool)) a0.2.2.1 : Nat) : Int) + ((cellsC (.slice (.str)) a0.2.2.2.1 : Nat) : Int) + ((cellsC (.slice (.int .i64)) a0.2.2.2.2.1 : Nat) : Int)) = true := held_pos n4
            have u4 : heldF (.slice (.slice (.int .i64))) a0.2.2.2.2.2 (a1 + ((cellsC (.slice (.int .i64)) a0.2.1 : Nat) : Int) + ((cellsC (.slice (.bool)) a0.2.2.1 : Nat) : Int) + ((cellsC (.slice (.str)) a0.2.2.2.1 : Nat) : Int) + ((cellsC (.slice (.int .i64)) a0.2.2.2.2.1 : Nat) : Int)) = a1 + ((cellsC (.slice (.int .i64)) a0.2.1 : Nat) : Int) + ((cellsC (.slice (.bool)) a0.2.2.1 : Nat) : Int) + ((cellsC (.slice (.str)) a0.2.2.2.1 : Nat) : Int) + ((cellsC (.slice (.int .i64)) a0.2.2.2.2.1 : Nat) : Int) + ((cellsC (.slice (.slice (.int .i64))) a0.2.2.2.2.2 : Nat) : Int) := held_val n4
            refine Vc.skip ?_
            refine Vc.seq ?_
            refine Vc.region hG rfl ?_ ?_
            · trivial
            refine Vc.ret ?_
            refine ⟨?_, trivial⟩
            show heldF (.slice (.slice (.int .i64))) a0.2.2.2.2.2 (heldF (.slice (.int .i64)) a0.2.2.2.2.1 (heldF (.slice (.str)) a0.2.2.2.1 (heldF (.slice (.bool)) a0.2.2.1 (heldF (.slice (.int .i64)) a0.2.1 (a1))))) = heldVF (.pair (.int .i64) (.pair (.slice (.int .i64)) (.pair (.slice (.bool)) (.pair (.slice (.str)) (.pair (.slice (.int .i64)) (.slice (.slice (.int .i64)))))))) a0 a1
            unfold heldVF
            have f : okV (.pair (.int .i64) (.pair (.slice (.int .i64)) (.pair (.slice (.bool)) (.pair (.slice (.str)) (.pair (.slice (.int .i64)) (.slice (.slice (.int .i64)))))))) a0 a1 = true := by
              show (true && (okC (.slice (.int .i64)) a0.2.1 (a1 + ((0 : Nat) : Int)) && (okC (.slice (.bool)) a0.2.2.1 (a1 + ((0 : Nat) : Int) + ((cellsC (.slice (.int .i64)) a0.2.1 : Nat) : Int)) && (okC (.slice (.str)) a0.2.2.2.1 (a1 + ((0 : Nat) : Int) + ((cellsC (.slice (.int .i64)) a0.2.1 : Nat) : Int) + ((cellsC (.slice (.bool)) a0.2.2.1 : Nat) : Int)) && (okC (.slice (.int .i64)) a0.2.2.2.2.1 (a1 + ((0 : Nat) : Int) + ((cellsC (.slice (.int .i64)) a0.2.1 : Nat) : Int) + ((cellsC (.slice (.bool)) a0.2.2.1 : Nat) : Int) + ((cellsC (.slice (.str)) a0.2.2.2.1 : Nat) : Int)) && okC (.slice (.slice (.int .i64))) a0.2.2.2.2.2 (a1 + ((0 : Nat) : Int) + ((cellsC (.slice (.int .i64)) a0.2.1 : Nat) : Int) + ((cellsC (.slice (.bool)) a0.2.2.1 : Nat) : Int) + ((cellsC (.slice (.str)) a0.2.2.2.1 : Nat) : Int) + ((cellsC (.slice (.int .i64)) a0.2.2.2.2.1 : Nat) : Int))))))) = true
              simp only [z0, z1, z2, z3, z4, g0, g1, g2, g3, g4, Bool.and_true, Bool.true_and]
            rw [if_pos f]
            try simp only [u0, u1, u2, u3, u4]
            try omega
end Fw
