/- Walks of functions of the program: what each computes. Conditions: those that each contract names. -/
import Derived.Test.YtlfmjohahkeejaaGreatW46T
import Derived.Test.YtlfmjohahkeejaaGreatW46m0
namespace Fw
open Go Go.Proofs
set_option linter.unusedSimpArgs false
noncomputable def F73 : Fun := ⟨[.pair (.int .i64) Y17, .pair (.int .i64) Y17], [.pure (.bool)], fun _ => True, fun x => (eqC x.1 x.2.1, ())⟩
set_option maxRecDepth 100000 in
/-- loop.example.g00597.laws.eqStamp -/
theorem F73_ok : Meets Tryz.prog 73 F73 := by
  refine meets_of_vc (C := mkC 30 [4] [0,1,2,3,4,9,14,19,24,29] []) (mkC_ok _ _ _ _) (fnOf_ok _) Tryz.func73 rfl rfl rfl (by decide) rfl ?_
  rintro ⟨a0, a1, _⟩ hwf hpre ⟨P, C, B, X, w0, M0, pv⟩ hG rfl rfl
  show Vc _ _ [(0, ⟨0, 0, .c Z24 a0⟩), (1, ⟨0, 0, .c Z24 a1⟩)] _
  refine Vc.seq ?_
  refine Vc.region hG rfl ?_ ?_
  · trivial
  refine Vc.seq ?_
  refine Vc.seq ?_
  refine Vc.region hG rfl ?_ ?_
  · trivial
  refine Vc.cond rfl (fun h0 => ?_) (fun h0 => ?_)
  · skip
    refine Vc.seq ?_
    refine Vc.region hG rfl ?_ ?_
    · trivial
    refine Vc.ret ?_
    refine ⟨?_, trivial⟩
    exact eqC_no (fun e => absurd (show (a0.1 != a1.1) = true from h0) (by have e : a0 = a1 := e; rw [e]; simp))
  · skip
    have g0 : a0.1 = a1.1 := bneI h0
    refine Vc.skip ?_
    refine Vc.seq ?_
    refine Vc.seq ?_
    refine Vc.region hG rfl ?_ ?_
    · trivial
    refine Vc.cond rfl (fun h1 => ?_) (fun h1 => ?_)
    · skip
      refine Vc.seq ?_
      refine Vc.region hG rfl ?_ ?_
      · trivial
      refine Vc.ret ?_
      refine ⟨?_, trivial⟩
      exact eqC_no (fun e => absurd (show (a0.2.1 != a1.2.1) = true from h1) (by have e : a0 = a1 := e; rw [e]; simp))
    · skip
      have g1 : a0.2.1 = a1.2.1 := bneI h1
      refine Vc.skip ?_
      refine Vc.seq ?_
      refine Vc.seq ?_
      refine Vc.region hG rfl ?_ ?_
      · trivial
      refine Vc.cond rfl (fun h2 => ?_) (fun h2 => ?_)
      · skip
        refine Vc.seq ?_
        refine Vc.region hG rfl ?_ ?_
        · trivial
        refine Vc.ret ?_
        refine ⟨?_, trivial⟩
        exact eqC_no (fun e => absurd (show (a0.2.2.1 != a1.2.2.1) = true from h2) (by have e : a0 = a1 := e; rw [e]; simp))
      · skip
        have g2 : a0.2.2.1 = a1.2.2.1 := bneI h2
        refine Vc.skip ?_
        refine Vc.seq ?_
        refine Vc.seq ?_
        refine Vc.region hG rfl ?_ ?_
        · trivial
        refine Vc.cond rfl (fun h3 => ?_) (fun h3 => ?_)
        · skip
          refine Vc.seq ?_
          refine Vc.region hG rfl ?_ ?_
          · trivial
          refine Vc.ret ?_
          refine ⟨?_, trivial⟩
          exact eqC_no (fun e => absurd (show (a0.2.2.2.1 != a1.2.2.2.1) = true from h3) (by have e : a0 = a1 := e; rw [e]; simp))
        · skip
          have g3 : a0.2.2.2.1 = a1.2.2.2.1 := bneI h3
          refine Vc.skip ?_
          refine Vc.seq ?_
          refine Vc.seq ?_
          refine Vc.region hG rfl ?_ ?_
          · trivial
          refine Vc.cond rfl (fun h4 => ?_) (fun h4 => ?_)
          · skip
            refine Vc.seq ?_
            refine Vc.region hG rfl ?_ ?_
            · trivial
            refine Vc.ret ?_
            refine ⟨?_, trivial⟩
            exact eqC_no (fun e => absurd (show (a0.2.2.2.2 != a1.2.2.2.2) = true from h4) (by have e : a0 = a1 := e; rw [e]; simp))
          · skip
            have g4 : a0.2.2.2.2 = a1.2.2.2.2 := bneI h4
            refine Vc.skip ?_
            refine Vc.seq ?_
            refine Vc.region hG rfl ?_ ?_
            · trivial
            refine Vc.ret ?_
            refine ⟨?_, trivial⟩
            exact eqC_yes (Prod.ext g0 (Prod.ext g1 (Prod.ext g2 (Prod.ext g3 g4))))
noncomputable def F31 : Fun := ⟨[.slice Y23, .slice Y23], [.pure (.bool)], fun _ => True, fun x => (eqC x.1 x.2.1, ())⟩
set_option maxRecDepth 100000 in
/-- loop.example.g00597.laws.eqStampS -/
theorem F31_ok : Meets Tryz.prog 31 F31 := by
  refine meets_of_vc (C := mkC 27 [4] [0,1,4,5,10,14,26] [⟨73, _, F73_ok⟩]) (mkC_ok _ _ _ _) (fnOf_ok _) Tryz.func31 rfl rfl rfl (by decide) rfl ?_
  rintro ⟨a0, a1, _⟩ hwf hpre ⟨P, C, B, X, w0, M0, pv⟩ hG rfl rfl
  show Vc _ _ [(0, ⟨0, 0, .c Z27 a0⟩), (1, ⟨0, 0, .c Z27 a1⟩)] _
  have hb : List.length a0 ≤ bigLen := hwf.1.1
  refine Vc.seq ?_
  refine Vc.region hG rfl ?_ ?_
  · trivial
  refine Vc.seq ?_
  refine Vc.seq ?_
  refine Vc.region hG rfl ?_ ?_
  · trivial
  refine Vc.cond rfl (fun h0 => ?_) (fun h0 => ?_)
  · skip
    refine Vc.seq ?_
    refine Vc.region hG rfl ?_ ?_
    · trivial
    refine Vc.ret ?_
    refine ⟨?_, trivial⟩
    exact eqC_no (fun e => absurd (show ((List.length a0 : Int) != (List.length a1 : Int)) = true from h0) (by have e : a0 = a1 := e; rw [e]; simp))
  · skip
    have g0 : List.length a0 = List.length a1 := lenEq h0
    refine Vc.skip ?_
    refine Vc.seq ?_
    refine Vc.seq ?_
    refine Vc.region hG rfl ?_ ?_
    · trivial
    refine Vc.block ?_
    -- slots [5]; frame [0, 1, 10]
    refine Vc.loopF [(5, false, .pure (.int .i64))] [0, 1, 10] (fun v => eqInv a0 a1 v.1) (fun v => ((List.length a0 : Int) - v.1).toNat) rfl ?_ ?_
    · exact eqStart g0
    rintro ⟨(i : Int), _⟩ hI
    have hI : eqInv a0 a1 i := hI
    refine Vc.seq ?_
    refine Vc.seq ?_
    refine Vc.region hG rfl ?_ ?_
    · trivial
    refine Vc.cond rfl (fun h1 => ?_) (fun h1 => ?_)
    · skip
      have hl : i < (List.length a0 : Int) := of_decide_eq_true h1
      refine Vc.skip ?_
      refine Vc.seq ?_
      refine Vc.block ?_
      refine Vc.seq ?_
      refine Vc.regionD mixed hG rfl (by kernel_rfl) ?_ ?_
      · exact ⟨(eqRange hI hl).1, (eqRange hI hl).2, trivial⟩
      refine Vc.cond rfl (fun h2 => ?_) (fun h2 => ?_)
      · skip
        have g2 : (!(eqC (List.getD a0 i.toNat (dflt Y23)) (List.getD a1 i.toNat (dflt Y23)))) = true := h2
        refine Vc.seq ?_
        refine Vc.region hG rfl ?_ ?_
        · trivial
        refine Vc.ret ?_
        refine ⟨?_, trivial⟩
        exact eqNo (d := dflt Y23) (i := i) (fun e => by rw [e, eqC_self] at g2; cases g2)
      · skip
        have g2 : (List.getD a0 i.toNat (dflt Y23)) = (List.getD a1 i.toNat (dflt Y23)) := notC h2
        refine Vc.skip ?_
        refine Vc.region hG rfl ?_ ?_
        · trivial
        refine ⟨rfl, ?_⟩
        exact ⟨eqStep (d := dflt Y23) hI hl hb g2, (upStep hI.1 hl hb).2.2⟩
    · skip
      have hl : ¬ i < (List.length a0 : Int) := of_decide_eq_false h1
      refine Vc.exit ?_
      refine Vc.seq ?_
      refine Vc.region hG rfl ?_ ?_
      · trivial
      refine Vc.ret ?_
      refine ⟨?_, trivial⟩
      exact eqC_yes (eqEnd hI hl)
noncomputable def F131 : Fun := ⟨[.pair (.int .i64) Y36, .pair (.int .i64) Y36], [.pure (.bool)], fun _ => True, fun x => (eqC x.1 x.2.1, ())⟩
set_option maxRecDepth 100000 in
/-- loop.example.g00597.laws.eqRenewal -/
theorem F131_ok : Meets Tryz.prog 131 F131 := by
  refine meets_of_vc (C := mkC 32 [4] [0,1,2,3,4,9,14,19,25,31] [⟨159, _, F159_ok⟩, ⟨31, _, F31_ok⟩]) (mkC_ok _ _ _ _) (fnOf_ok _) Tryz.func131 rfl rfl rfl (by decide) rfl ?_
  rintro ⟨a0, a1, _⟩ hwf hpre ⟨P, C, B, X, w0, M0, pv⟩ hG rfl rfl
  show Vc _ _ [(0, ⟨0, 0, .c Z39 a0⟩), (1, ⟨0, 0, .c Z39 a1⟩)] _
  refine Vc.seq ?_
  refine Vc.region hG rfl ?_ ?_
  · trivial
  refine Vc.seq ?_
  refine Vc.seq ?_
  refine Vc.region hG rfl ?_ ?_
  · trivial
  refine Vc.cond rfl (fun h0 => ?_) (fun h0 => ?_)
  · skip
    refine Vc.seq ?_
    refine Vc.region hG rfl ?_ ?_
    · trivial
    refine Vc.ret ?_
    refine ⟨?_, trivial⟩
    exact eqC_no (fun e => absurd (show (a0.1 != a1.1) = true from h0) (by have e : a0 = a1 := e; rw [e]; simp))
  · skip
    have g0 : a0.1 = a1.1 := bneI h0
    refine Vc.skip ?_
    refine Vc.seq ?_
    refine Vc.seq ?_
    refine Vc.region hG rfl ?_ ?_
    · trivial
    refine Vc.cond rfl (fun h1 => ?_) (fun h1 => ?_)
    · skip
      refine Vc.seq ?_
      refine Vc.region hG rfl ?_ ?_
      · trivial
      refine Vc.ret ?_
      refine ⟨?_, trivial⟩
      exact eqC_no (fun e => absurd (show (a0.2.1 != a1.2.1) = true from h1) (by have e : a0 = a1 := e; rw [e]; simp))
    · skip
      have g1 : a0.2.1 = a1.2.1 := bneI h1
      refine Vc.skip ?_
      refine Vc.seq ?_
      refine Vc.seq ?_
      refine Vc.region hG rfl ?_ ?_
      · trivial
      refine Vc.cond rfl (fun h2 => ?_) (fun h2 => ?_)
      · skip
        refine Vc.seq ?_
        refine Vc.region hG rfl ?_ ?_
        · trivial
        refine Vc.ret ?_
        refine ⟨?_, trivial⟩
        exact eqC_no (fun e => absurd (show (a0.2.2.1 != a1.2.2.1) = true from h2) (by have e : a0 = a1 := e; rw [e]; simp))
      · skip
        have g2 : a0.2.2.1 = a1.2.2.1 := bneI h2
        refine Vc.skip ?_
        refine Vc.seq ?_
        refine Vc.seq ?_
        refine Vc.region hG rfl ?_ ?_
        · trivial
        refine Vc.cond rfl (fun h3 => ?_) (fun h3 => ?_)
        · skip
          refine Vc.seq ?_
          refine Vc.region hG rfl ?_ ?_
          · trivial
          refine Vc.ret ?_
          refine ⟨?_, trivial⟩
          exact eqC_no (fun e => absurd (show (!(eqC a0.2.2.2.1 a1.2.2.2.1)) = true from h3) (by have e : a0 = a1 := e; rw [e, eqC_self]; decide))
        · skip
          have g3 : a0.2.2.2.1 = a1.2.2.2.1 := notC h3
          refine Vc.skip ?_
          refine Vc.seq ?_
          refine Vc.seq ?_
          refine Vc.region hG rfl ?_ ?_
          · trivial
          refine Vc.cond rfl (fun h4 => ?_) (fun h4 => ?_)
          · skip
            refine Vc.seq ?_
            refine Vc.region hG rfl ?_ ?_
            · trivial
            refine Vc.ret ?_
            refine ⟨?_, trivial⟩
            exact eqC_no (fun e => absurd (show (!(eqC a0.2.2.2.2 a1.2.2.2.2)) = true from h4) (by have e : a0 = a1 := e; rw [e, eqC_self]; decide))
          · skip
            have g4 : a0.2.2.2.2 = a1.2.2.2.2 := notC h4
            refine Vc.skip ?_
            refine Vc.seq ?_
            refine Vc.region hG rfl ?_ ?_
            · trivial
            refine Vc.ret ?_
            refine ⟨?_, trivial⟩
            exact eqC_yes (Prod.ext g0 (Prod.ext g1 (Prod.ext g2 (Prod.ext g3 g4))))
noncomputable def F95 : Fun := ⟨[.slice Y38, .slice Y38], [.pure (.bool)], fun _ => True, fun x => (eqC x.1 x.2.1, ())⟩
set_option maxRecDepth 100000 in
/-- loop.example.g00597.laws.eqRenewalS -/
theorem F95_ok : Meets Tryz.prog 95 F95 := by
  refine meets_of_vc (C := mkC 27 [4] [0,1,4,5,10,14,26] [⟨131, _, F131_ok⟩]) (mkC_ok _ _ _ _) (fnOf_ok _) Tryz.func95 rfl rfl rfl (by decide) rfl ?_
  rintro ⟨a0, a1, _⟩ hwf hpre ⟨P, C, B, X, w0, M0, pv⟩ hG rfl rfl
  show Vc _ _ [(0, ⟨0, 0, .c Z42 a0⟩), (1, ⟨0, 0, .c Z42 a1⟩)] _
  have hb : List.length a0 ≤ bigLen := hwf.1.1
  refine Vc.seq ?_
  refine Vc.region hG rfl ?_ ?_
  · trivial
  refine Vc.seq ?_
  refine Vc.seq ?_
  refine Vc.region hG rfl ?_ ?_
  · trivial
  refine Vc.cond rfl (fun h0 => ?_) (fun h0 => ?_)
  · skip
    refine Vc.seq ?_
    refine Vc.region hG rfl ?_ ?_
    · trivial
    refine Vc.ret ?_
    refine ⟨?_, trivial⟩
    exact eqC_no (fun e => absurd (show ((List.length a0 : Int) != (List.length a1 : Int)) = true from h0) (by have e : a0 = a1 := e; rw [e]; simp))
  · skip
    have g0 : List.length a0 = List.length a1 := lenEq h0
    refine Vc.skip ?_
    refine Vc.seq ?_
    refine Vc.seq ?_
    refine Vc.region hG rfl ?_ ?_
    · trivial
    refine Vc.block ?_
    -- slots [5]; frame [0, 1, 10]
    refine Vc.loopF [(5, false, .pure (.int .i64))] [0, 1, 10] (fun v => eqInv a0 a1 v.1) (fun v => ((List.length a0 : Int) - v.1).toNat) rfl ?_ ?_
    · exact eqStart g0
    rintro ⟨(i : Int), _⟩ hI
    have hI : eqInv a0 a1 i := hI
    refine Vc.seq ?_
    refine Vc.seq ?_
    refine Vc.region hG rfl ?_ ?_
    · trivial
    refine Vc.cond rfl (fun h1 => ?_) (fun h1 => ?_)
    · skip
      have hl : i < (List.length a0 : Int) := of_decide_eq_true h1
      refine Vc.skip ?_
      refine Vc.seq ?_
      refine Vc.block ?_
      refine Vc.seq ?_
      refine Vc.regionD mixed hG rfl (by kernel_rfl) ?_ ?_
      · exact ⟨(eqRange hI hl).1, (eqRange hI hl).2, trivial⟩
      refine Vc.cond rfl (fun h2 => ?_) (fun h2 => ?_)
      · skip
        have g2 : (!(eqC (List.getD a0 i.toNat (dflt Y38)) (List.getD a1 i.toNat (dflt Y38)))) = true := h2
        refine Vc.seq ?_
        refine Vc.region hG rfl ?_ ?_
        · trivial
        refine Vc.ret ?_
        refine ⟨?_, trivial⟩
        exact eqNo (d := dflt Y38) (i := i) (fun e => by rw [e, eqC_self] at g2; cases g2)
      · skip
        have g2 : (List.getD a0 i.toNat (dflt Y38)) = (List.getD a1 i.toNat (dflt Y38)) := notC h2
        refine Vc.skip ?_
        refine Vc.region hG rfl ?_ ?_
        · trivial
        refine ⟨rfl, ?_⟩
        exact ⟨eqStep (d := dflt Y38) hI hl hb g2, (upStep hI.1 hl hb).2.2⟩
    · skip
      have hl : ¬ i < (List.length a0 : Int) := of_decide_eq_false h1
      refine Vc.exit ?_
      refine Vc.seq ?_
      refine Vc.region hG rfl ?_ ?_
      · trivial
      refine Vc.ret ?_
      refine ⟨?_, trivial⟩
      exact eqC_yes (eqEnd hI hl)
noncomputable def F57 : Fun := ⟨[.pair Y16 Y41, .pair Y16 Y41], [.pure (.bool)], fun _ => True, fun x => (eqC x.1 x.2.1, ())⟩
set_option maxRecDepth 100000 in
/-- loop.example.g00597.laws.eqStrand -/
theorem F57_ok : Meets Tryz.prog 57 F57 := by
  refine meets_of_vc (C := mkC 17 [4] [0,1,2,3,4,10,16] [⟨94, _, F94_ok⟩, ⟨95, _, F95_ok⟩]) (mkC_ok _ _ _ _) (fnOf_ok _) Tryz.func57 rfl rfl rfl (by decide) rfl ?_
  rintro ⟨a0, a1, _⟩ hwf hpre ⟨P, C, B, X, w0, M0, pv⟩ hG rfl rfl
  show Vc _ _ [(0, ⟨0, 0, .c Z46 a0⟩), (1, ⟨0, 0, .c Z46 a1⟩)] _
  refine Vc.seq ?_
  refine Vc.region hG rfl ?_ ?_
  · trivial
  refine Vc.seq ?_
  refine Vc.seq ?_
  refine Vc.region hG rfl ?_ ?_
  · trivial
  refine Vc.cond rfl (fun h0 => ?_) (fun h0 => ?_)
  · skip
    refine Vc.seq ?_
    refine Vc.region hG rfl ?_ ?_
    · trivial
    refine Vc.ret ?_
    refine ⟨?_, trivial⟩
    exact eqC_no (fun e => absurd (show (!(eqC a0.1 a1.1)) = true from h0) (by have e : a0 = a1 := e; rw [e, eqC_self]; decide))
  · skip
    have g0 : a0.1 = a1.1 := notC h0
    refine Vc.skip ?_
    refine Vc.seq ?_
    refine Vc.seq ?_
    refine Vc.region hG rfl ?_ ?_
    · trivial
    refine Vc.cond rfl (fun h1 => ?_) (fun h1 => ?_)
    · skip
      refine Vc.seq ?_
      refine Vc.region hG rfl ?_ ?_
      · trivial
      refine Vc.ret ?_
      refine ⟨?_, trivial⟩
      exact eqC_no (fun e => absurd (show (!(eqC a0.2 a1.2)) = true from h1) (by have e : a0 = a1 := e; rw [e, eqC_self]; decide))
    · skip
      have g1 : a0.2 = a1.2 := notC h1
      refine Vc.skip ?_
      refine Vc.seq ?_
      refine Vc.region hG rfl ?_ ?_
      · trivial
      refine Vc.ret ?_
      refine ⟨?_, trivial⟩
      exact eqC_yes (Prod.ext g0 g1)
noncomputable def F15 : Fun := ⟨[.pair (.int .i64) Y51, .pair (.int .i64) Y51], [.pure (.bool)], fun _ => True, fun x => (eqC x.1 x.2.1, ())⟩
set_option maxRecDepth 100000 in
/-- loop.example.g00597.laws.eqItem -/
theorem F15_ok : Meets Tryz.prog 15 F15 := by
  refine meets_of_vc (C := mkC 33 [4] [0,1,2,3,4,9,14,20,26,32] [⟨55, _, F55_ok⟩, ⟨56, _, F56_ok⟩, ⟨57, _, F57_ok⟩]) (mkC_ok _ _ _ _) (fnOf_ok _) Tryz.func15 rfl rfl rfl (by decide) rfl ?_
  rintro ⟨a0, a1, _⟩ hwf hpre ⟨P, C, B, X, w0, M0, pv⟩ hG rfl rfl
  show Vc _ _ [(0, ⟨0, 0, .c Z53 a0⟩), (1, ⟨0, 0, .c Z53 a1⟩)] _
  refine Vc.seq ?_
  refine Vc.region hG rfl ?_ ?_
  · trivial
  refine Vc.seq ?_
  refine Vc.seq ?_
  refine Vc.region hG rfl ?_ ?_
  · trivial
  refine Vc.cond rfl (fun h0 => ?_) (fun h0 => ?_)
  · skip
    refine Vc.seq ?_
    refine Vc.region hG rfl ?_ ?_
    · trivial
    refine Vc.ret ?_
    refine ⟨?_, trivial⟩
    exact eqC_no (fun e => absurd (show (a0.1 != a1.1) = true from h0) (by have e : a0 = a1 := e; rw [e]; simp))
  · skip
    have g0 : a0.1 = a1.1 := bneI h0
    refine Vc.skip ?_
    refine Vc.seq ?_
    refine Vc.seq ?_
    refine Vc.region hG rfl ?_ ?_
    · trivial
    refine Vc.cond rfl (fun h1 => ?_) (fun h1 => ?_)
    · skip
      refine Vc.seq ?_
      refine Vc.region hG rfl ?_ ?_
      · trivial
      refine Vc.ret ?_
      refine ⟨?_, trivial⟩
      exact eqC_no (fun e => absurd (show (a0.2.1 != a1.2.1) = true from h1) (by have e : a0 = a1 := e; rw [e]; simp))
    · skip
      have g1 : a0.2.1 = a1.2.1 := bneI h1
      refine Vc.skip ?_
      refine Vc.seq ?_
      refine Vc.seq ?_
      refine Vc.region hG rfl ?_ ?_
      · trivial
      refine Vc.cond rfl (fun h2 => ?_) (fun h2 => ?_)
      · skip
        refine Vc.seq ?_
        refine Vc.region hG rfl ?_ ?_
        · trivial
        refine Vc.ret ?_
        refine ⟨?_, trivial⟩
        exact eqC_no (fun e => absurd (show (!(eqC a0.2.2.1 a1.2.2.1)) = true from h2) (by have e : a0 = a1 := e; rw [e, eqC_self]; decide))
      · skip
        have g2 : a0.2.2.1 = a1.2.2.1 := notC h2
        refine Vc.skip ?_
        refine Vc.seq ?_
        refine Vc.seq ?_
        refine Vc.region hG rfl ?_ ?_
        · trivial
        refine Vc.cond rfl (fun h3 => ?_) (fun h3 => ?_)
        · skip
          refine Vc.seq ?_
          refine Vc.region hG rfl ?_ ?_
          · trivial
          refine Vc.ret ?_
          refine ⟨?_, trivial⟩
          exact eqC_no (fun e => absurd (show (!(eqC a0.2.2.2.1 a1.2.2.2.1)) = true from h3) (by have e : a0 = a1 := e; rw [e, eqC_self]; decide))
        · skip
          have g3 : a0.2.2.2.1 = a1.2.2.2.1 := notC h3
          refine Vc.skip ?_
          refine Vc.seq ?_
          refine Vc.seq ?_
          refine Vc.region hG rfl ?_ ?_
          · trivial
          refine Vc.cond rfl (fun h4 => ?_) (fun h4 => ?_)
          · skip
            refine Vc.seq ?_
            refine Vc.region hG rfl ?_ ?_
            · trivial
            refine Vc.ret ?_
            refine ⟨?_, trivial⟩
            exact eqC_no (fun e => absurd (show (!(eqC a0.2.2.2.2 a1.2.2.2.2)) = true from h4) (by have e : a0 = a1 := e; rw [e, eqC_self]; decide))
          · skip
            have g4 : a0.2.2.2.2 = a1.2.2.2.2 := notC h4
            refine Vc.skip ?_
            refine Vc.seq ?_
            refine Vc.region hG rfl ?_ ?_
            · trivial
            refine Vc.ret ?_
            refine ⟨?_, trivial⟩
            exact eqC_yes (Prod.ext g0 (Prod.ext g1 (Prod.ext g2 (Prod.ext g3 g4))))
noncomputable def F54 : Fun := ⟨[.slice Y52, .slice Y52], [.pure (.bool)], fun _ => True, fun x => (eqC x.1 x.2.1, ())⟩
set_option maxRecDepth 100000 in
/-- loop.example.g00597.laws.eqItemS -/
theorem F54_ok : Meets Tryz.prog 54 F54 := by
  refine meets_of_vc (C := mkC 27 [4] [0,1,4,5,10,14,26] [⟨15, _, F15_ok⟩]) (mkC_ok _ _ _ _) (fnOf_ok _) Tryz.func54 rfl rfl rfl (by decide) rfl ?_
  rintro ⟨a0, a1, _⟩ hwf hpre ⟨P, C, B, X, w0, M0, pv⟩ hG rfl rfl
  show Vc _ _ [(0, ⟨0, 0, .c Z55 a0⟩), (1, ⟨0, 0, .c Z55 a1⟩)] _
  have hb : List.length a0 ≤ bigLen := hwf.1.1
  refine Vc.seq ?_
  refine Vc.region hG rfl ?_ ?_
  · trivial
  refine Vc.seq ?_
  refine Vc.seq ?_
  refine Vc.region hG rfl ?_ ?_
  · trivial
  refine Vc.cond rfl (fun h0 => ?_) (fun h0 => ?_)
  · skip
    refine Vc.seq ?_
    refine Vc.region hG rfl ?_ ?_
    · trivial
    refine Vc.ret ?_
    refine ⟨?_, trivial⟩
    exact eqC_no (fun e => absurd (show ((List.length a0 : Int) != (List.length a1 : Int)) = true from h0) (by have e : a0 = a1 := e; rw [e]; simp))
  · skip
    have g0 : List.length a0 = List.length a1 := lenEq h0
    refine Vc.skip ?_
    refine Vc.seq ?_
    refine Vc.seq ?_
    refine Vc.region hG rfl ?_ ?_
    · trivial
    refine Vc.block ?_
    -- slots [5]; frame [0, 1, 10]
    refine Vc.loopF [(5, false, .pure (.int .i64))] [0, 1, 10] (fun v => eqInv a0 a1 v.1) (fun v => ((List.length a0 : Int) - v.1).toNat) rfl ?_ ?_
    · exact eqStart g0
    rintro ⟨(i : Int), _⟩ hI
    have hI : eqInv a0 a1 i := hI
    refine Vc.seq ?_
    refine Vc.seq ?_
    refine Vc.region hG rfl ?_ ?_
    · trivial
    refine Vc.cond rfl (fun h1 => ?_) (fun h1 => ?_)
    · skip
      have hl : i < (List.length a0 : Int) := of_decide_eq_true h1
      refine Vc.skip ?_
      refine Vc.seq ?_
      refine Vc.block ?_
      refine Vc.seq ?_
      refine Vc.regionD mixed hG rfl (by kernel_rfl) ?_ ?_
      · exact ⟨(eqRange hI hl).1, (eqRange hI hl).2, trivial⟩
      refine Vc.cond rfl (fun h2 => ?_) (fun h2 => ?_)
      · skip
        have g2 : (!(eqC (List.getD a0 i.toNat (dflt Y52)) (List.getD a1 i.toNat (dflt Y52)))) = true := h2
        refine Vc.seq ?_
        refine Vc.region hG rfl ?_ ?_
        · trivial
        refine Vc.ret ?_
        refine ⟨?_, trivial⟩
        exact eqNo (d := dflt Y52) (i := i) (fun e => by rw [e, eqC_self] at g2; cases g2)
      · skip
        have g2 : (List.getD a0 i.toNat (dflt Y52)) = (List.getD a1 i.toNat (dflt Y52)) := notC h2
        refine Vc.skip ?_
        refine Vc.region hG rfl ?_ ?_
        · trivial
        refine ⟨rfl, ?_⟩
        exact ⟨eqStep (d := dflt Y52) hI hl hb g2, (upStep hI.1 hl hb).2.2⟩
    · skip
      have hl : ¬ i < (List.length a0 : Int) := of_decide_eq_false h1
      refine Vc.exit ?_
      refine Vc.seq ?_
      refine Vc.region hG rfl ?_ ?_
      · trivial
      refine Vc.ret ?_
      refine ⟨?_, trivial⟩
      exact eqC_yes (eqEnd hI hl)
noncomputable def F14 : Fun := ⟨[.pair (.int .i64) Y54, .pair (.int .i64) Y54], [.pure (.bool)], fun _ => True, fun x => (eqC x.1 x.2.1, ())⟩
set_option maxRecDepth 100000 in
/-- loop.example.g00597.laws.eqArchive -/
theorem F14_ok : Meets Tryz.prog 14 F14 := by
  refine meets_of_vc (C := mkC 16 [4] [0,1,2,3,4,9,15] [⟨54, _, F54_ok⟩]) (mkC_ok _ _ _ _) (fnOf_ok _) Tryz.func14 rfl rfl rfl (by decide) rfl ?_
  rintro ⟨a0, a1, _⟩ hwf hpre ⟨P, C, B, X, w0, M0, pv⟩ hG rfl rfl
  show Vc _ _ [(0, ⟨0, 0, .c Z57 a0⟩), (1, ⟨0, 0, .c Z57 a1⟩)] _
  refine Vc.seq ?_
  refine Vc.region hG rfl ?_ ?_
  · trivial
  refine Vc.seq ?_
  refine Vc.seq ?_
  refine Vc.region hG rfl ?_ ?_
  · trivial
  refine Vc.cond rfl (fun h0 => ?_) (fun h0 => ?_)
  · skip
    refine Vc.seq ?_
    refine Vc.region hG rfl ?_ ?_
    · trivial
    refine Vc.ret ?_
    refine ⟨?_, trivial⟩
    exact eqC_no (fun e => absurd (show (a0.1 != a1.1) = true from h0) (by have e : a0 = a1 := e; rw [e]; simp))
  · skip
    have g0 : a0.1 = a1.1 := bneI h0
    refine Vc.skip ?_
    refine Vc.seq ?_
    refine Vc.seq ?_
    refine Vc.region hG rfl ?_ ?_
    · trivial
    refine Vc.cond rfl (fun h1 => ?_) (fun h1 => ?_)
    · skip
      refine Vc.seq ?_
      refine Vc.region hG rfl ?_ ?_
      · trivial
      refine Vc.ret ?_
      refine ⟨?_, trivial⟩
      exact eqC_no (fun e => absurd (show (!(eqC a0.2 a1.2)) = true from h1) (by have e : a0 = a1 := e; rw [e, eqC_self]; decide))
    · skip
      have g1 : a0.2 = a1.2 := notC h1
      refine Vc.skip ?_
      refine Vc.seq ?_
      refine Vc.region hG rfl ?_ ?_
      · trivial
      refine Vc.ret ?_
      refine ⟨?_, trivial⟩
      exact eqC_yes (Prod.ext g0 g1)
noncomputable def F132 : Fun := ⟨[.int .i64], [.pure (.str)], fun _ => True, fun x => (textF x.1, ())⟩
set_option maxRecDepth 100000 in
/-- loop.example.g00597.laws.markText -/
theorem F132_ok : Meets Tryz.prog 132 F132 := by
  refine meets_of_vc (C := mkC 20 [2] [0,2,3,5,7] []) (mkC_ok _ _ _ _) (fnOf_ok _) Tryz.func132 rfl rfl rfl (by decide) rfl ?_
  rintro ⟨(a0 : Int), _⟩ hwf hpre ⟨P, C, B, X, w0, M0, pv⟩ hG rfl rfl
  show Vc _ _ [(0, ⟨0, 0, .c (.pure (.int .i64)) a0⟩)] _
  have hn : inR .i64 a0 := hwf.1
  refine Vc.seq ?_
  refine Vc.region hG rfl ?_ ?_
  · trivial
  refine Vc.seq ?_
  refine Vc.seq ?_
  refine Vc.region hG rfl ?_ ?_
  · trivial
  refine Vc.cond rfl (fun h0 => ?_) (fun h0 => ?_)
  · skip
    have g0 : a0 ≤ 0 := of_decide_eq_true h0
    refine Vc.seq ?_
    refine Vc.region hG rfl ?_ ?_
    · trivial
    refine Vc.ret ?_
    refine ⟨?_, trivial⟩
    exact text0 g0
  · skip
    have g0 : ¬ a0 ≤ 0 := of_decide_eq_false h0
    refine Vc.skip ?_
    refine Vc.seq ?_
    refine Vc.region hG rfl ?_ ?_
    · trivial
    refine Vc.seq ?_
    refine Vc.block ?_
    -- slots [0, 3]; frame [2, 5]
    refine Vc.loopF [(0, false, .pure (.int .i64)), (3, false, .pure (.str))] [2, 5] (fun v => mtInv a0 v.1 v.2.1) (fun v => v.1.natAbs) rfl ?_ ?_
    · exact mtStart hn g0
    rintro ⟨(x : Int), s, _⟩ hI
    have hI : mtInv a0 x s := hI
    refine Vc.seq ?_
    refine Vc.seq ?_
    refine Vc.region hG rfl ?_ ?_
    · trivial
    refine Vc.cond rfl (fun h1 => ?_) (fun h1 => ?_)
    · skip
      have g1 : x > 0 := of_decide_eq_true h1
      refine Vc.skip ?_
      refine Vc.block ?_
      refine Vc.seq ?_
      refine Vc.region hG rfl ?_ ?_
      · exact ⟨(show (10 : Int) ≠ 0 by decide), mtLen hn hI 1 (by decide)⟩
      refine Vc.region hG rfl ?_ ?_
      · show (10 : Int) ≠ 0
        decide
      refine ⟨rfl, ?_⟩
      exact mtStep hI g1 (congrArg (· ++ s) (mtDig g1))
    · skip
      have g1 : ¬ x > 0 := of_decide_eq_false h1
      refine Vc.exit ?_
      refine Vc.seq ?_
      refine Vc.region hG rfl ?_ ?_
      · exact mtLen hn hI 1 (by decide)
      refine Vc.ret ?_
      refine ⟨?_, trivial⟩
      exact text1 hI g0 g1
@[reducible] noncomputable def M96 : MFun := mF (.own (.pure (.str)))
set_option maxRecDepth 100000 in
set_option maxHeartbeats 2000000 in
/-- loop.example.g00597.laws.markStringS -/
theorem M96_ok : MeetsM Tryz.prog 96 M96 := by
  refine meetsM_of_vc (C := mkCM 20 [4] [0,1,4,5,9] [⟨132, _, F132_ok⟩] [] [] [0]) (mkCM_ok _ _ _ _ _ _ _) (fnOf_ok _) Tryz.func96 rfl rfl rfl (by decide) rfl rfl rfl rfl ?_
  rintro a0 (a1 : Int) hwf hin hpre ⟨P, C, B, X, w0, M0, pv⟩ hG rfl rfl
  show Vc _ _ [(0, ⟨0, 0, .c (.own (.pure (.str))) a0⟩), (1, ⟨0, 0, .c (.pure (.int .i64)) a1⟩)] _
  have hb : List.length a0 ≤ bigLen := hwf.1
  have hp0 : 0 ≤ a1 := hpre.1
  have hp1 : a1 + ((cellsL (cellsC (.str)) a0 : Nat) : Int) ≤ bnd := hpre.2
  refine Vc.seq ?_
  refine Vc.region hG rfl ?_ ?_
  · trivial
  refine Vc.seq ?_
  refine Vc.seq ?_
  refine Vc.region hG rfl ?_ ?_
  · trivial
  refine Vc.block ?_
  -- slots [0, 1, 5]; frame [4]
  refine Vc.loopF [(0, false, .own (.pure (.str))), (1, false, .pure (.int .i64)), (5, false, .pure (.int .i64))] [4] (fun v => mkInv (cellsC (.str)) (markC (.str)) a0 a1 v.1 v.2.1 v.2.2.1) (fun v => ((List.length v.1 : Int) - v.2.2.1).toNat) rfl ?_ ?_
  · exact mkStart
  rintro ⟨v, (k : Int), (i : Int), _⟩ hI
  have hI : mkInv (cellsC (.str)) (markC (.str)) a0 a1 v k i := hI
  have hbv : v.length ≤ bigLen := by rw [mkLen hI]; exact hb
  refine Vc.seq ?_
  refine Vc.seq ?_
  refine Vc.region hG rfl ?_ ?_
  · trivial
  refine Vc.cond rfl (fun h0 => ?_) (fun h0 => ?_)
  · skip
    have hl : i < (List.length v : Int) := of_decide_eq_true h0
    have hln : i.toNat < v.length := by have := hI.1; omega
    have hk := mkBound hI hl (dflt (.str)) hp0 hp1
    generalize hX : List.getD v i.toNat (dflt (.str)) = X at hk
    have hk : 0 ≤ k ∧ k + ((1 : Nat) : Int) ≤ bnd := hk
    have w0 : IntKind.i64.wrap (k + 1) = k + 1 := wrapB (by omega) (by omega)
    refine Vc.skip ?_
    refine Vc.seq ?_
    refine Vc.block ?_
    refine Vc.seq ?_
    refine Vc.region hG rfl ?_ ?_
    · refine ⟨trivial, ?_⟩
      show inRange i _
      simp only [List.length_set]
      exact mkRange hI hl
    refine Vc.region hG rfl ?_ ?_
    · trivial
    refine Vc.region hG rfl ?_ ?_
    · trivial
    refine ⟨rfl, ?_⟩
    refine mkStep hI hl hbv (dflt (.str)) ?_ ?_
    · rw [hX]
      try simp only [List.length_set, List.set_set, getD_setS hln, hX, cntF_eq, Sh.ty, w0]
      try rfl
    · rw [hX]
      show _ = k + ((1 : Nat) : Int)
      try simp only [List.length_set, List.set_set, getD_setS hln, hX, cntF_eq, Sh.ty, w0]
      try omega
  · skip
    have hl : ¬ i < (List.length v : Int) := of_decide_eq_false h0
    refine Vc.exit ?_
    refine Vc.seq ?_
    refine Vc.region hG rfl ?_ ?_
    · trivial
    refine Vc.ret ?_
    have e := mkEnd hI hl
    refine ⟨?_, ?_, trivial⟩
    · show k = cntF (.slice (.str)) a0 a1
      rw [cntF_eq]; exact e.1
    · exact e.2
@[reducible] noncomputable def M24 : MFun := mF (.own (.pure (.int .i64)))
set_option maxRecDepth 100000 in
set_option maxHeartbeats 2000000 in
/-- loop.example.g00597.laws.markIntS -/
theorem M24_ok : MeetsM Tryz.prog 24 M24 := by
  refine meetsM_of_vc (C := mkCM 19 [4] [0,1,4,5,9] [] [] [] [0]) (mkCM_ok _ _ _ _ _ _ _) (fnOf_ok _) Tryz.func24 rfl rfl rfl (by decide) rfl rfl rfl rfl ?_
  rintro a0 (a1 : Int) hwf hin hpre ⟨P, C, B, X, w0, M0, pv⟩ hG rfl rfl
  show Vc _ _ [(0, ⟨0, 0, .c (.own (.pure (.int .i64))) a0⟩), (1, ⟨0, 0, .c (.pure (.int .i64)) a1⟩)] _
  have hb : List.length a0 ≤ bigLen := hwf.1
  have hp0 : 0 ≤ a1 := hpre.1
  have hp1 : a1 + ((cellsL (cellsC (.int .i64)) a0 : Nat) : Int) ≤ bnd := hpre.2
  refine Vc.seq ?_
  refine Vc.region hG rfl ?_ ?_
  · trivial
  refine Vc.seq ?_
  refine Vc.seq ?_
  refine Vc.region hG rfl ?_ ?_
  · trivial
  refine Vc.block ?_
  -- slots [0, 1, 5]; frame [4]
  refine Vc.loopF [(0, false, .own (.pure (.int .i64))), (1, false, .pure (.int .i64)), (5, false, .pure (.int .i64))] [4] (fun v => mkInv (cellsC (.int .i64)) (markC (.int .i64)) a0 a1 v.1 v.2.1 v.2.2.1) (fun v => ((List.length v.1 : Int) - v.2.2.1).toNat) rfl ?_ ?_
  · exact mkStart
  rintro ⟨v, (k : Int), (i : Int), _⟩ hI
  have hI : mkInv (cellsC (.int .i64)) (markC (.int .i64)) a0 a1 v k i := hI
  have hbv : v.length ≤ bigLen := by rw [mkLen hI]; exact hb
  refine Vc.seq ?_
  refine Vc.seq ?_
  refine Vc.region hG rfl ?_ ?_
  · trivial
  refine Vc.cond rfl (fun h0 => ?_) (fun h0 => ?_)
  · skip
    have hl : i < (List.length v : Int) := of_decide_eq_true h0
    have hln : i.toNat < v.length := by have := hI.1; omega
    have hk := mkBound hI hl (dflt (.int .i64)) hp0 hp1
    generalize hX : List.getD v i.toNat (dflt (.int .i64)) = X at hk
    have hk : 0 ≤ k ∧ k + ((1 : Nat) : Int) ≤ bnd := hk
    have w0 : IntKind.i64.wrap (k + 1) = k + 1 := wrapB (by omega) (by omega)
    refine Vc.skip ?_
    refine Vc.seq ?_
    refine Vc.block ?_
    refine Vc.seq ?_
    refine Vc.region hG rfl ?_ ?_
    · show inRange i _
      exact mkRange hI hl
    refine Vc.region hG rfl ?_ ?_
    · trivial
    refine Vc.region hG rfl ?_ ?_
    · trivial
    refine ⟨rfl, ?_⟩
    refine mkStep hI hl hbv (dflt (.int .i64)) ?_ ?_
    · rw [hX]
      try simp only [List.length_set, List.set_set, getD_setS hln, hX, cntF_eq, Sh.ty, w0]
      try rfl
    · rw [hX]
      show _ = k + ((1 : Nat) : Int)
      try simp only [List.length_set, List.set_set, getD_setS hln, hX, cntF_eq, Sh.ty, w0]
      try omega
  · skip
    have hl : ¬ i < (List.length v : Int) := of_decide_eq_false h0
    refine Vc.exit ?_
    refine Vc.seq ?_
    refine Vc.region hG rfl ?_ ?_
    · trivial
    refine Vc.ret ?_
    have e := mkEnd hI hl
    refine ⟨?_, ?_, trivial⟩
    · show k = cntF (.slice (.int .i64)) a0 a1
      rw [cntF_eq]; exact e.1
    · exact e.2
@[reducible] noncomputable def M97 : MFun := mF (.own (.pair (.pure (.int .i64)) (.pair (.own (.pure (.int .i64))) (.pure (.int .i64)))))
set_option maxRecDepth 100000 in
set_option maxHeartbeats 2000000 in
/-- loop.example.g00597.laws.markPieceS -/
theorem M97_ok : MeetsM Tryz.prog 97 M97 := by
  refine meetsM_of_vc (C := mkCM 34 [4] [0,1,4,5,9] [] [⟨24, _, M24_ok⟩] [] [0]) (mkCM_ok _ _ _ _ _ _ _) (fnOf_ok _) Tryz.func97 rfl rfl rfl (by decide) rfl rfl rfl rfl ?_
  rintro a0 (a1 : Int) hwf hin hpre ⟨P, C, B, X, w0, M0, pv⟩ hG rfl rfl
  show Vc _ _ [(0, ⟨0, 0, .c (.own (.pair (.pure (.int .i64)) (.pair (.own (.pure (.int .i64))) (.pure (.int .i64))))) a0⟩), (1, ⟨0, 0, .c (.pure (.int .i64)) a1⟩)] _
  have hb : List.length a0 ≤ bigLen := hwf.1
  have hp0 : 0 ≤ a1 := hpre.1
  have hp1 : a1 + ((cellsL (cellsC (.pair (.int .i64) (.pair (.slice (.int .i64)) (.int .i64)))) a0 : Nat) : Int) ≤ bnd := hpre.2
  refine Vc.seq ?_
  refine Vc.region hG rfl ?_ ?_
  · trivial
  refine Vc.seq ?_
  refine Vc.seq ?_
  refine Vc.region hG rfl ?_ ?_
  · trivial
  refine Vc.block ?_
  -- slots [0, 1, 5]; frame [4]
  refine Vc.loopF [(0, false, .own (.pair (.pure (.int .i64)) (.pair (.own (.pure (.int .i64))) (.pure (.int .i64))))), (1, false, .pure (.int .i64)), (5, false, .pure (.int .i64))] [4] (fun v => mkInv (cellsC (.pair (.int .i64) (.pair (.slice (.int .i64)) (.int .i64)))) (markC (.pair (.int .i64) (.pair (.slice (.int .i64)) (.int .i64)))) a0 a1 v.1 v.2.1 v.2.2.1) (fun v => ((List.length v.1 : Int) - v.2.2.1).toNat) rfl ?_ ?_
  · exact mkStart
  rintro ⟨v, (k : Int), (i : Int), _⟩ hI
  have hI : mkInv (cellsC (.pair (.int .i64) (.pair (.slice (.int .i64)) (.int .i64)))) (markC (.pair (.int .i64) (.pair (.slice (.int .i64)) (.int .i64)))) a0 a1 v k i := hI
  have hbv : v.length ≤ bigLen := by rw [mkLen hI]; exact hb
  refine Vc.seq ?_
  refine Vc.seq ?_
  refine Vc.region hG rfl ?_ ?_
  · trivial
  refine Vc.cond rfl (fun h0 => ?_) (fun h0 => ?_)
  · skip
    have hl : i < (List.length v : Int) := of_decide_eq_true h0
    have hln : i.toNat < v.length := by have := hI.1; omega
    have hk := mkBound hI hl (dflt (.pair (.int .i64) (.pair (.slice (.int .i64)) (.int .i64)))) hp0 hp1
    generalize hX : List.getD v i.toNat (dflt (.pair (.int .i64) (.pair (.slice (.int .i64)) (.int .i64)))) = X at hk
    have hk : 0 ≤ k ∧ k + (((1 + ((cellsC (.slice (.int .i64)) X.2.1) + 1)) : Nat) : Int) ≤ bnd := hk
    have w0 : IntKind.i64.wrap (k + 1) = k + 1 := wrapB (by omega) (by omega)
    have w1 : IntKind.i64.wrap (k + 1 + ((cellsC (.slice (.int .i64)) X.2.1 : Nat) : Int) + 1) = k + 1 + ((cellsC (.slice (.int .i64)) X.2.1 : Nat) : Int) + 1 := wrapB (by omega) (by omega)
    refine Vc.skip ?_
    refine Vc.seq ?_
    refine Vc.block ?_
    refine Vc.seq ?_
    refine Vc.region hG rfl ?_ ?_
    · show inRange i _
      exact mkRange hI hl
    refine Vc.seq ?_
    refine Vc.region hG rfl ?_ ?_
    · trivial
    refine Vc.seq ?_
    refine Vc.region hG rfl ?_ ?_
    · refine ⟨?_, ?_⟩
      · show inRange i _
        simp only [List.length_set]
        exact mkRange hI hl
      · show markPre (.slice (.int .i64)) _ _
        try simp only [List.length_set, List.set_set, getD_setS hln, hX, cntF_eq, Sh.ty, w0, w1]
        exact ⟨by omega, by omega⟩
    refine Vc.seq ?_
    refine Vc.region hG rfl ?_ ?_
    · show inRange i _
      simp only [List.length_set]
      exact mkRange hI hl
    refine Vc.region hG rfl ?_ ?_
    · trivial
    refine Vc.region hG rfl ?_ ?_
    · trivial
    refine ⟨rfl, ?_⟩
    refine mkStep hI hl hbv (dflt (.pair (.int .i64) (.pair (.slice (.int .i64)) (.int .i64)))) ?_ ?_
    · rw [hX]
      try simp only [List.length_set, List.set_set, getD_setS hln, hX, cntF_eq, Sh.ty, w0, w1]
      try rfl
    · rw [hX]
      show _ = k + (((1 + ((cellsC (.slice (.int .i64)) X.2.1) + 1)) : Nat) : Int)
      try simp only [List.length_set, List.set_set, getD_setS hln, hX, cntF_eq, Sh.ty, w0, w1]
      try omega
  · skip
    have hl : ¬ i < (List.length v : Int) := of_decide_eq_false h0
    refine Vc.exit ?_
    refine Vc.seq ?_
    refine Vc.region hG rfl ?_ ?_
    · trivial
    refine Vc.ret ?_
    have e := mkEnd hI hl
    refine ⟨?_, ?_, trivial⟩
    · show k = cntF (.slice (.pair (.int .i64) (.pair (.slice (.int .i64)) (.int .i64)))) a0 a1
      rw [cntF_eq]; exact e.1
    · exact e.2
@[reducible] noncomputable def M133 : MFun := mF (.own (.pure (.pair (.int .i64) (.bool))))
set_option maxRecDepth 100000 in
set_option maxHeartbeats 2000000 in
/-- loop.example.g00597.laws.markStepS -/
theorem M133_ok : MeetsM Tryz.prog 133 M133 := by
  refine meetsM_of_vc (C := mkCM 29 [4] [0,1,4,5,9] [] [] [] [0]) (mkCM_ok _ _ _ _ _ _ _) (fnOf_ok _) Tryz.func133 rfl rfl rfl (by decide) rfl rfl rfl rfl ?_
  rintro a0 (a1 : Int) hwf hin hpre ⟨P, C, B, X, w0, M0, pv⟩ hG rfl rfl
  show Vc _ _ [(0, ⟨0, 0, .c (.own (.pure (.pair (.int .i64) (.bool)))) a0⟩), (1, ⟨0, 0, .c (.pure (.int .i64)) a1⟩)] _
  have hb : List.length a0 ≤ bigLen := hwf.1
  have hp0 : 0 ≤ a1 := hpre.1
  have hp1 : a1 + ((cellsL (cellsC (.pair (.int .i64) (.bool))) a0 : Nat) : Int) ≤ bnd := hpre.2
  refine Vc.seq ?_
  refine Vc.region hG rfl ?_ ?_
  · trivial
  refine Vc.seq ?_
  refine Vc.seq ?_
  refine Vc.region hG rfl ?_ ?_
  · trivial
  refine Vc.block ?_
  -- slots [0, 1, 5]; frame [4]
  refine Vc.loopF [(0, false, .own (.pure (.pair (.int .i64) (.bool)))), (1, false, .pure (.int .i64)), (5, false, .pure (.int .i64))] [4] (fun v => mkInv (cellsC (.pair (.int .i64) (.bool))) (markC (.pair (.int .i64) (.bool))) a0 a1 v.1 v.2.1 v.2.2.1) (fun v => ((List.length v.1 : Int) - v.2.2.1).toNat) rfl ?_ ?_
  · exact mkStart
  rintro ⟨v, (k : Int), (i : Int), _⟩ hI
  have hI : mkInv (cellsC (.pair (.int .i64) (.bool))) (markC (.pair (.int .i64) (.bool))) a0 a1 v k i := hI
  have hbv : v.length ≤ bigLen := by rw [mkLen hI]; exact hb
  refine Vc.seq ?_
  refine Vc.seq ?_
  refine Vc.region hG rfl ?_ ?_
  · trivial
  refine Vc.cond rfl (fun h0 => ?_) (fun h0 => ?_)
  · skip
    have hl : i < (List.length v : Int) := of_decide_eq_true h0
    have hln : i.toNat < v.length := by have := hI.1; omega
    have hk := mkBound hI hl (dflt (.pair (.int .i64) (.bool))) hp0 hp1
    generalize hX : List.getD v i.toNat (dflt (.pair (.int .i64) (.bool))) = X at hk
    have hk : 0 ≤ k ∧ k + (((1 + 1) : Nat) : Int) ≤ bnd := hk
    have w0 : IntKind.i64.wrap (k + 1) = k + 1 := wrapB (by omega) (by omega)
    have w1 : IntKind.i64.wrap (k + 1 + 1) = k + 1 + 1 := wrapB (by omega) (by omega)
    refine Vc.skip ?_
    refine Vc.seq ?_
    refine Vc.block ?_
    refine Vc.seq ?_
    refine Vc.region hG rfl ?_ ?_
    · show inRange i _
      exact mkRange hI hl
    refine Vc.seq ?_
    refine Vc.region hG rfl ?_ ?_
    · trivial
    refine Vc.seq ?_
    refine Vc.region hG rfl ?_ ?_
    · refine ⟨by decide, ?_⟩
      show inRange i _
      simp only [List.length_set]
      exact mkRange hI hl
    refine Vc.region hG rfl ?_ ?_
    · trivial
    refine Vc.region hG rfl ?_ ?_
    · trivial
    refine ⟨rfl, ?_⟩
    refine mkStep hI hl hbv (dflt (.pair (.int .i64) (.bool))) ?_ ?_
    · rw [hX]
      try simp only [List.length_set, List.set_set, getD_setS hln, hX, cntF_eq, Sh.ty, w0, w1]
      try rfl
    · rw [hX]
      show _ = k + (((1 + 1) : Nat) : Int)
      try simp only [List.length_set, List.set_set, getD_setS hln, hX, cntF_eq, Sh.ty, w0, w1]
      try omega
  · skip
    have hl : ¬ i < (List.length v : Int) := of_decide_eq_false h0
    refine Vc.exit ?_
    refine Vc.seq ?_
    refine Vc.region hG rfl ?_ ?_
    · trivial
    refine Vc.ret ?_
    have e := mkEnd hI hl
    refine ⟨?_, ?_, trivial⟩
    · show k = cntF (.slice (.pair (.int .i64) (.bool))) a0 a1
      rw [cntF_eq]; exact e.1
    · exact e.2
@[reducible] noncomputable def M32 : MFun := mF (.own (.pure (.pair (.int .i64) (.pair (.int .i64) (.pair (.int .i64) (.pair (.int .i64) (.int .i64)))))))
set_option maxRecDepth 100000 in
set_option maxHeartbeats 2000000 in
/-- loop.example.g00597.laws.markStampS -/
theorem M32_ok : MeetsM Tryz.prog 32 M32 := by
  refine meetsM_of_vc (C := mkCM 48 [4] [0,1,4,5,9] [] [] [] [0]) (mkCM_ok _ _ _ _ _ _ _) (fnOf_ok _) Tryz.func32 rfl rfl rfl (by decide) rfl rfl rfl rfl ?_
  rintro a0 (a1 : Int) hwf hin hpre ⟨P, C, B, X, w0, M0, pv⟩ hG rfl rfl
  show Vc _ _ [(0, ⟨0, 0, .c (.own (.pure (.pair (.int .i64) (.pair (.int .i64) (.pair (.int .i64) (.pair (.int .i64) (.int .i64))))))) a0⟩), (1, ⟨0, 0, .c (.pure (.int .i64)) a1⟩)] _
  have hb : List.length a0 ≤ bigLen := hwf.1
  have hp0 : 0 ≤ a1 := hpre.1
  have hp1 : a1 + ((cellsL (cellsC (.pair (.int .i64) (.pair (.int .i64) (.pair (.int .i64) (.pair (.int .i64) (.int .i64)))))) a0 : Nat) : Int) ≤ bnd := hpre.2
  refine Vc.seq ?_
  refine Vc.region hG rfl ?_ ?_
  · trivial
  refine Vc.seq ?_
  refine Vc.seq ?_
  refine Vc.region hG rfl ?_ ?_
  · trivial
  refine Vc.block ?_
  -- slots [0, 1, 5]; frame [4]
  refine Vc.loopF [(0, false, .own (.pure (.pair (.int .i64) (.pair (.int .i64) (.pair (.int .i64) (.pair (.int .i64) (.int .i64))))))), (1, false, .pure (.int .i64)), (5, false, .pure (.int .i64))] [4] (fun v => mkInv (cellsC (.pair (.int .i64) (.pair (.int .i64) (.pair (.int .i64) (.pair (.int .i64) (.int .i64)))))) (markC (.pair (.int .i64) (.pair (.int .i64) (.pair (.int .i64) (.pair (.int .i64) (.int .i64)))))) a0 a1 v.1 v.2.1 v.2.2.1) (fun v => ((List.length v.1 : Int) - v.2.2.1).toNat) rfl ?_ ?_
  · exact mkStart
  rintro ⟨v, (k : Int), (i : Int), _⟩ hI
  have hI : mkInv (cellsC (.pair (.int .i64) (.pair (.int .i64) (.pair (.int .i64) (.pair (.int .i64) (.int .i64)))))) (markC (.pair (.int .i64) (.pair (.int .i64) (.pair (.int .i64) (.pair (.int .i64) (.int .i64)))))) a0 a1 v k i := hI
  have hbv : v.length ≤ bigLen := by rw [mkLen hI]; exact hb
  refine Vc.seq ?_
  refine Vc.seq ?_
  refine Vc.region hG rfl ?_ ?_
  · trivial
  refine Vc.cond rfl (fun h0 => ?_) (fun h0 => ?_)
  · skip
    have hl : i < (List.length v : Int) := of_decide_eq_true h0
    have hln : i.toNat < v.length := by have := hI.1; omega
    have hk := mkBound hI hl (dflt (.pair (.int .i64) (.pair (.int .i64) (.pair (.int .i64) (.pair (.int .i64) (.int .i64)))))) hp0 hp1
    generalize hX : List.getD v i.toNat (dflt (.pair (.int .i64) (.pair (.int .i64) (.pair (.int .i64) (.pair (.int .i64) (.int .i64)))))) = X at hk
    have hk : 0 ≤ k ∧ k + (((1 + (1 + (1 + (1 + 1)))) : Nat) : Int) ≤ bnd := hk
    have w0 : IntKind.i64.wrap (k + 1) = k + 1 := wrapB (by omega) (by omega)
    have w1 : IntKind.i64.wrap (k + 1 + 1) = k + 1 + 1 := wrapB (by omega) (by omega)
    have w2 : IntKind.i64.wrap (k + 1 + 1 + 1) = k + 1 + 1 + 1 := wrapB (by omega) (by omega)
    have w3 : IntKind.i64.wrap (k + 1 + 1 + 1 + 1) = k + 1 + 1 + 1 + 1 := wrapB (by omega) (by omega)
    have w4 : IntKind.i64.wrap (k + 1 + 1 + 1 + 1 + 1) = k + 1 + 1 + 1 + 1 + 1 := wrapB (by omega) (by omega)
    refine Vc.skip ?_
    refine Vc.seq ?_
    refine Vc.block ?_
    refine Vc.seq ?_
    refine Vc.region hG rfl ?_ ?_
    · show inRange i _
      exact mkRange hI hl
    refine Vc.seq ?_
    refine Vc.region hG rfl ?_ ?_
    · trivial
    refine Vc.seq ?_
    refine Vc.region hG rfl ?_ ?_
    · show inRange i _
      simp only [List.length_set]
      exact mkRange hI hl
    refine Vc.seq ?_
    refine Vc.region hG rfl ?_ ?_
    · trivial
    refine Vc.seq ?_
    refine Vc.region hG rfl ?_ ?_
    · show inRange i _
      simp only [List.length_set]
      exact mkRange hI hl
    refine Vc.seq ?_
    refine Vc.region hG rfl ?_ ?_
    · trivial
    refine Vc.seq ?_
    refine Vc.region hG rfl ?_ ?_
    · show inRange i _
      simp only [List.length_set]
      exact mkRange hI hl
    refine Vc.seq ?_
    refine Vc.region hG rfl ?_ ?_
    · trivial
    refine Vc.seq ?_
    refine Vc.region hG rfl ?_ ?_
    · show inRange i _
      simp only [List.length_set]
      exact mkRange hI hl
    refine Vc.region hG rfl ?_ ?_
    · trivial
    refine Vc.region hG rfl ?_ ?_
    · trivial
    refine ⟨rfl, ?_⟩
    refine mkStep hI hl hbv (dflt (.pair (.int .i64) (.pair (.int .i64) (.pair (.int .i64) (.pair (.int .i64) (.int .i64)))))) ?_ ?_
    · rw [hX]
      try simp only [List.length_set, List.set_set, getD_setS hln, hX, cntF_eq, Sh.ty, w0, w1, w2, w3, w4]
      try rfl
    · rw [hX]
      show _ = k + (((1 + (1 + (1 + (1 + 1)))) : Nat) : Int)
      try simp only [List.length_set, List.set_set, getD_setS hln, hX, cntF_eq, Sh.ty, w0, w1, w2, w3, w4]
      try omega
  · skip
    have hl : ¬ i < (List.length v : Int) := of_decide_eq_false h0
    refine Vc.exit ?_
    refine Vc.seq ?_
    refine Vc.region hG rfl ?_ ?_
    · trivial
    refine Vc.ret ?_
    have e := mkEnd hI hl
    refine ⟨?_, ?_, trivial⟩
    · show k = cntF (.slice (.pair (.int .i64) (.pair (.int .i64) (.pair (.int .i64) (.pair (.int .i64) (.int .i64)))))) a0 a1
      rw [cntF_eq]; exact e.1
    · exact e.2
@[reducible] noncomputable def M98 : MFun := mF (.own (.pair (.pure (.int .i64)) (.pair (.pure (.int .i64)) (.pair (.pure (.int .i64)) (.pair (.own (.pure (.pair (.int .i64) (.bool)))) (.own (.pure (.pair (.int .i64) (.pair (.int .i64) (.pair (.int .i64) (.pair (.int .i64) (.int .i64))))))))))))
set_option maxRecDepth 100000 in
set_option maxHeartbeats 2000000 in
/-- loop.example.g00597.laws.markRenewalS -/
theorem M98_ok : MeetsM Tryz.prog 98 M98 := by
  refine meetsM_of_vc (C := mkCM 48 [4] [0,1,4,5,9] [] [⟨133, _, M133_ok⟩, ⟨32, _, M32_ok⟩] [] [0]) (mkCM_ok _ _ _ _ _ _ _) (fnOf_ok _) Tryz.func98 rfl rfl rfl (by decide) rfl rfl rfl rfl ?_
  rintro a0 (a1 : Int) hwf hin hpre ⟨P, C, B, X, w0, M0, pv⟩ hG rfl rfl
  show Vc _ _ [(0, ⟨0, 0, .c (.own (.pair (.pure (.int .i64)) (.pair (.pure (.int .i64)) (.pair (.pure (.int .i64)) (.pair (.own (.pure (.pair (.int .i64) (.bool)))) (.own (.pure (.pair (.int .i64) (.pair (.int .i64) (.pair (.int .i64) (.pair (.int .i64) (.int .i64)))))))))))) a0⟩), (1, ⟨0, 0, .c (.pure (.int .i64)) a1⟩)] _
  have hb : List.length a0 ≤ bigLen := hwf.1
  have hp0 : 0 ≤ a1 := hpre.1
  have hp1 : a1 + ((cellsL (cellsC (.pair (.int .i64) (.pair (.int .i64) (.pair (.int .i64) (.pair (.slice (.pair (.int .i64) (.bool))) (.slice (.pair (.int .i64) (.pair (.int .i64) (.pair (.int .i64) (.pair (.int .i64) (.int .i64))))))))))) a0 : Nat) : Int) ≤ bnd := hpre.2
  refine Vc.seq ?_
  refine Vc.region hG rfl ?_ ?_
  · trivial
  refine Vc.seq ?_
  refine Vc.seq ?_
  refine Vc.region hG rfl ?_ ?_
  · trivial
  refine Vc.block ?_
  -- slots [0, 1, 5]; frame [4]
  refine Vc.loopF [(0, false, .own (.pair (.pure (.int .i64)) (.pair (.pure (.int .i64)) (.pair (.pure (.int .i64)) (.pair (.own (.pure (.pair (.int .i64) (.bool)))) (.own (.pure (.pair (.int .i64) (.pair (.int .i64) (.pair (.int .i64) (.pair (.int .i64) (.int .i64)))))))))))), (1, false, .pure (.int .i64)), (5, false, .pure (.int .i64))] [4] (fun v => mkInv (cellsC (.pair (.int .i64) (.pair (.int .i64) (.pair (.int .i64) (.pair (.slice (.pair (.int .i64) (.bool))) (.slice (.pair (.int .i64) (.pair (.int .i64) (.pair (.int .i64) (.pair (.int .i64) (.int .i64))))))))))) (markC (.pair (.int .i64) (.pair (.int .i64) (.pair (.int .i64) (.pair (.slice (.pair (.int .i64) (.bool))) (.slice (.pair (.int .i64) (.pair (.int .i64) (.pair (.int .i64) (.pair (.int .i64) (.int .i64))))))))))) a0 a1 v.1 v.2.1 v.2.2.1) (fun v => ((List.length v.1 : Int) - v.2.2.1).toNat) rfl ?_ ?_
  · exact mkStart
  rintro ⟨v, (k : Int), (i : Int), _⟩ hI
  have hI : mkInv (cellsC (.pair (.int .i64) (.pair (.int .i64) (.pair (.int .i64) (.pair (.slice (.pair (.int .i64) (.bool))) (.slice (.pair (.int .i64) (.pair (.int .i64) (.pair (.int .i64) (.pair (.int .i64) (.int .i64))))))))))) (markC (.pair (.int .i64) (.pair (.int .i64) (.pair (.int .i64) (.pair (.slice (.pair (.int .i64) (.bool))) (.slice (.pair (.int .i64) (.pair (.int .i64) (.pair (.int .i64) (.pair (.int .i64) (.int .i64))))))))))) a0 a1 v k i := hI
  have hbv : v.length ≤ bigLen := by rw [mkLen hI]; exact hb
  refine Vc.seq ?_
  refine Vc.seq ?_
  refine Vc.region hG rfl ?_ ?_
  · trivial
  refine Vc.cond rfl (fun h0 => ?_) (fun h0 => ?_)
  · skip
    have hl : i < (List.length v : Int) := of_decide_eq_true h0
    have hln : i.toNat < v.length := by have := hI.1; omega
    have hk := mkBound hI hl (dflt (.pair (.int .i64) (.pair (.int .i64) (.pair (.int .i64) (.pair (.slice (.pair (.int .i64) (.bool))) (.slice (.pair (.int .i64) (.pair (.int .i64) (.pair (.int .i64) (.pair (.int .i64) (.int .i64))))))))))) hp0 hp1
    generalize hX : List.getD v i.toNat (dflt (.pair (.int .i64) (.pair (.int .i64) (.pair (.int .i64) (.pair (.slice (.pair (.int .i64) (.bool))) (.slice (.pair (.int .i64) (.pair (.int .i64) (.pair (.int .i64) (.pair (.int .i64) (.int .i64))))))))))) = X at hk
    have hk : 0 ≤ k ∧ k + (((1 + (1 + (1 + ((cellsC (.slice (.pair (.int .i64) (.bool))) X.2.2.2.1) + (cellsC (.slice (.pair (.int .i64) (.pair (.int .i64) (.pair (.int .i64) (.pair (.int .i64) (.int .i64)))))) X.2.2.2.2))))) : Nat) : Int) ≤ bnd := hk
    have w0 : IntKind.i64.wrap (k + 1) = k + 1 := wrapB (by omega) (by omega)
    have w1 : IntKind.i64.wrap (k + 1 + 1) = k + 1 + 1 := wrapB (by omega) (by omega)
    have w2 : IntKind.i64.wrap (k + 1 + 1 + 1) = k + 1 + 1 + 1 := wrapB (by omega) (by omega)
    refine Vc.skip ?_
    refine Vc.seq ?_
    refine Vc.block ?_
    refine Vc.seq ?_
    refine Vc.region hG rfl ?_ ?_
    · show inRange i _
      exact mkRange hI hl
    refine Vc.seq ?_
    refine Vc.region hG rfl ?_ ?_
    · trivial
    refine Vc.seq ?_
    refine Vc.region hG rfl ?_ ?_
    · show inRange i _
      simp only [List.length_set]
      exact mkRange hI hl
    refine Vc.seq ?_
    refine Vc.region hG rfl ?_ ?_
    · trivial
    refine Vc.seq ?_
    refine Vc.region hG rfl ?_ ?_
    · show inRange i _
      simp only [List.length_set]
      exact mkRange hI hl
    refine Vc.seq ?_
    refine Vc.region hG rfl ?_ ?_
    · trivial
    refine Vc.seq ?_
    refine Vc.region hG rfl ?_ ?_
    · refine ⟨?_, ?_⟩
      · show inRange i _
        simp only [List.length_set]
        exact mkRange hI hl
      · show markPre (.slice (.pair (.int .i64) (.bool))) _ _
        try simp only [List.length_set, List.set_set, getD_setS hln, hX, cntF_eq, Sh.ty, w0, w1, w2]
        exact ⟨by omega, by omega⟩
    refine Vc.region hG rfl ?_ ?_
    · refine ⟨?_, ?_⟩
      · show inRange i _
        simp only [List.length_set]
        exact mkRange hI hl
      · show markPre (.slice (.pair (.int .i64) (.pair (.int .i64) (.pair (.int .i64) (.pair (.int .i64) (.int .i64)))))) _ _
        try simp only [List.length_set, List.set_set, getD_setS hln, hX, cntF_eq, Sh.ty, w0, w1, w2]
        exact ⟨by omega, by omega⟩
    refine Vc.region hG rfl ?_ ?_
    · trivial
    refine ⟨rfl, ?_⟩
    refine mkStep hI hl hbv (dflt (.pair (.int .i64) (.pair (.int .i64) (.pair (.int .i64) (.pair (.slice (.pair (.int .i64) (.bool))) (.slice (.pair (.int .i64) (.pair (.int .i64) (.pair (.int .i64) (.pair (.int .i64) (.int .i64))))))))))) ?_ ?_
    · rw [hX]
      try simp only [List.length_set, List.set_set, getD_setS hln, hX, cntF_eq, Sh.ty, w0, w1, w2]
      try rfl
    · rw [hX]
      show _ = k + (((1 + (1 + (1 + ((cellsC (.slice (.pair (.int .i64) (.bool))) X.2.2.2.1) + (cellsC (.slice (.pair (.int .i64) (.pair (.int .i64) (.pair (.int .i64) (.pair (.int .i64) (.int .i64)))))) X.2.2.2.2))))) : Nat) : Int)
      try simp only [List.length_set, List.set_set, getD_setS hln, hX, cntF_eq, Sh.ty, w0, w1, w2]
      try omega
  · skip
    have hl : ¬ i < (List.length v : Int) := of_decide_eq_false h0
    refine Vc.exit ?_
    refine Vc.seq ?_
    refine Vc.region hG rfl ?_ ?_
    · trivial
    refine Vc.ret ?_
    have e := mkEnd hI hl
    refine ⟨?_, ?_, trivial⟩
    · show k = cntF (.slice (.pair (.int .i64) (.pair (.int .i64) (.pair (.int .i64) (.pair (.slice (.pair (.int .i64) (.bool))) (.slice (.pair (.int .i64) (.pair (.int .i64) (.pair (.int .i64) (.pair (.int .i64) (.int .i64))))))))))) a0 a1
      rw [cntF_eq]; exact e.1
    · exact e.2
@[reducible] noncomputable def M58 : MFun := mF (.own (.pair (.pure (.int .i64)) (.pair (.pure (.int .i64)) (.pair (.pair (.pure (.int .i64)) (.pair (.own (.pure (.str))) (.own (.pure (.int .i64))))) (.pair (.pure (.pair (.int .i64) (.pair (.int .i64) (.pair (.int .i64) (.pair (.int .i64) (.pair (.int .i64) (.pair (.int .i64) (.pair (.int .i64) (.pair (.int .i64) (.int .i64)))))))))) (.pair (.own (.pair (.pure (.int .i64)) (.pair (.own (.pure (.int .i64))) (.pure (.int .i64))))) (.own (.pair (.pure (.int .i64)) (.pair (.pure (.int .i64)) (.pair (.pure (.int .i64)) (.pair (.own (.pure (.pair (.int .i64) (.bool)))) (.own (.pure (.pair (.int .i64) (.pair (.int .i64) (.pair (.int .i64) (.pair (.int .i64) (.int .i64))))))))))))))))))
set_option maxRecDepth 100000 in
set_option maxHeartbeats 2000000 in
/-- loop.example.g00597.laws.markItemS -/
theorem M58_ok : MeetsM Tryz.prog 58 M58 := by
  refine meetsM_of_vc (C := mkCM 139 [4] [0,1,4,5,9] [] [⟨96, _, M96_ok⟩, ⟨24, _, M24_ok⟩, ⟨97, _, M97_ok⟩, ⟨98, _, M98_ok⟩] [] [0]) (mkCM_ok _ _ _ _ _ _ _) (fnOf_ok _) Tryz.func58 rfl rfl rfl (by decide) rfl rfl rfl rfl ?_
  rintro a0 (a1 : Int) hwf hin hpre ⟨P, C, B, X, w0, M0, pv⟩ hG rfl rfl
  show Vc _ _ [(0, ⟨0, 0, .c (.own (.pair (.pure (.int .i64)) (.pair (.pure (.int .i64)) (.pair (.pair (.pure (.int .i64)) (.pair (.own (.pure (.str))) (.own (.pure (.int .i64))))) (.pair (.pure (.pair (.int .i64) (.pair (.int .i64) (.pair (.int .i64) (.pair (.int .i64) (.pair (.int .i64) (.pair (.int .i64) (.pair (.int .i64) (.pair (.int .i64) (.int .i64)))))))))) (.pair (.own (.pair (.pure (.int .i64)) (.pair (.own (.pure (.int .i64))) (.pure (.int .i64))))) (.own (.pair (.pure (.int .i64)) (.pair (.pure (.int .i64)) (.pair (.pure (.int .i64)) (.pair (.own (.pure (.pair (.int .i64) (.bool)))) (.own (.pure (.pair (.int .i64) (.pair (.int .i64) (.pair (.int .i64) (.pair (.int .i64) (.int .i64)))))))))))))))))) a0⟩), (1, ⟨0, 0, .c (.pure (.int .i64)) a1⟩)] _
  have hb : List.length a0 ≤ bigLen := hwf.1
  have hp0 : 0 ≤ a1 := hpre.1
  have hp1 : a1 + ((cellsL (cellsC (.pair (.int .i64) (.pair (.int .i64) (.pair (.pair (.int .i64) (.pair (.slice (.str)) (.slice (.int .i64)))) (.pair (.pair (.int .i64) (.pair (.int .i64) (.pair (.int .i64) (.pair (.int .i64) (.pair (.int .i64) (.pair (.int .i64) (.pair (.int .i64) (.pair (.int .i64) (.int .i64))))))))) (.pair (.slice (.pair (.int .i64) (.pair (.slice (.int .i64)) (.int .i64)))) (.slice (.pair (.int .i64) (.pair (.int .i64) (.pair (.int .i64) (.pair (.slice (.pair (.int .i64) (.bool))) (.slice (.pair (.int .i64) (.pair (.int .i64) (.pair (.int .i64) (.pair (.int .i64) (.int .i64))))))))))))))))) a0 : Nat) : Int) ≤ bnd := hpre.2
  refine Vc.seq ?_
  refine Vc.region hG rfl ?_ ?_
  · trivial
  refine Vc.seq ?_
  refine Vc.seq ?_
  refine Vc.region hG rfl ?_ ?_
  · trivial
  refine Vc.block ?_
  -- slots [0, 1, 5]; frame [4]
  refine Vc.loopF [(0, false, .own (.pair (.pure (.int .i64)) (.pair (.pure (.int .i64)) (.pair (.pair (.pure (.int .i64)) (.pair (.own (.pure (.str))) (.own (.pure (.int .i64))))) (.pair (.pure (.pair (.int .i64) (.pair (.int .i64) (.pair (.int .i64) (.pair (.int .i64) (.pair (.int .i64) (.pair (.int .i64) (.pair (.int .i64) (.pair (.int .i64) (.int .i64)))))))))) (.pair (.own (.pair (.pure (.int .i64)) (.pair (.own (.pure (.int .i64))) (.pure (.int .i64))))) (.own (.pair (.pure (.int .i64)) (.pair (.pure (.int .i64)) (.pair (.pure (.int .i64)) (.pair (.own (.pure (.pair (.int .i64) (.bool)))) (.own (.pure (.pair (.int .i64) (.pair (.int .i64) (.pair (.int .i64) (.pair (.int .i64) (.int .i64)))))))))))))))))), (1, false, .pure (.int .i64)), (5, false, .pure (.int .i64))] [4] (fun v => mkInv (cellsC (.pair (.int .i64) (.pair (.int .i64) (.pair (.pair (.int .i64) (.pair (.slice (.str)) (.slice (.int .i64)))) (.pair (.pair (.int .i64) (.pair (.int .i64) (.pair (.int .i64) (.pair (.int .i64) (.pair (.int .i64) (.pair (.int .i64) (.pair (.int .i64) (.pair (.int .i64) (.int .i64))))))))) (.pair (.slice (.pair (.int .i64) (.pair (.slice (.int .i64)) (.int .i64)))) (.slice (.pair (.int .i64) (.pair (.int .i64) (.pair (.int .i64) (.pair (.slice (.pair (.int .i64) (.bool))) (.slice (.pair (.int .i64) (.pair (.int .i64) (.pair (.int .i64) (.pair (.int .i64) (.int .i64))))))))))))))))) (markC (.pair (.int .i64) (.pair (.int .i64) (.pair (.pair (.int .i64) (.pair (.slice (.str)) (.slice (.int .i64)))) (.pair (.pair (.int .i64) (.pair (.int .i64) (.pair (.int .i64) (.pair (.int .i64) (.pair (.int .i64) (.pair (.int .i64) (.pair (.int .i64) (.pair (.int .i64) (.int .i64))))))))) (.pair (.slice (.pair (.int .i64) (.pair (.slice (.int .i64)) (.int .i64)))) (.slice (.pair (.int .i64) (.pair (.int .i64) (.pair (.int .i64) (.pair (.slice (.pair (.int .i64) (.bool))) (.slice (.pair (.int .i64) (.pair (.int .i64) (.pair (.int .i64) (.pair (.int .i64) (.int .i64))))))))))))))))) a0 a1 v.1 v.2.1 v.2.2.1) (fun v => ((List.length v.1 : Int) - v.2.2.1).toNat) rfl ?_ ?_
  · exact mkStart
  rintro ⟨v, (k : Int), (i : Int), _⟩ hI
  have hI : mkInv (cellsC (.pair (.int .i64) (.pair (.int .i64) (.pair (.pair (.int .i64) (.pair (.slice (.str)) (.slice (.int .i64)))) (.pair (.pair (.int .i64) (.pair (.int .i64) (.pair (.int .i64) (.pair (.int .i64) (.pair (.int .i64) (.pair (.int .i64) (.pair (.int .i64) (.pair (.int .i64) (.int .i64))))))))) (.pair (.slice (.pair (.int .i64) (.pair (.slice (.int .i64)) (.int .i64)))) (.slice (.pair (.int .i64) (.pair (.int .i64) (.pair (.int .i64) (.pair (.slice (.pair (.int .i64) (.bool))) (.slice (.pair (.int .i64) (.pair (.int .i64) (.pair (.int .i64) (.pair (.int .i64) (.int .i64))))))))))))))))) (markC (.pair (.int .i64) (.pair (.int .i64) (.pair (.pair (.int .i64) (.pair (.slice (.str)) (.slice (.int .i64)))) (.pair (.pair (.int .i64) (.pair (.int .i64) (.pair (.int .i64) (.pair (.int .i64) (.pair (.int .i64) (.pair (.int .i64) (.pair (.int .i64) (.pair (.int .i64) (.int .i64))))))))) (.pair (.slice (.pair (.int .i64) (.pair (.slice (.int .i64)) (.int .i64)))) (.slice (.pair (.int .i64) (.pair (.int .i64) (.pair (.int .i64) (.pair (.slice (.pair (.int .i64) (.bool))) (.slice (.pair (.int .i64) (.pair (.int .i64) (.pair (.int .i64) (.pair (.int .i64) (.int .i64))))))))))))))))) a0 a1 v k i := hI
  have hbv : v.length ≤ bigLen := by rw [mkLen hI]; exact hb
  refine Vc.seq ?_
  refine Vc.seq ?_
  refine Vc.region hG rfl ?_ ?_
  · trivial
  refine Vc.cond rfl (fun h0 => ?_) (fun h0 => ?_)
  · skip
    have hl : i < (List.length v : Int) := of_decide_eq_true h0
    have hln : i.toNat < v.length := by have := hI.1; omega
    have hk := mkBound hI hl (dflt (.pair (.int .i64) (.pair (.int .i64) (.pair (.pair (.int .i64) (.pair (.slice (.str)) (.slice (.int .i64)))) (.pair (.pair (.int .i64) (.pair (.int .i64) (.pair (.int .i64) (.pair (.int .i64) (.pair (.int .i64) (.pair (.int .i64) (.pair (.int .i64) (.pair (.int .i64) (.int .i64))))))))) (.pair (.slice (.pair (.int .i64) (.pair (.slice (.int .i64)) (.int .i64)))) (.slice (.pair (.int .i64) (.pair (.int .i64) (.pair (.int .i64) (.pair (.slice (.pair (.int .i64) (.bool))) (.slice (.pair (.int .i64) (.pair (.int .i64) (.pair (.int .i64) (.pair (.int .i64) (.int .i64))))))))))))))))) hp0 hp1
    generalize hX : List.getD v i.toNat (dflt (.pair (.int .i64) (.pair (.int .i64) (.pair (.pair (.int .i64) (.pair (.slice (.str)) (.slice (.int .i64)))) (.pair (.pair (.int .i64) (.pair (.int .i64) (.pair (.int .i64) (.pair (.int .i64) (.pair (.int .i64) (.pair (.int .i64) (.pair (.int .i64) (.pair (.int .i64) (.int .i64))))))))) (.pair (.slice (.pair (.int .i64) (.pair (.slice (.int .i64)) (.int .i64)))) (.slice (.pair (.int .i64) (.pair (.int .i64) (.pair (.int .i64) (.pair (.slice (.pair (.int .i64) (.bool))) (.slice (.pair (.int .i64) (.pair (.int .i64) (.pair (.int .i64) (.pair (.int .i64) (.int .i64))))))))))))))))) = X at hk
    have hk : 0 ≤ k ∧ k + (((1 + (1 + ((1 + ((cellsC (.slice (.str)) X.2.2.1.2.1) + (cellsC (.slice (.int .i64)) X.2.2.1.2.2))) + ((1 + (1 + (1 + (1 + (1 + (1 + (1 + (1 + 1)))))))) + ((cellsC (.slice (.pair (.int .i64) (.pair (.slice (.int .i64)) (.int .i64)))) X.2.2.2.2.1) + (cellsC (.slice (.pair (.int .i64) (.pair (.int .i64) (.pair (.int .i64) (.pair (.slice (.pair (.int .i64) (.bool))) (.slice (.pair (.int .i64) (.pair (.int .i64) (.pair (.int .i64) (.pair (.int .i64) (.int .i64))))))))))) X.2.2.2.2.2)))))) : Nat) : Int) ≤ bnd := hk
    have w0 : IntKind.i64.wrap (k + 1) = k + 1 := wrapB (by omega) (by omega)
    have w1 : IntKind.i64.wrap (k + 1 + 1) = k + 1 + 1 := wrapB (by omega) (by omega)
    have w2 : IntKind.i64.wrap (k + 1 + 1 + 1) = k + 1 + 1 + 1 := wrapB (by omega) (by omega)
    have w3 : IntKind.i64.wrap (k + 1 + 1 + 1 + ((cellsC (.slice (.str)) X.2.2.1.2.1 : Nat) : Int) + ((cellsC (.slice (.int .i64)) X.2.2.1.2.2 : Nat) : Int) + 1) = k + 1 + 1 + 1 + ((cellsC (.slice (.str)) X.2.2.1.2.1 : Nat) : Int) + ((cellsC (.slice (.int .i64)) X.2.2.1.2.2 : Nat) : Int) + 1 := wrapB (by omega) (by omega)
    have w4 : IntKind.i64.wrap (k + 1 + 1 + 1 + ((cellsC (.slice (.str)) X.2.2.1.2.1 : Nat) : Int) + ((cellsC (.slice (.int .i64)) X.2.2.1.2.2 : Nat) : Int) + 1 + 1) = k + 1 + 1 + 1 + ((cellsC (.slice (.str)) X.2.2.1.2.1 : Nat) : Int) + ((cellsC (.slice (.int .i64)) X.2.2.1.2.2 : Nat) : Int) + 1 + 1 := wrapB (by omega) (by omega)
    have w5 : IntKind.i64.wrap (k + 1 + 1 + 1 + ((cellsC (.slice (.str)) X.2.2.1.2.1 : Nat) : Int) + ((cellsC (.slice (.int .i64)) X.2.2.1.2.2 : Nat) : Int) + 1 + 1 + 1) = k + 1 + 1 + 1 + ((cellsC (.slice (.str)) X.2.2.1.2.1 : Nat) : Int) + ((cellsC (.slice (.int .i64)) X.2.2.1.2.2 : Nat) : Int) + 1 + 1 + 1 := wrapB (by omega) (by omega)
    have w6 : IntKind.i64.wrap (k + 1 + 1 + 1 + ((cellsC (.slice (.str)) X.2.2.1.2.1 : Nat) : Int) + ((cellsC (.slice (.int .i64)) X.2.2.1.2.2 : Nat) : Int) + 1 + 1 + 1 + 1) = k + 1 + 1 + 1 + ((cellsC (.slice (.str)) X.2.2.1.2.1 : Nat) : Int) + ((cellsC (.slice (.int .i64)) X.2.2.1.2.2 : Nat) : Int) + 1 + 1 + 1 + 1 := wrapB (by omega) (by omega)
    have w7 : IntKind.i64.wrap (k + 1 + 1 + 1 + ((cellsC (.slice (.str)) X.2.2.1.2.1 : Nat) : Int) + ((cellsC (.slice (.int .i64)) X.2.2.1.2.2 : Nat) : Int) + 1 + 1 + 1 + 1 + 1) = k + 1 + 1 + 1 + ((cellsC (.slice (.str)) X.2.2.1.2.1 : Nat) : Int) + ((cellsC (.slice (.int .i64)) X.2.2.1.2.2 : Nat) : Int) + 1 + 1 + 1 + 1 + 1 := wrapB (by omega) (by omega)
    have w8 : IntKind.i64.wrap (k + 1 + 1 + 1 + ((cellsC (.slice (.str)) X.2.2.1.2.1 : Nat) : Int) + ((cellsC (.slice (.int .i64)) X.2.2.1.2.2 : Nat) : Int) + 1 + 1 + 1 + 1 + 1 + 1) = k + 1 + 1 + 1 + ((cellsC (.slice (.str)) X.2.2.1.2.1 : Nat) : Int) + ((cellsC (.slice (.int .i64)) X.2.2.1.2.2 : Nat) : Int) + 1 + 1 + 1 + 1 + 1 + 1 := wrapB (by omega) (by omega)
    have w9 : IntKind.i64.wrap (k + 1 + 1 + 1 + ((cellsC (.slice (.str)) X.2.2.1.2.1 : Nat) : Int) + ((cellsC (.slice (.int .i64)) X.2.2.1.2.2 : Nat) : Int) + 1 + 1 + 1 + 1 + 1 + 1 + 1) = k + 1 + 1 + 1 + ((cellsC (.slice (.str)) X.2.2.1.2.1 : Nat) : Int) + ((cellsC (.slice (.int .i64)) X.2.2.1.2.2 : Nat) : Int) + 1 + 1 + 1 + 1 + 1 + 1 + 1 := wrapB (by omega) (by omega)
    have w10 : IntKind.i64.wrap (k + 1 + 1 + 1 + ((cellsC (.slice (.str)) X.2.2.1.2.1 : Nat) : Int) + ((cellsC (.slice (.int .i64)) X.2.2.1.2.2 : Nat) : Int) + 1 + 1 + 1 + 1 + 1 + 1 + 1 + 1) = k + 1 + 1 + 1 + ((cellsC (.slice (.str)) X.2.2.1.2.1 : Nat) : Int) + ((cellsC (.slice (.int .i64)) X.2.2.1.2.2 : Nat) : Int) + 1 + 1 + 1 + 1 + 1 + 1 + 1 + 1 := wrapB (by omega) (by omega)
    have w11 : IntKind.i64.wrap (k + 1 + 1 + 1 + ((cellsC (.slice (.str)) X.2.2.1.2.1 : Nat) : Int) + ((cellsC (.slice (.int .i64)) X.2.2.1.2.2 : Nat) : Int) + 1 + 1 + 1 + 1 + 1 + 1 + 1 + 1 + 1) = k + 1 + 1 + 1 + ((cellsC (.slice (.str)) X.2.2.1.2.1 : Nat) : Int) + ((cellsC (.slice (.int .i64)) X.2.2.1.2.2 : Nat) : Int) + 1 + 1 + 1 + 1 + 1 + 1 + 1 + 1 + 1 := wrapB (by omega) (by omega)
    refine Vc.skip ?_
    refine Vc.seq ?_
    refine Vc.block ?_
    refine Vc.seq ?_
    refine Vc.region hG rfl ?_ ?_
    · show inRange i _
      exact mkRange hI hl
    simp only [hX]
    refine Vc.seq ?_
    refine Vc.region hG rfl ?_ ?_
    · trivial
    refine Vc.seq ?_
    refine Vc.region hG rfl ?_ ?_
    · show inRange i _
      simp only [List.length_set]
      exact mkRange hI hl
    simp only [List.set_set, getD_setS hln, hX]
    refine Vc.seq ?_
    refine Vc.region hG rfl ?_ ?_
    · trivial
    refine Vc.seq ?_
    refine Vc.region hG rfl ?_ ?_
    · show inRange i _
      simp only [List.length_set]
      exact mkRange hI hl
    simp only [List.set_set, getD_setS hln, hX]
    refine Vc.seq ?_
    refine Vc.region hG rfl ?_ ?_
    · trivial
    refine Vc.seq ?_
    refine Vc.region hG rfl ?_ ?_
    · refine ⟨?_, ?_⟩
      · show inRange i _
        simp only [List.length_set]
        exact mkRange hI hl
      · show markPre (.slice (.str)) _ _
        try simp only [List.length_set, List.set_set, getD_setS hln, hX, cntF_eq, Sh.ty, w0, w1, w2, w3, w4, w5, w6, w7, w8, w9, w10, w11]
        exact ⟨by omega, by omega⟩
    simp only [List.set_set, getD_setS hln, hX]
    refine Vc.seq ?_
    refine Vc.region hG rfl ?_ ?_
    · refine ⟨?_, ?_⟩
      · show inRange i _
        simp only [List.length_set]
        exact mkRange hI hl
      · show markPre (.slice (.int .i64)) _ _
        try simp only [List.length_set, List.set_set, getD_setS hln, hX, cntF_eq, Sh.ty, w0, w1, w2, w3, w4, w5, w6, w7, w8, w9, w10, w11]
        exact ⟨by omega, by omega⟩
    simp only [List.set_set, getD_setS hln, hX]
    refine Vc.seq ?_
    refine Vc.region hG rfl ?_ ?_
    · show inRange i _
      simp only [List.length_set]
      exact mkRange hI hl
    simp only [List.set_set, getD_setS hln, hX]
    refine Vc.seq ?_
    refine Vc.region hG rfl ?_ ?_
    · trivial
    refine Vc.seq ?_
    refine Vc.region hG rfl ?_ ?_
    · show inRange i _
      simp only [List.length_set]
      exact mkRange hI hl
    simp only [List.set_set, getD_setS hln, hX]
    refine Vc.seq ?_
    refine Vc.region hG rfl ?_ ?_
    · trivial
    refine Vc.seq ?_
    refine Vc.region hG rfl ?_ ?_
    · show inRange i _
      simp only [List.length_set]
      exact mkRange hI hl
    simp only [List.set_set, getD_setS hln, hX]
    refine Vc.seq ?_
    refine Vc.region hG rfl ?_ ?_
    · trivial
    refine Vc.seq ?_
    refine Vc.region hG rfl ?_ ?_
    · show inRange i _
      simp only [List.length_set]
      exact mkRange hI hl
    simp only [List.set_set, getD_setS hln, hX]
    refine Vc.seq ?_
    refine Vc.region hG rfl ?_ ?_
    · trivial
    refine Vc.seq ?_
    refine Vc.region hG rfl ?_ ?_
    · show inRange i _
      simp only [List.length_set]
      exact mkRange hI hl
    simp only [List.set_set, getD_setS hln, hX]
    refine Vc.seq ?_
    refine Vc.region hG rfl ?_ ?_
    · trivial
    refine Vc.seq ?_
    refine Vc.region hG rfl ?_ ?_
    · show inRange i _
      simp only [List.length_set]
      exact mkRange hI hl
    simp only [List.set_set, getD_setS hln, hX]
    refine Vc.seq ?_
    refine Vc.region hG rfl ?_ ?_
    · trivial
    refine Vc.seq ?_
    refine Vc.region hG rfl ?_ ?_
    · show inRange i _
      simp only [List.length_set]
      exact mkRange hI hl
    simp only [List.set_set, getD_setS hln, hX]
    refine Vc.seq ?_
    refine Vc.region hG rfl ?_ ?_
    · trivial
    refine Vc.seq ?_
    refine Vc.region hG rfl ?_ ?_
    · show inRange i _
      simp only [List.length_set]
      exact mkRange hI hl
    simp only [List.set_set, getD_setS hln, hX]
    refine Vc.seq ?_
    refine Vc.region hG rfl ?_ ?_
    · trivial
    refine Vc.seq ?_
    refine Vc.region hG rfl ?_ ?_
    · show inRange i _
      simp only [List.length_set]
      exact mkRange hI hl
    simp only [List.set_set, getD_setS hln, hX]
    refine Vc.seq ?_
    refine Vc.region hG rfl ?_ ?_
    · trivial
    refine Vc.seq ?_
    refine Vc.region hG rfl ?_ ?_
    · refine ⟨?_, ?_⟩
      · show inRange i _
        simp only [List.length_set]
        exact mkRange hI hl
      · show markPre (.slice (.pair (.int .i64) (.pair (.slice (.int .i64)) (.int .i64)))) _ _
        try simp only [List.length_set, List.set_set, getD_setS hln, hX, cntF_eq, Sh.ty, w0, w1, w2, w3, w4, w5, w6, w7, w8, w9, w10, w11]
        exact ⟨by omega, by omega⟩
    simp only [List.set_set, getD_setS hln, hX]
    refine Vc.region hG rfl ?_ ?_
    · refine ⟨?_, ?_⟩
      · show inRange i _
        simp only [List.length_set]
        exact mkRange hI hl
      · show markPre (.slice (.pair (.int .i64) (.pair (.int .i64) (.pair (.int .i64) (.pair (.slice (.pair (.int .i64) (.bool))) (.slice (.pair (.int .i64) (.pair (.int .i64) (.pair (.int .i64) (.pair (.int .i64) (.int .i64))))))))))) _ _
        try simp only [List.length_set, List.set_set, getD_setS hln, hX, cntF_eq, Sh.ty, w0, w1, w2, w3, w4, w5, w6, w7, w8, w9, w10, w11]
        exact ⟨by omega, by omega⟩
    simp only [List.set_set, getD_setS hln, hX]
    refine Vc.region hG rfl ?_ ?_
    · trivial
    refine ⟨rfl, ?_⟩
    refine mkStep hI hl hbv (dflt (.pair (.int .i64) (.pair (.int .i64) (.pair (.pair (.int .i64) (.pair (.slice (.str)) (.slice (.int .i64)))) (.pair (.pair (.int .i64) (.pair (.int .i64) (.pair (.int .i64) (.pair (.int .i64) (.pair (.int .i64) (.pair (.int .i64) (.pair (.int .i64) (.pair (.int .i64) (.int .i64))))))))) (.pair (.slice (.pair (.int .i64) (.pair (.slice (.int .i64)) (.int .i64)))) (.slice (.pair (.int .i64) (.pair (.int .i64) (.pair (.int .i64) (.pair (.slice (.pair (.int .i64) (.bool))) (.slice (.pair (.int .i64) (.pair (.int .i64) (.pair (.int .i64) (.pair (.int .i64) (.int .i64))))))))))))))))) ?_ ?_
    · rw [hX]
      try simp only [List.length_set, List.set_set, getD_setS hln, hX, cntF_eq, Sh.ty, w0, w1, w2, w3, w4, w5, w6, w7, w8, w9, w10, w11]
      exact congrArg (List.set v i.toNat) (Prod.ext (show k = k from by omega) (Prod.ext (show k + 1 = k + ((1 : Nat) : Int) from by omega) (Prod.ext (Prod.ext (show k + 1 + 1 = k + ((1 : Nat) : Int) + ((1 : Nat) : Int) from by omega) (Prod.ext (congrArg (markC (.slice (.str)) X.2.2.1.2.1) (show k + 1 + 1 + 1 = k + ((1 : Nat) : Int) + ((1 : Nat) : Int) + ((1 : Nat) : Int) from by omega)) (congrArg (markC (.slice (.int .i64)) X.2.2.1.2.2) (show k + 1 + 1 + 1 + ((cellsC (.slice (.str)) X.2.2.1.2.1 : Nat) : Int) = k + ((1 : Nat) : Int) + ((1 : Nat) : Int) + ((1 : Nat) : Int) + (((cellsC (.slice (.str)) X.2.2.1.2.1) : Nat) : Int) from by omega)))) (Prod.ext (Prod.ext (show k + 1 + 1 + 1 + ((cellsC (.slice (.str)) X.2.2.1.2.1 : Nat) : Int) + ((cellsC (.slice (.int .i64)) X.2.2.1.2.2 : Nat) : Int) = k + ((1 : Nat) : Int) + ((1 : Nat) : Int) + (((1 + ((cellsC (.slice (.str)) X.2.2.1.2.1) + (cellsC (.slice (.int .i64)) X.2.2.1.2.2))) : Nat) : Int) from by omega) (Prod.ext (show k + 1 + 1 + 1 + ((cellsC (.slice (.str)) X.2.2.1.2.1 : Nat) : Int) + ((cellsC (.slice (.int .i64)) X.2.2.1.2.2 : Nat) : Int) + 1 = k + ((1 : Nat) : Int) + ((1 : Nat) : Int) + (((1 + ((cellsC (.slice (.str)) X.2.2.1.2.1) + (cellsC (.slice (.int .i64)) X.2.2.1.2.2))) : Nat) : Int) + ((1 : Nat) : Int) from by omega) (Prod.ext (show k + 1 + 1 + 1 + ((cellsC (.slice (.str)) X.2.2.1.2.1 : Nat) : Int) + ((cellsC (.slice (.int .i64)) X.2.2.1.2.2 : Nat) : Int) + 1 + 1 = k + ((1 : Nat) : Int) + ((1 : Nat) : Int) + (((1 + ((cellsC (.slice (.str)) X.2.2.1.2.1) + (cellsC (.slice (.int .i64)) X.2.2.1.2.2))) : Nat) : Int) + ((1 : Nat) : Int) + ((1 : Nat) : Int) from by omega) (Prod.ext (show k + 1 + 1 + 1 + ((cellsC (.slice (.str)) X.2.2.1.2.1 : Nat) : Int) + ((cellsC (.slice (.int .i64)) X.2.2.1.2.2 : Nat) : Int) + 1 + 1 + 1 = k + ((1 : Nat) : Int) + ((1 : Nat) : Int) + (((1 + ((cellsC (.slice (.str)) X.2.2.1.2.1) + (cellsC (.slice (.int .i64)) X.2.2.1.2.2))) : Nat) : Int) + ((1 : Nat) : Int) + ((1 : Nat) : Int) + ((1 : Nat) : Int) from by omega) (Prod.ext (show k + 1 + 1 + 1 + ((cellsC (.slice (.str)) X.2.2.1.2.1 : Nat) : Int) + ((cellsC (.slice (.int .i64)) X.2.2.1.2.2 : Nat) : Int) + 1 + 1 + 1 + 1 = k + ((1 : Nat) : Int) + ((1 : Nat) : Int) + (((1 + ((cellsC (.slice (.str)) X.2.2.1.2.1) + (cellsC (.slice (.int .i64)) X.2.2.1.2.2))) : Nat) : Int) + ((1 : Nat) : Int) + ((1 : Nat) : Int) + ((1 : Nat) : Int) + ((1 : Nat) : Int) from by omega) (Prod.ext (show k + 1 + 1 + 1 + ((cellsC (.slice (.str)) X.2.2.1.2.1 : Nat) : Int) + ((cellsC (.slice (.int .i64)) X.2.2.1.2.2 : Nat) : Int) + 1 + 1 + 1 + 1 + 1 = k + ((1 : Nat) : Int) + ((1 : Nat) : Int) + (((1 + ((cellsC (.slice (.str)) X.2.2.1.2.1) + (cellsC (.slice (.int .i64)) X.2.2.1.2.2))) : Nat) : Int) + ((1 : Nat) : Int) + ((1 : Nat) : Int) + ((1 : Nat) : Int) + ((1 : Nat) : Int) + ((1 : Nat) : Int) from by omega) (Prod.ext (show k + 1 + 1 + 1 + ((cellsC (.slice (.str)) X.2.2.1.2.1 : Nat) : Int) + ((cellsC (.slice (.int .i64)) X.2.2.1.2.2 : Nat) : Int) + 1 + 1 + 1 + 1 + 1 + 1 = k + ((1 : Nat) : Int) + ((1 : Nat) : Int) + (((1 + ((cellsC (.slice (.str)) X.2.2.1.2.1) + (cellsC (.slice (.int .i64)) X.2.2.1.2.2))) : Nat) : Int) + ((1 : Nat) : Int) + ((1 : Nat) : Int) + ((1 : Nat) : Int) + ((1 : Nat) : Int) + ((1 : Nat) : Int) + ((1 : Nat) : Int) from by omega) (Prod.ext (show k + 1 + 1 + 1 + ((cellsC (.slice (.str)) X.2.2.1.2.1 : Nat) : Int) + ((cellsC (.slice (.int .i64)) X.2.2.1.2.2 : Nat) : Int) + 1 + 1 + 1 + 1 + 1 + 1 + 1 = k + ((1 : Nat) : Int) + ((1 : Nat) : Int) + (((1 + ((cellsC (.slice (.str)) X.2.2.1.2.1) + (cellsC (.slice (.int .i64)) X.2.2.1.2.2))) : Nat) : Int) + ((1 : Nat) : Int) + ((1 : Nat) : Int) + ((1 : Nat) : Int) + ((1 : Nat) : Int) + ((1 : Nat) : Int) + ((1 : Nat) : Int) + ((1 : Nat) : Int) from by omega) (show k + 1 + 1 + 1 + ((cellsC (.slice (.str)) X.2.2.1.2.1 : Nat) : Int) + ((cellsC (.slice (.int .i64)) X.2.2.1.2.2 : Nat) : Int) + 1 + 1 + 1 + 1 + 1 + 1 + 1 + 1 = k + ((1 : Nat) : Int) + ((1 : Nat) : Int) + (((1 + ((cellsC (.slice (.str)) X.2.2.1.2.1) + (cellsC (.slice (.int .i64)) X.2.2.1.2.2))) : Nat) : Int) + ((1 : Nat) : Int) + ((1 : Nat) : Int) + ((1 : Nat) : Int) + ((1 : Nat) : Int) + ((1 : Nat) : Int) + ((1 : Nat) : Int) + ((1 : Nat) : Int) + ((1 : Nat) : Int) from by omega))))))))) (Prod.ext (congrArg (markC (.slice (.pair (.int .i64) (.pair (.slice (.int .i64)) (.int .i64)))) X.2.2.2.2.1) (show k + 1 + 1 + 1 + ((cellsC (.slice (.str)) X.2.2.1.2.1 : Nat) : Int) + ((cellsC (.slice (.int .i64)) X.2.2.1.2.2 : Nat) : Int) + 1 + 1 + 1 + 1 + 1 + 1 + 1 + 1 + 1 = k + ((1 : Nat) : Int) + ((1 : Nat) : Int) + (((1 + ((cellsC (.slice (.str)) X.2.2.1.2.1) + (cellsC (.slice (.int .i64)) X.2.2.1.2.2))) : Nat) : Int) + (((1 + (1 + (1 + (1 + (1 + (1 + (1 + (1 + 1)))))))) : Nat) : Int) from by omega)) (congrArg (markC (.slice (.pair (.int .i64) (.pair (.int .i64) (.pair (.int .i64) (.pair (.slice (.pair (.int .i64) (.bool))) (.slice (.pair (.int .i64) (.pair (.int .i64) (.pair (.int .i64) (.pair (.int .i64) (.int .i64))))))))))) X.2.2.2.2.2) (show k + 1 + 1 + 1 + ((cellsC (.slice (.str)) X.2.2.1.2.1 : Nat) : Int) + ((cellsC (.slice (.int .i64)) X.2.2.1.2.2 : Nat) : Int) + 1 + 1 + 1 + 1 + 1 + 1 + 1 + 1 + 1 + ((cellsC (.slice (.pair (.int .i64) (.pair (.slice (.int .i64)) (.int .i64)))) X.2.2.2.2.1 : Nat) : Int) = k + ((1 : Nat) : Int) + ((1 : Nat) : Int) + (((1 + ((cellsC (.slice (.str)) X.2.2.1.2.1) + (cellsC (.slice (.int .i64)) X.2.2.1.2.2))) : Nat) : Int) + (((1 + (1 + (1 + (1 + (1 + (1 + (1 + (1 + 1)))))))) : Nat) : Int) + (((cellsC (.slice (.pair (.int .i64) (.pair (.slice (.int .i64)) (.int .i64)))) X.2.2.2.2.1) : Nat) : Int) from by omega)))))))
    · rw [hX]
      show _ = k + (((1 + (1 + ((1 + ((cellsC (.slice (.str)) X.2.2.1.2.1) + (cellsC (.slice (.int .i64)) X.2.2.1.2.2))) + ((1 + (1 + (1 + (1 + (1 + (1 + (1 + (1 + 1)))))))) + ((cellsC (.slice (.pair (.int .i64) (.pair (.slice (.int .i64)) (.int .i64)))) X.2.2.2.2.1) + (cellsC (.slice (.pair (.int .i64) (.pair (.int .i64) (.pair (.int .i64) (.pair (.slice (.pair (.int .i64) (.bool))) (.slice (.pair (.int .i64) (.pair (.int .i64) (.pair (.int .i64) (.pair (.int .i64) (.int .i64))))))))))) X.2.2.2.2.2)))))) : Nat) : Int)
      try simp only [List.length_set, List.set_set, getD_setS hln, hX, cntF_eq, Sh.ty, w0, w1, w2, w3, w4, w5, w6, w7, w8, w9, w10, w11]
      try omega
  · skip
    have hl : ¬ i < (List.length v : Int) := of_decide_eq_false h0
    refine Vc.exit ?_
    refine Vc.seq ?_
    refine Vc.region hG rfl ?_ ?_
    · trivial
    refine Vc.ret ?_
    have e := mkEnd hI hl
    refine ⟨?_, ?_, trivial⟩
    · show k = cntF (.slice (.pair (.int .i64) (.pair (.int .i64) (.pair (.pair (.int .i64) (.pair (.slice (.str)) (.slice (.int .i64)))) (.pair (.pair (.int .i64) (.pair (.int .i64) (.pair (.int .i64) (.pair (.int .i64) (.pair (.int .i64) (.pair (.int .i64) (.pair (.int .i64) (.pair (.int .i64) (.int .i64))))))))) (.pair (.slice (.pair (.int .i64) (.pair (.slice (.int .i64)) (.int .i64)))) (.slice (.pair (.int .i64) (.pair (.int .i64) (.pair (.int .i64) (.pair (.slice (.pair (.int .i64) (.bool))) (.slice (.pair (.int .i64) (.pair (.int .i64) (.pair (.int .i64) (.pair (.int .i64) (.int .i64))))))))))))))))) a0 a1
      rw [cntF_eq]; exact e.1
    · exact e.2
@[reducible] noncomputable def M16 : MFun := mV (.pair (.pure (.int .i64)) (.own (.pair (.pure (.int .i64)) (.pair (.pure (.int .i64)) (.pair (.pair (.pure (.int .i64)) (.pair (.own (.pure (.str))) (.own (.pure (.int .i64))))) (.pair (.pure (.pair (.int .i64) (.pair (.int .i64) (.pair (.int .i64) (.pair (.int .i64) (.pair (.int .i64) (.pair (.int .i64) (.pair (.int .i64) (.pair (.int .i64) (.int .i64)))))))))) (.pair (.own (.pair (.pure (.int .i64)) (.pair (.own (.pure (.int .i64))) (.pure (.int .i64))))) (.own (.pair (.pure (.int .i64)) (.pair (.pure (.int .i64)) (.pair (.pure (.int .i64)) (.pair (.own (.pure (.pair (.int .i64) (.bool)))) (.own (.pure (.pair (.int .i64) (.pair (.int .i64) (.pair (.int .i64) (.pair (.int .i64) (.int .i64)))))))))))))))))))
set_option maxRecDepth 100000 in
/-- loop.example.g00597.laws.markArchive -/
theorem M16_ok : MeetsM Tryz.prog 16 M16 := by
  refine meetsM_of_vc (C := mkCM 10 [4] [0,1,2,4] [] [⟨58, _, M58_ok⟩] [] [0]) (mkCM_ok _ _ _ _ _ _ _) (fnOf_ok _) Tryz.func16 rfl rfl rfl (by decide) rfl rfl rfl rfl ?_
  rintro a0 (a1 : Int) hwf hin hpre ⟨P, C, B, X, w0, M0, pv⟩ hG rfl rfl
  show Vc _ _ [(0, ⟨0, 0, .c (.pair (.pure (.int .i64)) (.own (.pair (.pure (.int .i64)) (.pair (.pure (.int .i64)) (.pair (.pair (.pure (.int .i64)) (.pair (.own (.pure (.str))) (.own (.pure (.int .i64))))) (.pair (.pure (.pair (.int .i64) (.pair (.int .i64) (.pair (.int .i64) (.pair (.int .i64) (.pair (.int .i64) (.pair (.int .i64) (.pair (.int .i64) (.pair (.int .i64) (.int .i64)))))))))) (.pair (.own (.pair (.pure (.int .i64)) (.pair (.own (.pure (.int .i64))) (.pure (.int .i64))))) (.own (.pair (.pure (.int .i64)) (.pair (.pure (.int .i64)) (.pair (.pure (.int .i64)) (.pair (.own (.pure (.pair (.int .i64) (.bool)))) (.own (.pure (.pair (.int .i64) (.pair (.int .i64) (.pair (.int .i64) (.pair (.int .i64) (.int .i64))))))))))))))))))) a0⟩), (1, ⟨0, 0, .c (.pure (.int .i64)) a1⟩)] _
  have hp0 : 0 ≤ a1 := hpre.1
  have hp1 : a1 + ((cellsV (.pair (.int .i64) (.slice (.pair (.int .i64) (.pair (.int .i64) (.pair (.pair (.int .i64) (.pair (.slice (.str)) (.slice (.int .i64)))) (.pair (.pair (.int .i64) (.pair (.int .i64) (.pair (.int .i64) (.pair (.int .i64) (.pair (.int .i64) (.pair (.int .i64) (.pair (.int .i64) (.pair (.int .i64) (.int .i64))))))))) (.pair (.slice (.pair (.int .i64) (.pair (.slice (.int .i64)) (.int .i64)))) (.slice (.pair (.int .i64) (.pair (.int .i64) (.pair (.int .i64) (.pair (.slice (.pair (.int .i64) (.bool))) (.slice (.pair (.int .i64) (.pair (.int .i64) (.pair (.int .i64) (.pair (.int .i64) (.int .i64)))))))))))))))))) a0 : Nat) : Int) ≤ bnd := hpre.2
  have hc : ((cellsV (.pair (.int .i64) (.slice (.pair (.int .i64) (.pair (.int .i64) (.pair (.pair (.int .i64) (.pair (.slice (.str)) (.slice (.int .i64)))) (.pair (.pair (.int .i64) (.pair (.int .i64) (.pair (.int .i64) (.pair (.int .i64) (.pair (.int .i64) (.pair (.int .i64) (.pair (.int .i64) (.pair (.int .i64) (.int .i64))))))))) (.pair (.slice (.pair (.int .i64) (.pair (.slice (.int .i64)) (.int .i64)))) (.slice (.pair (.int .i64) (.pair (.int .i64) (.pair (.int .i64) (.pair (.slice (.pair (.int .i64) (.bool))) (.slice (.pair (.int .i64) (.pair (.int .i64) (.pair (.int .i64) (.pair (.int .i64) (.int .i64)))))))))))))))))) a0 : Nat) : Int) = ((cellsC (.slice (.pair (.int .i64) (.pair (.int .i64) (.pair (.pair (.int .i64) (.pair (.slice (.str)) (.slice (.int .i64)))) (.pair (.pair (.int .i64) (.pair (.int .i64) (.pair (.int .i64) (.pair (.int .i64) (.pair (.int .i64) (.pair (.int .i64) (.pair (.int .i64) (.pair (.int .i64) (.int .i64))))))))) (.pair (.slice (.pair (.int .i64) (.pair (.slice (.int .i64)) (.int .i64)))) (.slice (.pair (.int .i64) (.pair (.int .i64) (.pair (.int .i64) (.pair (.slice (.pair (.int .i64) (.bool))) (.slice (.pair (.int .i64) (.pair (.int .i64) (.pair (.int .i64) (.pair (.int .i64) (.int .i64))))))))))))))))) a0.2 : Nat) : Int) := by
    show (((0 + cellsC (.slice (.pair (.int .i64) (.pair (.int .i64) (.pair (.pair (.int .i64) (.pair (.slice (.str)) (.slice (.int .i64)))) (.pair (.pair (.int .i64) (.pair (.int .i64) (.pair (.int .i64) (.pair (.int .i64) (.pair (.int .i64) (.pair (.int .i64) (.pair (.int .i64) (.pair (.int .i64) (.int .i64))))))))) (.pair (.slice (.pair (.int .i64) (.pair (.slice (.int .i64)) (.int .i64)))) (.slice (.pair (.int .i64) (.pair (.int .i64) (.pair (.int .i64) (.pair (.slice (.pair (.int .i64) (.bool))) (.slice (.pair (.int .i64) (.pair (.int .i64) (.pair (.int .i64) (.pair (.int .i64) (.int .i64))))))))))))))))) a0.2) : Nat) : Int) = _
    omega
  refine Vc.seq ?_
  refine Vc.region hG rfl ?_ ?_
  · trivial
  refine Vc.seq ?_
  refine Vc.region hG rfl ?_ ?_
  · exact (show markPre (.slice (.pair (.int .i64) (.pair (.int .i64) (.pair (.pair (.int .i64) (.pair (.slice (.str)) (.slice (.int .i64)))) (.pair (.pair (.int .i64) (.pair (.int .i64) (.pair (.int .i64) (.pair (.int .i64) (.pair (.int .i64) (.pair (.int .i64) (.pair (.int .i64) (.pair (.int .i64) (.int .i64))))))))) (.pair (.slice (.pair (.int .i64) (.pair (.slice (.int .i64)) (.int .i64)))) (.slice (.pair (.int .i64) (.pair (.int .i64) (.pair (.int .i64) (.pair (.slice (.pair (.int .i64) (.bool))) (.slice (.pair (.int .i64) (.pair (.int .i64) (.pair (.int .i64) (.pair (.int .i64) (.int .i64))))))))))))))))) a0.2 (a1) from ⟨by omega, by omega⟩)
  refine Vc.seq ?_
  refine Vc.region hG rfl ?_ ?_
  · trivial
  refine Vc.ret ?_
  have ce0 := cntF_eq (.slice (.pair (.int .i64) (.pair (.int .i64) (.pair (.pair (.int .i64) (.pair (.slice (.str)) (.slice (.int .i64)))) (.pair (.pair (.int .i64) (.pair (.int .i64) (.pair (.int .i64) (.pair (.int .i64) (.pair (.int .i64) (.pair (.int .i64) (.pair (.int .i64) (.pair (.int .i64) (.int .i64))))))))) (.pair (.slice (.pair (.int .i64) (.pair (.slice (.int .i64)) (.int .i64)))) (.slice (.pair (.int .i64) (.pair (.int .i64) (.pair (.int .i64) (.pair (.slice (.pair (.int .i64) (.bool))) (.slice (.pair (.int .i64) (.pair (.int .i64) (.pair (.int .i64) (.pair (.int .i64) (.int .i64))))))))))))))))) a0.2 (a1)
  refine ⟨?_, ?_, trivial⟩
  · show cntF (.slice (.pair (.int .i64) (.pair (.int .i64) (.pair (.pair (.int .i64) (.pair (.slice (.str)) (.slice (.int .i64)))) (.pair (.pair (.int .i64) (.pair (.int .i64) (.pair (.int .i64) (.pair (.int .i64) (.pair (.int .i64) (.pair (.int .i64) (.pair (.int .i64) (.pair (.int .i64) (.int .i64))))))))) (.pair (.slice (.pair (.int .i64) (.pair (.slice (.int .i64)) (.int .i64)))) (.slice (.pair (.int .i64) (.pair (.int .i64) (.pair (.int .i64) (.pair (.slice (.pair (.int .i64) (.bool))) (.slice (.pair (.int .i64) (.pair (.int .i64) (.pair (.int .i64) (.pair (.int .i64) (.int .i64))))))))))))))))) a0.2 (a1) = cntV (.pair (.int .i64) (.slice (.pair (.int .i64) (.pair (.int .i64) (.pair (.pair (.int .i64) (.pair (.slice (.str)) (.slice (.int .i64)))) (.pair (.pair (.int .i64) (.pair (.int .i64) (.pair (.int .i64) (.pair (.int .i64) (.pair (.int .i64) (.pair (.int .i64) (.pair (.int .i64) (.pair (.int .i64) (.int .i64))))))))) (.pair (.slice (.pair (.int .i64) (.pair (.slice (.int .i64)) (.int .i64)))) (.slice (.pair (.int .i64) (.pair (.int .i64) (.pair (.int .i64) (.pair (.slice (.pair (.int .i64) (.bool))) (.slice (.pair (.int .i64) (.pair (.int .i64) (.pair (.int .i64) (.pair (.int .i64) (.int .i64)))))))))))))))))) a0 a1
    rw [cntV_eq (.pair (.int .i64) (.slice (.pair (.int .i64) (.pair (.int .i64) (.pair (.pair (.int .i64) (.pair (.slice (.str)) (.slice (.int .i64)))) (.pair (.pair (.int .i64) (.pair (.int .i64) (.pair (.int .i64) (.pair (.int .i64) (.pair (.int .i64) (.pair (.int .i64) (.pair (.int .i64) (.pair (.int .i64) (.int .i64))))))))) (.pair (.slice (.pair (.int .i64) (.pair (.slice (.int .i64)) (.int .i64)))) (.slice (.pair (.int .i64) (.pair (.int .i64) (.pair (.int .i64) (.pair (.slice (.pair (.int .i64) (.bool))) (.slice (.pair (.int .i64) (.pair (.int .i64) (.pair (.int .i64) (.pair (.int .i64) (.int .i64)))))))))))))))))) a0 a1]
    omega
  · exact (Prod.ext rfl (congrArg (markC (.slice (.pair (.int .i64) (.pair (.int .i64) (.pair (.pair (.int .i64) (.pair (.slice (.str)) (.slice (.int .i64)))) (.pair (.pair (.int .i64) (.pair (.int .i64) (.pair (.int .i64) (.pair (.int .i64) (.pair (.int .i64) (.pair (.int .i64) (.pair (.int .i64) (.pair (.int .i64) (.int .i64))))))))) (.pair (.slice (.pair (.int .i64) (.pair (.slice (.int .i64)) (.int .i64)))) (.slice (.pair (.int .i64) (.pair (.int .i64) (.pair (.int .i64) (.pair (.slice (.pair (.int .i64) (.bool))) (.slice (.pair (.int .i64) (.pair (.int .i64) (.pair (.int .i64) (.pair (.int .i64) (.int .i64))))))))))))))))) a0.2) (show a1 = a1 + ((0 : Nat) : Int) from by omega)))
end Fw
