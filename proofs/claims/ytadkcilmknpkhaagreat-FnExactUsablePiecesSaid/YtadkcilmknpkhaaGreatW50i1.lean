/- Walks of functions of the program: what each computes. Conditions: those that each contract names. -/
import Derived.Test.YtadkcilmknpkhaaGreatW50T
import Derived.Test.YtadkcilmknpkhaaGreatW50i0
namespace Fw
open Go Go.Proofs
set_option linter.unusedSimpArgs false
noncomputable def F222 : Fun := ⟨[.slice Y29, .slice Y14, .slice Y22, .pair (.int .i64) Y42], [.pure (.int .i64)], fun _ => True, fun x => (rbF x.1 x.2.1 x.2.2.1 x.2.2.2.1, ())⟩
set_option maxRecDepth 100000 in
/-- loop.example.g00597.impl.RenewalBreak -/
theorem F222_ok : Meets Tryz.prog 222 F222 := by
  refine meets_of_vc (C := mkC 42 [8] [0,1,2,3,7,8,9,11,12,18,19,20,21,30] [⟨115, _, F115_ok⟩, ⟨136, _, F136_ok⟩, ⟨114, _, F114_ok⟩]) (mkC_ok _ _ _ _) (fnOf_ok _) Tryz.func222 rfl rfl rfl (by decide) rfl ?_
  rintro ⟨a0, a1, a2, a3, _⟩ hwf hpre ⟨P, C, B, X, w0, M0, pv⟩ hG rfl rfl
  show Vc _ _ [(0, ⟨0, 0, .c Z33 a0⟩), (1, ⟨0, 0, .c Z19 a1⟩), (2, ⟨0, 0, .c Z27 a2⟩), (3, ⟨0, 0, .c Z46 a3⟩)] _
  have hb : List.length a3.2.2.2.2 ≤ bigLen := hwf.2.2.2.1.2.2.2.2.1
  refine Vc.seq ?_
  refine Vc.region hG rfl ?_ ?_
  · trivial
  refine Vc.seq ?_
  refine Vc.region hG rfl ?_ ?_
  · trivial
  refine Vc.seq ?_
  refine Vc.seq ?_
  refine Vc.region hG rfl ?_ ?_
  · trivial
  refine Vc.block ?_
  -- slots [9, 20]; frame [0, 1, 2, 3, 7, 18, 19]
  refine Vc.loopF [(9, false, .pure (.int .i64)), (20, false, .pure (.int .i64))] [0, 1, 2, 3, 7, 18, 19] (fun v => efInv (rbBad a0 a1) (rbG a0 a1 a2) 0 (breakF a2 a3.2.1) a3.2.2.2.2 v.1 v.2.1) (fun v => ((List.length a3.2.2.2.2 : Int) - v.2.1).toNat) rfl ?_ ?_
  · exact efStart
  rintro ⟨(m : Int), (i : Int), _⟩ hI
  have hI : efInv (rbBad a0 a1) (rbG a0 a1 a2) 0 (breakF a2 a3.2.1) a3.2.2.2.2 m i := hI
  refine Vc.seq ?_
  refine Vc.region hG rfl ?_ ?_
  · trivial
  refine Vc.seq ?_
  refine Vc.cond rfl (fun h0 => ?_) (fun h0 => ?_)
  · skip
    have hl : i < (List.length a3.2.2.2.2 : Int) := of_decide_eq_true h0
    refine Vc.skip ?_
    refine Vc.seq ?_
    refine Vc.block ?_
    refine Vc.seq ?_
    refine Vc.region hG rfl ?_ ?_
    · exact efRange hI hl
    refine Vc.seq ?_
    refine Vc.region hG rfl ?_ ?_
    · trivial
    refine Vc.seq ?_
    refine Vc.seq ?_
    refine Vc.region hG rfl ?_ ?_
    · trivial
    refine Vc.cond rfl (fun h1 => ?_) (fun h1 => ?_)
    · skip
      have g1 : rbBad a0 a1 (List.getD a3.2.2.2.2 i.toNat (dflt Y29)) = true := h1
      refine Vc.seq ?_
      refine Vc.region hG rfl ?_ ?_
      · trivial
      refine Vc.ret ?_
      refine ⟨?_, trivial⟩
      exact efStop (d := dflt Y29) hI hl g1
    · skip
      have g1 : rbBad a0 a1 (List.getD a3.2.2.2.2 i.toNat (dflt Y29)) = false := h1
      have n1 : ¬ keyI a0 (stampKeyF a1 (List.getD a3.2.2.2.2 i.toNat (dflt Y29))) < 0 := of_decide_eq_false h1
      refine Vc.skip ?_
      refine Vc.region hG rfl ?_ ?_
      · exact ⟨findRange n1, trivial⟩
      refine Vc.region hG rfl ?_ ?_
      · trivial
      refine ⟨rfl, ?_⟩
      exact efStep (d := dflt Y29) hI hl hb g1
  · skip
    have hl : ¬ i < (List.length a3.2.2.2.2 : Int) := of_decide_eq_false h0
    refine Vc.exit ?_
    refine Vc.seq ?_
    refine Vc.region hG rfl ?_ ?_
    · trivial
    refine Vc.ret ?_
    refine ⟨?_, trivial⟩
    exact efEnd hI hl
noncomputable def F186 : Fun := ⟨[.pair Y31 Y44, .pair Y21 Y48, .int .i64], [.pure (.bool)], fun x => (fun (_ : Frame) (s : Strand) (_ : Int) => Sm big20 (.slice TPiece) s.1 ∧ ∀ r ∈ s.2, Sm big20 TRen r) x.1 x.2.1 x.2.2.1, fun x => (linkF x.1 x.2.1 x.2.2.1, ())⟩
set_option maxRecDepth 100000 in
/-- loop.example.g00597.impl.LinkHolds -/
theorem F186_ok : Meets Tryz.prog 186 F186 := by
  refine meets_of_vc (C := mkC 57 [6] [0,1,2,3,4,6,7,8,9,16,34] [⟨155, _, F155_ok⟩, ⟨222, _, F222_ok⟩, ⟨147, _, F147_ok⟩]) (mkC_ok _ _ _ _) (fnOf_ok _) Tryz.func186 rfl rfl rfl (by decide) rfl ?_
  rintro ⟨a0, a1, (a2 : Int), _⟩ hwf hpre ⟨P, C, B, X, w0, M0, pv⟩ hG rfl rfl
  show Vc _ _ [(0, ⟨0, 0, .c Z56 a0⟩), (1, ⟨0, 0, .c Z54 a1⟩), (2, ⟨0, 0, .c (.pure (.int .i64)) a2⟩)] _
  have hP : Sm big20 (.slice TPiece) a1.1 := hpre.1
  have hR : ∀ r ∈ a1.2, Sm big20 TRen r := hpre.2
  have hb : List.length a1.2 ≤ bigLen := hwf.2.1.2.1
  have hSt : ∀ k : Int, inRange k (List.length a1.2) → List.length (chAt a1 k).2.2.2.2 ≤ 1048576 := fun k hk => (hR _ (getD_mem hk (dflt TRen))).2.2.2.2.1
  refine Vc.seq ?_
  refine Vc.region hG rfl ?_ ?_
  · trivial
  refine Vc.seq ?_
  refine Vc.seq ?_
  refine Vc.region hG rfl ?_ ?_
  · trivial
  refine Vc.cond rfl (fun h0 => ?_) (fun h0 => ?_)
  · skip
    have g0 := h0
    refine Vc.seq ?_
    refine Vc.region hG rfl ?_ ?_
    · trivial
    refine Vc.ret ?_
    refine ⟨?_, trivial⟩
    exact lk0 g0
  · skip
    have g0 := h0
    have k0 := laIdx g0 hb
    refine Vc.skip ?_
    refine Vc.seq ?_
    refine Vc.regionD mixed hG rfl (by kernel_rfl) ?_ ?_
    · exact ⟨k0, trivial⟩
    refine Vc.seq ?_
    refine Vc.seq ?_
    refine Vc.region hG rfl ?_ ?_
    · trivial
    refine Vc.cond rfl (fun h1 => ?_) (fun h1 => ?_)
    · skip
      have g1 := h1
      refine Vc.seq ?_
      refine Vc.region hG rfl ?_ ?_
      · trivial
      refine Vc.ret ?_
      refine ⟨?_, trivial⟩
      exact lk1 g0 g1
    · skip
      have g1 := h1
      have k1 := lkNext g0 g1 hb
      refine Vc.skip ?_
      refine Vc.seq ?_
      refine Vc.regionD mixed hG rfl (by kernel_rfl) ?_ ?_
      · exact ⟨k1, hSt _ k1⟩
      refine Vc.seq ?_
      refine Vc.region hG rfl ?_ ?_
      · trivial
      refine Vc.ret ?_
      refine ⟨?_, trivial⟩
      exact lk2 g0 g1
noncomputable def F146 : Fun := ⟨[.pair Y31 Y44, .pair Y21 Y48, .slice (.int .i64)], [.pure (.int .i64)], fun x => (fun (_ : Frame) (s : Strand) (_ : List Int) => Sm big20 (.slice TPiece) s.1 ∧ ∀ r ∈ s.2, Sm big20 TRen r) x.1 x.2.1 x.2.2.1, fun x => (firstKeptF x.1 x.2.1 x.2.2.1, ())⟩
set_option maxRecDepth 100000 in
/-- loop.example.g00597.impl.FirstKept -/
theorem F146_ok : Meets Tryz.prog 146 F146 := by
  refine meets_of_vc (C := mkC 58 [6] [0,1,2,3,4,6,7,9,14,54] [⟨147, _, F147_ok⟩, ⟨185, _, F185_ok⟩, ⟨184, _, F184_ok⟩, ⟨186, _, F186_ok⟩]) (mkC_ok _ _ _ _) (fnOf_ok _) Tryz.func146 rfl rfl rfl (by decide) rfl ?_
  rintro ⟨a0, a1, a2, _⟩ hwf hpre ⟨P, C, B, X, w0, M0, pv⟩ hG rfl rfl
  show Vc _ _ [(0, ⟨0, 0, .c Z56 a0⟩), (1, ⟨0, 0, .c Z54 a1⟩), (2, ⟨0, 0, .c Z2 a2⟩)] _
  have hP : Sm big20 (.slice TPiece) a1.1 := hpre.1
  have hR : ∀ r ∈ a1.2, Sm big20 TRen r := hpre.2
  have hb : List.length a1.2 ≤ bigLen := hwf.2.1.2.1
  have hSt : ∀ k : Int, inRange k (List.length a1.2) → List.length (chAt a1 k).2.2.2.2 ≤ 1048576 := fun k hk => (hR _ (getD_mem hk (dflt TRen))).2.2.2.2.1
  refine Vc.seq ?_
  refine Vc.region hG rfl ?_ ?_
  · trivial
  refine Vc.seq ?_
  refine Vc.region hG rfl ?_ ?_
  · trivial
  refine Vc.seq ?_
  refine Vc.block ?_
  -- slots [7]; frame [0, 1, 2, 3, 4, 6]
  refine Vc.loopF [(7, false, .pure (.int .i64))] [0, 1, 2, 3, 4, 6] (fun v => fkInv a0 a1 a2 v.1) (fun v => v.1.toNat) rfl ?_ ?_
  · exact fkStart
  rintro ⟨(j : Int), _⟩ hI
  have hI : fkInv a0 a1 a2 j := hI
  refine Vc.seq ?_
  refine Vc.seq ?_
  refine Vc.region hG rfl ?_ ?_
  · trivial
  refine Vc.cond rfl (fun h0 => ?_) (fun h0 => ?_)
  · skip
    have g0 : j > 0 := of_decide_eq_true h0
    have k0 := fkIdx hI g0 hb
    refine Vc.skip ?_
    refine Vc.block ?_
    refine Vc.seq ?_
    refine Vc.regionD mixed hG rfl (by kernel_rfl) ?_ ?_
    · exact ⟨k0, hSt _ k0⟩
    refine Vc.seq ?_
    refine Vc.seq ?_
    refine Vc.regionD mixed hG rfl (by kernel_rfl) ?_ ?_
    · repeat' (first | exact trivial | exact k0 | exact ⟨hP, hR⟩ | refine And.intro ?_ ?_ | intro _)
    refine Vc.cond rfl (fun h1 => ?_) (fun h1 => ?_)
    · skip
      have g1 : keptF a0 a1 a2 (IntKind.i64.wrap (j - 1)) = false := by have q := keptI.symm.trans h1; simpa using q
      refine Vc.exit ?_
      refine Vc.seq ?_
      refine Vc.region hG rfl ?_ ?_
      · trivial
      refine Vc.ret ?_
      refine ⟨?_, trivial⟩
      exact fkStop hI g0 hb g1
    · skip
      have g1 : keptF a0 a1 a2 (IntKind.i64.wrap (j - 1)) = true := by have q := keptI.symm.trans h1; simpa using q
      refine Vc.skip ?_
      refine Vc.region hG rfl ?_ ?_
      · trivial
      refine ⟨rfl, ?_⟩
      exact fkStep hI g0 hb g1
  · skip
    have g0 : ¬ j > 0 := of_decide_eq_false h0
    refine Vc.exit ?_
    refine Vc.seq ?_
    refine Vc.region hG rfl ?_ ?_
    · trivial
    refine Vc.ret ?_
    refine ⟨?_, trivial⟩
    exact fkZero hI g0
noncomputable def F94 : Fun := ⟨[.pair Y31 Y44, .pair Y21 Y48, .slice (.int .i64), .int .i64], [.pure (.int .i64)], fun x => (fun (_ : Frame) (s : Strand) (_ : List Int) (_ : Int) => Sm big20 (.slice TPiece) s.1 ∧ ∀ r ∈ s.2, Sm big20 TRen r) x.1 x.2.1 x.2.2.1 x.2.2.2.1, fun x => (boundOfF x.1 x.2.1 x.2.2.1 x.2.2.2.1, ())⟩
set_option maxRecDepth 100000 in
/-- loop.example.g00597.impl.BoundOf -/
theorem F94_ok : Meets Tryz.prog 94 F94 := by
  refine meets_of_vc (C := mkC 49 [8] [0,1,2,3,4,5,8,9,10,11,23,43] [⟨146, _, F146_ok⟩, ⟨147, _, F147_ok⟩]) (mkC_ok _ _ _ _) (fnOf_ok _) Tryz.func94 rfl rfl rfl (by decide) rfl ?_
  rintro ⟨a0, a1, a2, (a3 : Int), _⟩ hwf hpre ⟨P, C, B, X, w0, M0, pv⟩ hG rfl rfl
  show Vc _ _ [(0, ⟨0, 0, .c Z56 a0⟩), (1, ⟨0, 0, .c Z54 a1⟩), (2, ⟨0, 0, .c Z2 a2⟩), (3, ⟨0, 0, .c (.pure (.int .i64)) a3⟩)] _
  have hP : Sm big20 (.slice TPiece) a1.1 := hpre.1
  have hR : ∀ r ∈ a1.2, Sm big20 TRen r := hpre.2
  have hb : List.length a1.2 ≤ bigLen := hwf.2.1.2.1
  have hSt : ∀ k : Int, inRange k (List.length a1.2) → List.length (chAt a1 k).2.2.2.2 ≤ 1048576 := fun k hk => (hR _ (getD_mem hk (dflt TRen))).2.2.2.2.1
  refine Vc.seq ?_
  refine Vc.region hG rfl ?_ ?_
  · trivial
  refine Vc.seq ?_
  refine Vc.region hG rfl ?_ ?_
  · trivial
  refine Vc.seq ?_
  refine Vc.seq ?_
  refine Vc.region hG rfl ?_ ?_
  · exact ⟨hP, hR⟩
  refine Vc.block ?_
  -- slots [9, 10]; frame [0, 1, 2, 3, 4, 5, 8]
  refine Vc.loopF [(9, false, .pure (.int .i64)), (10, false, .pure (.int .i64))] [0, 1, 2, 3, 4, 5, 8] (fun v => boInv a0 a1 a2 a3 v.1 v.2.1) (fun v => ((List.length a1.2 : Int) - v.2.1).toNat) rfl ?_ ?_
  · exact boStart
  rintro ⟨(t : Int), (j : Int), _⟩ hI
  have hI : boInv a0 a1 a2 a3 t j := hI
  refine Vc.seq ?_
  refine Vc.seq ?_
  refine Vc.region hG rfl ?_ ?_
  · trivial
  refine Vc.cond rfl (fun h0 => ?_) (fun h0 => ?_)
  · skip
    have hl : j < (List.length a1.2 : Int) := of_decide_eq_true h0
    have k0 := boRange hI hl
    refine Vc.skip ?_
    refine Vc.seq ?_
    refine Vc.block ?_
    refine Vc.seq ?_
    refine Vc.regionD mixed hG rfl (by kernel_rfl) ?_ ?_
    · exact ⟨k0, hSt _ k0⟩
    refine Vc.seq ?_
    refine Vc.region hG rfl ?_ ?_
    · exact k0
    refine Vc.cond rfl (fun h1 => ?_) (fun h1 => ?_)
    · skip
      have st := boStep hI hl hb (boY (f := a0) (t := t) (r := chAt a1 j) h1).symm
      refine Vc.region hG rfl ?_ ?_
      · trivial
      refine Vc.region hG rfl ?_ ?_
      · trivial
      refine ⟨rfl, ?_⟩
      exact st
    · skip
      have st := boStep hI hl hb (boN (f := a0) (t := t) (r := chAt a1 j) h1).symm
      refine Vc.skip ?_
      refine Vc.region hG rfl ?_ ?_
      · trivial
      refine ⟨rfl, ?_⟩
      exact st
  · skip
    have hl : ¬ j < (List.length a1.2 : Int) := of_decide_eq_false h0
    refine Vc.exit ?_
    refine Vc.seq ?_
    refine Vc.region hG rfl ?_ ?_
    · trivial
    refine Vc.ret ?_
    refine ⟨?_, trivial⟩
    exact boEnd hI hl
noncomputable def F48 : Fun := ⟨[.pair Y31 Y44, .pair Y21 Y48, .slice (.int .i64), .pair (.int .i64) Y9], [.pure (.int .i64)], fun x => (fun (_ : Frame) (s : Strand) (_ : List Int) (_ : Piece) => Sm big20 (.slice TPiece) s.1 ∧ ∀ r ∈ s.2, Sm big20 TRen r) x.1 x.2.1 x.2.2.1 x.2.2.2.1, fun x => (pieceBoundF x.1 x.2.1 x.2.2.1 x.2.2.2.1, ())⟩
set_option maxRecDepth 100000 in
/-- loop.example.g00597.impl.PieceBound -/
theorem F48_ok : Meets Tryz.prog 48 F48 := by
  refine meets_of_vc (C := mkC 22 [8] [0,1,2,3,4,5,7,8,9,14] [⟨93, _, F93_ok⟩, ⟨94, _, F94_ok⟩]) (mkC_ok _ _ _ _) (fnOf_ok _) Tryz.func48 rfl rfl rfl (by decide) rfl ?_
  rintro ⟨a0, a1, a2, a3, _⟩ hwf hpre ⟨P, C, B, X, w0, M0, pv⟩ hG rfl rfl
  show Vc _ _ [(0, ⟨0, 0, .c Z56 a0⟩), (1, ⟨0, 0, .c Z54 a1⟩), (2, ⟨0, 0, .c Z2 a2⟩), (3, ⟨0, 0, .c Z20 a3⟩)] _
  have hp := hpre
  refine Vc.seq ?_
  refine Vc.region hG rfl ?_ ?_
  · trivial
  refine Vc.seq ?_
  refine Vc.region hG rfl ?_ ?_
  · trivial
  refine Vc.seq ?_
  refine Vc.seq ?_
  refine Vc.region hG rfl ?_ ?_
  · trivial
  refine Vc.cond rfl (fun h0 => ?_) (fun h0 => ?_)
  · skip
    have g0 : findPieceF a1 a3 < 0 := of_decide_eq_true h0
    refine Vc.seq ?_
    refine Vc.region hG rfl ?_ ?_
    · trivial
    refine Vc.ret ?_
    refine ⟨?_, trivial⟩
    exact pb0 g0
  · skip
    have g0 : ¬ findPieceF a1 a3 < 0 := of_decide_eq_false h0
    refine Vc.skip ?_
    refine Vc.seq ?_
    refine Vc.region hG rfl ?_ ?_
    · exact hp
    refine Vc.ret ?_
    refine ⟨?_, trivial⟩
    exact pb1 g0
noncomputable def F15 : Fun := ⟨[.pair Y31 Y44, .pair Y55 Y34, .slice (.slice (.int .i64)), .pair (.int .i64) Y9], [.pure (.int .i64)], fun x => (fun (_ : Frame) (e : Evidence) (_ : List (List Int)) (_ : Piece) => Sm big20 Y55 e.1) x.1 x.2.1 x.2.2.1 x.2.2.2.1, fun x => (evBoundF x.1 x.2.1 x.2.2.1 x.2.2.2.1, ())⟩
set_option maxRecDepth 100000 in
/-- loop.example.g00597.impl.EvidenceBound -/
theorem F15_ok : Meets Tryz.prog 15 F15 := by
  refine meets_of_vc (C := mkC 38 [8] [0,1,2,3,4,5,7,8,9,10,11,15,16,17,18,25] [⟨48, _, F48_ok⟩]) (mkC_ok _ _ _ _) (fnOf_ok _) Tryz.func15 rfl rfl rfl (by decide) rfl ?_
  rintro ⟨a0, a1, a2, a3, _⟩ hwf hpre ⟨P, C, B, X, w0, M0, pv⟩ hG rfl rfl
  show Vc _ _ [(0, ⟨0, 0, .c Z56 a0⟩), (1, ⟨0, 0, .c Z60 a1⟩), (2, ⟨0, 0, .c Z7 a2⟩), (3, ⟨0, 0, .c Z20 a3⟩)] _
  have hS : Sm big20 Y55 a1.1 := hpre
  have hb : List.length a1.1 ≤ bigLen := hwf.2.1.1.1
  refine Vc.seq ?_
  refine Vc.region hG rfl ?_ ?_
  · trivial
  refine Vc.seq ?_
  refine Vc.region hG rfl ?_ ?_
  · trivial
  refine Vc.seq ?_
  refine Vc.seq ?_
  refine Vc.region hG rfl ?_ ?_
  · trivial
  refine Vc.block ?_
  -- slots [9, 17]; frame [0, 1, 2, 3, 4, 5, 7, 8, 15, 16]
  refine Vc.loopF [(9, false, .pure (.int .i64)), (17, false, .pure (.int .i64))] [0, 1, 2, 3, 4, 5, 7, 8, 15, 16] (fun v => ebInv a0 a1 a2 a3 v.1 v.2.1) (fun v => ((List.length a1.1 : Int) - v.2.1).toNat) rfl ?_ ?_
  · exact ebStart
  rintro ⟨(t : Int), (i : Int), _⟩ hI
  have hI : ebInv a0 a1 a2 a3 t i := hI
  refine Vc.seq ?_
  refine Vc.region hG rfl ?_ ?_
  · trivial
  refine Vc.seq ?_
  refine Vc.cond rfl (fun h0 => ?_) (fun h0 => ?_)
  · skip
    have hl : i < (List.length a1.1 : Int) := of_decide_eq_true h0
    refine Vc.skip ?_
    refine Vc.seq ?_
    refine Vc.block ?_
    refine Vc.seq ?_
    refine Vc.region hG rfl ?_ ?_
    · exact ebRange hI hl
    refine Vc.seq ?_
    refine Vc.region hG rfl ?_ ?_
    · trivial
    refine Vc.cond rfl (fun h1 => ?_) (fun h1 => ?_)
    · skip
      have hd : i < (List.length a2 : Int) := of_decide_eq_true h1
      have st := ebYes (dflt Y52) (dflt (.slice TI)) hI hl hd hb rfl
      have r1 := ebRange hI hl
      have r2 := ebRangeD hI hd
      have r3 := usStrand hS r1
      refine Vc.regionD mixed hG rfl (by kernel_rfl) ?_ ?_
      · exact ⟨r2, r3⟩
      refine Vc.region hG rfl ?_ ?_
      · trivial
      refine ⟨rfl, ?_⟩
      exact st
    · skip
      have hd : ¬ i < (List.length a2 : Int) := of_decide_eq_false h1
      have st := ebNo hI hl hd hb
      refine Vc.skip ?_
      refine Vc.region hG rfl ?_ ?_
      · trivial
      refine ⟨rfl, ?_⟩
      exact st
  · skip
    have hl : ¬ i < (List.length a1.1 : Int) := of_decide_eq_false h0
    refine Vc.exit ?_
    refine Vc.seq ?_
    refine Vc.region hG rfl ?_ ?_
    · trivial
    refine Vc.ret ?_
    refine ⟨?_, trivial⟩
    exact ebEnd hI (fun q => hl q.1)
noncomputable def F59 : Fun := ⟨[.pair Y31 Y44, .int .i64], [.pure (.int .i64)], fun _ => True, fun x => (brkKeyF x.1 x.2.1, ())⟩
set_option maxRecDepth 100000 in
/-- loop.example.g00597.impl.breakOfKey -/
theorem F59_ok : Meets Tryz.prog 59 F59 := by
  refine meets_of_vc (C := mkC 21 [4] [0,1,2,4,5,11] [⟨114, _, F114_ok⟩, ⟨115, _, F115_ok⟩]) (mkC_ok _ _ _ _) (fnOf_ok _) Tryz.func59 rfl rfl rfl (by decide) rfl ?_
  rintro ⟨a0, (a1 : Int), _⟩ hwf hpre ⟨P, C, B, X, w0, M0, pv⟩ hG rfl rfl
  show Vc _ _ [(0, ⟨0, 0, .c Z56 a0⟩), (1, ⟨0, 0, .c (.pure (.int .i64)) a1⟩)] _
  refine Vc.seq ?_
  refine Vc.region hG rfl ?_ ?_
  · trivial
  refine Vc.seq ?_
  refine Vc.region hG rfl ?_ ?_
  · trivial
  refine Vc.seq ?_
  refine Vc.seq ?_
  refine Vc.region hG rfl ?_ ?_
  · trivial
  refine Vc.cond rfl (fun h0 => ?_) (fun h0 => ?_)
  · skip
    have g0 : keyI a0.1 a1 < 0 := of_decide_eq_true h0
    refine Vc.seq ?_
    refine Vc.region hG rfl ?_ ?_
    · trivial
    refine Vc.ret ?_
    refine ⟨?_, trivial⟩
    exact bk0 g0
  · skip
    have g0 : ¬ keyI a0.1 a1 < 0 := of_decide_eq_false h0
    refine Vc.skip ?_
    refine Vc.seq ?_
    refine Vc.regionD mixed hG rfl (by kernel_rfl) ?_ ?_
    · exact ⟨findRange g0, trivial⟩
    refine Vc.ret ?_
    refine ⟨?_, trivial⟩
    exact bk1 g0
noncomputable def F60 : Fun := ⟨[.pair (.int .i64) Y9, .pair (.int .i64) Y9], [.pure (.bool)], fun _ => True, fun x => (pbF x.1 x.2.1, ())⟩
set_option maxRecDepth 100000 in
/-- loop.example.g00597.impl.PieceBefore -/
theorem F60_ok : Meets Tryz.prog 60 F60 := by
  refine meets_of_vc (C := mkC 73 [4] [0,1,2,3,4,5,17,30,42,57] []) (mkC_ok _ _ _ _) (fnOf_ok _) Tryz.func60 rfl rfl rfl (by decide) rfl ?_
  rintro ⟨a0, a1, _⟩ hwf hpre ⟨P, C, B, X, w0, M0, pv⟩ hG rfl rfl
  show Vc _ _ [(0, ⟨0, 0, .c Z20 a0⟩), (1, ⟨0, 0, .c Z20 a1⟩)] _
  have hb : List.length a0.2.1 ≤ bigLen := hwf.1.2.1.1
  refine Vc.seq ?_
  refine Vc.region hG rfl ?_ ?_
  · trivial
  refine Vc.seq ?_
  refine Vc.seq ?_
  refine Vc.region hG rfl ?_ ?_
  · trivial
  refine Vc.block ?_
  -- slots [5]; frame [0, 1, 2, 3, 42, 57]
  refine Vc.loopF [(5, false, .pure (.int .i64))] [0, 1, 2, 3, 42, 57] (fun v => pbInv a0 a1 v.1) (fun v => ((List.length a0.2.1 : Int) - v.1).toNat) rfl ?_ ?_
  · exact pbStart
  rintro ⟨(i : Int), _⟩ hI
  have hI : pbInv a0 a1 i := hI
  refine Vc.seq ?_
  refine Vc.seq ?_
  refine Vc.region hG rfl ?_ ?_
  · trivial
  refine Vc.cond rfl (fun h0 => ?_) (fun h0 => ?_)
  · skip
    have hh := andLt h0
    have hl := hh.1
    have hm := hh.2
    refine Vc.skip ?_
    refine Vc.seq ?_
    refine Vc.block ?_
    refine Vc.seq ?_
    refine Vc.regionD mixed hG rfl (by kernel_rfl) ?_ ?_
    · exact ⟨pbRangeA hI hl, pbRangeB hI hm⟩
    refine Vc.cond rfl (fun h1 => ?_) (fun h1 => ?_)
    · skip
      have g1 := bneT h1
      refine Vc.seq ?_
      refine Vc.regionD mixed hG rfl (by kernel_rfl) ?_ ?_
      · exact ⟨pbRangeA hI hl, pbRangeB hI hm⟩
      refine Vc.ret ?_
      refine ⟨?_, trivial⟩
      exact pbHit hI hl hm g1
    · skip
      have g1 := bneI h1
      refine Vc.skip ?_
      refine Vc.region hG rfl ?_ ?_
      · trivial
      refine ⟨rfl, ?_⟩
      exact pbStep hI hl hm hb g1
  · skip
    have hx := andGe h0
    refine Vc.exit ?_
    refine Vc.seq ?_
    refine Vc.block ?_
    refine Vc.seq ?_
    refine Vc.region hG rfl ?_ ?_
    · trivial
    refine Vc.cond rfl (fun h2 => ?_) (fun h2 => ?_)
    · skip
      refine Vc.seq ?_
      refine Vc.region hG rfl ?_ ?_
      · trivial
      refine Vc.ret ?_
      refine ⟨?_, trivial⟩
      exact pbLen hI hx h2
    · skip
      refine Vc.seq ?_
      refine Vc.region hG rfl ?_ ?_
      · trivial
      refine Vc.cond rfl (fun h3 => ?_) (fun h3 => ?_)
      · skip
        refine Vc.seq ?_
        refine Vc.region hG rfl ?_ ?_
        · trivial
        refine Vc.ret ?_
        refine ⟨?_, trivial⟩
        exact pbKey hI hx h2 h3
      · skip
        refine Vc.skip ?_
        refine Vc.seq ?_
        refine Vc.region hG rfl ?_ ?_
        · trivial
        refine Vc.ret ?_
        refine ⟨?_, trivial⟩
        exact pbMark hI hx h2 h3
noncomputable def F116 : Fun := ⟨[.slice (.int .i64)], [.own (.pure (.int .i64))], fun x => (fun l => List.length l ≤ 4000000) x.1, fun x => (id x.1, ())⟩
set_option maxRecDepth 100000 in
/-- loop.example.g00597.impl.copyInts -/
theorem F116_ok : Meets Tryz.prog 116 F116 := by
  refine meets_of_vc (C := mkC 6 [2] [0,2] []) (mkC_ok _ _ _ _) (fnOf_ok _) Tryz.func116 rfl rfl rfl (by decide) rfl ?_
  rintro ⟨a0, _⟩ hwf hpre ⟨P, C, B, X, w0, M0, pv⟩ hG rfl rfl
  show Vc _ _ [(0, ⟨0, 0, .c Z2 a0⟩)] _
  have hp : List.length a0 ≤ 4000000 := hpre
  refine Vc.seq ?_
  refine Vc.region hG rfl ?_ ?_
  · trivial
  refine Vc.seq ?_
  refine Vc.region hG rfl ?_ ?_
  · exact appMore hp
  refine Vc.ret ?_
  refine ⟨?_, trivial⟩
  all_goals exact rfl
noncomputable def F61 : Fun := ⟨[.pair (.int .i64) Y9], [.pair (.pure (.int .i64)) Z15], fun x => Sm big20 Y18 x.1, fun x => (id x.1, ())⟩
set_option maxRecDepth 100000 in
/-- loop.example.g00597.impl.copyPiece -/
theorem F61_ok : Meets Tryz.prog 61 F61 := by
  refine meets_of_vc (C := mkC 8 [2] [0,1,2] [⟨116, _, F116_ok⟩]) (mkC_ok _ _ _ _) (fnOf_ok _) Tryz.func61 rfl rfl rfl (by decide) rfl ?_
  rintro ⟨a0, _⟩ hwf hpre ⟨P, C, B, X, w0, M0, pv⟩ hG rfl rfl
  show Vc _ _ [(0, ⟨0, 0, .c Z20 a0⟩)] _
  have hp : List.length a0.2.1 ≤ 4000000 := Nat.le_trans hpre.2.1.1 (by decide)
  refine Vc.seq ?_
  refine Vc.region hG rfl ?_ ?_
  · trivial
  refine Vc.seq ?_
  refine Vc.region hG rfl ?_ ?_
  · exact hp
  refine Vc.seq ?_
  refine Vc.region hG rfl ?_ ?_
  · trivial
  refine Vc.ret ?_
  refine ⟨?_, trivial⟩
  all_goals exact rfl
noncomputable def F21 : Fun := ⟨[.pair Y31 Y44, .pair Y55 Y34, .slice (.slice (.int .i64))], [.own Z26], fun x => (fun (_ : Frame) (e : Evidence) (_ : List (List Int)) => Sm big20 Y55 e.1 ∧ ((cellsC Y55 e.1 : Nat) : Int) ≤ 2000000000) x.1 x.2.1 x.2.2.1, fun x => (usablePiecesF x.1 x.2.1 x.2.2.1, ())⟩
set_option maxRecDepth 100000 in
/-- loop.example.g00597.impl.UsablePieces -/
theorem F21_ok : Meets Tryz.prog 21 F21 := by
  refine meets_of_vc (C := mkC 79 [6] [0,1,2,3,4,6,7,9,11,12,14,15,16,17,21,22,23,24,48,60] [⟨57, _, F57_ok⟩, ⟨58, _, F58_ok⟩, ⟨15, _, F15_ok⟩, ⟨59, _, F59_ok⟩, ⟨60, _, F60_ok⟩, ⟨61, _, F61_ok⟩]) (mkC_ok _ _ _ _) (fnOf_ok _) Tryz.func21 rfl rfl rfl (by decide) rfl ?_
  rintro ⟨a0, a1, a2, _⟩ hwf hpre ⟨P, C, B, X, w0, M0, pv⟩ hG rfl rfl
  show Vc _ _ [(0, ⟨0, 0, .c Z56 a0⟩), (1, ⟨0, 0, .c Z60 a1⟩), (2, ⟨0, 0, .c Z7 a2⟩)] _
  have hS : Sm big20 Y55 a1.1 := hpre.1
  have hc : ((cellsC Y55 a1.1 : Nat) : Int) ≤ 2000000000 := hpre.2
  have hb : List.length a1.1 ≤ bigLen := hwf.2.1.1.1
  refine Vc.seq ?_
  refine Vc.region hG rfl ?_ ?_
  · trivial
  refine Vc.seq ?_
  refine Vc.region hG rfl ?_ ?_
  · trivial
  refine Vc.seq ?_
  refine Vc.seq ?_
  refine Vc.region hG rfl ?_ ?_
  · trivial
  refine Vc.block ?_
  -- slots [7, 16]; frame [0, 1, 2, 3, 4, 6, 14, 15]
  refine Vc.loopF [(7, false, .own Z26), (16, false, .pure (.int .i64))] [0, 1, 2, 3, 4, 6, 14, 15] (fun v => uoInv a0 a1 a2 v.1 v.2.1) (fun v => ((List.length a1.1 : Int) - v.2.1).toNat) rfl ?_ ?_
  · exact uoStart
  rintro ⟨out, (i : Int), _⟩ hI
  have hI : uoInv a0 a1 a2 out i := hI
  refine Vc.seq ?_
  refine Vc.region hG rfl ?_ ?_
  · trivial
  refine Vc.seq ?_
  refine Vc.cond rfl (fun h0 => ?_) (fun h0 => ?_)
  · skip
    have hl : i < (List.length a1.1 : Int) := of_decide_eq_true h0
    have ri := uoRange hI hl
    have sS := usStrand hS ri
    have hbk : List.length (List.getD a1.1 i.toNat (dflt Y52)).1 ≤ bigLen := Nat.le_trans sS.1.1 (by decide)
    refine Vc.skip ?_
    refine Vc.seq ?_
    refine Vc.block ?_
    refine Vc.seq ?_
    refine Vc.region hG rfl ?_ ?_
    · exact ri
    refine Vc.seq ?_
    refine Vc.region hG rfl ?_ ?_
    · trivial
    refine Vc.block ?_
    -- slots [7, 23]; frame [0, 1, 2, 3, 4, 6, 9, 14, 15, 16, 17, 21, 22]
    refine Vc.loopF [(7, false, .own Z26), (23, false, .pure (.int .i64))] [0, 1, 2, 3, 4, 6, 9, 14, 15, 16, 17, 21, 22] (fun v => uiInv a0 a1 a2 i v.1 v.2.1) (fun v => ((List.length (List.getD a1.1 i.toNat (dflt Y52)).1 : Int) - v.2.1).toNat) rfl ?_ ?_
    · exact uiStart hI
    rintro ⟨out2, (k : Int), _⟩ hK
    have hK : uiInv a0 a1 a2 i out2 k := hK
    refine Vc.seq ?_
    refine Vc.region hG rfl ?_ ?_
    · trivial
    refine Vc.seq ?_
    refine Vc.cond rfl (fun h1 => ?_) (fun h1 => ?_)
    · skip
      have hm : k < (List.length (List.getD a1.1 i.toNat (dflt Y52)).1 : Int) := of_decide_eq_true h1
      have rk := uiRange hK hm
      have ho := uiLen ri hK hc
      have hE : Sm big20 Y18 (List.getD (List.getD a1.1 i.toNat (dflt Y52)).1 k.toNat (dflt Y18)) := sS.1.2 _ (getD_mem rk _)
      refine Vc.skip ?_
      refine Vc.seq ?_
      refine Vc.block ?_
      refine Vc.seq ?_
      refine Vc.region hG rfl ?_ ?_
      · exact rk
      refine Vc.seq ?_
      refine Vc.seq ?_
      refine Vc.regionD mixed hG rfl (by kernel_rfl) ?_ ?_
      · repeat' (first | exact trivial | exact hS | refine And.intro ?_ ?_ | intro _)
      refine Vc.cond rfl (fun h2 => ?_) (fun h2 => ?_)
      · skip
        have g2 : pick2 (pick2 (hasF out2 (List.getD (List.getD a1.1 i.toNat (dflt Y52)).1 k.toNat (dflt Y18))) true (!(checkPieceF a0.1 (List.getD (List.getD a1.1 i.toNat (dflt Y52)).1 k.toNat (dflt Y18))))) true (decide (evBoundF a0 a1 a2 (List.getD (List.getD a1.1 i.toNat (dflt Y52)).1 k.toNat (dflt Y18)) ≥ brkKeyF a0 (List.getD (List.getD a1.1 i.toNat (dflt Y52)).1 k.toNat (dflt Y18)).1)) = true := h2
        have st := uiStep hK hm hbk (usSkip g2)
        refine Vc.exit ?_
        refine Vc.region hG rfl ?_ ?_
        · trivial
        refine ⟨rfl, ?_⟩
        exact st
      · skip
        have g2 : pick2 (pick2 (hasF out2 (List.getD (List.getD a1.1 i.toNat (dflt Y52)).1 k.toNat (dflt Y18))) true (!(checkPieceF a0.1 (List.getD (List.getD a1.1 i.toNat (dflt Y52)).1 k.toNat (dflt Y18))))) true (decide (evBoundF a0 a1 a2 (List.getD (List.getD a1.1 i.toNat (dflt Y52)).1 k.toNat (dflt Y18)) ≥ brkKeyF a0 (List.getD (List.getD a1.1 i.toNat (dflt Y52)).1 k.toNat (dflt Y18)).1)) = false := h2
        refine Vc.skip ?_
        refine Vc.seq ?_
        refine Vc.region hG rfl ?_ ?_
        · trivial
        refine Vc.seq ?_
        refine Vc.block ?_
        -- slots [12]; frame [0, 1, 2, 3, 4, 6, 7, 9, 11, 14, 15, 16, 17, 21, 22, 23, 24, 48]
        refine Vc.loopF [(12, false, .pure (.int .i64))] [0, 1, 2, 3, 4, 6, 7, 9, 11, 14, 15, 16, 17, 21, 22, 23, 24, 48] (fun v => tkInv (fun (y : Piece) => pbF y (List.getD (List.getD a1.1 i.toNat (dflt Y52)).1 k.toNat (dflt Y18))) out2 v.1) (fun v => ((List.length out2 : Int) - v.1).toNat) rfl ?_ ?_
        · exact tkStart
        rintro ⟨(q : Int), _⟩ hQ
        have hQ : tkInv (fun (y : Piece) => pbF y (List.getD (List.getD a1.1 i.toNat (dflt Y52)).1 k.toNat (dflt Y18))) out2 q := hQ
        refine Vc.seq ?_
        refine Vc.seq ?_
        refine Vc.regionD mixed hG rfl (by kernel_rfl) ?_ ?_
        · exact ⟨fun h => tkRange hQ (of_decide_eq_true h), fun _ => trivial⟩
        refine Vc.cond rfl (fun h3 => ?_) (fun h3 => ?_)
        · skip
          have g3 : pick2 (decide (q < (List.length out2 : Int))) (pbF (List.getD out2 q.toNat (dflt Y18)) (List.getD (List.getD a1.1 i.toNat (dflt Y52)).1 k.toNat (dflt Y18))) false = true := h3
          refine Vc.skip ?_
          refine Vc.block ?_
          refine Vc.region hG rfl ?_ ?_
          · trivial
          refine ⟨rfl, ?_⟩
          exact tkStepW (p := (fun (y : Piece) => pbF y (List.getD (List.getD a1.1 i.toNat (dflt Y52)).1 k.toNat (dflt Y18)))) hQ ho g3
        · skip
          have g3 : pick2 (decide (q < (List.length out2 : Int))) (pbF (List.getD out2 q.toNat (dflt Y18)) (List.getD (List.getD a1.1 i.toNat (dflt Y52)).1 k.toNat (dflt Y18))) false = false := h3
          have hk := tkEnd (p := (fun (y : Piece) => pbF y (List.getD (List.getD a1.1 i.toNat (dflt Y52)).1 k.toNat (dflt Y18)))) hQ g3
          have st := uiStep hK hm hbk ((putEq hQ hk).trans (usTake g2))
          refine Vc.exit ?_
          refine Vc.regionD mixed hG rfl (by kernel_rfl) ?_ ?_
          · exact insConds2W hQ ho hE
          refine Vc.region hG rfl ?_ ?_
          · trivial
          refine ⟨rfl, ?_⟩
          exact st
    · skip
      have hm : ¬ k < (List.length (List.getD a1.1 i.toNat (dflt Y52)).1 : Int) := of_decide_eq_false h1
      refine Vc.exit ?_
      refine Vc.region hG rfl ?_ ?_
      · trivial
      refine ⟨rfl, ?_⟩
      exact uoStep hI hl hb hK hm
  · skip
    have hl : ¬ i < (List.length a1.1 : Int) := of_decide_eq_false h0
    refine Vc.exit ?_
    refine Vc.seq ?_
    refine Vc.region hG rfl ?_ ?_
    · trivial
    refine Vc.ret ?_
    refine ⟨?_, trivial⟩
    exact uoEnd hI hl
end Fw
