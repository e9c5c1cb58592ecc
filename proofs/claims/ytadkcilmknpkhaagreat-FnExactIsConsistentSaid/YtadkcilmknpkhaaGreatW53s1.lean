/- Walks of functions of the program: what each computes. Conditions: those that each contract names. -/
import Derived.Test.YtadkcilmknpkhaaGreatW53T
import Derived.Test.YtadkcilmknpkhaaGreatW53s0
namespace Fw
open Go Go.Proofs
set_option linter.unusedSimpArgs false
noncomputable def F87 : Fun := ⟨[.pair Y34 Y51, .pair Y23 Y55, .slice (.int .i64), .int .i64], [.pure (.int .i64)], fun x => (fun (_ : Frame) (s : Strand) (_ : List Int) (_ : Int) => Sm big20 (.slice TPiece) s.1 ∧ ∀ r ∈ s.2, Sm big20 TRen r) x.1 x.2.1 x.2.2.1 x.2.2.2.1, fun x => (boundOfF x.1 x.2.1 x.2.2.1 x.2.2.2.1, ())⟩
set_option maxRecDepth 100000 in
/-- loop.example.g00597.spec.BoundOf -/
theorem F87_ok : Meets Tryz.prog 87 F87 := by
  refine meets_of_vc (C := mkC 52 [8] [0,1,2,3,4,5,8,9,10,11,23,33] [⟨141, _, F141_ok⟩, ⟨142, _, F142_ok⟩, ⟨40, _, F40_ok⟩]) (mkC_ok _ _ _ _) (fnOf_ok _) Tryz.func87 rfl rfl rfl (by decide) rfl ?_
  rintro ⟨a0, a1, a2, (a3 : Int), _⟩ hwf hpre ⟨P, C, B, X, w0, M0, pv⟩ hG rfl rfl
  show Vc _ _ [(0, ⟨0, 0, .c Z63 a0⟩), (1, ⟨0, 0, .c Z61 a1⟩), (2, ⟨0, 0, .c Z2 a2⟩), (3, ⟨0, 0, .c (.pure (.int .i64)) a3⟩)] _
  have hP : Sm big20 (.slice TPiece) a1.1 := hpre.1
  have hR : ∀ r ∈ a1.2, Sm big20 TRen r := hpre.2
  have hb : List.length a1.2 ≤ bigLen := hwf.2.1.2.1
  have hSt : ∀ k : Int, inRange k (List.length a1.2) → List.length (chAt a1 k).2.2.2.2 ≤ 1048576 := fun k hk => (hR _ (getD_mem hk (dflt TRen))).2.2.2.2.1
  refine Vc.seq ?_
  refine Vc.region hG rfl ?_ ?_
  · trivial
  refine Vc.seq ?_
  refine Vc.region hG rfl ?_ ?_
  · trivial
  refine Vc.seq ?_
  refine Vc.seq ?_
  refine Vc.region hG rfl ?_ ?_
  · exact ⟨hP, hR⟩
  refine Vc.block ?_
  -- slots [9, 10]; frame [0, 1, 2, 3, 4, 5, 8]
  refine Vc.loopF [(9, false, .pure (.int .i64)), (10, false, .pure (.int .i64))] [0, 1, 2, 3, 4, 5, 8] (fun v => boInv a0 a1 a2 a3 v.1 v.2.1) (fun v => ((List.length a1.2 : Int) - v.2.1).toNat) rfl ?_ ?_
  · exact boStart
  rintro ⟨(t : Int), (j : Int), _⟩ hI
  have hI : boInv a0 a1 a2 a3 t j := hI
  refine Vc.seq ?_
  refine Vc.seq ?_
  refine Vc.region hG rfl ?_ ?_
  · trivial
  refine Vc.cond rfl (fun h0 => ?_) (fun h0 => ?_)
  · skip
    have hl : j < (List.length a1.2 : Int) := of_decide_eq_true h0
    have k0 := boRange hI hl
    refine Vc.skip ?_
    refine Vc.seq ?_
    refine Vc.block ?_
    refine Vc.seq ?_
    refine Vc.region hG rfl ?_ ?_
    · exact k0
    refine Vc.cond rfl (fun h1 => ?_) (fun h1 => ?_)
    · skip
      have st := boStep hI hl hb (boY (f := a0) (t := t) (r := chAt a1 j) h1).symm
      refine Vc.seq ?_
      refine Vc.regionD mixed hG rfl (by kernel_rfl) ?_ ?_
      · exact ⟨k0, hSt _ k0⟩
      refine Vc.region hG rfl ?_ ?_
      · trivial
      refine Vc.region hG rfl ?_ ?_
      · trivial
      refine ⟨rfl, ?_⟩
      exact st
    · skip
      have st := boStep hI hl hb (boN (f := a0) (t := t) (r := chAt a1 j) h1).symm
      refine Vc.skip ?_
      refine Vc.region hG rfl ?_ ?_
      · trivial
      refine ⟨rfl, ?_⟩
      exact st
  · skip
    have hl : ¬ j < (List.length a1.2 : Int) := of_decide_eq_false h0
    refine Vc.exit ?_
    refine Vc.seq ?_
    refine Vc.region hG rfl ?_ ?_
    · trivial
    refine Vc.ret ?_
    refine ⟨?_, trivial⟩
    exact boEnd hI hl
noncomputable def F41 : Fun := ⟨[.pair Y34 Y51, .pair Y23 Y55, .slice (.int .i64), .pair (.int .i64) Y9], [.pure (.int .i64)], fun x => (fun (_ : Frame) (s : Strand) (_ : List Int) (_ : Piece) => Sm big20 (.slice TPiece) s.1 ∧ ∀ r ∈ s.2, Sm big20 TRen r) x.1 x.2.1 x.2.2.1 x.2.2.2.1, fun x => (pieceBoundF x.1 x.2.1 x.2.2.1 x.2.2.2.1, ())⟩
set_option maxRecDepth 100000 in
/-- loop.example.g00597.spec.PieceBound -/
theorem F41_ok : Meets Tryz.prog 41 F41 := by
  refine meets_of_vc (C := mkC 22 [8] [0,1,2,3,4,5,7,8,9,14] [⟨86, _, F86_ok⟩, ⟨87, _, F87_ok⟩]) (mkC_ok _ _ _ _) (fnOf_ok _) Tryz.func41 rfl rfl rfl (by decide) rfl ?_
  rintro ⟨a0, a1, a2, a3, _⟩ hwf hpre ⟨P, C, B, X, w0, M0, pv⟩ hG rfl rfl
  show Vc _ _ [(0, ⟨0, 0, .c Z63 a0⟩), (1, ⟨0, 0, .c Z61 a1⟩), (2, ⟨0, 0, .c Z2 a2⟩), (3, ⟨0, 0, .c Z22 a3⟩)] _
  have hp := hpre
  refine Vc.seq ?_
  refine Vc.region hG rfl ?_ ?_
  · trivial
  refine Vc.seq ?_
  refine Vc.region hG rfl ?_ ?_
  · trivial
  refine Vc.seq ?_
  refine Vc.seq ?_
  refine Vc.region hG rfl ?_ ?_
  · trivial
  refine Vc.cond rfl (fun h0 => ?_) (fun h0 => ?_)
  · skip
    have g0 : findPieceF a1 a3 < 0 := of_decide_eq_true h0
    refine Vc.seq ?_
    refine Vc.region hG rfl ?_ ?_
    · trivial
    refine Vc.ret ?_
    refine ⟨?_, trivial⟩
    exact pb0 g0
  · skip
    have g0 : ¬ findPieceF a1 a3 < 0 := of_decide_eq_false h0
    refine Vc.skip ?_
    refine Vc.seq ?_
    refine Vc.region hG rfl ?_ ?_
    · exact hp
    refine Vc.ret ?_
    refine ⟨?_, trivial⟩
    exact pb1 g0
noncomputable def F10 : Fun := ⟨[.pair Y34 Y51, .pair Y62 Y37, .slice (.slice (.int .i64)), .pair (.int .i64) Y9], [.pure (.int .i64)], fun x => (fun (_ : Frame) (e : Evidence) (_ : List (List Int)) (_ : Piece) => Sm big20 Y62 e.1) x.1 x.2.1 x.2.2.1 x.2.2.2.1, fun x => (evBoundF x.1 x.2.1 x.2.2.1 x.2.2.2.1, ())⟩
set_option maxRecDepth 100000 in
/-- loop.example.g00597.spec.EvidenceBound -/
theorem F10_ok : Meets Tryz.prog 10 F10 := by
  refine meets_of_vc (C := mkC 41 [8] [0,1,2,3,4,5,7,8,9,10,23] [⟨41, _, F41_ok⟩, ⟨40, _, F40_ok⟩]) (mkC_ok _ _ _ _) (fnOf_ok _) Tryz.func10 rfl rfl rfl (by decide) rfl ?_
  rintro ⟨a0, a1, a2, a3, _⟩ hwf hpre ⟨P, C, B, X, w0, M0, pv⟩ hG rfl rfl
  show Vc _ _ [(0, ⟨0, 0, .c Z63 a0⟩), (1, ⟨0, 0, .c Z67 a1⟩), (2, ⟨0, 0, .c Z7 a2⟩), (3, ⟨0, 0, .c Z22 a3⟩)] _
  have hS : Sm big20 Y62 a1.1 := hpre
  have hb : List.length a1.1 ≤ bigLen := hwf.2.1.1.1
  refine Vc.seq ?_
  refine Vc.region hG rfl ?_ ?_
  · trivial
  refine Vc.seq ?_
  refine Vc.region hG rfl ?_ ?_
  · trivial
  refine Vc.seq ?_
  refine Vc.seq ?_
  refine Vc.region hG rfl ?_ ?_
  · trivial
  refine Vc.block ?_
  -- slots [9, 10]; frame [0, 1, 2, 3, 4, 5, 7, 8]
  refine Vc.loopF [(9, false, .pure (.int .i64)), (10, false, .pure (.int .i64))] [0, 1, 2, 3, 4, 5, 7, 8] (fun v => ebInv a0 a1 a2 a3 v.1 v.2.1) (fun v => ((List.length a1.1 : Int) - v.2.1).toNat) rfl ?_ ?_
  · exact ebStart
  rintro ⟨(t : Int), (i : Int), _⟩ hI
  have hI : ebInv a0 a1 a2 a3 t i := hI
  refine Vc.seq ?_
  refine Vc.seq ?_
  refine Vc.region hG rfl ?_ ?_
  · trivial
  refine Vc.cond rfl (fun h0 => ?_) (fun h0 => ?_)
  · skip
    have hh := andLt h0
    have hl := hh.1
    have hd := hh.2
    have st := ebYes (dflt Y59) (dflt (.slice TI)) hI hl hd hb rfl
    have r1 := ebRange hI hl
    have r2 := ebRangeD hI hd
    have r3 := usStrand hS r1
    refine Vc.skip ?_
    refine Vc.seq ?_
    refine Vc.block ?_
    refine Vc.regionD mixed hG rfl (by kernel_rfl) ?_ ?_
    · exact ⟨r1, r2, r3, trivial⟩
    refine Vc.region hG rfl ?_ ?_
    · trivial
    refine ⟨rfl, ?_⟩
    exact st
  · skip
    have hx := andGe h0
    refine Vc.exit ?_
    refine Vc.seq ?_
    refine Vc.region hG rfl ?_ ?_
    · trivial
    refine Vc.ret ?_
    refine ⟨?_, trivial⟩
    exact ebEnd hI hx
noncomputable def F55 : Fun := ⟨[.pair Y34 Y51, .pair Y62 Y37, .slice (.slice (.int .i64)), .pair (.int .i64) Y9], [.pure (.bool)], fun x => (fun (_ : Frame) (e : Evidence) (_ : List (List Int)) (_ : Piece) => Sm big20 Y62 e.1) x.1 x.2.1 x.2.2.1 x.2.2.2.1, fun x => (usableF x.1 x.2.1 x.2.2.1 x.2.2.2.1, ())⟩
set_option maxRecDepth 100000 in
/-- loop.example.g00597.spec.l23Usable -/
theorem F55_ok : Meets Tryz.prog 55 F55 := by
  refine meets_of_vc (C := mkC 40 [8] [0,1,2,3,4,5,7,8,9] [⟨100, _, F100_ok⟩, ⟨101, _, F101_ok⟩, ⟨10, _, F10_ok⟩, ⟨102, _, F102_ok⟩]) (mkC_ok _ _ _ _) (fnOf_ok _) Tryz.func55 rfl rfl rfl (by decide) rfl ?_
  rintro ⟨a0, a1, a2, a3, _⟩ hwf hpre ⟨P, C, B, X, w0, M0, pv⟩ hG rfl rfl
  show Vc _ _ [(0, ⟨0, 0, .c Z63 a0⟩), (1, ⟨0, 0, .c Z67 a1⟩), (2, ⟨0, 0, .c Z7 a2⟩), (3, ⟨0, 0, .c Z22 a3⟩)] _
  have hS : Sm big20 Y62 a1.1 := hpre
  refine Vc.seq ?_
  refine Vc.region hG rfl ?_ ?_
  · trivial
  refine Vc.seq ?_
  refine Vc.region hG rfl ?_ ?_
  · trivial
  refine Vc.seq ?_
  refine Vc.regionD mixed hG rfl (by kernel_rfl) ?_ ?_
  · exact ⟨fun _ => trivial, fun _ => hS, fun h => findRange (geNot (andT h).1), fun _ => trivial⟩
  refine Vc.ret ?_
  refine ⟨?_, trivial⟩
  exact usS
noncomputable def F103 : Fun := ⟨[.pair (.int .i64) Y9, .pair (.int .i64) Y9], [.pure (.bool)], fun _ => True, fun x => (pbF x.1 x.2.1, ())⟩
set_option maxRecDepth 100000 in
/-- loop.example.g00597.spec.PieceBefore -/
theorem F103_ok : Meets Tryz.prog 103 F103 := by
  refine meets_of_vc (C := mkC 71 [4] [0,1,2,3,4,5,17,30,48,60] []) (mkC_ok _ _ _ _) (fnOf_ok _) Tryz.func103 rfl rfl rfl (by decide) rfl ?_
  rintro ⟨a0, a1, _⟩ hwf hpre ⟨P, C, B, X, w0, M0, pv⟩ hG rfl rfl
  show Vc _ _ [(0, ⟨0, 0, .c Z22 a0⟩), (1, ⟨0, 0, .c Z22 a1⟩)] _
  have hb : List.length a0.2.1 ≤ bigLen := hwf.1.2.1.1
  refine Vc.seq ?_
  refine Vc.region hG rfl ?_ ?_
  · trivial
  refine Vc.seq ?_
  refine Vc.seq ?_
  refine Vc.region hG rfl ?_ ?_
  · trivial
  refine Vc.block ?_
  -- slots [5]; frame [0, 1, 2, 3, 48, 60]
  refine Vc.loopF [(5, false, .pure (.int .i64))] [0, 1, 2, 3, 48, 60] (fun v => pbInv a0 a1 v.1) (fun v => ((List.length a0.2.1 : Int) - v.1).toNat) rfl ?_ ?_
  · exact pbStart
  rintro ⟨(i : Int), _⟩ hI
  have hI : pbInv a0 a1 i := hI
  refine Vc.seq ?_
  refine Vc.seq ?_
  refine Vc.region hG rfl ?_ ?_
  · trivial
  refine Vc.cond rfl (fun h0 => ?_) (fun h0 => ?_)
  · skip
    have hh := andLt h0
    have hl := hh.1
    have hm := hh.2
    refine Vc.skip ?_
    refine Vc.seq ?_
    refine Vc.block ?_
    refine Vc.seq ?_
    refine Vc.regionD mixed hG rfl (by kernel_rfl) ?_ ?_
    · exact ⟨pbRangeA hI hl, pbRangeB hI hm⟩
    refine Vc.cond rfl (fun h1 => ?_) (fun h1 => ?_)
    · skip
      have g1 := bneT h1
      refine Vc.seq ?_
      refine Vc.regionD mixed hG rfl (by kernel_rfl) ?_ ?_
      · exact ⟨pbRangeA hI hl, pbRangeB hI hm⟩
      refine Vc.ret ?_
      refine ⟨?_, trivial⟩
      exact pbHit hI hl hm g1
    · skip
      have g1 := bneI h1
      refine Vc.skip ?_
      refine Vc.region hG rfl ?_ ?_
      · trivial
      refine ⟨rfl, ?_⟩
      exact pbStep hI hl hm hb g1
  · skip
    have hx := andGe h0
    refine Vc.exit ?_
    refine Vc.seq ?_
    refine Vc.seq ?_
    refine Vc.region hG rfl ?_ ?_
    · trivial
    refine Vc.cond rfl (fun h2 => ?_) (fun h2 => ?_)
    · skip
      refine Vc.seq ?_
      refine Vc.region hG rfl ?_ ?_
      · trivial
      refine Vc.ret ?_
      refine ⟨?_, trivial⟩
      exact pbLen hI hx h2
    · skip
      refine Vc.skip ?_
      refine Vc.seq ?_
      refine Vc.seq ?_
      refine Vc.region hG rfl ?_ ?_
      · trivial
      refine Vc.cond rfl (fun h3 => ?_) (fun h3 => ?_)
      · skip
        refine Vc.seq ?_
        refine Vc.region hG rfl ?_ ?_
        · trivial
        refine Vc.ret ?_
        refine ⟨?_, trivial⟩
        exact pbKey hI hx h2 h3
      · skip
        refine Vc.skip ?_
        refine Vc.seq ?_
        refine Vc.region hG rfl ?_ ?_
        · trivial
        refine Vc.ret ?_
        refine ⟨?_, trivial⟩
        exact pbMark hI hx h2 h3
noncomputable def F105 : Fun := ⟨[.pair (.int .i64) Y9], [.pair (.pure (.int .i64)) Z16], fun x => Sm big20 Y19 x.1, fun x => (id x.1, ())⟩
set_option maxRecDepth 100000 in
/-- loop.example.g00597.spec.l18Copy -/
theorem F105_ok : Meets Tryz.prog 105 F105 := by
  refine meets_of_vc (C := mkC 12 [2] [0,1,2] []) (mkC_ok _ _ _ _) (fnOf_ok _) Tryz.func105 rfl rfl rfl (by decide) rfl ?_
  rintro ⟨a0, _⟩ hwf hpre ⟨P, C, B, X, w0, M0, pv⟩ hG rfl rfl
  show Vc _ _ [(0, ⟨0, 0, .c Z22 a0⟩)] _
  have hp : List.length a0.2.1 ≤ big20 := hpre.2.1.1
  refine Vc.seq ?_
  refine Vc.region hG rfl ?_ ?_
  · trivial
  refine Vc.seq ?_
  refine Vc.regionD mixed hG rfl (by kernel_rfl) ?_ ?_
  · exact appOk hp
  refine Vc.ret ?_
  refine ⟨?_, trivial⟩
  all_goals exact rfl
noncomputable def T56 : TFun := ⟨.own Z29, [.pair (.int .i64) Y9], .own Z29, fun x xs => (fun (l : List Piece) (p : Piece) => List.length l ≤ 2000000000 ∧ AscP l ∧ Sm big20 Y19 p) x xs.1, fun x xs => (fun l p => usPut p l) x xs.1⟩
set_option maxRecDepth 100000 in
/-- loop.example.g00597.spec.l23Put -/
theorem T56_ok : MeetsT Tryz.prog 56 T56 := by
  refine meetsT_of_vc (C := mkCM 46 [4] [0,1,3,4,5,17,31] [⟨103, _, F103_ok⟩, ⟨104, _, F104_ok⟩, ⟨105, _, F105_ok⟩] [] [] []) (mkCM_ok _ _ _ _ _ _ _) (fnOf_ok _) Tryz.func56 rfl rfl rfl (by decide) rfl rfl rfl rfl ?_ rfl
  rintro a0 ⟨a1, _⟩ hwf0 hwf hpre ⟨P, C, B, X, w0, M0, pv⟩ hG rfl rfl
  show Vc _ _ [(0, ⟨0, 0, .c Z31 a0⟩), (1, ⟨0, 0, .c Z22 a1⟩)] _
  have hs : List.length a0 ≤ 2000000000 := hpre.1
  have ha : AscP a0 := hpre.2.1
  have hp : Sm big20 Y19 a1 := hpre.2.2
  refine Vc.seq ?_
  refine Vc.region hG rfl ?_ ?_
  · trivial
  refine Vc.seq ?_
  refine Vc.region hG rfl ?_ ?_
  · trivial
  refine Vc.seq ?_
  refine Vc.block ?_
  -- slots [5]; frame [0, 1, 3, 4, 31]
  refine Vc.loopF [(5, false, .pure (.int .i64))] [0, 1, 3, 4, 31] (fun v => tkInv (fun (y : Piece) => pbF y a1) a0 v.1) (fun v => ((List.length a0 : Int) - v.1).toNat) rfl ?_ ?_
  · exact tkStart
  rintro ⟨(i : Int), _⟩ hI
  have hI : tkInv (fun (y : Piece) => pbF y a1) a0 i := hI
  refine Vc.seq ?_
  refine Vc.seq ?_
  refine Vc.regionD mixed hG rfl (by kernel_rfl) ?_ ?_
  · exact ⟨fun h => tkRange hI (of_decide_eq_true h), fun _ => trivial⟩
  refine Vc.cond rfl (fun h0 => ?_) (fun h0 => ?_)
  · skip
    have g0 : pick2 (decide (i < (List.length a0 : Int))) (pbF (List.getD a0 i.toNat (dflt Y19)) a1) false = true := h0
    refine Vc.skip ?_
    refine Vc.block ?_
    refine Vc.region hG rfl ?_ ?_
    · trivial
    refine ⟨rfl, ?_⟩
    exact tkStepW (p := (fun (y : Piece) => pbF y a1)) hI hs g0
  · skip
    have g0 : pick2 (decide (i < (List.length a0 : Int))) (pbF (List.getD a0 i.toNat (dflt Y19)) a1) false = false := h0
    have hk := tkEnd (p := (fun (y : Piece) => pbF y a1)) hI g0
    refine Vc.exit ?_
    refine Vc.seq ?_
    refine Vc.seq ?_
    refine Vc.regionD mixed hG rfl (by kernel_rfl) ?_ ?_
    · exact ⟨fun h => tkRange hI (of_decide_eq_true h), fun _ => trivial⟩
    refine Vc.cond rfl (fun h1 => ?_) (fun h1 => ?_)
    · skip
      have g1 : pick2 (decide (i < (List.length a0 : Int))) (eqC (List.getD a0 i.toNat (dflt Y19)) a1) false = true := h1
      refine Vc.seq ?_
      refine Vc.region hG rfl ?_ ?_
      · trivial
      refine Vc.ret ?_
      refine ⟨?_, trivial⟩
      exact putYes hI.1 g1
    · skip
      have g1 : pick2 (decide (i < (List.length a0 : Int))) (eqC (List.getD a0 i.toNat (dflt Y19)) a1) false = false := h1
      refine Vc.skip ?_
      refine Vc.seq ?_
      refine Vc.regionD mixed hG rfl (by kernel_rfl) ?_ ?_
      · exact insConds2W hI hs hp
      refine Vc.ret ?_
      refine ⟨?_, trivial⟩
      exact (putEq hI hk).trans (putNo ha hk hI.1 g1).symm
noncomputable def F20 : Fun := ⟨[.pair Y34 Y51, .pair Y62 Y37, .slice (.slice (.int .i64))], [.own Z29], fun x => (fun (_ : Frame) (e : Evidence) (_ : List (List Int)) => Sm big20 Y62 e.1 ∧ ((cellsC Y62 e.1 : Nat) : Int) ≤ 2000000000) x.1 x.2.1 x.2.2.1, fun x => (usablePiecesF x.1 x.2.1 x.2.2.1, ())⟩
set_option maxRecDepth 100000 in
/-- loop.example.g00597.spec.UsablePieces -/
theorem F20_ok : Meets Tryz.prog 20 F20 := by
  refine meets_of_vc (C := mkCM 48 [6] [0,1,2,3,4,6,7,8,9,10,16,27,43] [⟨55, _, F55_ok⟩] [] [⟨56, _, T56_ok⟩] []) (mkCM_ok _ _ _ _ _ _ _) (fnOf_ok _) Tryz.func20 rfl rfl rfl (by decide) rfl ?_
  rintro ⟨a0, a1, a2, _⟩ hwf hpre ⟨P, C, B, X, w0, M0, pv⟩ hG rfl rfl
  show Vc _ _ [(0, ⟨0, 0, .c Z63 a0⟩), (1, ⟨0, 0, .c Z67 a1⟩), (2, ⟨0, 0, .c Z7 a2⟩)] _
  have hS : Sm big20 Y62 a1.1 := hpre.1
  have hc : ((cellsC Y62 a1.1 : Nat) : Int) ≤ 2000000000 := hpre.2
  have hb : List.length a1.1 ≤ bigLen := hwf.2.1.1.1
  refine Vc.seq ?_
  refine Vc.region hG rfl ?_ ?_
  · trivial
  refine Vc.seq ?_
  refine Vc.region hG rfl ?_ ?_
  · trivial
  refine Vc.seq ?_
  refine Vc.seq ?_
  refine Vc.region hG rfl ?_ ?_
  · trivial
  refine Vc.block ?_
  -- slots [7, 8]; frame [0, 1, 2, 3, 4, 6]
  refine Vc.loopF [(7, false, .own Z29), (8, false, .pure (.int .i64))] [0, 1, 2, 3, 4, 6] (fun v => uoInv a0 a1 a2 v.1 v.2.1) (fun v => ((List.length a1.1 : Int) - v.2.1).toNat) rfl ?_ ?_
  · exact uoStart
  rintro ⟨out, (i : Int), _⟩ hI
  have hI : uoInv a0 a1 a2 out i := hI
  refine Vc.seq ?_
  refine Vc.seq ?_
  refine Vc.region hG rfl ?_ ?_
  · trivial
  refine Vc.cond rfl (fun h0 => ?_) (fun h0 => ?_)
  · skip
    have hl : i < (List.length a1.1 : Int) := of_decide_eq_true h0
    have ri := uoRange hI hl
    have sS := usStrand hS ri
    have hbk : List.length (List.getD a1.1 i.toNat (dflt Y59)).1 ≤ bigLen := Nat.le_trans sS.1.1 (by decide)
    refine Vc.skip ?_
    refine Vc.seq ?_
    refine Vc.block ?_
    refine Vc.seq ?_
    refine Vc.region hG rfl ?_ ?_
    · trivial
    refine Vc.block ?_
    -- slots [7, 9]; frame [0, 1, 2, 3, 4, 6, 8, 16]
    refine Vc.loopF [(7, false, .own Z29), (9, false, .pure (.int .i64))] [0, 1, 2, 3, 4, 6, 8, 16] (fun v => uiInv a0 a1 a2 i v.1 v.2.1) (fun v => ((List.length (List.getD a1.1 i.toNat (dflt Y59)).1 : Int) - v.2.1).toNat) rfl ?_ ?_
    · exact uiStart hI
    rintro ⟨out2, (k : Int), _⟩ hK
    have hK : uiInv a0 a1 a2 i out2 k := hK
    refine Vc.seq ?_
    refine Vc.seq ?_
    refine Vc.region hG rfl ?_ ?_
    · exact ri
    refine Vc.cond rfl (fun h1 => ?_) (fun h1 => ?_)
    · skip
      have hm : k < (List.length (List.getD a1.1 i.toNat (dflt Y59)).1 : Int) := of_decide_eq_true h1
      have rk := uiRange hK hm
      have ho := uiLen ri hK hc
      have hE : Sm big20 Y19 (List.getD (List.getD a1.1 i.toNat (dflt Y59)).1 k.toNat (dflt Y19)) := sS.1.2 _ (getD_mem rk _)
      refine Vc.skip ?_
      refine Vc.seq ?_
      refine Vc.block ?_
      refine Vc.seq ?_
      refine Vc.region hG rfl ?_ ?_
      · exact ⟨ri, rk⟩
      refine Vc.seq ?_
      refine Vc.region hG rfl ?_ ?_
      · exact hS
      refine Vc.cond rfl (fun h2 => ?_) (fun h2 => ?_)
      · skip
        have g2 : usableF a0 a1 a2 (List.getD (List.getD a1.1 i.toNat (dflt Y59)).1 k.toNat (dflt Y19)) = true := h2
        have st := uiStep hK hm hbk (usYes g2)
        refine Vc.region hG rfl ?_ ?_
        · exact ⟨ho, uiAsc hK, hE⟩
        refine Vc.region hG rfl ?_ ?_
        · trivial
        refine ⟨rfl, ?_⟩
        exact st
      · skip
        have g2 : usableF a0 a1 a2 (List.getD (List.getD a1.1 i.toNat (dflt Y59)).1 k.toNat (dflt Y19)) = false := h2
        have st := uiStep hK hm hbk (usNo (out := out2) g2)
        refine Vc.skip ?_
        refine Vc.region hG rfl ?_ ?_
        · trivial
        refine ⟨rfl, ?_⟩
        exact st
    · skip
      have hm : ¬ k < (List.length (List.getD a1.1 i.toNat (dflt Y59)).1 : Int) := of_decide_eq_false h1
      refine Vc.exit ?_
      refine Vc.region hG rfl ?_ ?_
      · trivial
      refine ⟨rfl, ?_⟩
      exact uoStep hI hl hb hK hm
  · skip
    have hl : ¬ i < (List.length a1.1 : Int) := of_decide_eq_false h0
    refine Vc.exit ?_
    refine Vc.seq ?_
    refine Vc.region hG rfl ?_ ?_
    · trivial
    refine Vc.ret ?_
    refine ⟨?_, trivial⟩
    exact uoEnd hI hl
noncomputable def F198 : Fun := ⟨[.pair (.int .i64) Y38], [.pure Y4], fun _ => True, fun x => (certSpanF x.1, ())⟩
set_option maxRecDepth 100000 in
/-- loop.example.g00597.spec.CertSpan -/
theorem F198_ok : Meets Tryz.prog 198 F198 := by
  refine meets_of_vc (C := mkC 8 [2] [0,1,2] []) (mkC_ok _ _ _ _) (fnOf_ok _) Tryz.func198 rfl rfl rfl (by decide) rfl ?_
  rintro ⟨a0, _⟩ hwf hpre ⟨P, C, B, X, w0, M0, pv⟩ hG rfl rfl
  show Vc _ _ [(0, ⟨0, 0, .c Z42 a0⟩)] _
  refine Vc.seq ?_
  refine Vc.region hG rfl ?_ ?_
  · trivial
  refine Vc.seq ?_
  refine Vc.region hG rfl ?_ ?_
  · trivial
  refine Vc.ret ?_
  refine ⟨?_, trivial⟩
  all_goals exact rfl
noncomputable def F161 : Fun := ⟨[.pair (.int .i64) Y38], [.pure (.bool)], fun _ => True, fun x => (isCertF x.1, ())⟩
set_option maxRecDepth 100000 in
/-- loop.example.g00597.spec.IsCert -/
theorem F161_ok : Meets Tryz.prog 161 F161 := by
  refine meets_of_vc (C := mkC 33 [2] [0,1,2] [⟨196, _, F196_ok⟩, ⟨198, _, F198_ok⟩, ⟨197, _, F197_ok⟩]) (mkC_ok _ _ _ _) (fnOf_ok _) Tryz.func161 rfl rfl rfl (by decide) rfl ?_
  rintro ⟨a0, _⟩ hwf hpre ⟨P, C, B, X, w0, M0, pv⟩ hG rfl rfl
  show Vc _ _ [(0, ⟨0, 0, .c Z42 a0⟩)] _
  refine Vc.seq ?_
  refine Vc.region hG rfl ?_ ?_
  · trivial
  refine Vc.seq ?_
  refine Vc.region hG rfl ?_ ?_
  · repeat' (first | exact trivial | refine And.intro ?_ ?_ | intro _)
  refine Vc.ret ?_
  refine ⟨?_, trivial⟩
  all_goals exact rfl
noncomputable def F162 : Fun := ⟨[.pair (.int .i64) Y38], [.own (.pure (.int .i64))], fun _ => True, fun x => (certIntsF x.1, ())⟩
set_option maxRecDepth 100000 in
/-- loop.example.g00597.spec.CertInts -/
theorem F162_ok : Meets Tryz.prog 162 F162 := by
  refine meets_of_vc (C := mkC 16 [2] [0,1,2] []) (mkC_ok _ _ _ _) (fnOf_ok _) Tryz.func162 rfl rfl rfl (by decide) rfl ?_
  rintro ⟨a0, _⟩ hwf hpre ⟨P, C, B, X, w0, M0, pv⟩ hG rfl rfl
  show Vc _ _ [(0, ⟨0, 0, .c Z42 a0⟩)] _
  refine Vc.seq ?_
  refine Vc.region hG rfl ?_ ?_
  · trivial
  refine Vc.seq ?_
  refine Vc.region hG rfl ?_ ?_
  · trivial
  refine Vc.ret ?_
  refine ⟨?_, trivial⟩
  all_goals exact rfl
noncomputable def F163 : Fun := ⟨[.slice Y32, .int .i64], [.pure (.int .i64)], fun _ => True, fun x => (ownerF x.1 x.2.1, ())⟩
set_option maxRecDepth 100000 in
/-- loop.example.g00597.spec.OwnerOf -/
theorem F163_ok : Meets Tryz.prog 163 F163 := by
  refine meets_of_vc (C := mkC 16 [4] [0,1,4,5,10] [⟨100, _, F100_ok⟩]) (mkC_ok _ _ _ _) (fnOf_ok _) Tryz.func163 rfl rfl rfl (by decide) rfl ?_
  rintro ⟨a0, (a1 : Int), _⟩ hwf hpre ⟨P, C, B, X, w0, M0, pv⟩ hG rfl rfl
  show Vc _ _ [(0, ⟨0, 0, .c Z36 a0⟩), (1, ⟨0, 0, .c (.pure (.int .i64)) a1⟩)] _
  refine Vc.seq ?_
  refine Vc.region hG rfl ?_ ?_
  · trivial
  refine Vc.seq ?_
  refine Vc.region hG rfl ?_ ?_
  · trivial
  refine Vc.seq ?_
  refine Vc.seq ?_
  refine Vc.region hG rfl ?_ ?_
  · trivial
  refine Vc.cond rfl (fun h0 => ?_) (fun h0 => ?_)
  · skip
    have g0 : keyI a0 a1 < 0 := of_decide_eq_true h0
    refine Vc.seq ?_
    refine Vc.region hG rfl ?_ ?_
    · trivial
    refine Vc.ret ?_
    refine ⟨?_, trivial⟩
    exact owner0 g0
  · skip
    have g0 : ¬ keyI a0 a1 < 0 := of_decide_eq_false h0
    refine Vc.skip ?_
    refine Vc.seq ?_
    refine Vc.region hG rfl ?_ ?_
    · exact findRange g0
    refine Vc.ret ?_
    refine ⟨?_, trivial⟩
    exact owner1 g0
noncomputable def F121 : Fun := ⟨[.slice Y32, .pair (.int .i64) Y38], [.pure (.bool)], fun _ => True, fun x => (checkCertF x.1 x.2.1, ())⟩
set_option maxRecDepth 100000 in
/-- loop.example.g00597.spec.CheckCert -/
theorem F121_ok : Meets Tryz.prog 121 F121 := by
  refine meets_of_vc (C := mkC 26 [4] [0,1,3,4] [⟨161, _, F161_ok⟩, ⟨162, _, F162_ok⟩, ⟨151, _, F151_ok⟩, ⟨163, _, F163_ok⟩]) (mkC_ok _ _ _ _) (fnOf_ok _) Tryz.func121 rfl rfl rfl (by decide) rfl ?_
  rintro ⟨a0, a1, _⟩ hwf hpre ⟨P, C, B, X, w0, M0, pv⟩ hG rfl rfl
  show Vc _ _ [(0, ⟨0, 0, .c Z36 a0⟩), (1, ⟨0, 0, .c Z42 a1⟩)] _
  refine Vc.seq ?_
  refine Vc.region hG rfl ?_ ?_
  · trivial
  refine Vc.seq ?_
  refine Vc.regionD mixed hG rfl (by kernel_rfl) ?_ ?_
  · exact ⟨trivial, fun _ => trivial, fun _ => smallLit (n := 7) rfl (by decide), fun _ => trivial⟩
  refine Vc.ret ?_
  refine ⟨?_, trivial⟩
  all_goals exact rfl
noncomputable def F71 : Fun := ⟨[.pair Y34 Y51, .slice Y19, .pair (.int .i64) Y44], [.pure Y41, .pure (.bool)], fun _ => True, fun x => (((fun a0 a1 a2 => certForF a0.1 a1 a2) x.1 x.2.1 x.2.2.1).1, ((fun a0 a1 a2 => certForF a0.1 a1 a2) x.1 x.2.1 x.2.2.1).2, ())⟩
set_option maxRecDepth 100000 in
/-- loop.example.g00597.spec.CertFor -/
theorem F71_ok : Meets Tryz.prog 71 F71 := by
  refine meets_of_vc (C := mkC 56 [6, 7] [0,1,2,3,5,6,7,8,9,10,11,12,17,48,53] [⟨120, _, F120_ok⟩, ⟨121, _, F121_ok⟩]) (mkC_ok _ _ _ _) (fnOf_ok _) Tryz.func71 rfl rfl rfl (by decide) rfl ?_
  rintro ⟨a0, a1, a2, _⟩ hwf hpre ⟨P, C, B, X, w0, M0, pv⟩ hG rfl rfl
  show Vc _ _ [(0, ⟨0, 0, .c Z63 a0⟩), (1, ⟨0, 0, .c Z26 a1⟩), (2, ⟨0, 0, .c Z48 a2⟩)] _
  have hb : List.length a1 ≤ bigLen := hwf.2.1.1
  refine Vc.seq ?_
  refine Vc.region hG rfl ?_ ?_
  · trivial
  refine Vc.seq ?_
  refine Vc.region hG rfl ?_ ?_
  · trivial
  refine Vc.seq ?_
  refine Vc.region hG rfl ?_ ?_
  · trivial
  refine Vc.seq ?_
  refine Vc.seq ?_
  refine Vc.region hG rfl ?_ ?_
  · trivial
  refine Vc.block ?_
  -- slots [8, 9, 10]; frame [0, 1, 2, 3, 5, 6, 7, 53]
  refine Vc.loopF [(8, true, .pure Y41), (9, false, .pure (.int .i64)), (10, false, .pure (.int .i64))] [0, 1, 2, 3, 5, 6, 7, 53] (fun v => cfInv a0.1 a2 a1 v.1 v.2.1 v.2.2.1) (fun v => ((List.length a1 : Int) - v.2.2.1).toNat) rfl ?_ ?_
  · exact cfStart
  rintro ⟨c, (n : Int), (i : Int), _⟩ hI
  have hI : cfInv a0.1 a2 a1 c n i := hI
  refine Vc.seq ?_
  refine Vc.seq ?_
  refine Vc.region hG rfl ?_ ?_
  · trivial
  refine Vc.cond rfl (fun h0 => ?_) (fun h0 => ?_)
  · skip
    have hl : i < (List.length a1 : Int) := of_decide_eq_true h0
    refine Vc.skip ?_
    refine Vc.seq ?_
    refine Vc.block ?_
    refine Vc.seq ?_
    refine Vc.region hG rfl ?_ ?_
    · exact ⟨cfRange hI hl, trivial⟩
    refine Vc.seq ?_
    refine Vc.region hG rfl ?_ ?_
    · repeat' (first | exact trivial | refine And.intro ?_ ?_ | intro _)
    refine Vc.cond rfl (fun h1 => ?_) (fun h1 => ?_)
    · skip
      have g1 : cfTest a0.1 a2 (List.getD a1 i.toNat (dflt Y19)) = true := h1
      refine Vc.seq ?_
      refine Vc.region hG rfl ?_ ?_
      · trivial
      refine Vc.region hG rfl ?_ ?_
      · trivial
      refine Vc.region hG rfl ?_ ?_
      · trivial
      refine ⟨rfl, ?_⟩
      first | exact cfGo1 hI hl hb g1 | exact cfGo0 hI hl hb g1
    · skip
      have g1 : cfTest a0.1 a2 (List.getD a1 i.toNat (dflt Y19)) = false := h1
      refine Vc.skip ?_
      refine Vc.region hG rfl ?_ ?_
      · trivial
      refine ⟨rfl, ?_⟩
      first | exact cfGo1 hI hl hb g1 | exact cfGo0 hI hl hb g1
  · skip
    have hl : ¬ i < (List.length a1 : Int) := of_decide_eq_false h0
    refine Vc.exit ?_
    refine Vc.seq ?_
    refine Vc.seq ?_
    refine Vc.region hG rfl ?_ ?_
    · trivial
    refine Vc.cond rfl (fun h2 => ?_) (fun h2 => ?_)
    · skip
      have g2 : (n != 1) = true := h2
      refine Vc.seq ?_
      refine Vc.region hG rfl ?_ ?_
      · trivial
      refine Vc.ret ?_
      have e := cfEnd0 hI hl g2
      refine ⟨?_, ?_, trivial⟩
      · exact (congrArg Prod.fst e).symm
      · exact (congrArg Prod.snd e).symm
    · skip
      have g2 : (n != 1) = false := h2
      refine Vc.skip ?_
      refine Vc.seq ?_
      refine Vc.region hG rfl ?_ ?_
      · trivial
      refine Vc.ret ?_
      have e := cfEnd1 hI hl g2
      refine ⟨?_, ?_, trivial⟩
      · exact (congrArg Prod.fst e).symm
      · exact (congrArg Prod.snd e).symm
noncomputable def F73 : Fun := ⟨[.slice Y19, .pair (.int .i64) Y38], [.own Z33], fun x => (fun a0 a1 => List.length a0 ≤ 2000000000) x.1 x.2.1, fun x => (statusesF x.1 x.2.1, ())⟩
set_option maxRecDepth 100000 in
/-- loop.example.g00597.spec.StatusesFor -/
theorem F73_ok : Meets Tryz.prog 73 F73 := by
  refine meets_of_vc (C := mkC 44 [4] [0,1,3,4,5,6,7,8,13,38] [⟨124, _, F124_ok⟩]) (mkC_ok _ _ _ _) (fnOf_ok _) Tryz.func73 rfl rfl rfl (by decide) rfl ?_
  rintro ⟨a0, a1, _⟩ hwf hpre ⟨P, C, B, X, w0, M0, pv⟩ hG rfl rfl
  show Vc _ _ [(0, ⟨0, 0, .c Z26 a0⟩), (1, ⟨0, 0, .c Z42 a1⟩)] _
  have hb : List.length a0 ≤ bigLen := hwf.1.1
  have hs : List.length a0 ≤ 2000000000 := hpre
  refine Vc.seq ?_
  refine Vc.region hG rfl ?_ ?_
  · trivial
  refine Vc.seq ?_
  refine Vc.region hG rfl ?_ ?_
  · trivial
  refine Vc.seq ?_
  refine Vc.seq ?_
  refine Vc.region hG rfl ?_ ?_
  · trivial
  refine Vc.block ?_
  -- slots [5, 6]; frame [0, 1, 3, 4]
  refine Vc.loopF [(5, false, .own Z33), (6, false, .pure (.int .i64))] [0, 1, 3, 4] (fun v => pkInv (statFor a1) a0 v.1 v.2.1) (fun v => ((List.length a0 : Int) - v.2.1).toNat) rfl ?_ ?_
  · exact pkStart
  rintro ⟨acc, (i : Int), _⟩ hI
  have hI : pkInv (statFor a1) a0 acc i := hI
  refine Vc.seq ?_
  refine Vc.seq ?_
  refine Vc.region hG rfl ?_ ?_
  · trivial
  refine Vc.cond rfl (fun h0 => ?_) (fun h0 => ?_)
  · skip
    have hl : i < (List.length a0 : Int) := of_decide_eq_true h0
    refine Vc.skip ?_
    refine Vc.seq ?_
    refine Vc.block ?_
    refine Vc.seq ?_
    refine Vc.region hG rfl ?_ ?_
    · exact ⟨pkRange hI hl, trivial⟩
    refine Vc.seq ?_
    refine Vc.region hG rfl ?_ ?_
    · trivial
    refine Vc.cond rfl (fun h1 => ?_) (fun h1 => ?_)
    · skip
      have g1 : ((statFor a1) (List.getD a0 i.toNat (dflt Y19))).2 = true := h1
      refine Vc.region hG rfl ?_ ?_
      · exact pkLenW hI hs
      refine Vc.region hG rfl ?_ ?_
      · trivial
      refine ⟨rfl, ?_⟩
      first
        | exact pkYes (d := dflt Y19) hI hl hb g1
        | exact pkNo (d := dflt Y19) hI hl hb g1
    · skip
      have g1 : ((statFor a1) (List.getD a0 i.toNat (dflt Y19))).2 = false := h1
      refine Vc.skip ?_
      refine Vc.region hG rfl ?_ ?_
      · trivial
      refine ⟨rfl, ?_⟩
      first
        | exact pkYes (d := dflt Y19) hI hl hb g1
        | exact pkNo (d := dflt Y19) hI hl hb g1
  · skip
    have hl : ¬ i < (List.length a0 : Int) := of_decide_eq_false h0
    refine Vc.exit ?_
    refine Vc.seq ?_
    refine Vc.region hG rfl ?_ ?_
    · trivial
    refine Vc.ret ?_
    refine ⟨?_, trivial⟩
    exact pkEnd hI hl
noncomputable def F122 : Fun := ⟨[.slice Y32, .int .i64], [.pure (.int .i64)], fun _ => True, fun x => (badFromF x.1 x.2.1, ())⟩
set_option maxRecDepth 100000 in
/-- loop.example.g00597.spec.BadFrom -/
theorem F122_ok : Meets Tryz.prog 122 F122 := by
  refine meets_of_vc (C := mkC 47 [4] [0,1,4,5,6,7,11,20,26,42] [⟨127, _, F127_ok⟩]) (mkC_ok _ _ _ _) (fnOf_ok _) Tryz.func122 rfl rfl rfl (by decide) rfl ?_
  rintro ⟨a0, (a1 : Int), _⟩ hwf hpre ⟨P, C, B, X, w0, M0, pv⟩ hG rfl rfl
  show Vc _ _ [(0, ⟨0, 0, .c Z36 a0⟩), (1, ⟨0, 0, .c (.pure (.int .i64)) a1⟩)] _
  have hb : List.length a0 ≤ bigLen := hwf.1.1
  refine Vc.seq ?_
  refine Vc.region hG rfl ?_ ?_
  · trivial
  refine Vc.seq ?_
  refine Vc.region hG rfl ?_ ?_
  · trivial
  refine Vc.seq ?_
  refine Vc.region hG rfl ?_ ?_
  · trivial
  refine Vc.seq ?_
  refine Vc.seq ?_
  refine Vc.region hG rfl ?_ ?_
  · trivial
  refine Vc.block ?_
  -- slots [5, 6, 7]; frame [0, 1, 4, 42]
  refine Vc.loopF [(5, false, .pure (.int .i64)), (6, false, .pure (.int .i64)), (7, false, .pure (.int .i64))] [0, 1, 4, 42] (fun v => foInv (msS a1) (-1) a0 v.1 v.2.2.1 ∧ foInv (gsS a1) (-1) a0 v.2.1 v.2.2.1) (fun v => ((List.length a0 : Int) - v.2.2.1).toNat) rfl ?_ ?_
  · exact ⟨foStart, foStart⟩
  rintro ⟨(x : Int), (y : Int), (i : Int), _⟩ hI
  have hI : foInv (msS a1) (-1) a0 x i ∧ foInv (gsS a1) (-1) a0 y i := hI
  refine Vc.seq ?_
  refine Vc.seq ?_
  refine Vc.region hG rfl ?_ ?_
  · trivial
  refine Vc.cond rfl (fun h0 => ?_) (fun h0 => ?_)
  · skip
    have hl : i < (List.length a0 : Int) := of_decide_eq_true h0
    refine Vc.skip ?_
    refine Vc.seq ?_
    refine Vc.block ?_
    refine Vc.seq ?_
    refine Vc.seq ?_
    refine Vc.region hG rfl ?_ ?_
    · exact foRange hI.1 hl
    refine Vc.cond rfl (fun h1 => ?_) (fun h1 => ?_)
    · skip
      have g1 : ((List.getD a0 i.toNat (dflt Y32)).1 != a1) = true := h1
      have st := fo2 (d := dflt Y32) hI hl hb (msN1 g1) (gsN1 g1)
      refine Vc.exit ?_
      refine Vc.region hG rfl ?_ ?_
      · trivial
      refine ⟨rfl, ?_⟩
      exact st
    · skip
      have g1 : ((List.getD a0 i.toNat (dflt Y32)).1 != a1) = false := h1
      refine Vc.skip ?_
      refine Vc.seq ?_
      refine Vc.region hG rfl ?_ ?_
      · exact foRange hI.1 hl
      refine Vc.cond rfl (fun h2 => ?_) (fun h2 => ?_)
      · skip
        have g2 : ¬ (List.getD a0 i.toNat (dflt Y32)).2.2.1 < 0 := Int.not_lt.2 (of_decide_eq_true h2)
        have st := fo2 (d := dflt Y32) hI hl hb (msY g1 g2) (gsN2 g2)
        refine Vc.region hG rfl ?_ ?_
        · exact ⟨foRange hI.1 hl, trivial⟩
        refine Vc.region hG rfl ?_ ?_
        · trivial
        refine ⟨rfl, ?_⟩
        exact st
      · skip
        have g2 : (List.getD a0 i.toNat (dflt Y32)).2.2.1 < 0 := Int.not_le.1 (of_decide_eq_false h2)
        have st := fo2 (d := dflt Y32) hI hl hb (msN2 g2) (gsY g1 g2)
        refine Vc.region hG rfl ?_ ?_
        · exact ⟨foRange hI.1 hl, trivial⟩
        refine Vc.region hG rfl ?_ ?_
        · trivial
        refine ⟨rfl, ?_⟩
        exact st
  · skip
    have hl : ¬ i < (List.length a0 : Int) := of_decide_eq_false h0
    refine Vc.exit ?_
    refine Vc.seq ?_
    refine Vc.seq ?_
    refine Vc.region hG rfl ?_ ?_
    · trivial
    refine Vc.cond rfl (fun h3 => ?_) (fun h3 => ?_)
    · skip
      refine Vc.seq ?_
      refine Vc.region hG rfl ?_ ?_
      · trivial
      refine Vc.ret ?_
      refine ⟨?_, trivial⟩
      exact bfA (foEnd hI.1 hl) h3
    · skip
      refine Vc.skip ?_
      refine Vc.seq ?_
      refine Vc.region hG rfl ?_ ?_
      · trivial
      refine Vc.ret ?_
      refine ⟨?_, trivial⟩
      exact bfB (foEnd hI.1 hl) (foEnd hI.2 hl) h3
noncomputable def F123 : Fun := ⟨[.slice Y32, .int .i64], [.pure (.int .i64)], fun _ => True, fun x => (goodUntilF x.1 x.2.1, ())⟩
set_option maxRecDepth 100000 in
/-- loop.example.g00597.spec.GoodUntil -/
theorem F123_ok : Meets Tryz.prog 123 F123 := by
  refine meets_of_vc (C := mkC 55 [4] [0,1,4,5,6,7,11,20,26,44,51] [⟨127, _, F127_ok⟩]) (mkC_ok _ _ _ _) (fnOf_ok _) Tryz.func123 rfl rfl rfl (by decide) rfl ?_
  rintro ⟨a0, (a1 : Int), _⟩ hwf hpre ⟨P, C, B, X, w0, M0, pv⟩ hG rfl rfl
  show Vc _ _ [(0, ⟨0, 0, .c Z36 a0⟩), (1, ⟨0, 0, .c (.pure (.int .i64)) a1⟩)] _
  have hb : List.length a0 ≤ bigLen := hwf.1.1
  refine Vc.seq ?_
  refine Vc.region hG rfl ?_ ?_
  · trivial
  refine Vc.seq ?_
  refine Vc.region hG rfl ?_ ?_
  · trivial
  refine Vc.seq ?_
  refine Vc.region hG rfl ?_ ?_
  · trivial
  refine Vc.seq ?_
  refine Vc.seq ?_
  refine Vc.region hG rfl ?_ ?_
  · trivial
  refine Vc.block ?_
  -- slots [5, 6, 7]; frame [0, 1, 4, 51]
  refine Vc.loopF [(5, false, .pure (.int .i64)), (6, false, .pure (.int .i64)), (7, false, .pure (.int .i64))] [0, 1, 4, 51] (fun v => foInv (lsS a1) (-1) a0 v.1 v.2.2.1 ∧ foInv (gsS a1) (-1) a0 v.2.1 v.2.2.1) (fun v => ((List.length a0 : Int) - v.2.2.1).toNat) rfl ?_ ?_
  · exact ⟨foStart, foStart⟩
  rintro ⟨(x : Int), (y : Int), (i : Int), _⟩ hI
  have hI : foInv (lsS a1) (-1) a0 x i ∧ foInv (gsS a1) (-1) a0 y i := hI
  refine Vc.seq ?_
  refine Vc.seq ?_
  refine Vc.region hG rfl ?_ ?_
  · trivial
  refine Vc.cond rfl (fun h0 => ?_) (fun h0 => ?_)
  · skip
    have hl : i < (List.length a0 : Int) := of_decide_eq_true h0
    refine Vc.skip ?_
    refine Vc.seq ?_
    refine Vc.block ?_
    refine Vc.seq ?_
    refine Vc.seq ?_
    refine Vc.region hG rfl ?_ ?_
    · exact foRange hI.1 hl
    refine Vc.cond rfl (fun h1 => ?_) (fun h1 => ?_)
    · skip
      have g1 : ((List.getD a0 i.toNat (dflt Y32)).1 != a1) = true := h1
      have st := fo2 (d := dflt Y32) hI hl hb (lsN1 g1) (gsN1 g1)
      refine Vc.exit ?_
      refine Vc.region hG rfl ?_ ?_
      · trivial
      refine ⟨rfl, ?_⟩
      exact st
    · skip
      have g1 : ((List.getD a0 i.toNat (dflt Y32)).1 != a1) = false := h1
      refine Vc.skip ?_
      refine Vc.seq ?_
      refine Vc.region hG rfl ?_ ?_
      · exact foRange hI.1 hl
      refine Vc.cond rfl (fun h2 => ?_) (fun h2 => ?_)
      · skip
        have g2 : (List.getD a0 i.toNat (dflt Y32)).2.2.1 < 0 := of_decide_eq_true h2
        have st := fo2 (d := dflt Y32) hI hl hb (lsN2 g2) (gsY g1 g2)
        refine Vc.region hG rfl ?_ ?_
        · exact ⟨foRange hI.1 hl, trivial⟩
        refine Vc.region hG rfl ?_ ?_
        · trivial
        refine ⟨rfl, ?_⟩
        exact st
      · skip
        have g2 : ¬ (List.getD a0 i.toNat (dflt Y32)).2.2.1 < 0 := of_decide_eq_false h2
        refine Vc.seq ?_
        refine Vc.region hG rfl ?_ ?_
        · repeat' (first | exact trivial | exact foRange hI.1 hl | refine And.intro ?_ ?_ | intro _)
        refine Vc.cond rfl (fun h3 => ?_) (fun h3 => ?_)
        · skip
          have st := fo2 (d := dflt Y32) hI hl hb (lsY g1 g2 h3) (gsN2 g2)
          refine Vc.region hG rfl ?_ ?_
          · exact foRange hI.1 hl
          refine Vc.region hG rfl ?_ ?_
          · trivial
          refine ⟨rfl, ?_⟩
          exact st
        · skip
          have st := fo2 (d := dflt Y32) hI hl hb (lsN3 h3) (gsN2 g2)
          refine Vc.skip ?_
          refine Vc.region hG rfl ?_ ?_
          · trivial
          refine ⟨rfl, ?_⟩
          exact st
  · skip
    have hl : ¬ i < (List.length a0 : Int) := of_decide_eq_false h0
    refine Vc.exit ?_
    refine Vc.seq ?_
    refine Vc.seq ?_
    refine Vc.region hG rfl ?_ ?_
    · trivial
    refine Vc.cond rfl (fun h4 => ?_) (fun h4 => ?_)
    · skip
      refine Vc.seq ?_
      refine Vc.region hG rfl ?_ ?_
      · trivial
      refine Vc.ret ?_
      refine ⟨?_, trivial⟩
      exact guA (foEnd hI.1 hl) h4
    · skip
      refine Vc.skip ?_
      refine Vc.seq ?_
      refine Vc.region hG rfl ?_ ?_
      · trivial
      refine Vc.ret ?_
      refine ⟨?_, trivial⟩
      exact guB (foEnd hI.1 hl) (foEnd hI.2 hl) h4
noncomputable def F72 : Fun := ⟨[.slice Y32, .int .i64], [.pure (.bool)], fun _ => True, fun x => (isAgreedF x.1 x.2.1, ())⟩
set_option maxRecDepth 100000 in
/-- loop.example.g00597.spec.IsAgreed -/
theorem F72_ok : Meets Tryz.prog 72 F72 := by
  refine meets_of_vc (C := mkC 19 [4] [0,1,4,5] [⟨122, _, F122_ok⟩, ⟨123, _, F123_ok⟩]) (mkC_ok _ _ _ _) (fnOf_ok _) Tryz.func72 rfl rfl rfl (by decide) rfl ?_
  rintro ⟨a0, (a1 : Int), _⟩ hwf hpre ⟨P, C, B, X, w0, M0, pv⟩ hG rfl rfl
  show Vc _ _ [(0, ⟨0, 0, .c Z36 a0⟩), (1, ⟨0, 0, .c (.pure (.int .i64)) a1⟩)] _
  refine Vc.seq ?_
  refine Vc.region hG rfl ?_ ?_
  · trivial
  refine Vc.seq ?_
  refine Vc.region hG rfl ?_ ?_
  · trivial
  refine Vc.seq ?_
  refine Vc.region hG rfl ?_ ?_
  · repeat' (first | exact trivial | refine And.intro ?_ ?_ | intro _)
  refine Vc.ret ?_
  refine ⟨?_, trivial⟩
  all_goals exact rfl
noncomputable def F125 : Fun := ⟨[.int .i64, .slice Y32], [.pure (.int .i64)], fun x => (fun (_ : Int) (l : List Stamp) => List.length l ≤ 1048576) x.1 x.2.1, fun x => (stampsDgF x.1 x.2.1, ())⟩
set_option maxRecDepth 100000 in
/-- loop.example.g00597.spec.StampsDigest -/
theorem F125_ok : Meets Tryz.prog 125 F125 := by
  refine meets_of_vc (C := mkC 29 [4] [0,1,4,5,6,9,14] [⟨164, _, F164_ok⟩, ⟨127, _, F127_ok⟩]) (mkC_ok _ _ _ _) (fnOf_ok _) Tryz.func125 rfl rfl rfl (by decide) rfl ?_
  rintro ⟨(a0 : Int), a1, _⟩ hwf hpre ⟨P, C, B, X, w0, M0, pv⟩ hG rfl rfl
  show Vc _ _ [(0, ⟨0, 0, .c (.pure (.int .i64)) a0⟩), (1, ⟨0, 0, .c Z36 a1⟩)] _
  have hs : List.length a1 ≤ 1048576 := hpre
  have hb : List.length a1 ≤ bigLen := hwf.2.1.1
  refine Vc.seq ?_
  refine Vc.region hG rfl ?_ ?_
  · trivial
  refine Vc.seq ?_
  refine Vc.seq ?_
  refine Vc.region hG rfl ?_ ?_
  · trivial
  refine Vc.cond rfl (fun h0 => ?_) (fun h0 => ?_)
  · skip
    have g0 : (List.length a1 : Int) = 0 := beqI2 h0
    refine Vc.seq ?_
    refine Vc.region hG rfl ?_ ?_
    · trivial
    refine Vc.ret ?_
    refine ⟨?_, trivial⟩
    exact sd0 g0
  · skip
    have g0 : ¬ (List.length a1 : Int) = 0 := bneI' h0
    refine Vc.skip ?_
    refine Vc.seq ?_
    refine Vc.region hG rfl ?_ ?_
    · trivial
    refine Vc.seq ?_
    refine Vc.seq ?_
    refine Vc.region hG rfl ?_ ?_
    · trivial
    refine Vc.block ?_
    -- slots [5, 6]; frame [0, 1, 4, 9]
    refine Vc.loopF [(5, false, .own (.pure (.int .i64))), (6, false, .pure (.int .i64))] [0, 1, 4, 9] (fun v => gsInv (mkG a1) [] a1 v.1 v.2.1) (fun v => ((List.length a1 : Int) - v.2.1).toNat) rfl ?_ ?_
    · exact gsStart
    rintro ⟨acc, (i : Int), _⟩ hI
    have hI : gsInv (mkG a1) [] a1 acc i := hI
    have hA : List.length acc ≤ 1048576 := gsLen (c := 1) (m := 1048576) hI (fun _ => Nat.le_refl _) hs (by simp)
    refine Vc.seq ?_
    refine Vc.seq ?_
    refine Vc.region hG rfl ?_ ?_
    · trivial
    refine Vc.cond rfl (fun h1 => ?_) (fun h1 => ?_)
    · skip
      have hl : i < (List.length a1 : Int) := of_decide_eq_true h1
      refine Vc.skip ?_
      refine Vc.seq ?_
      refine Vc.block ?_
      refine Vc.region hG rfl ?_ ?_
      · exact ⟨gsRange hI hl, (show List.length acc + 1 ≤ maxApp from by unfold maxApp; omega)⟩
      refine Vc.region hG rfl ?_ ?_
      · trivial
      refine ⟨rfl, ?_⟩
      exact gsStep hI hl hb rfl
    · skip
      have hl : ¬ i < (List.length a1 : Int) := of_decide_eq_false h1
      refine Vc.exit ?_
      refine Vc.seq ?_
      refine Vc.region hG rfl ?_ ?_
      · exact ⟨(show List.length acc ≤ 1000000000 from by omega), trivial⟩
      refine Vc.ret ?_
      refine ⟨?_, trivial⟩
      exact (congrArg (fun l => max 1 (digestF a0 l)) (gsEnd hI hl)).trans (sd1 g0)
noncomputable def F167 : Fun := ⟨[.int .i64, .pair (.int .i64) Y24], [.pair (.pure (.int .i64)) Z16], fun _ => True, fun x => (stampPieceF x.1 x.2.1, ())⟩
set_option maxRecDepth 100000 in
/-- loop.example.g00597.spec.StampPiece -/
theorem F167_ok : Meets Tryz.prog 167 F167 := by
  refine meets_of_vc (C := mkC 11 [4] [0,1,3,4] [⟨203, _, F203_ok⟩]) (mkC_ok _ _ _ _) (fnOf_ok _) Tryz.func167 rfl rfl rfl (by decide) rfl ?_
  rintro ⟨(a0 : Int), a1, _⟩ hwf hpre ⟨P, C, B, X, w0, M0, pv⟩ hG rfl rfl
  show Vc _ _ [(0, ⟨0, 0, .c (.pure (.int .i64)) a0⟩), (1, ⟨0, 0, .c Z33 a1⟩)] _
  refine Vc.seq ?_
  refine Vc.region hG rfl ?_ ?_
  · trivial
  refine Vc.seq ?_
  refine Vc.regionD mixed hG rfl (by kernel_rfl) ?_ ?_
  · trivial
  refine Vc.ret ?_
  refine ⟨?_, trivial⟩
  all_goals exact rfl
noncomputable def F166 : Fun := ⟨[.slice Y19, .pair (.int .i64) Y9], [.pure (.bool)], fun _ => True, fun x => (hasF x.1 x.2.1, ())⟩
set_option maxRecDepth 100000 in
/-- loop.example.g00597.spec.l23Has -/
theorem F166_ok : Meets Tryz.prog 166 F166 := by
  refine meets_of_vc (C := mkC 18 [4] [0,1,3,4,5,9,17] [⟨104, _, F104_ok⟩]) (mkC_ok _ _ _ _) (fnOf_ok _) Tryz.func166 rfl rfl rfl (by decide) rfl ?_
  rintro ⟨a0, a1, _⟩ hwf hpre ⟨P, C, B, X, w0, M0, pv⟩ hG rfl rfl
  show Vc _ _ [(0, ⟨0, 0, .c Z26 a0⟩), (1, ⟨0, 0, .c Z22 a1⟩)] _
  have hb : List.length a0 ≤ bigLen := hwf.1.1
  refine Vc.seq ?_
  refine Vc.region hG rfl ?_ ?_
  · trivial
  refine Vc.seq ?_
  refine Vc.seq ?_
  refine Vc.region hG rfl ?_ ?_
  · trivial
  refine Vc.block ?_
  -- slots [5]; frame [0, 1, 3]
  refine Vc.loopF [(5, false, .pure (.int .i64))] [0, 1, 3] (fun v => fInv (fun x => eqC x a1) a0 v.1) (fun v => ((List.length a0 : Int) - v.1).toNat) rfl ?_ ?_
  · exact fStart
  rintro ⟨(i : Int), _⟩ hI
  have hI : fInv (fun x => eqC x a1) a0 i := hI
  refine Vc.seq ?_
  refine Vc.seq ?_
  refine Vc.region hG rfl ?_ ?_
  · trivial
  refine Vc.cond rfl (fun h0 => ?_) (fun h0 => ?_)
  · skip
    have hl : i < (List.length a0 : Int) := of_decide_eq_true h0
    refine Vc.skip ?_
    refine Vc.seq ?_
    refine Vc.block ?_
    refine Vc.seq ?_
    refine Vc.regionD mixed hG rfl (by kernel_rfl) ?_ ?_
    · exact ⟨fRange hI hl, trivial⟩
    refine Vc.cond rfl (fun h1 => ?_) (fun h1 => ?_)
    · skip
      have g1 : (fun x => eqC x a1) (List.getD a0 i.toNat (dflt Y19)) = true := h1
      refine Vc.seq ?_
      refine Vc.region hG rfl ?_ ?_
      · trivial
      refine Vc.ret ?_
      refine ⟨?_, trivial⟩
      exact hasYes hI hl g1
    · skip
      have g1 : (fun x => eqC x a1) (List.getD a0 i.toNat (dflt Y19)) = false := h1
      refine Vc.skip ?_
      refine Vc.region hG rfl ?_ ?_
      · trivial
      refine ⟨rfl, ?_⟩
      exact fStep hI hl hb g1
  · skip
    have hl : ¬ i < (List.length a0 : Int) := of_decide_eq_false h0
    refine Vc.exit ?_
    refine Vc.seq ?_
    refine Vc.region hG rfl ?_ ?_
    · trivial
    refine Vc.ret ?_
    refine ⟨?_, trivial⟩
    exact hasNo hI hl
noncomputable def F126 : Fun := ⟨[.pair Y34 Y51, .slice Y19, .slice Y32], [.pure (.int .i64), .pure (.bool)], fun x => (fun (_ : Frame) (_ : List Piece) (l : List Stamp) => List.length l ≤ 1048576) x.1 x.2.1 x.2.2.1, fun x => ((l23F x.1 x.2.1 x.2.2.1).1, (l23F x.1 x.2.1 x.2.2.1).2, ())⟩
set_option maxRecDepth 100000 in
/-- loop.example.g00597.spec.l23After -/
theorem F126_ok : Meets Tryz.prog 126 F126 := by
  refine meets_of_vc (C := mkC 82 [6, 7] [0,1,2,3,6,7,8,9,10,11,12,13,18,67] [⟨165, _, F165_ok⟩, ⟨168, _, F168_ok⟩, ⟨167, _, F167_ok⟩, ⟨166, _, F166_ok⟩, ⟨169, _, F169_ok⟩]) (mkC_ok _ _ _ _) (fnOf_ok _) Tryz.func126 rfl rfl rfl (by decide) rfl ?_
  rintro ⟨a0, a1, a2, _⟩ hwf hpre ⟨P, C, B, X, w0, M0, pv⟩ hG rfl rfl
  show Vc _ _ [(0, ⟨0, 0, .c Z63 a0⟩), (1, ⟨0, 0, .c Z26 a1⟩), (2, ⟨0, 0, .c Z36 a2⟩)] _
  have hs : List.length a2 ≤ 1048576 := hpre
  have hb : List.length a2 ≤ bigLen := hwf.2.2.1.1
  refine Vc.seq ?_
  refine Vc.region hG rfl ?_ ?_
  · trivial
  refine Vc.seq ?_
  refine Vc.region hG rfl ?_ ?_
  · trivial
  refine Vc.seq ?_
  refine Vc.seq ?_
  refine Vc.region hG rfl ?_ ?_
  · trivial
  refine Vc.block ?_
  -- slots [8, 9]; frame [0, 1, 2, 3, 12, 13]
  refine Vc.loopF [(8, false, .own Z8), (9, false, .pure (.int .i64))] [0, 1, 2, 3, 12, 13] (fun v => l23Inv a0 a1 a2 v.1 v.2.1) (fun v => ((List.length a2 : Int) - v.2.1).toNat) rfl ?_ ?_
  · exact l23Start
  rintro ⟨acc, (i : Int), _⟩ hI
  have hI : l23Inv a0 a1 a2 acc i := hI
  have hA : List.length acc ≤ 1048576 := Nat.le_trans (rsLen hI.1) hs
  have h0i : 0 ≤ i := by obtain ⟨n, _, e⟩ := hI.1.1; omega
  refine Vc.seq ?_
  refine Vc.seq ?_
  refine Vc.region hG rfl ?_ ?_
  · trivial
  refine Vc.cond rfl (fun h0 => ?_) (fun h0 => ?_)
  · skip
    have hl : i < (List.length a2 : Int) := of_decide_eq_true h0
    refine Vc.skip ?_
    refine Vc.seq ?_
    refine Vc.block ?_
    refine Vc.seq ?_
    refine Vc.regionD mixed hG rfl (by kernel_rfl) ?_ ?_
    · exact ⟨rsRange hI.1 hl, trivial⟩
    refine Vc.seq ?_
    refine Vc.seq ?_
    refine Vc.regionD mixed hG rfl (by kernel_rfl) ?_ ?_
    · repeat' (first | exact trivial | exact rsRange hI.1 hl | (intro h2; exact prevIdx (rsRange hI.1 hl) (of_decide_eq_true h2) hb) | refine And.intro ?_ ?_ | intro _)
    refine Vc.cond rfl (fun h1 => ?_) (fun h1 => ?_)
    · skip
      have g1 : l23Bad a0 a1 a2 i = true := h1
      refine Vc.seq ?_
      refine Vc.region hG rfl ?_ ?_
      · trivial
      refine Vc.ret ?_
      have e := l23Stop hI hl hb g1
      refine ⟨?_, ?_, trivial⟩
      · exact congrArg (fun (q : Int × Bool) => q.1) e
      · exact congrArg (fun (q : Int × Bool) => q.2) e
    · skip
      have g1 : l23Bad a0 a1 a2 i = false := h1
      refine Vc.skip ?_
      refine Vc.region hG rfl ?_ ?_
      · exact (show List.length acc + 1 ≤ maxApp from by unfold maxApp; omega)
      refine Vc.region hG rfl ?_ ?_
      · trivial
      refine ⟨rfl, ?_⟩
      exact l23Step hI hl hb ((l23_iff h0i hl hb).1 g1)
  · skip
    have hl : ¬ i < (List.length a2 : Int) := of_decide_eq_false h0
    refine Vc.exit ?_
    refine Vc.seq ?_
    refine Vc.region hG rfl ?_ ?_
    · trivial
    refine Vc.seq ?_
    refine Vc.region hG rfl ?_ ?_
    · trivial
    refine Vc.ret ?_
    have e := l23End hI hl
    refine ⟨?_, ?_, trivial⟩
    · exact congrArg (fun (q : Int × Bool) => q.1) e
    · exact congrArg (fun (q : Int × Bool) => q.2) e
noncomputable def F74 : Fun := ⟨[.pair Y34 Y51, .pair Y62 Y37, .slice Y19, .pair (.int .i64) Y44], [.pure (.int .i64)], fun x => (fun (_ : Frame) (e : Evidence) (_ : List Piece) (_ : Sig) => Sm big20 (.slice (.slice TStamp)) e.2) x.1 x.2.1 x.2.2.1 x.2.2.2.1, fun x => (freshG x.1 x.2.1 x.2.2.1 x.2.2.2.1, ())⟩
set_option maxRecDepth 100000 in
set_option maxHeartbeats 2000000 in
/-- loop.example.g00597.spec.FreshFrom -/
theorem F74_ok : Meets Tryz.prog 74 F74 := by
  refine meets_of_vc (C := mkC 66 [8] [0,1,2,3,4,5,7,8,9,10,11,12,13,20,36,49,61] [⟨100, _, F100_ok⟩, ⟨125, _, F125_ok⟩, ⟨126, _, F126_ok⟩, ⟨127, _, F127_ok⟩]) (mkC_ok _ _ _ _) (fnOf_ok _) Tryz.func74 rfl rfl rfl (by decide) rfl ?_
  rintro ⟨a0, a1, a2, a3, _⟩ hwf hpre ⟨P, C, B, X, w0, M0, pv⟩ hG rfl rfl
  show Vc _ _ [(0, ⟨0, 0, .c Z63 a0⟩), (1, ⟨0, 0, .c Z67 a1⟩), (2, ⟨0, 0, .c Z26 a2⟩), (3, ⟨0, 0, .c Z48 a3⟩)] _
  have hp : List.length a1.2 ≤ big20 ∧ ∀ l ∈ a1.2, Sm big20 (.slice TStamp) l := hpre
  have hb : List.length a1.2 ≤ bigLen := hwf.2.1.2.1
  refine Vc.seq ?_
  refine Vc.region hG rfl ?_ ?_
  · trivial
  refine Vc.seq ?_
  refine Vc.region hG rfl ?_ ?_
  · trivial
  refine Vc.seq ?_
  refine Vc.region hG rfl ?_ ?_
  · trivial
  refine Vc.seq ?_
  refine Vc.seq ?_
  refine Vc.region hG rfl ?_ ?_
  · trivial
  refine Vc.cond rfl (fun h0 => ?_) (fun h0 => ?_)
  · skip
    have g0 : keyI a0.1 a3.1 ≥ 0 := of_decide_eq_true h0
    have eb := born1 g0
    refine Vc.region hG rfl ?_ ?_
    · exact findRange (show ¬ keyI a0.1 a3.1 < 0 from by omega)
    refine Vc.seq ?_
    refine Vc.seq ?_
    refine Vc.region hG rfl ?_ ?_
    · trivial
    refine Vc.block ?_
    -- slots [9, 11]; frame [0, 1, 2, 3, 4, 5, 7, 8, 10, 20]
    refine Vc.loopF [(9, false, .pure (.int .i64)), (11, false, .pure (.int .i64))] [0, 1, 2, 3, 4, 5, 7, 8, 10, 20] (fun v => foInv (frG a0 a2 a3) (bornF a0 a3) a1.2 v.1 v.2.1) (fun v => ((List.length a1.2 : Int) - v.2.1).toNat) rfl ?_ ?_
    · exact frStart eb
    rintro ⟨(t : Int), (i : Int), _⟩ hI
    have hI : foInv (frG a0 a2 a3) (bornF a0 a3) a1.2 t i := hI
    refine Vc.seq ?_
    refine Vc.seq ?_
    refine Vc.region hG rfl ?_ ?_
    · trivial
    refine Vc.cond rfl (fun h1 => ?_) (fun h1 => ?_)
    · skip
      have hl : i < (List.length a1.2 : Int) := of_decide_eq_true (andT h1).1
      have ga : (a3.2.2.2.2.2.2.2.1 != 0) = true := (andT h1).2
      have r1 := foRange hI hl
      have hE : List.length (List.getD a1.2 i.toNat (dflt (.slice TStamp))) ≤ 1048576 := (hp.2 _ (getD_mem r1 _)).1
      have hbk : List.length (List.getD a1.2 i.toNat (dflt (.slice TStamp))) ≤ bigLen := Nat.le_trans hE (by decide)
      refine Vc.skip ?_
      refine Vc.seq ?_
      refine Vc.block ?_
      refine Vc.seq ?_
      refine Vc.seq ?_
      refine Vc.regionD mixed hG rfl (by kernel_rfl) ?_ ?_
      · exact ⟨r1, hE⟩
      refine Vc.cond rfl (fun h2 => ?_) (fun h2 => ?_)
      · skip
        have g1 : (stampsDgF a3.2.2.1 (List.getD a1.2 i.toNat (dflt (.slice TStamp))) != a3.2.2.2.2.2.2.2.1) = true := h2
        have st := foStepE (d := dflt (.slice TStamp)) hI hl hb (frNo1 g1)
        refine Vc.exit ?_
        refine Vc.region hG rfl ?_ ?_
        · trivial
        refine ⟨rfl, ?_⟩
        exact st
      · skip
        have g1 : (stampsDgF a3.2.2.1 (List.getD a1.2 i.toNat (dflt (.slice TStamp))) != a3.2.2.2.2.2.2.2.1) = false := h2
        refine Vc.skip ?_
        refine Vc.seq ?_
        refine Vc.regionD mixed hG rfl (by kernel_rfl) ?_ ?_
        · exact ⟨r1, hE⟩
        refine Vc.seq ?_
        refine Vc.region hG rfl ?_ ?_
        · trivial
        refine Vc.cond rfl (fun h3 => ?_) (fun h3 => ?_)
        · skip
          have g2 : (l23F a0 a2 (List.getD a1.2 i.toNat (dflt (.slice TStamp)))).2 = true := h3
          have st := foStepE (d := dflt (.slice TStamp)) hI hl hb (frYes ga g1 g2)
          refine Vc.region hG rfl ?_ ?_
          · trivial
          refine Vc.region hG rfl ?_ ?_
          · trivial
          refine ⟨rfl, ?_⟩
          exact st
        · skip
          have g2 : (l23F a0 a2 (List.getD a1.2 i.toNat (dflt (.slice TStamp)))).2 = false := h3
          have st := foStepE (d := dflt (.slice TStamp)) hI hl hb (frNo2 (t := t) g2)
          refine Vc.skip ?_
          refine Vc.region hG rfl ?_ ?_
          · trivial
          refine ⟨rfl, ?_⟩
          exact st
    · skip
      have gz := h1
      refine Vc.exit ?_
      refine Vc.seq ?_
      refine Vc.region hG rfl ?_ ?_
      · trivial
      refine Vc.ret ?_
      refine ⟨?_, trivial⟩
      exact frEnd hI gz
  · skip
    have g0 : ¬ keyI a0.1 a3.1 ≥ 0 := of_decide_eq_false h0
    have eb := born0 g0
    refine Vc.skip ?_
    refine Vc.seq ?_
    refine Vc.seq ?_
    refine Vc.region hG rfl ?_ ?_
    · trivial
    refine Vc.block ?_
    -- slots [9, 11]; frame [0, 1, 2, 3, 4, 5, 7, 8, 10, 20]
    refine Vc.loopF [(9, false, .pure (.int .i64)), (11, false, .pure (.int .i64))] [0, 1, 2, 3, 4, 5, 7, 8, 10, 20] (fun v => foInv (frG a0 a2 a3) (bornF a0 a3) a1.2 v.1 v.2.1) (fun v => ((List.length a1.2 : Int) - v.2.1).toNat) rfl ?_ ?_
    · exact frStart eb
    rintro ⟨(t : Int), (i : Int), _⟩ hI
    have hI : foInv (frG a0 a2 a3) (bornF a0 a3) a1.2 t i := hI
    refine Vc.seq ?_
    refine Vc.seq ?_
    refine Vc.region hG rfl ?_ ?_
    · trivial
    refine Vc.cond rfl (fun h4 => ?_) (fun h4 => ?_)
    · skip
      have hl : i < (List.length a1.2 : Int) := of_decide_eq_true (andT h4).1
      have ga : (a3.2.2.2.2.2.2.2.1 != 0) = true := (andT h4).2
      have r1 := foRange hI hl
      have hE : List.length (List.getD a1.2 i.toNat (dflt (.slice TStamp))) ≤ 1048576 := (hp.2 _ (getD_mem r1 _)).1
      have hbk : List.length (List.getD a1.2 i.toNat (dflt (.slice TStamp))) ≤ bigLen := Nat.le_trans hE (by decide)
      refine Vc.skip ?_
      refine Vc.seq ?_
      refine Vc.block ?_
      refine Vc.seq ?_
      refine Vc.seq ?_
      refine Vc.regionD mixed hG rfl (by kernel_rfl) ?_ ?_
      · exact ⟨r1, hE⟩
      refine Vc.cond rfl (fun h5 => ?_) (fun h5 => ?_)
      · skip
        have g1 : (stampsDgF a3.2.2.1 (List.getD a1.2 i.toNat (dflt (.slice TStamp))) != a3.2.2.2.2.2.2.2.1) = true := h5
        have st := foStepE (d := dflt (.slice TStamp)) hI hl hb (frNo1 g1)
        refine Vc.exit ?_
        refine Vc.region hG rfl ?_ ?_
        · trivial
        refine ⟨rfl, ?_⟩
        exact st
      · skip
        have g1 : (stampsDgF a3.2.2.1 (List.getD a1.2 i.toNat (dflt (.slice TStamp))) != a3.2.2.2.2.2.2.2.1) = false := h5
        refine Vc.skip ?_
        refine Vc.seq ?_
        refine Vc.regionD mixed hG rfl (by kernel_rfl) ?_ ?_
        · exact ⟨r1, hE⟩
        refine Vc.seq ?_
        refine Vc.region hG rfl ?_ ?_
        · trivial
        refine Vc.cond rfl (fun h6 => ?_) (fun h6 => ?_)
        · skip
          have g2 : (l23F a0 a2 (List.getD a1.2 i.toNat (dflt (.slice TStamp)))).2 = true := h6
          have st := foStepE (d := dflt (.slice TStamp)) hI hl hb (frYes ga g1 g2)
          refine Vc.region hG rfl ?_ ?_
          · trivial
          refine Vc.region hG rfl ?_ ?_
          · trivial
          refine ⟨rfl, ?_⟩
          exact st
        · skip
          have g2 : (l23F a0 a2 (List.getD a1.2 i.toNat (dflt (.slice TStamp)))).2 = false := h6
          have st := foStepE (d := dflt (.slice TStamp)) hI hl hb (frNo2 (t := t) g2)
          refine Vc.skip ?_
          refine Vc.region hG rfl ?_ ?_
          · trivial
          refine ⟨rfl, ?_⟩
          exact st
    · skip
      have gz := h4
      refine Vc.exit ?_
      refine Vc.seq ?_
      refine Vc.region hG rfl ?_ ?_
      · trivial
      refine Vc.ret ?_
      refine ⟨?_, trivial⟩
      exact frEnd hI gz
noncomputable def F128 : Fun := ⟨[.pair (.int .i64) Y44], [.own (.pure (.int .i64))], fun _ => True, fun x => (sigIntsF x.1, ())⟩
set_option maxRecDepth 100000 in
/-- loop.example.g00597.spec.SignatureInts -/
theorem F128_ok : Meets Tryz.prog 128 F128 := by
  refine meets_of_vc (C := mkC 20 [2] [0,1,2] []) (mkC_ok _ _ _ _) (fnOf_ok _) Tryz.func128 rfl rfl rfl (by decide) rfl ?_
  rintro ⟨a0, _⟩ hwf hpre ⟨P, C, B, X, w0, M0, pv⟩ hG rfl rfl
  show Vc _ _ [(0, ⟨0, 0, .c Z48 a0⟩)] _
  refine Vc.seq ?_
  refine Vc.region hG rfl ?_ ?_
  · trivial
  refine Vc.seq ?_
  refine Vc.region hG rfl ?_ ?_
  · trivial
  refine Vc.ret ?_
  refine ⟨?_, trivial⟩
  all_goals exact rfl
noncomputable def F75 : Fun := ⟨[.pair (.int .i64) Y44], [.pair (.pure (.int .i64)) Z16], fun _ => True, fun x => (signPieceF x.1, ())⟩
set_option maxRecDepth 100000 in
/-- loop.example.g00597.spec.SignPiece -/
theorem F75_ok : Meets Tryz.prog 75 F75 := by
  refine meets_of_vc (C := mkC 10 [2] [0,1,2] [⟨128, _, F128_ok⟩]) (mkC_ok _ _ _ _) (fnOf_ok _) Tryz.func75 rfl rfl rfl (by decide) rfl ?_
  rintro ⟨a0, _⟩ hwf hpre ⟨P, C, B, X, w0, M0, pv⟩ hG rfl rfl
  show Vc _ _ [(0, ⟨0, 0, .c Z48 a0⟩)] _
  refine Vc.seq ?_
  refine Vc.region hG rfl ?_ ?_
  · trivial
  refine Vc.seq ?_
  refine Vc.regionD mixed hG rfl (by kernel_rfl) ?_ ?_
  · trivial
  refine Vc.ret ?_
  refine ⟨?_, trivial⟩
  all_goals exact rfl
noncomputable def F29 : Fun := ⟨[.pair Y34 Y51, .pair Y62 Y37, .pair (.int .i64) Y13, .pair (.int .i64) Y44], [.pure (.bool)], fun x => (fun (_ : Frame) (e : Evidence) (_ : Doc) (_ : Sig) => Sm big20 Y66 e ∧ ((cellsC Y62 e.1 : Nat) : Int) ≤ 2000000000) x.1 x.2.1 x.2.2.1 x.2.2.2.1, fun x => (consF x.1 x.2.1 x.2.2.1 x.2.2.2.1, ())⟩
set_option maxRecDepth 100000 in
/-- loop.example.g00597.spec.IsConsistent -/
theorem F29_ok : Meets Tryz.prog 29 F29 := by
  refine meets_of_vc (C := mkC 50 [8] [0,1,2,3,4,5,6,7,8,9,10,11,12] [⟨70, _, F70_ok⟩, ⟨20, _, F20_ok⟩, ⟨71, _, F71_ok⟩, ⟨73, _, F73_ok⟩, ⟨72, _, F72_ok⟩, ⟨74, _, F74_ok⟩, ⟨75, _, F75_ok⟩, ⟨10, _, F10_ok⟩]) (mkC_ok _ _ _ _) (fnOf_ok _) Tryz.func29 rfl rfl rfl (by decide) rfl ?_
  rintro ⟨a0, a1, a2, a3, _⟩ hwf hpre ⟨P, C, B, X, w0, M0, pv⟩ hG rfl rfl
  show Vc _ _ [(0, ⟨0, 0, .c Z63 a0⟩), (1, ⟨0, 0, .c Z67 a1⟩), (2, ⟨0, 0, .c Z25 a2⟩), (3, ⟨0, 0, .c Z48 a3⟩)] _
  have hS : Sm big20 Y62 a1.1 := hpre.1.1
  have hT : Sm big20 (.slice (.slice TStamp)) a1.2 := hpre.1.2
  have hc : ((cellsC Y62 a1.1 : Nat) : Int) ≤ 2000000000 := hpre.2
  refine Vc.seq ?_
  refine Vc.region hG rfl ?_ ?_
  · trivial
  refine Vc.seq ?_
  refine Vc.region hG rfl ?_ ?_
  · exact hS
  refine Vc.seq ?_
  refine Vc.region hG rfl ?_ ?_
  · exact ⟨hS, hc⟩
  refine Vc.seq ?_
  refine Vc.region hG rfl ?_ ?_
  · trivial
  refine Vc.seq ?_
  refine Vc.regionD mixed hG rfl (by kernel_rfl) ?_ ?_
  · repeat' (first | exact trivial | exact usPieceLen hc | exact hT | exact hS | refine And.intro ?_ ?_ | intro _)
  refine Vc.ret ?_
  refine ⟨?_, trivial⟩
  all_goals exact rfl
end Fw
