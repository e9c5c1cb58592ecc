/- Walks of functions of the program: what each computes. Conditions: those that each contract names. -/
import Derived.Test.YtaoeigiogikiaaaLawsF
import Derived.Test.YtaoeigiogikiaaaProg
namespace Fw
open Go Go.Proofs
def tys : List (Nat × Ty) := [(2, .int .i64), (3, .int .i64), (4, .bool), (5, .int .u8), (6, .int .u8), (8, .pair (.int .i64) (.pair (.int .i64) (.pair (.bool) (.int .u8)))), (9, .str), (10, .str), (11, .str), (12, .int .u64), (14, .pair (.str) (.int .u64)), (21, .int .i32), (25, .pair (.int .i64) (.int .i64)), (27, .pair (.int .i64) (.pair (.int .i64) (.pair (.int .i64) (.int .i64)))), (29, .pair (.int .i64) (.int .i64)), (31, .pair (.int .i64) (.pair (.int .i64) (.pair (.int .i64) (.int .i64)))), (36, .slice (.int .u8)), (42, .slice (.str)), (43, .arr 10 (.str)), (44, .arr 4 (.str)), (52, .pair (.slice (.int .u8)) (.pair (.int .i64) (.int .i64))), (56, .slice (.int .i64)), (58, .int .u64), (66, .int .u32), (67, .int .u8), (68, .int .u8), (71, .int .i32), (72, .int .i32)]
def flds : List (Nat × List (Nat × Ty)) := [(8, [(0, .int .i64), (1, .int .i64), (2, .bool), (3, .int .u8)]), (14, [(0, .str), (1, .int .u64)]), (25, [(0, .int .i64), (1, .int .i64)]), (27, [(0, .int .i64), (1, .int .i64), (2, .pair (.int .i64) (.int .i64))]), (29, [(0, .int .i64), (1, .int .i64)]), (31, [(0, .int .i64), (1, .int .i64), (2, .pair (.int .i64) (.int .i64))]), (52, [(0, .slice (.int .u8)), (1, .int .i64), (2, .int .i64)])]
def eqs : List Nat := [25, 27, 29, 31]
set_option maxRecDepth 100000 in
theorem tys_ok : tysB Try.prog tys = true := by kernel_rfl
set_option maxRecDepth 100000 in
theorem flds_ok : allFldsB Try.prog flds = true := by kernel_rfl
set_option maxRecDepth 100000 in
theorem eqs_ok : eqsB Try.prog tys eqs = true := by kernel_rfl
theorem mixed : Try.prog.follows .mixedOrders = true := by kernel_rfl
noncomputable def mkC (n : Nat) (res keep : List Nat) (l : List (Known Try.prog)) : Ctx := ⟨n, tys, flds, res, keep, fnOf l, eqs⟩
theorem mkC_ok (n : Nat) (res keep : List Nat) (l : List (Known Try.prog)) : CtxOk Try.prog (mkC n res keep l) := ctxOk tys_ok flds_ok eqs_ok
noncomputable def F28 : Fun := ⟨[.pair (.int .i64) (.int .i64)], [.pure (.pair (.int .i64) (.int .i64))], fun _ => True, fun x => (id x.1, ())⟩
set_option maxRecDepth 100000 in
/-- loop.example.g00597.laws.toSpan -/
theorem F28_ok : Meets Try.prog 28 F28 := by
  refine meets_of_vc (C := mkC 11 [2] [0,1,2,3] []) (mkC_ok _ _ _ _) (fnOf_ok _) Try.func28 rfl rfl rfl (by decide) rfl ?_
  rintro ⟨a0, _⟩ hwf hpre ⟨P, C, B, X, w0, M0⟩ hG rfl rfl
  show Vc _ _ [(0, ⟨0, 0, .c (.pure (.pair (.int .i64) (.int .i64))) a0⟩)] _
  refine Vc.seq ?_
  refine Vc.region hG rfl ?_ ?_
  · trivial
  refine Vc.seq ?_
  refine Vc.region hG rfl ?_ ?_
  · trivial
  refine Vc.seq ?_
  refine Vc.region hG rfl ?_ ?_
  · trivial
  refine Vc.seq ?_
  refine Vc.region hG rfl ?_ ?_
  · trivial
  refine Vc.seq ?_
  refine Vc.region hG rfl ?_ ?_
  · trivial
  refine Vc.ret ?_
  refine ⟨?_, trivial⟩
  all_goals exact rfl
noncomputable def F15 : Fun := ⟨[.pair (.int .i64) (.pair (.int .i64) (.pair (.int .i64) (.int .i64)))], [.pure (.pair (.int .i64) (.pair (.int .i64) (.pair (.int .i64) (.int .i64))))], fun _ => True, fun x => (id x.1, ())⟩
set_option maxRecDepth 100000 in
/-- loop.example.g00597.laws.toVerdict -/
theorem F15_ok : Meets Try.prog 15 F15 := by
  refine meets_of_vc (C := mkC 15 [2] [0,1,2,3] [⟨28, _, F28_ok⟩]) (mkC_ok _ _ _ _) (fnOf_ok _) Try.func15 rfl rfl rfl (by decide) rfl ?_
  rintro ⟨a0, _⟩ hwf hpre ⟨P, C, B, X, w0, M0⟩ hG rfl rfl
  show Vc _ _ [(0, ⟨0, 0, .c (.pure (.pair (.int .i64) (.pair (.int .i64) (.pair (.int .i64) (.int .i64))))) a0⟩)] _
  refine Vc.seq ?_
  refine Vc.region hG rfl ?_ ?_
  · trivial
  refine Vc.seq ?_
  refine Vc.region hG rfl ?_ ?_
  · trivial
  refine Vc.seq ?_
  refine Vc.region hG rfl ?_ ?_
  · trivial
  refine Vc.seq ?_
  refine Vc.region hG rfl ?_ ?_
  · trivial
  refine Vc.seq ?_
  refine Vc.region hG rfl ?_ ?_
  · trivial
  refine Vc.seq ?_
  refine Vc.region hG rfl ?_ ?_
  · trivial
  refine Vc.ret ?_
  refine ⟨?_, trivial⟩
  all_goals exact rfl
noncomputable def F26 : Fun := ⟨[.int .i64, .int .i64, .int .i64], [.pure (.bool)], fun _ => True, fun x => (inRangeF x.1 x.2.1 x.2.2.1, ())⟩
set_option maxRecDepth 100000 in
/-- loop.example.g00597.spec.l1In -/
theorem F26_ok : Meets Try.prog 26 F26 := by
  refine meets_of_vc (C := mkC 15 [6] [0,1,2,6] []) (mkC_ok _ _ _ _) (fnOf_ok _) Try.func26 rfl rfl rfl (by decide) rfl ?_
  rintro ⟨(a0 : Int), (a1 : Int), (a2 : Int), _⟩ hwf hpre ⟨P, C, B, X, w0, M0⟩ hG rfl rfl
  show Vc _ _ [(0, ⟨0, 0, .c (.pure (.int .i64)) a0⟩), (1, ⟨0, 0, .c (.pure (.int .i64)) a1⟩), (2, ⟨0, 0, .c (.pure (.int .i64)) a2⟩)] _
  refine Vc.seq ?_
  refine Vc.region hG rfl ?_ ?_
  · trivial
  refine Vc.seq ?_
  refine Vc.region hG rfl ?_ ?_
  · trivial
  refine Vc.ret ?_
  refine ⟨?_, trivial⟩
  all_goals exact rfl
noncomputable def F12 : Fun := ⟨[.int .i64], [.pure (.str)], fun _ => True, fun x => (vnF x.1, ())⟩
set_option maxRecDepth 100000 in
/-- loop.example.g00597.spec.VerdictName -/
theorem F12_ok : Meets Try.prog 12 F12 := by
  refine meets_of_vc (C := mkC 10 [2] [0,2,5] [⟨26, _, F26_ok⟩]) (mkC_ok _ _ _ _) (fnOf_ok _) Try.func12 rfl rfl rfl (by decide) rfl ?_
  rintro ⟨(a0 : Int), _⟩ hwf hpre ⟨P, C, B, X, w0, M0⟩ hG rfl rfl
  show Vc _ _ [(0, ⟨0, 0, .c (.pure (.int .i64)) a0⟩)] _
  refine Vc.seq ?_
  refine Vc.region hG rfl ?_ ?_
  · trivial
  refine Vc.seq ?_
  refine Vc.seq ?_
  refine Vc.region hG rfl ?_ ?_
  · trivial
  refine Vc.cond rfl (fun h0 => ?_) (fun h0 => ?_)
  · skip
    have g0 : (!(inRangeF a0 1 3)) = true := h0
    refine Vc.seq ?_
    refine Vc.region hG rfl ?_ ?_
    · trivial
    refine Vc.ret ?_
    refine ⟨?_, trivial⟩
    exact (if_neg (in_no g0)).symm
  · skip
    have g0 : (!(inRangeF a0 1 3)) = false := h0
    have g : 1 ≤ a0 ∧ a0 ≤ 3 := in_yes g0
    refine Vc.skip ?_
    refine Vc.seq ?_
    refine Vc.region hG rfl ?_ ?_
    · show inRange a0 4
      unfold inRange
      omega
    refine Vc.ret ?_
    refine ⟨?_, trivial⟩
    exact (if_pos g).symm
noncomputable def F10 : Fun := ⟨[.int .i64], [.pure (.str)], fun _ => True, fun x => (rnF x.1, ())⟩
set_option maxRecDepth 100000 in
/-- loop.example.g00597.spec.ReasonName -/
theorem F10_ok : Meets Try.prog 10 F10 := by
  refine meets_of_vc (C := mkC 10 [2] [0,2,5] [⟨26, _, F26_ok⟩]) (mkC_ok _ _ _ _) (fnOf_ok _) Try.func10 rfl rfl rfl (by decide) rfl ?_
  rintro ⟨(a0 : Int), _⟩ hwf hpre ⟨P, C, B, X, w0, M0⟩ hG rfl rfl
  show Vc _ _ [(0, ⟨0, 0, .c (.pure (.int .i64)) a0⟩)] _
  refine Vc.seq ?_
  refine Vc.region hG rfl ?_ ?_
  · trivial
  refine Vc.seq ?_
  refine Vc.seq ?_
  refine Vc.region hG rfl ?_ ?_
  · trivial
  refine Vc.cond rfl (fun h0 => ?_) (fun h0 => ?_)
  · skip
    have g0 : (!(inRangeF a0 0 9)) = true := h0
    refine Vc.seq ?_
    refine Vc.region hG rfl ?_ ?_
    · trivial
    refine Vc.ret ?_
    refine ⟨?_, trivial⟩
    exact (if_neg (in_no g0)).symm
  · skip
    have g0 : (!(inRangeF a0 0 9)) = false := h0
    have g : 0 ≤ a0 ∧ a0 ≤ 9 := in_yes g0
    refine Vc.skip ?_
    refine Vc.seq ?_
    refine Vc.region hG rfl ?_ ?_
    · show inRange a0 10
      unfold inRange
      omega
    refine Vc.ret ?_
    refine ⟨?_, trivial⟩
    exact (if_pos g).symm
noncomputable def F31 : Fun := ⟨[.int .i64], [.pure (.str)], fun _ => True, fun x => (fmtF x.1, ())⟩
set_option maxRecDepth 100000 in
/-- loop.example.g00597.spec.FormatInt -/
theorem F31_ok : Meets Try.prog 31 F31 := by
  refine meets_of_vc (C := mkC 31 [2] [0,2,3,4,5,7,10,16,27] []) (mkC_ok _ _ _ _) (fnOf_ok _) Try.func31 rfl rfl rfl (by decide) rfl ?_
  rintro ⟨(a0 : Int), _⟩ hwf hpre ⟨P, C, B, X, w0, M0⟩ hG rfl rfl
  show Vc _ _ [(0, ⟨0, 0, .c (.pure (.int .i64)) a0⟩)] _
  have hn : inR .i64 a0 := hwf.1
  refine Vc.seq ?_
  refine Vc.region hG rfl ?_ ?_
  · trivial
  refine Vc.seq ?_
  refine Vc.seq ?_
  refine Vc.region hG rfl ?_ ?_
  · trivial
  refine Vc.cond rfl (fun h0 => ?_) (fun h0 => ?_)
  · skip
    have g0 : a0 = 0 := beqI h0
    refine Vc.seq ?_
    refine Vc.region hG rfl ?_ ?_
    · trivial
    refine Vc.ret ?_
    refine ⟨?_, trivial⟩
    exact fmt0 g0
  · skip
    have g0 : a0 ≠ 0 := bneI' h0
    refine Vc.skip ?_
    refine Vc.seq ?_
    refine Vc.region hG rfl ?_ ?_
    · trivial
    refine Vc.seq ?_
    refine Vc.seq ?_
    refine Vc.region hG rfl ?_ ?_
    · trivial
    refine Vc.block ?_
    -- slots [3, 4]; frame [0, 2, 7, 27]
    refine Vc.loopF [(3, false, .pure (.str)), (4, false, .pure (.int .i64))] [0, 2, 7, 27] (fun v => fsInv a0 v.1 v.2.1) (fun v => v.2.1.natAbs) rfl ?_ ?_
    · exact fsStart hn
    rintro ⟨s, (x : Int), _⟩ hI
    have hI : fsInv a0 s x := hI
    refine Vc.seq ?_
    refine Vc.seq ?_
    refine Vc.region hG rfl ?_ ?_
    · trivial
    refine Vc.cond rfl (fun h1 => ?_) (fun h1 => ?_)
    · skip
      have g1 : x ≠ 0 := bneT h1
      refine Vc.skip ?_
      refine Vc.seq ?_
      refine Vc.block ?_
      refine Vc.seq ?_
      refine Vc.region hG rfl ?_ ?_
      · show (10 : Int) ≠ 0
        decide
      refine Vc.seq ?_
      refine Vc.seq ?_
      refine Vc.region hG rfl ?_ ?_
      · trivial
      refine Vc.cond rfl (fun h2 => ?_) (fun h2 => ?_)
      · skip
        have hd : IntKind.i64.wrap (0 - x.tmod 10) = dgI x := dg_neg (of_decide_eq_true h2)
        refine Vc.region hG rfl ?_ ?_
        · trivial
        refine Vc.region hG rfl ?_ ?_
        · exact fsCond hn hI _
        refine Vc.region hG rfl ?_ ?_
        · show (10 : Int) ≠ 0
          decide
        refine ⟨rfl, ?_⟩
        exact fsStep hI g1 hd
      · skip
        have hd : x.tmod 10 = dgI x := dg_pos (of_decide_eq_false h2)
        refine Vc.skip ?_
        refine Vc.region hG rfl ?_ ?_
        · exact fsCond hn hI _
        refine Vc.region hG rfl ?_ ?_
        · show (10 : Int) ≠ 0
          decide
        refine ⟨rfl, ?_⟩
        exact fsStep hI g1 hd
    · skip
      have g1 : x = 0 := bneI h1
      refine Vc.exit ?_
      refine Vc.seq ?_
      refine Vc.seq ?_
      refine Vc.region hG rfl ?_ ?_
      · trivial
      refine Vc.cond rfl (fun h3 => ?_) (fun h3 => ?_)
      · skip
        have g3 : a0 < 0 := of_decide_eq_true h3
        refine Vc.seq ?_
        refine Vc.region hG rfl ?_ ?_
        · exact fsCond1 hn hI
        refine Vc.ret ?_
        refine ⟨?_, trivial⟩
        exact fsNeg hI g1 g0 g3
      · skip
        have g3 : ¬ a0 < 0 := of_decide_eq_false h3
        refine Vc.skip ?_
        refine Vc.seq ?_
        refine Vc.region hG rfl ?_ ?_
        · trivial
        refine Vc.ret ?_
        refine ⟨?_, trivial⟩
        exact fsPos hI g1 g0 g3
noncomputable def F21 : Fun := ⟨[.pair (.int .i64) (.pair (.int .i64) (.pair (.int .i64) (.int .i64)))], [.pure (.str)], fun _ => True, fun x => (fvF x.1, ())⟩
set_option maxRecDepth 100000 in
/-- loop.example.g00597.spec.FormatVerdict -/
theorem F21_ok : Meets Try.prog 21 F21 := by
  refine meets_of_vc (C := mkC 46 [2] [0,1,2,3,13,31] [⟨12, _, F12_ok⟩, ⟨10, _, F10_ok⟩, ⟨31, _, F31_ok⟩]) (mkC_ok _ _ _ _) (fnOf_ok _) Try.func21 rfl rfl rfl (by decide) rfl ?_
  rintro ⟨a0, _⟩ hwf hpre ⟨P, C, B, X, w0, M0⟩ hG rfl rfl
  show Vc _ _ [(0, ⟨0, 0, .c (.pure (.pair (.int .i64) (.pair (.int .i64) (.pair (.int .i64) (.int .i64))))) a0⟩)] _
  have b1 := vnLen a0.1
  have b2 := rnLen a0.2.1
  have b3 := fmtLen (n := a0.2.2.1) hwf.1.2.2.1
  have b4 := fmtLen (n := a0.2.2.2) hwf.1.2.2.2
  refine Vc.seq ?_
  refine Vc.region hG rfl ?_ ?_
  · trivial
  refine Vc.seq ?_
  refine Vc.seq ?_
  refine Vc.region hG rfl ?_ ?_
  · repeat' (first | exact trivial | refine And.intro ?_ ?_ | intro _)
  refine Vc.cond rfl (fun h0 => ?_) (fun h0 => ?_)
  · skip
    have g0 : pick2 (vnF a0.1 == []) true (rnF a0.2.1 == []) = true := h0
    refine Vc.seq ?_
    refine Vc.region hG rfl ?_ ?_
    · trivial
    refine Vc.ret ?_
    refine ⟨?_, trivial⟩
    exact fv_no1 g0
  · skip
    have g0 := fv_ok (v := a0) h0
    refine Vc.skip ?_
    refine Vc.seq ?_
    refine Vc.regionD mixed hG rfl (by kernel_rfl) ?_ ?_
    · exact ⟨trivial, (show List.length (vnF a0.1) + List.length (([32] : List UInt8)) ≤ bigLen from by simp only [List.length_append, List.length_cons, List.length_nil]; unfold bigLen; omega), trivial, (show List.length (vnF a0.1 ++ [32]) + List.length (rnF a0.2.1) ≤ bigLen from by simp only [List.length_append, List.length_cons, List.length_nil]; unfold bigLen; omega)⟩
    refine Vc.seq ?_
    refine Vc.seq ?_
    refine Vc.region hG rfl ?_ ?_
    · trivial
    refine Vc.cond rfl (fun h1 => ?_) (fun h1 => ?_)
    · skip
      have g1 := sp_ne (a := a0.2.2.1) (b := a0.2.2.2) h1
      refine Vc.regionD mixed hG rfl (by kernel_rfl) ?_ ?_
      · exact ⟨(show List.length (vnF a0.1 ++ [32] ++ rnF a0.2.1) + List.length (([32] : List UInt8)) ≤ bigLen from by simp only [List.length_append, List.length_cons, List.length_nil]; unfold bigLen; omega), trivial, (show List.length (vnF a0.1 ++ [32] ++ rnF a0.2.1 ++ [32]) + List.length (fmtF a0.2.2.1) ≤ bigLen from by simp only [List.length_append, List.length_cons, List.length_nil]; unfold bigLen; omega), (show List.length (vnF a0.1 ++ [32] ++ rnF a0.2.1 ++ [32] ++ fmtF a0.2.2.1) + List.length (([45] : List UInt8)) ≤ bigLen from by simp only [List.length_append, List.length_cons, List.length_nil]; unfold bigLen; omega), trivial, (show List.length (vnF a0.1 ++ [32] ++ rnF a0.2.1 ++ [32] ++ fmtF a0.2.2.1 ++ [45]) + List.length (fmtF a0.2.2.2) ≤ bigLen from by simp only [List.length_append, List.length_cons, List.length_nil]; unfold bigLen; omega)⟩
      refine Vc.seq ?_
      refine Vc.region hG rfl ?_ ?_
      · trivial
      refine Vc.ret ?_
      refine ⟨?_, trivial⟩
      exact fv_long g0 g1
    · skip
      have g1 := sp_eq (a := a0.2.2.1) (b := a0.2.2.2) h1
      refine Vc.skip ?_
      refine Vc.seq ?_
      refine Vc.region hG rfl ?_ ?_
      · trivial
      refine Vc.ret ?_
      refine ⟨?_, trivial⟩
      exact fv_short g0 g1
noncomputable def F27 : Fun := ⟨[.int .i64, .int .i64, .int .i64], [.pure (.bool)], fun _ => True, fun x => (inRangeF x.1 x.2.1 x.2.2.1, ())⟩
set_option maxRecDepth 100000 in
/-- loop.example.g00597.impl.InRange -/
theorem F27_ok : Meets Try.prog 27 F27 := by
  refine meets_of_vc (C := mkC 15 [6] [0,1,2,6] []) (mkC_ok _ _ _ _) (fnOf_ok _) Try.func27 rfl rfl rfl (by decide) rfl ?_
  rintro ⟨(a0 : Int), (a1 : Int), (a2 : Int), _⟩ hwf hpre ⟨P, C, B, X, w0, M0⟩ hG rfl rfl
  show Vc _ _ [(0, ⟨0, 0, .c (.pure (.int .i64)) a0⟩), (1, ⟨0, 0, .c (.pure (.int .i64)) a1⟩), (2, ⟨0, 0, .c (.pure (.int .i64)) a2⟩)] _
  refine Vc.seq ?_
  refine Vc.region hG rfl ?_ ?_
  · trivial
  refine Vc.seq ?_
  refine Vc.region hG rfl ?_ ?_
  · trivial
  refine Vc.ret ?_
  refine ⟨?_, trivial⟩
  all_goals exact rfl
noncomputable def F13 : Fun := ⟨[.int .i64], [.pure (.str)], fun _ => True, fun x => (vnF x.1, ())⟩
set_option maxRecDepth 100000 in
/-- loop.example.g00597.impl.VerdictName -/
theorem F13_ok : Meets Try.prog 13 F13 := by
  refine meets_of_vc (C := mkC 9 [2] [0,2,5] [⟨27, _, F27_ok⟩]) (mkC_ok _ _ _ _) (fnOf_ok _) Try.func13 rfl rfl rfl (by decide) rfl ?_
  rintro ⟨(a0 : Int), _⟩ hwf hpre ⟨P, C, B, X, w0, M0⟩ hG rfl rfl
  show Vc _ _ [(0, ⟨0, 0, .c (.pure (.int .i64)) a0⟩)] _
  refine Vc.seq ?_
  refine Vc.region hG rfl ?_ ?_
  · trivial
  refine Vc.seq ?_
  refine Vc.seq ?_
  refine Vc.region hG rfl ?_ ?_
  · trivial
  refine Vc.cond rfl (fun h0 => ?_) (fun h0 => ?_)
  · skip
    have g0 : (!(inRangeF a0 1 3)) = true := h0
    refine Vc.seq ?_
    refine Vc.region hG rfl ?_ ?_
    · trivial
    refine Vc.ret ?_
    refine ⟨?_, trivial⟩
    exact (if_neg (in_no g0)).symm
  · skip
    have g0 : (!(inRangeF a0 1 3)) = false := h0
    have g : 1 ≤ a0 ∧ a0 ≤ 3 := in_yes g0
    refine Vc.skip ?_
    refine Vc.seq ?_
    refine Vc.region hG rfl ?_ ?_
    · show inRange a0 4
      unfold inRange
      omega
    refine Vc.ret ?_
    refine ⟨?_, trivial⟩
    exact (if_pos g).symm
noncomputable def F11 : Fun := ⟨[.int .i64], [.pure (.str)], fun _ => True, fun x => (rnF x.1, ())⟩
set_option maxRecDepth 100000 in
/-- loop.example.g00597.impl.ReasonName -/
theorem F11_ok : Meets Try.prog 11 F11 := by
  refine meets_of_vc (C := mkC 9 [2] [0,2,5] [⟨27, _, F27_ok⟩]) (mkC_ok _ _ _ _) (fnOf_ok _) Try.func11 rfl rfl rfl (by decide) rfl ?_
  rintro ⟨(a0 : Int), _⟩ hwf hpre ⟨P, C, B, X, w0, M0⟩ hG rfl rfl
  show Vc _ _ [(0, ⟨0, 0, .c (.pure (.int .i64)) a0⟩)] _
  refine Vc.seq ?_
  refine Vc.region hG rfl ?_ ?_
  · trivial
  refine Vc.seq ?_
  refine Vc.seq ?_
  refine Vc.region hG rfl ?_ ?_
  · trivial
  refine Vc.cond rfl (fun h0 => ?_) (fun h0 => ?_)
  · skip
    have g0 : (!(inRangeF a0 0 9)) = true := h0
    refine Vc.seq ?_
    refine Vc.region hG rfl ?_ ?_
    · trivial
    refine Vc.ret ?_
    refine ⟨?_, trivial⟩
    exact (if_neg (in_no g0)).symm
  · skip
    have g0 : (!(inRangeF a0 0 9)) = false := h0
    have g : 0 ≤ a0 ∧ a0 ≤ 9 := in_yes g0
    refine Vc.skip ?_
    refine Vc.seq ?_
    refine Vc.region hG rfl ?_ ?_
    · show inRange a0 10
      unfold inRange
      omega
    refine Vc.ret ?_
    refine ⟨?_, trivial⟩
    exact (if_pos g).symm
noncomputable def F32 : Fun := ⟨[.int .i64], [.pure (.str)], fun _ => True, fun x => (fmtF x.1, ())⟩
set_option maxRecDepth 100000 in
/-- loop.example.g00597.impl.FormatInt -/
theorem F32_ok : Meets Try.prog 32 F32 := by
  refine meets_of_vc (C := mkC 30 [2] [0,2,3,4,5,11,23,24] []) (mkC_ok _ _ _ _) (fnOf_ok _) Try.func32 rfl rfl rfl (by decide) rfl ?_
  rintro ⟨(a0 : Int), _⟩ hwf hpre ⟨P, C, B, X, w0, M0⟩ hG rfl rfl
  show Vc _ _ [(0, ⟨0, 0, .c (.pure (.int .i64)) a0⟩)] _
  have hn : inR .i64 a0 := hwf.1
  refine Vc.seq ?_
  refine Vc.region hG rfl ?_ ?_
  · trivial
  refine Vc.seq ?_
  refine Vc.region hG rfl ?_ ?_
  · trivial
  refine Vc.seq ?_
  refine Vc.region hG rfl ?_ ?_
  · trivial
  refine Vc.seq ?_
  refine Vc.block ?_
  -- slots [0, 3]; frame [2, 4, 24]
  refine Vc.loopF [(0, false, .pure (.int .i64)), (3, false, .own (.pure (.int .u8)))] [2, 4, 24] (fun v => fiInv a0 v.1 v.2.1) (fun v => v.1.natAbs) rfl ?_ ?_
  · exact fiStart hn
  rintro ⟨(x : Int), ds, _⟩ hI
  have hI : fiInv a0 x ds := hI
  refine Vc.block ?_
  refine Vc.seq ?_
  refine Vc.region hG rfl ?_ ?_
  · show (10 : Int) ≠ 0
    decide
  refine Vc.seq ?_
  refine Vc.seq ?_
  refine Vc.region hG rfl ?_ ?_
  · trivial
  refine Vc.cond rfl (fun h0 => ?_) (fun h0 => ?_)
  · skip
    have hd : IntKind.i64.wrap (0 - x.tmod 10) = dgI x := dg_neg (of_decide_eq_true h0)
    refine Vc.region hG rfl ?_ ?_
    · trivial
    refine Vc.seq ?_
    refine Vc.region hG rfl ?_ ?_
    · exact fiCond hn hI
    refine Vc.seq ?_
    refine Vc.region hG rfl ?_ ?_
    · show (10 : Int) ≠ 0
      decide
    refine Vc.seq ?_
    refine Vc.region hG rfl ?_ ?_
    · trivial
    refine Vc.cond rfl (fun h1 => ?_) (fun h1 => ?_)
    · skip
      have g1 : IntKind.i64.wrap (x.tdiv 10) = 0 := beqI h1
      have e1 := (fiStep hI hd).1 g1
      refine Vc.exit ?_
      refine Vc.seq ?_
      refine Vc.seq ?_
      refine Vc.region hG rfl ?_ ?_
      · trivial
      refine Vc.cond rfl (fun h2 => ?_) (fun h2 => ?_)
      · skip
        have g3 : a0 < 0 := of_decide_eq_true h2
        refine Vc.seq ?_
        refine Vc.region hG rfl ?_ ?_
        · exact fiLen hn e1
        refine Vc.ret ?_
        refine ⟨?_, trivial⟩
        exact fiNeg e1 g3
      · skip
        have g3 : ¬ a0 < 0 := of_decide_eq_false h2
        refine Vc.skip ?_
        refine Vc.seq ?_
        refine Vc.region hG rfl ?_ ?_
        · trivial
        refine Vc.ret ?_
        refine ⟨?_, trivial⟩
        exact fiPos e1 g3
    · skip
      have g1 : IntKind.i64.wrap (x.tdiv 10) ≠ 0 := bneI' h1
      refine Vc.skip ?_
      refine ⟨rfl, ?_⟩
      exact (fiStep hI hd).2 g1
  · skip
    have hd : x.tmod 10 = dgI x := dg_pos (of_decide_eq_false h0)
    refine Vc.skip ?_
    refine Vc.seq ?_
    refine Vc.region hG rfl ?_ ?_
    · exact fiCond hn hI
    refine Vc.seq ?_
    refine Vc.region hG rfl ?_ ?_
    · show (10 : Int) ≠ 0
      decide
    refine Vc.seq ?_
    refine Vc.region hG rfl ?_ ?_
    · trivial
    refine Vc.cond rfl (fun h3 => ?_) (fun h3 => ?_)
    · skip
      have g1 : IntKind.i64.wrap (x.tdiv 10) = 0 := beqI h3
      have e1 := (fiStep hI hd).1 g1
      refine Vc.exit ?_
      refine Vc.seq ?_
      refine Vc.seq ?_
      refine Vc.region hG rfl ?_ ?_
      · trivial
      refine Vc.cond rfl (fun h4 => ?_) (fun h4 => ?_)
      · skip
        have g3 : a0 < 0 := of_decide_eq_true h4
        refine Vc.seq ?_
        refine Vc.region hG rfl ?_ ?_
        · exact fiLen hn e1
        refine Vc.ret ?_
        refine ⟨?_, trivial⟩
        exact fiNeg e1 g3
      · skip
        have g3 : ¬ a0 < 0 := of_decide_eq_false h4
        refine Vc.skip ?_
        refine Vc.seq ?_
        refine Vc.region hG rfl ?_ ?_
        · trivial
        refine Vc.ret ?_
        refine ⟨?_, trivial⟩
        exact fiPos e1 g3
    · skip
      have g1 : IntKind.i64.wrap (x.tdiv 10) ≠ 0 := bneI' h3
      refine Vc.skip ?_
      refine ⟨rfl, ?_⟩
      exact (fiStep hI hd).2 g1
noncomputable def F22 : Fun := ⟨[.pair (.int .i64) (.pair (.int .i64) (.pair (.int .i64) (.int .i64)))], [.pure (.str)], fun _ => True, fun x => (fvF x.1, ())⟩
set_option maxRecDepth 100000 in
/-- loop.example.g00597.impl.FormatVerdict -/
theorem F22_ok : Meets Try.prog 22 F22 := by
  refine meets_of_vc (C := mkC 43 [2] [0,1,2,3,4,11,18] [⟨13, _, F13_ok⟩, ⟨11, _, F11_ok⟩, ⟨32, _, F32_ok⟩]) (mkC_ok _ _ _ _) (fnOf_ok _) Try.func22 rfl rfl rfl (by decide) rfl ?_
  rintro ⟨a0, _⟩ hwf hpre ⟨P, C, B, X, w0, M0⟩ hG rfl rfl
  show Vc _ _ [(0, ⟨0, 0, .c (.pure (.pair (.int .i64) (.pair (.int .i64) (.pair (.int .i64) (.int .i64))))) a0⟩)] _
  have b1 := vnLen a0.1
  have b2 := rnLen a0.2.1
  have b3 := fmtLen (n := a0.2.2.1) hwf.1.2.2.1
  have b4 := fmtLen (n := a0.2.2.2) hwf.1.2.2.2
  refine Vc.seq ?_
  refine Vc.region hG rfl ?_ ?_
  · trivial
  refine Vc.seq ?_
  refine Vc.regionD mixed hG rfl (by kernel_rfl) ?_ ?_
  · exact ⟨trivial, trivial⟩
  refine Vc.seq ?_
  refine Vc.block ?_
  refine Vc.seq ?_
  refine Vc.region hG rfl ?_ ?_
  · trivial
  refine Vc.cond rfl (fun h0 => ?_) (fun h0 => ?_)
  · skip
    have g0 : pick2 (vnF a0.1 == []) true (rnF a0.2.1 == []) = true := h0
    refine Vc.seq ?_
    refine Vc.region hG rfl ?_ ?_
    · trivial
    refine Vc.ret ?_
    refine ⟨?_, trivial⟩
    exact fv_no1 g0
  · skip
    have g0 := fv_ok (v := a0) h0
    refine Vc.seq ?_
    refine Vc.region hG rfl ?_ ?_
    · trivial
    refine Vc.cond rfl (fun h1 => ?_) (fun h1 => ?_)
    · skip
      have g1 := spE_eq (s := a0.2.2) h1
      refine Vc.seq ?_
      refine Vc.region hG rfl ?_ ?_
      · exact ⟨(show List.length (vnF a0.1) + List.length (([32] : List UInt8)) ≤ bigLen from by simp only [List.length_append, List.length_cons, List.length_nil]; unfold bigLen; omega), (show List.length (vnF a0.1 ++ [32]) + List.length (rnF a0.2.1) ≤ bigLen from by simp only [List.length_append, List.length_cons, List.length_nil]; unfold bigLen; omega)⟩
      refine Vc.ret ?_
      refine ⟨?_, trivial⟩
      exact fv_short g0 g1
    · skip
      have g1 := spE_ne (s := a0.2.2) h1
      refine Vc.skip ?_
      refine Vc.seq ?_
      refine Vc.regionD mixed hG rfl (by kernel_rfl) ?_ ?_
      · exact ⟨(show List.length (vnF a0.1) + List.length (([32] : List UInt8)) ≤ bigLen from by simp only [List.length_append, List.length_cons, List.length_nil]; unfold bigLen; omega), (show List.length (vnF a0.1 ++ [32]) + List.length (rnF a0.2.1) ≤ bigLen from by simp only [List.length_append, List.length_cons, List.length_nil]; unfold bigLen; omega), (show List.length (vnF a0.1 ++ [32] ++ rnF a0.2.1) + List.length (([32] : List UInt8)) ≤ bigLen from by simp only [List.length_append, List.length_cons, List.length_nil]; unfold bigLen; omega), trivial, (show List.length (vnF a0.1 ++ [32] ++ rnF a0.2.1 ++ [32]) + List.length (fmtF a0.2.2.1) ≤ bigLen from by simp only [List.length_append, List.length_cons, List.length_nil]; unfold bigLen; omega), (show List.length (vnF a0.1 ++ [32] ++ rnF a0.2.1 ++ [32] ++ fmtF a0.2.2.1) + List.length (([45] : List UInt8)) ≤ bigLen from by simp only [List.length_append, List.length_cons, List.length_nil]; unfold bigLen; omega), trivial, (show List.length (vnF a0.1 ++ [32] ++ rnF a0.2.1 ++ [32] ++ fmtF a0.2.2.1 ++ [45]) + List.length (fmtF a0.2.2.2) ≤ bigLen from by simp only [List.length_append, List.length_cons, List.length_nil]; unfold bigLen; omega)⟩
      refine Vc.ret ?_
      refine ⟨?_, trivial⟩
      exact fv_long g0 g1
noncomputable def F8 : Fun := ⟨[.pair (.int .i64) (.pair (.int .i64) (.pair (.int .i64) (.int .i64)))], [.pure (.bool)], fun _ => True, fun x => ((fun _ => true) x.1, ())⟩
set_option maxRecDepth 100000 in
/-- loop.example.g00597.laws.FnExactFormatVerdict -/
theorem F8_ok : Meets Try.prog 8 F8 := by
  refine meets_of_vc (C := mkC 14 [2] [0,1,2,3,4,13] [⟨15, _, F15_ok⟩, ⟨21, _, F21_ok⟩, ⟨22, _, F22_ok⟩]) (mkC_ok _ _ _ _) (fnOf_ok _) Try.func8 rfl rfl rfl (by decide) rfl ?_
  rintro ⟨a0, _⟩ hwf hpre ⟨P, C, B, X, w0, M0⟩ hG rfl rfl
  show Vc _ _ [(0, ⟨0, 0, .c (.pure (.pair (.int .i64) (.pair (.int .i64) (.pair (.int .i64) (.int .i64))))) a0⟩)] _
  refine Vc.seq ?_
  refine Vc.region hG rfl ?_ ?_
  · trivial
  refine Vc.seq ?_
  refine Vc.region hG rfl ?_ ?_
  · trivial
  refine Vc.seq ?_
  refine Vc.region hG rfl ?_ ?_
  · trivial
  refine Vc.seq ?_
  refine Vc.seq ?_
  refine Vc.region hG rfl ?_ ?_
  · trivial
  refine Vc.cond rfl (fun h0 => ?_) (fun h0 => ?_)
  · skip
    exact (ne_selfS0 h0).elim
  · skip
    refine Vc.skip ?_
    refine Vc.seq ?_
    refine Vc.region hG rfl ?_ ?_
    · trivial
    refine Vc.ret ?_
    refine ⟨?_, trivial⟩
    all_goals exact rfl
end Fw
