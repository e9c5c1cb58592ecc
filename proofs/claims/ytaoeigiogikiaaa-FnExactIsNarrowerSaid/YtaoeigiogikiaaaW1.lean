/- Walks of functions of the program: what each computes. Conditions: those that each contract names. -/
import Derived.Test.YtaoeigiogikiaaaLaws
import Derived.Test.YtaoeigiogikiaaaProg
namespace Fw
open Go Go.Proofs
def tys : List (Nat × Ty) := [(2, .int .i64), (3, .int .i64), (4, .bool), (5, .int .u8), (6, .int .u8), (8, .pair (.int .i64) (.pair (.int .i64) (.pair (.bool) (.int .u8)))), (9, .str), (10, .str), (11, .str), (12, .int .u64), (14, .pair (.str) (.int .u64)), (21, .int .i32), (25, .pair (.int .i64) (.int .i64)), (27, .pair (.int .i64) (.pair (.int .i64) (.pair (.int .i64) (.int .i64)))), (29, .pair (.int .i64) (.int .i64)), (31, .pair (.int .i64) (.pair (.int .i64) (.pair (.int .i64) (.int .i64)))), (36, .slice (.int .u8)), (42, .slice (.str)), (43, .arr 10 (.str)), (44, .arr 4 (.str)), (52, .pair (.slice (.int .u8)) (.pair (.int .i64) (.int .i64))), (56, .slice (.int .i64)), (58, .int .u64), (66, .int .u32), (67, .int .u8), (68, .int .u8), (71, .int .i32), (72, .int .i32)]
def flds : List (Nat × List (Nat × Ty)) := [(8, [(0, .int .i64), (1, .int .i64), (2, .bool), (3, .int .u8)]), (14, [(0, .str), (1, .int .u64)]), (25, [(0, .int .i64), (1, .int .i64)]), (27, [(0, .int .i64), (1, .int .i64), (2, .pair (.int .i64) (.int .i64))]), (29, [(0, .int .i64), (1, .int .i64)]), (31, [(0, .int .i64), (1, .int .i64), (2, .pair (.int .i64) (.int .i64))]), (52, [(0, .slice (.int .u8)), (1, .int .i64), (2, .int .i64)])]
def eqs : List Nat := [25, 27, 29, 31]
set_option maxRecDepth 100000 in
theorem tys_ok : tysB Try.prog tys = true := by kernel_rfl
set_option maxRecDepth 100000 in
theorem flds_ok : allFldsB Try.prog flds = true := by kernel_rfl
set_option maxRecDepth 100000 in
theorem eqs_ok : eqsB Try.prog tys eqs = true := by kernel_rfl
theorem mixed : Try.prog.follows .mixedOrders = true := by kernel_rfl
noncomputable def mkC (n : Nat) (res keep : List Nat) (l : List (Known Try.prog)) : Ctx := ⟨n, tys, flds, res, keep, fnOf l, eqs⟩
theorem mkC_ok (n : Nat) (res keep : List Nat) (l : List (Known Try.prog)) : CtxOk Try.prog (mkC n res keep l) := ctxOk tys_ok flds_ok eqs_ok
noncomputable def F28 : Fun := ⟨[.pair (.int .i64) (.int .i64)], [.pure (.pair (.int .i64) (.int .i64))], fun _ => True, fun x => (id x.1, ())⟩
set_option maxRecDepth 100000 in
/-- loop.example.g00597.laws.toSpan -/
theorem F28_ok : Meets Try.prog 28 F28 := by
  refine meets_of_vc (C := mkC 11 [2] [0,1,2,3] []) (mkC_ok _ _ _ _) (fnOf_ok _) Try.func28 rfl rfl rfl (by decide) rfl ?_
  rintro ⟨a0, _⟩ hwf hpre ⟨P, C, B, X, w0, M0⟩ hG rfl rfl
  show Vc _ _ [(0, ⟨0, 0, .c (.pure (.pair (.int .i64) (.int .i64))) a0⟩)] _
  refine Vc.seq ?_
  refine Vc.region hG rfl ?_ ?_
  · trivial
  refine Vc.seq ?_
  refine Vc.region hG rfl ?_ ?_
  · trivial
  refine Vc.seq ?_
  refine Vc.region hG rfl ?_ ?_
  · trivial
  refine Vc.seq ?_
  refine Vc.region hG rfl ?_ ?_
  · trivial
  refine Vc.seq ?_
  refine Vc.region hG rfl ?_ ?_
  · trivial
  refine Vc.ret ?_
  refine ⟨?_, trivial⟩
  all_goals exact rfl
noncomputable def F15 : Fun := ⟨[.pair (.int .i64) (.pair (.int .i64) (.pair (.int .i64) (.int .i64)))], [.pure (.pair (.int .i64) (.pair (.int .i64) (.pair (.int .i64) (.int .i64))))], fun _ => True, fun x => (id x.1, ())⟩
set_option maxRecDepth 100000 in
/-- loop.example.g00597.laws.toVerdict -/
theorem F15_ok : Meets Try.prog 15 F15 := by
  refine meets_of_vc (C := mkC 15 [2] [0,1,2,3] [⟨28, _, F28_ok⟩]) (mkC_ok _ _ _ _) (fnOf_ok _) Try.func15 rfl rfl rfl (by decide) rfl ?_
  rintro ⟨a0, _⟩ hwf hpre ⟨P, C, B, X, w0, M0⟩ hG rfl rfl
  show Vc _ _ [(0, ⟨0, 0, .c (.pure (.pair (.int .i64) (.pair (.int .i64) (.pair (.int .i64) (.int .i64))))) a0⟩)] _
  refine Vc.seq ?_
  refine Vc.region hG rfl ?_ ?_
  · trivial
  refine Vc.seq ?_
  refine Vc.region hG rfl ?_ ?_
  · trivial
  refine Vc.seq ?_
  refine Vc.region hG rfl ?_ ?_
  · trivial
  refine Vc.seq ?_
  refine Vc.region hG rfl ?_ ?_
  · trivial
  refine Vc.seq ?_
  refine Vc.region hG rfl ?_ ?_
  · trivial
  refine Vc.seq ?_
  refine Vc.region hG rfl ?_ ?_
  · trivial
  refine Vc.ret ?_
  refine ⟨?_, trivial⟩
  all_goals exact rfl
noncomputable def F14 : Fun := ⟨[.pair (.int .i64) (.pair (.int .i64) (.pair (.int .i64) (.int .i64))), .pair (.int .i64) (.pair (.int .i64) (.pair (.int .i64) (.int .i64)))], [.pure (.bool)], fun _ => True, fun x => (isKept1 x.1 x.2.1, ())⟩
set_option maxRecDepth 100000 in
/-- loop.example.g00597.spec.IsKept -/
theorem F14_ok : Meets Try.prog 14 F14 := by
  refine meets_of_vc (C := mkC 15 [4] [0,1,2,3,4] []) (mkC_ok _ _ _ _) (fnOf_ok _) Try.func14 rfl rfl rfl (by decide) rfl ?_
  rintro ⟨a0, a1, _⟩ hwf hpre ⟨P, C, B, X, w0, M0⟩ hG rfl rfl
  show Vc _ _ [(0, ⟨0, 0, .c (.pure (.pair (.int .i64) (.pair (.int .i64) (.pair (.int .i64) (.int .i64))))) a0⟩), (1, ⟨0, 0, .c (.pure (.pair (.int .i64) (.pair (.int .i64) (.pair (.int .i64) (.int .i64))))) a1⟩)] _
  refine Vc.seq ?_
  refine Vc.region hG rfl ?_ ?_
  · trivial
  refine Vc.seq ?_
  refine Vc.region hG rfl ?_ ?_
  · trivial
  refine Vc.ret ?_
  refine ⟨?_, trivial⟩
  all_goals exact rfl
noncomputable def F16 : Fun := ⟨[.pair (.int .i64) (.pair (.int .i64) (.pair (.int .i64) (.int .i64))), .pair (.int .i64) (.pair (.int .i64) (.pair (.int .i64) (.int .i64)))], [.pure (.bool)], fun _ => True, fun x => (isKept2 x.1 x.2.1, ())⟩
set_option maxRecDepth 100000 in
/-- loop.example.g00597.impl.IsKept -/
theorem F16_ok : Meets Try.prog 16 F16 := by
  refine meets_of_vc (C := mkC 15 [4] [0,1,2,3,4] []) (mkC_ok _ _ _ _) (fnOf_ok _) Try.func16 rfl rfl rfl (by decide) rfl ?_
  rintro ⟨a0, a1, _⟩ hwf hpre ⟨P, C, B, X, w0, M0⟩ hG rfl rfl
  show Vc _ _ [(0, ⟨0, 0, .c (.pure (.pair (.int .i64) (.pair (.int .i64) (.pair (.int .i64) (.int .i64))))) a0⟩), (1, ⟨0, 0, .c (.pure (.pair (.int .i64) (.pair (.int .i64) (.pair (.int .i64) (.int .i64))))) a1⟩)] _
  refine Vc.seq ?_
  refine Vc.region hG rfl ?_ ?_
  · trivial
  refine Vc.seq ?_
  refine Vc.region hG rfl ?_ ?_
  · trivial
  refine Vc.ret ?_
  refine ⟨?_, trivial⟩
  all_goals exact rfl
noncomputable def F5 : Fun := ⟨[.pair (.int .i64) (.pair (.int .i64) (.pair (.int .i64) (.int .i64))), .pair (.int .i64) (.pair (.int .i64) (.pair (.int .i64) (.int .i64)))], [.pure (.bool)], fun _ => True, fun x => ((fun _ _ => true) x.1 x.2.1, ())⟩
set_option maxRecDepth 100000 in
/-- loop.example.g00597.laws.FnExactIsKept -/
theorem F5_ok : Meets Try.prog 5 F5 := by
  refine meets_of_vc (C := mkC 20 [4] [0,1,2,3,4,5,6,19] [⟨15, _, F15_ok⟩, ⟨14, _, F14_ok⟩, ⟨16, _, F16_ok⟩]) (mkC_ok _ _ _ _) (fnOf_ok _) Try.func5 rfl rfl rfl (by decide) rfl ?_
  rintro ⟨a0, a1, _⟩ hwf hpre ⟨P, C, B, X, w0, M0⟩ hG rfl rfl
  show Vc _ _ [(0, ⟨0, 0, .c (.pure (.pair (.int .i64) (.pair (.int .i64) (.pair (.int .i64) (.int .i64))))) a0⟩), (1, ⟨0, 0, .c (.pure (.pair (.int .i64) (.pair (.int .i64) (.pair (.int .i64) (.int .i64))))) a1⟩)] _
  refine Vc.seq ?_
  refine Vc.region hG rfl ?_ ?_
  · trivial
  refine Vc.seq ?_
  refine Vc.regionD mixed hG rfl (by kernel_rfl) ?_ ?_
  · trivial
  refine Vc.seq ?_
  refine Vc.regionD mixed hG rfl (by kernel_rfl) ?_ ?_
  · trivial
  refine Vc.seq ?_
  refine Vc.seq ?_
  refine Vc.region hG rfl ?_ ?_
  · trivial
  refine Vc.cond rfl (fun h0 => ?_) (fun h0 => ?_)
  · skip
    exact (kept_ne h0).elim
  · skip
    refine Vc.skip ?_
    refine Vc.seq ?_
    refine Vc.region hG rfl ?_ ?_
    · trivial
    refine Vc.ret ?_
    refine ⟨?_, trivial⟩
    all_goals exact rfl
noncomputable def F17 : Fun := ⟨[.pair (.int .i64) (.pair (.int .i64) (.pair (.int .i64) (.int .i64))), .pair (.int .i64) (.pair (.int .i64) (.pair (.int .i64) (.int .i64)))], [.pure (.bool)], fun _ => True, fun x => (isBetterF x.1 x.2.1, ())⟩
set_option maxRecDepth 100000 in
/-- loop.example.g00597.spec.IsBetter -/
theorem F17_ok : Meets Try.prog 17 F17 := by
  refine meets_of_vc (C := mkC 18 [4] [0,1,2,3,4] []) (mkC_ok _ _ _ _) (fnOf_ok _) Try.func17 rfl rfl rfl (by decide) rfl ?_
  rintro ⟨a0, a1, _⟩ hwf hpre ⟨P, C, B, X, w0, M0⟩ hG rfl rfl
  show Vc _ _ [(0, ⟨0, 0, .c (.pure (.pair (.int .i64) (.pair (.int .i64) (.pair (.int .i64) (.int .i64))))) a0⟩), (1, ⟨0, 0, .c (.pure (.pair (.int .i64) (.pair (.int .i64) (.pair (.int .i64) (.int .i64))))) a1⟩)] _
  refine Vc.seq ?_
  refine Vc.region hG rfl ?_ ?_
  · trivial
  refine Vc.seq ?_
  refine Vc.region hG rfl ?_ ?_
  · trivial
  refine Vc.ret ?_
  refine ⟨?_, trivial⟩
  all_goals exact rfl
noncomputable def F18 : Fun := ⟨[.pair (.int .i64) (.pair (.int .i64) (.pair (.int .i64) (.int .i64))), .pair (.int .i64) (.pair (.int .i64) (.pair (.int .i64) (.int .i64)))], [.pure (.bool)], fun _ => True, fun x => (isBetterF x.1 x.2.1, ())⟩
set_option maxRecDepth 100000 in
/-- loop.example.g00597.impl.IsBetter -/
theorem F18_ok : Meets Try.prog 18 F18 := by
  refine meets_of_vc (C := mkC 18 [4] [0,1,2,3,4] []) (mkC_ok _ _ _ _) (fnOf_ok _) Try.func18 rfl rfl rfl (by decide) rfl ?_
  rintro ⟨a0, a1, _⟩ hwf hpre ⟨P, C, B, X, w0, M0⟩ hG rfl rfl
  show Vc _ _ [(0, ⟨0, 0, .c (.pure (.pair (.int .i64) (.pair (.int .i64) (.pair (.int .i64) (.int .i64))))) a0⟩), (1, ⟨0, 0, .c (.pure (.pair (.int .i64) (.pair (.int .i64) (.pair (.int .i64) (.int .i64))))) a1⟩)] _
  refine Vc.seq ?_
  refine Vc.region hG rfl ?_ ?_
  · trivial
  refine Vc.seq ?_
  refine Vc.region hG rfl ?_ ?_
  · trivial
  refine Vc.ret ?_
  refine ⟨?_, trivial⟩
  all_goals exact rfl
noncomputable def F6 : Fun := ⟨[.pair (.int .i64) (.pair (.int .i64) (.pair (.int .i64) (.int .i64))), .pair (.int .i64) (.pair (.int .i64) (.pair (.int .i64) (.int .i64)))], [.pure (.bool)], fun _ => True, fun x => ((fun _ _ => true) x.1 x.2.1, ())⟩
set_option maxRecDepth 100000 in
/-- loop.example.g00597.laws.FnExactIsBetter -/
theorem F6_ok : Meets Try.prog 6 F6 := by
  refine meets_of_vc (C := mkC 20 [4] [0,1,2,3,4,5,6,19] [⟨15, _, F15_ok⟩, ⟨17, _, F17_ok⟩, ⟨18, _, F18_ok⟩]) (mkC_ok _ _ _ _) (fnOf_ok _) Try.func6 rfl rfl rfl (by decide) rfl ?_
  rintro ⟨a0, a1, _⟩ hwf hpre ⟨P, C, B, X, w0, M0⟩ hG rfl rfl
  show Vc _ _ [(0, ⟨0, 0, .c (.pure (.pair (.int .i64) (.pair (.int .i64) (.pair (.int .i64) (.int .i64))))) a0⟩), (1, ⟨0, 0, .c (.pure (.pair (.int .i64) (.pair (.int .i64) (.pair (.int .i64) (.int .i64))))) a1⟩)] _
  refine Vc.seq ?_
  refine Vc.region hG rfl ?_ ?_
  · trivial
  refine Vc.seq ?_
  refine Vc.regionD mixed hG rfl (by kernel_rfl) ?_ ?_
  · trivial
  refine Vc.seq ?_
  refine Vc.regionD mixed hG rfl (by kernel_rfl) ?_ ?_
  · trivial
  refine Vc.seq ?_
  refine Vc.seq ?_
  refine Vc.region hG rfl ?_ ?_
  · trivial
  refine Vc.cond rfl (fun h0 => ?_) (fun h0 => ?_)
  · skip
    exact (ne_selfB h0).elim
  · skip
    refine Vc.skip ?_
    refine Vc.seq ?_
    refine Vc.region hG rfl ?_ ?_
    · trivial
    refine Vc.ret ?_
    refine ⟨?_, trivial⟩
    all_goals exact rfl
noncomputable def F26 : Fun := ⟨[.int .i64, .int .i64, .int .i64], [.pure (.bool)], fun _ => True, fun x => (inRangeF x.1 x.2.1 x.2.2.1, ())⟩
set_option maxRecDepth 100000 in
/-- loop.example.g00597.spec.l1In -/
theorem F26_ok : Meets Try.prog 26 F26 := by
  refine meets_of_vc (C := mkC 15 [6] [0,1,2,6] []) (mkC_ok _ _ _ _) (fnOf_ok _) Try.func26 rfl rfl rfl (by decide) rfl ?_
  rintro ⟨a0, a1, a2, _⟩ hwf hpre ⟨P, C, B, X, w0, M0⟩ hG rfl rfl
  show Vc _ _ [(0, ⟨0, 0, .c (.pure (.int .i64)) a0⟩), (1, ⟨0, 0, .c (.pure (.int .i64)) a1⟩), (2, ⟨0, 0, .c (.pure (.int .i64)) a2⟩)] _
  refine Vc.seq ?_
  refine Vc.region hG rfl ?_ ?_
  · trivial
  refine Vc.seq ?_
  refine Vc.region hG rfl ?_ ?_
  · trivial
  refine Vc.ret ?_
  refine ⟨?_, trivial⟩
  all_goals exact rfl
noncomputable def F40 : Fun := ⟨[.int .i64], [.pure (.bool)], fun _ => True, fun x => (isTimeF x.1, ())⟩
set_option maxRecDepth 100000 in
/-- loop.example.g00597.spec.l4Time -/
theorem F40_ok : Meets Try.prog 40 F40 := by
  refine meets_of_vc (C := mkC 5 [2] [0,2] [⟨26, _, F26_ok⟩]) (mkC_ok _ _ _ _) (fnOf_ok _) Try.func40 rfl rfl rfl (by decide) rfl ?_
  rintro ⟨a0, _⟩ hwf hpre ⟨P, C, B, X, w0, M0⟩ hG rfl rfl
  show Vc _ _ [(0, ⟨0, 0, .c (.pure (.int .i64)) a0⟩)] _
  refine Vc.seq ?_
  refine Vc.region hG rfl ?_ ?_
  · trivial
  refine Vc.seq ?_
  refine Vc.region hG rfl ?_ ?_
  · trivial
  refine Vc.ret ?_
  refine ⟨?_, trivial⟩
  all_goals exact rfl
noncomputable def F35 : Fun := ⟨[.pair (.int .i64) (.int .i64)], [.pure (.bool)], fun _ => True, fun x => (isSpanF x.1, ())⟩
set_option maxRecDepth 100000 in
/-- loop.example.g00597.spec.IsSpan -/
theorem F35_ok : Meets Try.prog 35 F35 := by
  refine meets_of_vc (C := mkC 18 [2] [0,1,2] [⟨40, _, F40_ok⟩]) (mkC_ok _ _ _ _) (fnOf_ok _) Try.func35 rfl rfl rfl (by decide) rfl ?_
  rintro ⟨a0, _⟩ hwf hpre ⟨P, C, B, X, w0, M0⟩ hG rfl rfl
  show Vc _ _ [(0, ⟨0, 0, .c (.pure (.pair (.int .i64) (.int .i64))) a0⟩)] _
  refine Vc.seq ?_
  refine Vc.region hG rfl ?_ ?_
  · trivial
  refine Vc.seq ?_
  refine Vc.region hG rfl ?_ ?_
  · repeat' (first | exact trivial | refine And.intro ?_ ?_ | intro _)
  refine Vc.ret ?_
  refine ⟨?_, trivial⟩
  all_goals exact rfl
noncomputable def F29 : Fun := ⟨[.pair (.int .i64) (.int .i64), .pair (.int .i64) (.int .i64)], [.pure (.bool)], fun _ => True, fun x => (isInsideF x.1 x.2.1, ())⟩
set_option maxRecDepth 100000 in
/-- loop.example.g00597.spec.IsInside -/
theorem F29_ok : Meets Try.prog 29 F29 := by
  refine meets_of_vc (C := mkC 25 [4] [0,1,2,3,4] [⟨35, _, F35_ok⟩]) (mkC_ok _ _ _ _) (fnOf_ok _) Try.func29 rfl rfl rfl (by decide) rfl ?_
  rintro ⟨a0, a1, _⟩ hwf hpre ⟨P, C, B, X, w0, M0⟩ hG rfl rfl
  show Vc _ _ [(0, ⟨0, 0, .c (.pure (.pair (.int .i64) (.int .i64))) a0⟩), (1, ⟨0, 0, .c (.pure (.pair (.int .i64) (.int .i64))) a1⟩)] _
  refine Vc.seq ?_
  refine Vc.region hG rfl ?_ ?_
  · trivial
  refine Vc.seq ?_
  refine Vc.region hG rfl ?_ ?_
  · repeat' (first | exact trivial | refine And.intro ?_ ?_ | intro _)
  refine Vc.ret ?_
  refine ⟨?_, trivial⟩
  all_goals exact rfl
noncomputable def F19 : Fun := ⟨[.pair (.int .i64) (.pair (.int .i64) (.pair (.int .i64) (.int .i64))), .pair (.int .i64) (.pair (.int .i64) (.pair (.int .i64) (.int .i64)))], [.pure (.bool)], fun _ => True, fun x => (isNarrowerF x.1 x.2.1, ())⟩
set_option maxRecDepth 100000 in
/-- loop.example.g00597.spec.IsNarrower -/
theorem F19_ok : Meets Try.prog 19 F19 := by
  refine meets_of_vc (C := mkC 10 [4] [0,1,2,3,4] [⟨29, _, F29_ok⟩]) (mkC_ok _ _ _ _) (fnOf_ok _) Try.func19 rfl rfl rfl (by decide) rfl ?_
  rintro ⟨a0, a1, _⟩ hwf hpre ⟨P, C, B, X, w0, M0⟩ hG rfl rfl
  show Vc _ _ [(0, ⟨0, 0, .c (.pure (.pair (.int .i64) (.pair (.int .i64) (.pair (.int .i64) (.int .i64))))) a0⟩), (1, ⟨0, 0, .c (.pure (.pair (.int .i64) (.pair (.int .i64) (.pair (.int .i64) (.int .i64))))) a1⟩)] _
  refine Vc.seq ?_
  refine Vc.region hG rfl ?_ ?_
  · trivial
  refine Vc.seq ?_
  refine Vc.region hG rfl ?_ ?_
  · trivial
  refine Vc.ret ?_
  refine ⟨?_, trivial⟩
  all_goals exact rfl
noncomputable def F27 : Fun := ⟨[.int .i64, .int .i64, .int .i64], [.pure (.bool)], fun _ => True, fun x => (inRangeF x.1 x.2.1 x.2.2.1, ())⟩
set_option maxRecDepth 100000 in
/-- loop.example.g00597.impl.InRange -/
theorem F27_ok : Meets Try.prog 27 F27 := by
  refine meets_of_vc (C := mkC 15 [6] [0,1,2,6] []) (mkC_ok _ _ _ _) (fnOf_ok _) Try.func27 rfl rfl rfl (by decide) rfl ?_
  rintro ⟨a0, a1, a2, _⟩ hwf hpre ⟨P, C, B, X, w0, M0⟩ hG rfl rfl
  show Vc _ _ [(0, ⟨0, 0, .c (.pure (.int .i64)) a0⟩), (1, ⟨0, 0, .c (.pure (.int .i64)) a1⟩), (2, ⟨0, 0, .c (.pure (.int .i64)) a2⟩)] _
  refine Vc.seq ?_
  refine Vc.region hG rfl ?_ ?_
  · trivial
  refine Vc.seq ?_
  refine Vc.region hG rfl ?_ ?_
  · trivial
  refine Vc.ret ?_
  refine ⟨?_, trivial⟩
  all_goals exact rfl
noncomputable def F41 : Fun := ⟨[.int .i64], [.pure (.bool)], fun _ => True, fun x => (isTimeF x.1, ())⟩
set_option maxRecDepth 100000 in
/-- loop.example.g00597.impl.isTime -/
theorem F41_ok : Meets Try.prog 41 F41 := by
  refine meets_of_vc (C := mkC 5 [2] [0,2] [⟨27, _, F27_ok⟩]) (mkC_ok _ _ _ _) (fnOf_ok _) Try.func41 rfl rfl rfl (by decide) rfl ?_
  rintro ⟨a0, _⟩ hwf hpre ⟨P, C, B, X, w0, M0⟩ hG rfl rfl
  show Vc _ _ [(0, ⟨0, 0, .c (.pure (.int .i64)) a0⟩)] _
  refine Vc.seq ?_
  refine Vc.region hG rfl ?_ ?_
  · trivial
  refine Vc.seq ?_
  refine Vc.region hG rfl ?_ ?_
  · trivial
  refine Vc.ret ?_
  refine ⟨?_, trivial⟩
  all_goals exact rfl
noncomputable def F36 : Fun := ⟨[.pair (.int .i64) (.int .i64)], [.pure (.bool)], fun _ => True, fun x => (isSpanF x.1, ())⟩
set_option maxRecDepth 100000 in
/-- loop.example.g00597.impl.IsSpan -/
theorem F36_ok : Meets Try.prog 36 F36 := by
  refine meets_of_vc (C := mkC 18 [2] [0,1,2] [⟨41, _, F41_ok⟩]) (mkC_ok _ _ _ _) (fnOf_ok _) Try.func36 rfl rfl rfl (by decide) rfl ?_
  rintro ⟨a0, _⟩ hwf hpre ⟨P, C, B, X, w0, M0⟩ hG rfl rfl
  show Vc _ _ [(0, ⟨0, 0, .c (.pure (.pair (.int .i64) (.int .i64))) a0⟩)] _
  refine Vc.seq ?_
  refine Vc.region hG rfl ?_ ?_
  · trivial
  refine Vc.seq ?_
  refine Vc.region hG rfl ?_ ?_
  · repeat' (first | exact trivial | refine And.intro ?_ ?_ | intro _)
  refine Vc.ret ?_
  refine ⟨?_, trivial⟩
  all_goals exact rfl
noncomputable def F30 : Fun := ⟨[.pair (.int .i64) (.int .i64), .pair (.int .i64) (.int .i64)], [.pure (.bool)], fun _ => True, fun x => (isInsideF x.1 x.2.1, ())⟩
set_option maxRecDepth 100000 in
/-- loop.example.g00597.impl.IsInside -/
theorem F30_ok : Meets Try.prog 30 F30 := by
  refine meets_of_vc (C := mkC 25 [4] [0,1,2,3,4] [⟨36, _, F36_ok⟩]) (mkC_ok _ _ _ _) (fnOf_ok _) Try.func30 rfl rfl rfl (by decide) rfl ?_
  rintro ⟨a0, a1, _⟩ hwf hpre ⟨P, C, B, X, w0, M0⟩ hG rfl rfl
  show Vc _ _ [(0, ⟨0, 0, .c (.pure (.pair (.int .i64) (.int .i64))) a0⟩), (1, ⟨0, 0, .c (.pure (.pair (.int .i64) (.int .i64))) a1⟩)] _
  refine Vc.seq ?_
  refine Vc.region hG rfl ?_ ?_
  · trivial
  refine Vc.seq ?_
  refine Vc.region hG rfl ?_ ?_
  · repeat' (first | exact trivial | refine And.intro ?_ ?_ | intro _)
  refine Vc.ret ?_
  refine ⟨?_, trivial⟩
  all_goals exact rfl
noncomputable def F20 : Fun := ⟨[.pair (.int .i64) (.pair (.int .i64) (.pair (.int .i64) (.int .i64))), .pair (.int .i64) (.pair (.int .i64) (.pair (.int .i64) (.int .i64)))], [.pure (.bool)], fun _ => True, fun x => (isNarrowerF x.1 x.2.1, ())⟩
set_option maxRecDepth 100000 in
/-- loop.example.g00597.impl.IsNarrower -/
theorem F20_ok : Meets Try.prog 20 F20 := by
  refine meets_of_vc (C := mkC 10 [4] [0,1,2,3,4] [⟨30, _, F30_ok⟩]) (mkC_ok _ _ _ _) (fnOf_ok _) Try.func20 rfl rfl rfl (by decide) rfl ?_
  rintro ⟨a0, a1, _⟩ hwf hpre ⟨P, C, B, X, w0, M0⟩ hG rfl rfl
  show Vc _ _ [(0, ⟨0, 0, .c (.pure (.pair (.int .i64) (.pair (.int .i64) (.pair (.int .i64) (.int .i64))))) a0⟩), (1, ⟨0, 0, .c (.pure (.pair (.int .i64) (.pair (.int .i64) (.pair (.int .i64) (.int .i64))))) a1⟩)] _
  refine Vc.seq ?_
  refine Vc.region hG rfl ?_ ?_
  · trivial
  refine Vc.seq ?_
  refine Vc.region hG rfl ?_ ?_
  · trivial
  refine Vc.ret ?_
  refine ⟨?_, trivial⟩
  all_goals exact rfl
noncomputable def F7 : Fun := ⟨[.pair (.int .i64) (.pair (.int .i64) (.pair (.int .i64) (.int .i64))), .pair (.int .i64) (.pair (.int .i64) (.pair (.int .i64) (.int .i64)))], [.pure (.bool)], fun _ => True, fun x => ((fun _ _ => true) x.1 x.2.1, ())⟩
set_option maxRecDepth 100000 in
/-- loop.example.g00597.laws.FnExactIsNarrower -/
theorem F7_ok : Meets Try.prog 7 F7 := by
  refine meets_of_vc (C := mkC 20 [4] [0,1,2,3,4,5,6,19] [⟨15, _, F15_ok⟩, ⟨19, _, F19_ok⟩, ⟨20, _, F20_ok⟩]) (mkC_ok _ _ _ _) (fnOf_ok _) Try.func7 rfl rfl rfl (by decide) rfl ?_
  rintro ⟨a0, a1, _⟩ hwf hpre ⟨P, C, B, X, w0, M0⟩ hG rfl rfl
  show Vc _ _ [(0, ⟨0, 0, .c (.pure (.pair (.int .i64) (.pair (.int .i64) (.pair (.int .i64) (.int .i64))))) a0⟩), (1, ⟨0, 0, .c (.pure (.pair (.int .i64) (.pair (.int .i64) (.pair (.int .i64) (.int .i64))))) a1⟩)] _
  refine Vc.seq ?_
  refine Vc.region hG rfl ?_ ?_
  · trivial
  refine Vc.seq ?_
  refine Vc.regionD mixed hG rfl (by kernel_rfl) ?_ ?_
  · trivial
  refine Vc.seq ?_
  refine Vc.regionD mixed hG rfl (by kernel_rfl) ?_ ?_
  · trivial
  refine Vc.seq ?_
  refine Vc.seq ?_
  refine Vc.region hG rfl ?_ ?_
  · trivial
  refine Vc.cond rfl (fun h0 => ?_) (fun h0 => ?_)
  · skip
    exact (ne_selfB h0).elim
  · skip
    refine Vc.skip ?_
    refine Vc.seq ?_
    refine Vc.region hG rfl ?_ ?_
    · trivial
    refine Vc.ret ?_
    refine ⟨?_, trivial⟩
    all_goals exact rfl
end Fw
