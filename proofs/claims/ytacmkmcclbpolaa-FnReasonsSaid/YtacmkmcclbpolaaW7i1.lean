/- Walks of functions of the program: what each computes. Conditions: those that each contract names. -/
import Derived.Test.YtacmkmcclbpolaaW7T
import Derived.Test.YtacmkmcclbpolaaW7i0
namespace Fw
open Go Go.Proofs
set_option linter.unusedSimpArgs false
set_option maxRecDepth 100000
noncomputable def F6 : Fun := ⟨[.pair (.int .i64) Y3], [.pure (.str)], fun _ => True, fun x => (fvF x.1, ())⟩
theorem F6_ok : Meets Try.prog 6 F6 := by
 refine meets_of_vc (C := mkC 43 [2] [0,1,2,3,4,11,18] [⟨8, _, F8_ok⟩, ⟨9, _, F9_ok⟩, ⟨15, _, F15_ok⟩]) (mkC_ok _ _ _ _) (fnOf_ok _) Try.func6 rfl rfl rfl (by decide) rfl ?_
 rintro ⟨a0, _⟩ hwf hpre ⟨P, C, B, X, w0, M0, pv⟩ hG rfl rfl
 show Vc _ _ [(0, ⟨0, 0, .c Z7 a0⟩)] _
 have b1 := vnLen a0.1
 have b2 := rnLen a0.2.1
 have b3 := fmtLen (n := a0.2.2.1) hwf.1.2.2.1
 have b4 := fmtLen (n := a0.2.2.2) hwf.1.2.2.2
 refine Vc.seq (Vc.region hG rfl (by trivial) (Vc.seq ?_))
 refine Vc.regionD mixed hG rfl (by kernel_rfl) ?_ ?_
 · exact ⟨trivial, trivial⟩
 refine Vc.seq (Vc.block (Vc.seq (Vc.region hG rfl (by trivial) ?_)))
 refine Vc.cond rfl (fun h0 => ?_) (fun h0 => ?_)
 · have g0 : pick2 (vnF a0.1 == []) true (rnF a0.2.1 == []) = true := h0
   refine Vc.seq (Vc.region hG rfl (by trivial) (Vc.ret ?_))
   refine ⟨?_, trivial⟩
   exact fv_no1 g0
 · have g0 := fv_ok (v := a0) h0
   refine Vc.seq (Vc.region hG rfl (by trivial) ?_)
   refine Vc.cond rfl (fun h1 => ?_) (fun h1 => ?_)
   · have g1 := spE_eq (s := a0.2.2) h1
     refine Vc.seq ?_
     refine Vc.region hG rfl ?_ ?_
     · exact ⟨(show List.length (vnF a0.1) + List.length (([32] : List UInt8)) ≤ bigLen from by simp only [List.length_append, List.length_cons, List.length_nil]; unfold bigLen; omega), (show List.length (vnF a0.1 ++ [32]) + List.length (rnF a0.2.1) ≤ bigLen from by simp only [List.length_append, List.length_cons, List.length_nil]; unfold bigLen; omega)⟩
     refine Vc.ret ?_
     refine ⟨?_, trivial⟩
     exact fv_short g0 g1
   · have g1 := spE_ne (s := a0.2.2) h1
     refine Vc.skip (Vc.seq ?_)
     refine Vc.regionD mixed hG rfl (by kernel_rfl) ?_ ?_
     · exact ⟨(show List.length (vnF a0.1) + List.length (([32] : List UInt8)) ≤ bigLen from by simp only [List.length_append, List.length_cons, List.length_nil]; unfold bigLen; omega), (show List.length (vnF a0.1 ++ [32]) + List.length (rnF a0.2.1) ≤ bigLen from by simp only [List.length_append, List.length_cons, List.length_nil]; unfold bigLen; omega), (show List.length (vnF a0.1 ++ [32] ++ rnF a0.2.1) + List.length (([32] : List UInt8)) ≤ bigLen from by simp only [List.length_append, List.length_cons, List.length_nil]; unfold bigLen; omega), trivial, (show List.length (vnF a0.1 ++ [32] ++ rnF a0.2.1 ++ [32]) + List.length (fmtF a0.2.2.1) ≤ bigLen from by simp only [List.length_append, List.length_cons, List.length_nil]; unfold bigLen; omega), (show List.length (vnF a0.1 ++ [32] ++ rnF a0.2.1 ++ [32] ++ fmtF a0.2.2.1) + List.length (([45] : List UInt8)) ≤ bigLen from by simp only [List.length_append, List.length_cons, List.length_nil]; unfold bigLen; omega), trivial, (show List.length (vnF a0.1 ++ [32] ++ rnF a0.2.1 ++ [32] ++ fmtF a0.2.2.1 ++ [45]) + List.length (fmtF a0.2.2.2) ≤ bigLen from by simp only [List.length_append, List.length_cons, List.length_nil]; unfold bigLen; omega)⟩
     refine Vc.ret ?_
     refine ⟨?_, trivial⟩
     exact fv_long g0 g1
noncomputable def F10 : Fun := ⟨[.pair (.int .i64) Y3, .pair (.int .i64) Y3], [.pure (.bool)], fun _ => True, fun x => (isBetterF x.1 x.2.1, ())⟩
theorem F10_ok : Meets Try.prog 10 F10 := by
 refine meets_of_vc (C := mkC 18 [4] [0,1,2,3,4] []) (mkC_ok _ _ _ _) (fnOf_ok _) Try.func10 rfl rfl rfl (by decide) rfl ?_
 rintro ⟨a0, a1, _⟩ hwf hpre ⟨P, C, B, X, w0, M0, pv⟩ hG rfl rfl
 show Vc _ _ [(0, ⟨0, 0, .c Z7 a0⟩), (1, ⟨0, 0, .c Z7 a1⟩)] _
 refine Vc.seq (Vc.region hG rfl (by trivial) (Vc.seq (Vc.region hG rfl (by trivial) ?_)))
 refine Vc.ret ?_
 refine ⟨?_, trivial⟩
 all_goals exact rfl
noncomputable def F11 : Fun := ⟨[.pair (.int .i64) Y3, .pair (.int .i64) Y3], [.pure (.bool)], fun _ => True, fun x => (isKept2 x.1 x.2.1, ())⟩
theorem F11_ok : Meets Try.prog 11 F11 := by
 refine meets_of_vc (C := mkC 15 [4] [0,1,2,3,4] []) (mkC_ok _ _ _ _) (fnOf_ok _) Try.func11 rfl rfl rfl (by decide) rfl ?_
 rintro ⟨a0, a1, _⟩ hwf hpre ⟨P, C, B, X, w0, M0, pv⟩ hG rfl rfl
 show Vc _ _ [(0, ⟨0, 0, .c Z7 a0⟩), (1, ⟨0, 0, .c Z7 a1⟩)] _
 refine Vc.seq (Vc.region hG rfl (by trivial) (Vc.seq (Vc.region hG rfl (by trivial) ?_)))
 refine Vc.ret ?_
 refine ⟨?_, trivial⟩
 all_goals exact rfl
noncomputable def F23 : Fun := ⟨[.int .i64], [.pure (.bool)], fun _ => True, fun x => (isTimeF x.1, ())⟩
theorem F23_ok : Meets Try.prog 23 F23 := by
 refine meets_of_vc (C := mkC 5 [2] [0,2] [⟨16, _, F16_ok⟩]) (mkC_ok _ _ _ _) (fnOf_ok _) Try.func23 rfl rfl rfl (by decide) rfl ?_
 rintro ⟨(a0 : Int), _⟩ hwf hpre ⟨P, C, B, X, w0, M0, pv⟩ hG rfl rfl
 show Vc _ _ [(0, ⟨0, 0, .c (.pure (.int .i64)) a0⟩)] _
 refine Vc.seq (Vc.region hG rfl (by trivial) (Vc.seq (Vc.region hG rfl (by trivial) ?_)))
 refine Vc.ret ?_
 refine ⟨?_, trivial⟩
 all_goals exact rfl
noncomputable def F21 : Fun := ⟨[.pair (.int .i64) (.int .i64)], [.pure (.bool)], fun _ => True, fun x => (isSpanF x.1, ())⟩
theorem F21_ok : Meets Try.prog 21 F21 := by
 refine meets_of_vc (C := mkC 18 [2] [0,1,2] [⟨23, _, F23_ok⟩]) (mkC_ok _ _ _ _) (fnOf_ok _) Try.func21 rfl rfl rfl (by decide) rfl ?_
 rintro ⟨a0, _⟩ hwf hpre ⟨P, C, B, X, w0, M0, pv⟩ hG rfl rfl
 show Vc _ _ [(0, ⟨0, 0, .c Z2 a0⟩)] _
 refine Vc.seq (Vc.region hG rfl (by trivial) (Vc.seq ?_))
 refine Vc.region hG rfl ?_ ?_
 · repeat' (first | exact trivial | refine And.intro ?_ ?_ | intro _)
 refine Vc.ret ?_
 refine ⟨?_, trivial⟩
 all_goals exact rfl
noncomputable def F17 : Fun := ⟨[.pair (.int .i64) (.int .i64), .pair (.int .i64) (.int .i64)], [.pure (.bool)], fun _ => True, fun x => (isInsideF x.1 x.2.1, ())⟩
theorem F17_ok : Meets Try.prog 17 F17 := by
 refine meets_of_vc (C := mkC 25 [4] [0,1,2,3,4] [⟨21, _, F21_ok⟩]) (mkC_ok _ _ _ _) (fnOf_ok _) Try.func17 rfl rfl rfl (by decide) rfl ?_
 rintro ⟨a0, a1, _⟩ hwf hpre ⟨P, C, B, X, w0, M0, pv⟩ hG rfl rfl
 show Vc _ _ [(0, ⟨0, 0, .c Z2 a0⟩), (1, ⟨0, 0, .c Z2 a1⟩)] _
 refine Vc.seq (Vc.region hG rfl (by trivial) (Vc.seq ?_))
 refine Vc.region hG rfl ?_ ?_
 · repeat' (first | exact trivial | refine And.intro ?_ ?_ | intro _)
 refine Vc.ret ?_
 refine ⟨?_, trivial⟩
 all_goals exact rfl
noncomputable def F12 : Fun := ⟨[.pair (.int .i64) Y3, .pair (.int .i64) Y3], [.pure (.bool)], fun _ => True, fun x => (isNarrowerF x.1 x.2.1, ())⟩
theorem F12_ok : Meets Try.prog 12 F12 := by
 refine meets_of_vc (C := mkC 10 [4] [0,1,2,3,4] [⟨17, _, F17_ok⟩]) (mkC_ok _ _ _ _) (fnOf_ok _) Try.func12 rfl rfl rfl (by decide) rfl ?_
 rintro ⟨a0, a1, _⟩ hwf hpre ⟨P, C, B, X, w0, M0, pv⟩ hG rfl rfl
 show Vc _ _ [(0, ⟨0, 0, .c Z7 a0⟩), (1, ⟨0, 0, .c Z7 a1⟩)] _
 refine Vc.seq (Vc.region hG rfl (by trivial) (Vc.seq (Vc.region hG rfl (by trivial) ?_)))
 refine Vc.ret ?_
 refine ⟨?_, trivial⟩
 all_goals exact rfl
end Fw
