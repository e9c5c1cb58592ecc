import Derived.Test.YtaoeigiogikiaaaFw20
import Derived.Test.YtaoeigiogikiaaaProg
namespace Fw
open Go Go.Proofs
abbrev TI : Ty := .int .i64
abbrev TSpan : Ty := .pair TI TI
def tys : List (Nat × Ty) := [(3, TI), (4, .bool), (29, TSpan), (9, .str), (42, .slice .str), (43, .arr 10 .str), (44, .arr 4 .str)]
def flds : List (Nat × List (Nat × Ty)) := [(29, [(0, TI), (1, TI)])]
theorem tys_ok : tysB Try.prog tys = true := by kernel_rfl
theorem flds_ok : allFldsB Try.prog flds = true := by kernel_rfl
noncomputable def mkC (n : Nat) (res keep : List Nat) (l : List (Known Try.prog)) : Ctx := ⟨n, tys, flds, res, keep, fnOf l⟩
theorem mkC_ok (n : Nat) (res keep : List Nat) (l : List (Known Try.prog)) : CtxOk Try.prog (mkC n res keep l) := ctxOk tys_ok flds_ok

noncomputable def f27 : Fun := ⟨[TI, TI, TI], [.pure .bool], fun _ => True, fun x => (pick2 (decide (x.2.1 ≤ x.1)) (decide (x.1 ≤ x.2.2.1)) false, ())⟩
set_option maxRecDepth 100000
theorem f27_ok : Meets Try.prog 27 f27 := by
  refine meets_of_vc (C := mkC 15 [6] [0,1,2,6] []) (mkC_ok _ _ _ _) (fnOf_ok _) Try.func27 rfl rfl rfl (by decide) rfl ?_
  rintro ⟨a, b, c, _⟩ hwf hpre ⟨P, C, B, X, w0, M0⟩ hG rfl rfl
  show Vc _ _ [(0, ⟨0, 0, .c (.pure TI) a⟩), (1, ⟨0, 0, .c (.pure TI) b⟩), (2, ⟨0, 0, .c (.pure TI) c⟩)] _
  refine Vc.seq (Vc.region hG rfl trivial ?_)
  refine Vc.seq (Vc.region hG rfl trivial ?_)
  refine Vc.ret ?_
  exact ⟨rfl, trivial⟩
theorem f26_ok : Meets Try.prog 26 f27 := by
  refine meets_of_vc (C := mkC 15 [6] [0,1,2,6] []) (mkC_ok _ _ _ _) (fnOf_ok _) Try.func26 rfl rfl rfl (by decide) rfl ?_
  rintro ⟨a, b, c, _⟩ hwf hpre ⟨P, C, B, X, w0, M0⟩ hG rfl rfl
  show Vc _ _ [(0, ⟨0, 0, .c (.pure TI) a⟩), (1, ⟨0, 0, .c (.pure TI) b⟩), (2, ⟨0, 0, .c (.pure TI) c⟩)] _
  refine Vc.seq (Vc.region hG rfl trivial ?_)
  refine Vc.seq (Vc.region hG rfl trivial ?_)
  refine Vc.ret ?_
  exact ⟨rfl, trivial⟩

theorem in_yes {a b c : Int} (h : (!(pick2 (decide (b ≤ a)) (decide (a ≤ c)) false)) = false) : b ≤ a ∧ a ≤ c := by
  unfold pick2 at h
  by_cases h1 : b ≤ a <;> by_cases h2 : a ≤ c <;> simp_all
theorem in_no {a b c : Int} (h : (!(pick2 (decide (b ≤ a)) (decide (a ≤ c)) false)) = true) : ¬ (b ≤ a ∧ a ≤ c) := by
  unfold pick2 at h
  by_cases h1 : b ≤ a <;> by_cases h2 : a ≤ c <;> simp_all
def nameOf (names : List (List UInt8)) (lo hi : Int) (n : Int) : List UInt8 := if lo ≤ n ∧ n ≤ hi then names.getD n.toNat [] else []
def rnames : List (List UInt8) := [[110, 111, 110, 101], [102, 111, 114, 109], [100, 111, 99, 117, 109, 101, 110, 116], [107, 101, 121], [109, 97, 114, 107], [98, 114, 111, 107, 101, 110], [99, 101, 114, 116, 105, 102, 105, 99, 97, 116, 101], [116, 105, 109, 101], [101, 110, 100, 101, 100], [109, 97, 110, 100, 97, 116, 101]]
def vnames : List (List UInt8) := [[], [118, 97, 108, 105, 100], [105, 110, 118, 97, 108, 105, 100], [111, 112, 101, 110]]
noncomputable def fRn : Fun := ⟨[TI], [.pure .str], fun _ => True, fun x => (nameOf rnames 0 9 x.1, ())⟩
noncomputable def fVn : Fun := ⟨[TI], [.pure .str], fun _ => True, fun x => (nameOf vnames 1 3 x.1, ())⟩
theorem f11_ok : Meets Try.prog 11 fRn := by
  refine meets_of_vc (C := mkC 9 [2] [0,2,5] [⟨27, _, f27_ok⟩]) (mkC_ok _ _ _ _) (fnOf_ok _) Try.func11 rfl rfl rfl (by decide) rfl ?_
  rintro ⟨a, _⟩ hwf hpre ⟨P, C, B, X, w0, M0⟩ hG rfl rfl
  show Vc _ _ [(0, ⟨0, 0, .c (.pure TI) a⟩)] _
  refine Vc.seq (Vc.region hG rfl trivial ?_)
  refine Vc.seq (Vc.seq (Vc.region hG rfl trivial ?_))
  refine Vc.cond rfl (fun h => ?_) (fun h => ?_)
  · refine Vc.seq (Vc.region hG rfl trivial ?_)
    refine Vc.ret ?_
    refine ⟨?_, trivial⟩
    exact (if_neg (in_no h)).symm
  · have h : 0 ≤ a ∧ a ≤ 9 := in_yes h
    refine Vc.skip ?_
    refine Vc.seq (Vc.region hG rfl ?_ ?_)
    · show inRange a 10
      unfold inRange
      have h1 : (0 : Int) ≤ a := Int.le_trans (by decide) h.1
      exact ⟨h1, Int.lt_of_le_of_lt h.2 (by decide)⟩
    refine Vc.ret ?_
    refine ⟨?_, trivial⟩
    exact (if_pos h).symm
theorem f13_ok : Meets Try.prog 13 fVn := by
  refine meets_of_vc (C := mkC 9 [2] [0,2,5] [⟨27, _, f27_ok⟩]) (mkC_ok _ _ _ _) (fnOf_ok _) Try.func13 rfl rfl rfl (by decide) rfl ?_
  rintro ⟨a, _⟩ hwf hpre ⟨P, C, B, X, w0, M0⟩ hG rfl rfl
  show Vc _ _ [(0, ⟨0, 0, .c (.pure TI) a⟩)] _
  refine Vc.seq (Vc.region hG rfl trivial ?_)
  refine Vc.seq (Vc.seq (Vc.region hG rfl trivial ?_))
  refine Vc.cond rfl (fun h => ?_) (fun h => ?_)
  · refine Vc.seq (Vc.region hG rfl trivial ?_)
    refine Vc.ret ?_
    refine ⟨?_, trivial⟩
    exact (if_neg (in_no h)).symm
  · have h : 1 ≤ a ∧ a ≤ 3 := in_yes h
    refine Vc.skip ?_
    refine Vc.seq (Vc.region hG rfl ?_ ?_)
    · show inRange a 4
      unfold inRange
      have h1 : (0 : Int) ≤ a := Int.le_trans (by decide) h.1
      exact ⟨h1, Int.lt_of_le_of_lt h.2 (by decide)⟩
    refine Vc.ret ?_
    refine ⟨?_, trivial⟩
    exact (if_pos h).symm
theorem f10_ok : Meets Try.prog 10 fRn := by
  refine meets_of_vc (C := mkC 10 [2] [0,2,5] [⟨26, _, f26_ok⟩]) (mkC_ok _ _ _ _) (fnOf_ok _) Try.func10 rfl rfl rfl (by decide) rfl ?_
  rintro ⟨a, _⟩ hwf hpre ⟨P, C, B, X, w0, M0⟩ hG rfl rfl
  show Vc _ _ [(0, ⟨0, 0, .c (.pure TI) a⟩)] _
  refine Vc.seq (Vc.region hG rfl trivial ?_)
  refine Vc.seq (Vc.seq (Vc.region hG rfl trivial ?_))
  refine Vc.cond rfl (fun h => ?_) (fun h => ?_)
  · refine Vc.seq (Vc.region hG rfl trivial ?_)
    refine Vc.ret ?_
    refine ⟨?_, trivial⟩
    exact (if_neg (in_no h)).symm
  · have h : 0 ≤ a ∧ a ≤ 9 := in_yes h
    refine Vc.skip ?_
    refine Vc.seq (Vc.region hG rfl ?_ ?_)
    · show inRange a 10
      unfold inRange
      have h1 : (0 : Int) ≤ a := Int.le_trans (by decide) h.1
      exact ⟨h1, Int.lt_of_le_of_lt h.2 (by decide)⟩
    refine Vc.ret ?_
    refine ⟨?_, trivial⟩
    exact (if_pos h).symm
theorem f12_ok : Meets Try.prog 12 fVn := by
  refine meets_of_vc (C := mkC 10 [2] [0,2,5] [⟨26, _, f26_ok⟩]) (mkC_ok _ _ _ _) (fnOf_ok _) Try.func12 rfl rfl rfl (by decide) rfl ?_
  rintro ⟨a, _⟩ hwf hpre ⟨P, C, B, X, w0, M0⟩ hG rfl rfl
  show Vc _ _ [(0, ⟨0, 0, .c (.pure TI) a⟩)] _
  refine Vc.seq (Vc.region hG rfl trivial ?_)
  refine Vc.seq (Vc.seq (Vc.region hG rfl trivial ?_))
  refine Vc.cond rfl (fun h => ?_) (fun h => ?_)
  · refine Vc.seq (Vc.region hG rfl trivial ?_)
    refine Vc.ret ?_
    refine ⟨?_, trivial⟩
    exact (if_neg (in_no h)).symm
  · have h : 1 ≤ a ∧ a ≤ 3 := in_yes h
    refine Vc.skip ?_
    refine Vc.seq (Vc.region hG rfl ?_ ?_)
    · show inRange a 4
      unfold inRange
      have h1 : (0 : Int) ≤ a := Int.le_trans (by decide) h.1
      exact ⟨h1, Int.lt_of_le_of_lt h.2 (by decide)⟩
    refine Vc.ret ?_
    refine ⟨?_, trivial⟩
    exact (if_pos h).symm
noncomputable def fYes : Fun := ⟨[TI], [.pure .bool], fun _ => True, fun _ => (true, ())⟩
theorem ne_self {x : List UInt8} (h : (x != x) = true) : False := by simp at h
theorem f3_ok : Meets Try.prog 3 fYes := by
  refine meets_of_vc (C := mkC 12 [2] [0,2,3,4,11] [⟨10, _, f10_ok⟩, ⟨11, _, f11_ok⟩]) (mkC_ok _ _ _ _) (fnOf_ok _) Try.func3 rfl rfl rfl (by decide) rfl ?_
  rintro ⟨a, _⟩ hwf hpre ⟨P, C, B, X, w0, M0⟩ hG rfl rfl
  show Vc _ _ [(0, ⟨0, 0, .c (.pure TI) a⟩)] _
  refine Vc.seq (Vc.region hG rfl trivial ?_)
  refine Vc.seq (Vc.region hG rfl trivial ?_)
  refine Vc.seq (Vc.region hG rfl trivial ?_)
  refine Vc.seq (Vc.seq (Vc.region hG rfl trivial ?_))
  refine Vc.cond rfl (fun h => ?_) (fun h => ?_)
  · have h : (fRn.run (a, ())).1 != (fRn.run (a, ())).1 := h
    exact (ne_self h).elim
  · refine Vc.skip ?_
    refine Vc.seq (Vc.region hG rfl trivial ?_)
    refine Vc.ret ?_
    exact ⟨rfl, trivial⟩
theorem f4_ok : Meets Try.prog 4 fYes := by
  refine meets_of_vc (C := mkC 12 [2] [0,2,3,4,11] [⟨12, _, f12_ok⟩, ⟨13, _, f13_ok⟩]) (mkC_ok _ _ _ _) (fnOf_ok _) Try.func4 rfl rfl rfl (by decide) rfl ?_
  rintro ⟨a, _⟩ hwf hpre ⟨P, C, B, X, w0, M0⟩ hG rfl rfl
  show Vc _ _ [(0, ⟨0, 0, .c (.pure TI) a⟩)] _
  refine Vc.seq (Vc.region hG rfl trivial ?_)
  refine Vc.seq (Vc.region hG rfl trivial ?_)
  refine Vc.seq (Vc.region hG rfl trivial ?_)
  refine Vc.seq (Vc.seq (Vc.region hG rfl trivial ?_))
  refine Vc.cond rfl (fun h => ?_) (fun h => ?_)
  · have h : (fVn.run (a, ())).1 != (fVn.run (a, ())).1 := h
    exact (ne_self h).elim
  · refine Vc.skip ?_
    refine Vc.seq (Vc.region hG rfl trivial ?_)
    refine Vc.ret ?_
    exact ⟨rfl, trivial⟩
end Fw
