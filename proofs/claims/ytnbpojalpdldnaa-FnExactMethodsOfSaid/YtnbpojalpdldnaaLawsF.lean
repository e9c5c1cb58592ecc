/- Plain laws of numbers and verdicts in words. Conditions: none. -/
import Derived.Test.YtnbpojalpdldnaaLawsB
namespace Fw
open Go
set_option linter.unusedSimpArgs false
set_option linter.unusedVariables false
def nameOf (names : List (List UInt8)) (lo hi : Int) (n : Int) : List UInt8 := if lo ≤ n ∧ n ≤ hi then names.getD n.toNat [] else []
def rnames : List (List UInt8) := [[110, 111, 110, 101], [102, 111, 114, 109], [100, 111, 99, 117, 109, 101, 110, 116], [107, 101, 121], [109, 97, 114, 107], [98, 114, 111, 107, 101, 110], [99, 101, 114, 116, 105, 102, 105, 99, 97, 116, 101], [116, 105, 109, 101], [101, 110, 100, 101, 100], [109, 97, 110, 100, 97, 116, 101]]
def vnames : List (List UInt8) := [[], [118, 97, 108, 105, 100], [105, 110, 118, 97, 108, 105, 100], [111, 112, 101, 110]]
def rnF (n : Int) : List UInt8 := nameOf rnames 0 9 n
def vnF (n : Int) : List UInt8 := nameOf vnames 1 3 n
theorem in_yes {a b c : Int} (h : (!(inRangeF a b c)) = false) : b ≤ a ∧ a ≤ c := by
  unfold inRangeF pick2 at h
  by_cases h1 : b ≤ a <;> by_cases h2 : a ≤ c <;> simp_all
theorem in_no {a b c : Int} (h : (!(inRangeF a b c)) = true) : ¬ (b ≤ a ∧ a ≤ c) := by
  unfold inRangeF pick2 at h
  by_cases h1 : b ≤ a <;> by_cases h2 : a ≤ c <;> simp_all
theorem getD_len {l : List (List UInt8)} {m : Nat} (h : ∀ x ∈ l, x.length ≤ m) (i : Nat) : (l.getD i []).length ≤ m := by
  rw [List.getD_eq_getElem?_getD]
  cases hx : l[i]? with
  | none => simp
  | some x => exact h x (List.mem_of_getElem? hx)
theorem rnLen (n : Int) : (rnF n).length ≤ 11 := by
  unfold rnF nameOf
  split
  · exact getD_len (by decide) _
  · simp
theorem vnLen (n : Int) : (vnF n).length ≤ 11 := by
  unfold vnF nameOf
  split
  · exact getD_len (by decide) _
  · simp
/-- the digit that is written -/
def dgI (x : Int) : Int := if x.tmod 10 < 0 then -(x.tmod 10) else x.tmod 10
def dgB (x : Int) : UInt8 := UInt8.ofNat (48 + dgI x).toNat
theorem natAbs_tdiv (x : Int) (h : x ≠ 0) : (x.tdiv 10).natAbs < x.natAbs := by
  rw [Int.natAbs_tdiv]
  show x.natAbs / 10 < x.natAbs
  omega
def digs (x : Int) : List UInt8 := if h : x = 0 then [] else digs (x.tdiv 10) ++ [dgB x]
termination_by x.natAbs
decreasing_by exact natAbs_tdiv x h
theorem digs_zero : digs 0 = [] := by unfold digs; rfl
theorem digs_ne {x : Int} (h : x ≠ 0) : digs x = digs (x.tdiv 10) ++ [dgB x] := by rw [digs, dif_neg h]
theorem digs_len : ∀ (k : Nat) (x : Int), x.natAbs < 10 ^ k → (digs x).length ≤ k
  | 0, x, h => by
    have : x = 0 := by simp at h; exact h
    subst this; rw [digs_zero]; simp
  | k + 1, x, h => by
    by_cases h0 : x = 0
    · subst h0; rw [digs_zero]; simp
    · rw [digs_ne h0, List.length_append, List.length_singleton]
      have := digs_len k (x.tdiv 10) (by
        rw [Int.natAbs_tdiv]
        rw [Nat.pow_succ] at h
        show x.natAbs / 10 < 10 ^ k
        omega)
      omega
def fmtAbs (n : Int) : List UInt8 := if n = 0 then [48] else digs n
def fmtF (n : Int) : List UInt8 := if n < 0 then 45 :: fmtAbs n else fmtAbs n
theorem i64_bd {x : Int} (h : inR .i64 x) : -9223372036854775808 ≤ x ∧ x ≤ 9223372036854775807 := h
theorem fmtAbs_len {n : Int} (h : inR .i64 n) : (fmtAbs n).length ≤ 19 := by
  have := i64_bd h
  unfold fmtAbs
  split
  · simp
  · exact digs_len 19 n (by have : (10 : Nat) ^ 19 = 10000000000000000000 := by decide
                            omega)
theorem fmtLen {n : Int} (h : inR .i64 n) : (fmtF n).length ≤ 20 := by
  have := fmtAbs_len h
  unfold fmtF
  split
  · simp; omega
  · omega
/-- the spec's loop: what is written stands behind what is left -/
def fsInv (n : Int) (s : List UInt8) (x : Int) : Prop := inR .i64 x ∧ digs n = digs x ++ s
theorem fsBound {n x : Int} {s : List UInt8} (hn : inR .i64 n) (h : fsInv n s x) : s.length ≤ 19 := by
  have e := congrArg List.length h.2
  rw [List.length_append] at e
  have b := i64_bd hn
  have : (digs n).length ≤ 19 := digs_len 19 n (by have : (10 : Nat) ^ 19 = 10000000000000000000 := by decide
                                                   omega)
  omega
theorem tdiv_in {x : Int} (h : inR .i64 x) : IntKind.i64.wrap (x.tdiv 10) = x.tdiv 10 ∧ inR .i64 (x.tdiv 10) := by
  have b := i64_bd h
  have h1 : (x.tdiv 10).natAbs ≤ x.natAbs := by rw [Int.natAbs_tdiv]; exact Nat.div_le_self _ _
  by_cases h0 : x = 0
  · subst h0; exact ⟨by decide, by decide, by decide⟩
  · have := natAbs_tdiv x h0
    have b2 : -9223372036854775808 ≤ x.tdiv 10 ∧ x.tdiv 10 ≤ 9223372036854775807 := by omega
    exact ⟨w64 b2.1 b2.2, b2⟩
theorem tmod_bd (x : Int) : -10 < x.tmod 10 ∧ x.tmod 10 < 10 := by
  have h1 := Int.tmod_lt_of_pos x (show (0 : Int) < 10 by decide)
  have h2 := Int.lt_tmod_of_pos x (show (0 : Int) < 10 by decide)
  omega
theorem dg_neg {x : Int} (h : x.tmod 10 < 0) : IntKind.i64.wrap (0 - x.tmod 10) = dgI x := by
  have := tmod_bd x
  rw [w64 (by omega) (by omega)]
  unfold dgI; rw [if_pos h]; omega
theorem dg_pos {x : Int} (h : ¬ x.tmod 10 < 0) : x.tmod 10 = dgI x := by unfold dgI; rw [if_neg h]
theorem dgI_bd (x : Int) : 0 ≤ dgI x ∧ dgI x ≤ 9 := by
  have := tmod_bd x
  unfold dgI; split <;> omega
theorem dg_str (x : Int) : strOf [IntKind.u8.wrap (IntKind.i64.wrap (48 + dgI x))] = [dgB x] := by
  have := dgI_bd x
  rw [w64 (by omega) (by omega)]
  have : IntKind.u8.wrap (48 + dgI x) = 48 + dgI x := by
    have e : IntKind.u8.bits = 8 := rfl
    simp [IntKind.wrap, e]; omega
  rw [this]; rfl
theorem fsStep {n x : Int} {s : List UInt8} (h : fsInv n s x) (h0 : x ≠ 0) {d : Int} (hd : d = dgI x) :
    fsInv n (strOf [IntKind.u8.wrap (IntKind.i64.wrap (48 + d))] ++ s) (IntKind.i64.wrap (x.tdiv 10)) ∧ (IntKind.i64.wrap (x.tdiv 10)).natAbs < x.natAbs := by
  obtain ⟨h1, h2⟩ := h
  obtain ⟨e1, e2⟩ := tdiv_in h1
  rw [e1, hd, dg_str]
  refine ⟨⟨e2, ?_⟩, natAbs_tdiv x h0⟩
  rw [h2, digs_ne h0]; simp
end Fw
namespace Fw
open Go
theorem fsStart {n : Int} (h : inR .i64 n) : fsInv n [] n := ⟨h, by simp⟩
theorem fsCond {n x : Int} {s : List UInt8} (hn : inR .i64 n) (h : fsInv n s x) (d : Int) : (strOf [d]).length + s.length ≤ bigLen := by
  have := fsBound hn h
  show 1 + s.length ≤ bigLen
  unfold bigLen; omega
theorem fsCond1 {n x : Int} {s : List UInt8} (hn : inR .i64 n) (h : fsInv n s x) : 1 + s.length ≤ bigLen := by
  have := fsBound hn h
  unfold bigLen; omega
theorem beqI {x y : Int} (h : (x == y) = true) : x = y := by simpa using h
theorem bneI' {x y : Int} (h : (x == y) = false) : x ≠ y := by simpa using h
theorem bneT {x y : Int} (h : (x != y) = true) : x ≠ y := by simpa using h
theorem fmt0 {n : Int} (h : n = 0) : [48] = fmtF n := by subst h; decide
theorem fsNeg {n x : Int} {s : List UInt8} (h : fsInv n s x) (hx : x = 0) (h0 : n ≠ 0) (hn : n < 0) : [45] ++ s = fmtF n := by
  subst hx
  have e := h.2
  rw [digs_zero, List.nil_append] at e
  unfold fmtF fmtAbs
  rw [if_pos hn, if_neg h0, e]; rfl
theorem fsPos {n x : Int} {s : List UInt8} (h : fsInv n s x) (hx : x = 0) (h0 : n ≠ 0) (hn : ¬ n < 0) : s = fmtF n := by
  subst hx
  have e := h.2
  rw [digs_zero, List.nil_append] at e
  unfold fmtF fmtAbs
  rw [if_neg hn, if_neg h0, e]
/-- the program's loop: the last digit first -/
def fiInv (n : Int) (x : Int) (ds : List Int) : Prop := inR .i64 x ∧ ((ds = [] ∧ x = n) ∨ (x ≠ 0 ∧ n ≠ 0 ∧ digs n = digs x ++ strOf ds))
theorem fiStart {n : Int} (h : inR .i64 n) : fiInv n n [] := ⟨h, .inl ⟨rfl, rfl⟩⟩
theorem fiBound {n x : Int} {ds : List Int} (hn : inR .i64 n) (h : fiInv n x ds) : ds.length ≤ 19 := by
  obtain ⟨_, ⟨rfl, _⟩ | ⟨_, _, e⟩⟩ := h
  · simp
  · have e := congrArg List.length e
    rw [List.length_append] at e
    have b := i64_bd hn
    have : (digs n).length ≤ 19 := digs_len 19 n (by have : (10 : Nat) ^ 19 = 10000000000000000000 := by decide
                                                     omega)
    have : (strOf ds).length = ds.length := by simp [strOf]
    omega
theorem fiCond {n x : Int} {ds : List Int} (hn : inR .i64 n) (h : fiInv n x ds) : 1 + ds.length ≤ maxApp := by
  have := fiBound hn h
  unfold maxApp; omega
theorem strOf_cons (d : Int) (ds : List Int) : strOf ([d] ++ ds) = strOf [d] ++ strOf ds := by simp [strOf]
theorem fiStep {n x : Int} {ds : List Int} (h : fiInv n x ds) {d : Int} (hd : d = dgI x) :
    (IntKind.i64.wrap (x.tdiv 10) = 0 → strOf ([IntKind.u8.wrap (IntKind.i64.wrap (48 + d))] ++ ds) = fmtAbs n) ∧
    (IntKind.i64.wrap (x.tdiv 10) ≠ 0 → fiInv n (IntKind.i64.wrap (x.tdiv 10)) ([IntKind.u8.wrap (IntKind.i64.wrap (48 + d))] ++ ds) ∧ (IntKind.i64.wrap (x.tdiv 10)).natAbs < x.natAbs) := by
  obtain ⟨h1, h2⟩ := h
  obtain ⟨e1, e2⟩ := tdiv_in h1
  rw [e1]
  have es : strOf ([IntKind.u8.wrap (IntKind.i64.wrap (48 + d))] ++ ds) = [dgB x] ++ strOf ds := by rw [strOf_cons, hd, dg_str]
  have key : x ≠ 0 → n ≠ 0 ∧ digs n = digs (x.tdiv 10) ++ ([dgB x] ++ strOf ds) := by
    intro hx
    rcases h2 with ⟨rfl, rfl⟩ | ⟨_, k2, k3⟩
    · exact ⟨hx, by rw [digs_ne hx]; simp [strOf]⟩
    · exact ⟨k2, by rw [k3, digs_ne hx]; simp⟩
  refine ⟨fun h0 => ?_, fun h0 => ?_⟩
  · rw [es]
    by_cases hx : x = 0
    · rcases h2 with ⟨rfl, rfl⟩ | ⟨k1, _, _⟩
      · subst hx; decide
      · exact (k1 hx).elim
    · obtain ⟨k1, k2⟩ := key hx
      rw [h0, digs_zero, List.nil_append] at k2
      unfold fmtAbs; rw [if_neg k1, k2]
  · have hx : x ≠ 0 := fun e => h0 (by rw [e]; rfl)
    obtain ⟨k1, k2⟩ := key hx
    exact ⟨⟨e2, .inr ⟨h0, k1, by rw [es]; exact k2⟩⟩, natAbs_tdiv x hx⟩
theorem fiNeg {n : Int} {s : List UInt8} (h : s = fmtAbs n) (hn : n < 0) : [45] ++ s = fmtF n := by unfold fmtF; rw [if_pos hn, h]; rfl
theorem fiPos {n : Int} {s : List UInt8} (h : s = fmtAbs n) (hn : ¬ n < 0) : s = fmtF n := by unfold fmtF; rw [if_neg hn, h]
theorem fiLen {n : Int} {s : List UInt8} (hn : inR .i64 n) (h : s = fmtAbs n) : 1 + s.length ≤ bigLen := by
  have := fmtAbs_len hn
  rw [h]; unfold bigLen; omega
def isNo (s : List UInt8) : Bool := s == []
def fvF (v : Int × Int × Int × Int) : List UInt8 :=
  if vnF v.1 = [] ∨ rnF v.2.1 = [] then []
  else if v.2.2.1 = 0 ∧ v.2.2.2 = 0 then vnF v.1 ++ [32] ++ rnF v.2.1
  else vnF v.1 ++ [32] ++ rnF v.2.1 ++ [32] ++ fmtF v.2.2.1 ++ [45] ++ fmtF v.2.2.2
end Fw
namespace Fw
open Go
theorem pick2_or' (c b : Bool) : pick2 c true b = (c || b) := by cases c <;> rfl
theorem fv_no1 {v : Int × Int × Int × Int} (h : pick2 (vnF v.1 == []) true (rnF v.2.1 == []) = true) : [] = fvF v := by
  rw [pick2_or'] at h
  unfold fvF
  rw [if_pos]
  simpa using h
theorem fv_ok {v : Int × Int × Int × Int} (h : pick2 (vnF v.1 == []) true (rnF v.2.1 == []) = false) : ¬ (vnF v.1 = [] ∨ rnF v.2.1 = []) := by
  rw [pick2_or'] at h
  simpa using h
theorem fv_short {v : Int × Int × Int × Int} (h : ¬ (vnF v.1 = [] ∨ rnF v.2.1 = [])) (h2 : v.2.2.1 = 0 ∧ v.2.2.2 = 0) : vnF v.1 ++ [32] ++ rnF v.2.1 = fvF v := by
  unfold fvF; rw [if_neg h, if_pos h2]
theorem fv_long {v : Int × Int × Int × Int} (h : ¬ (vnF v.1 = [] ∨ rnF v.2.1 = [])) (h2 : ¬ (v.2.2.1 = 0 ∧ v.2.2.2 = 0)) : vnF v.1 ++ [32] ++ rnF v.2.1 ++ [32] ++ fmtF v.2.2.1 ++ [45] ++ fmtF v.2.2.2 = fvF v := by
  unfold fvF; rw [if_neg h, if_neg h2]
theorem sp_ne {a b : Int} (h : pick2 (a != 0) true (b != 0) = true) : ¬ (a = 0 ∧ b = 0) := by
  rw [pick2_or'] at h
  rintro ⟨rfl, rfl⟩; simp at h
theorem sp_eq {a b : Int} (h : pick2 (a != 0) true (b != 0) = false) : a = 0 ∧ b = 0 := by
  rw [pick2_or'] at h
  simpa using h
theorem spE_eq {s : Int × Int} (h : El.eq (.pair TI TI) s (0, 0) = true) : s.1 = 0 ∧ s.2 = 0 := by
  simpa [El.eq] using h
theorem spE_ne {s : Int × Int} (h : El.eq (.pair TI TI) s (0, 0) = false) : ¬ (s.1 = 0 ∧ s.2 = 0) := by
  rintro ⟨h1, h2⟩
  simp [El.eq, h1, h2] at h
end Fw
namespace Fw
theorem ne_selfS0 {x : List UInt8} (h : (x != x) = true) : False := by simp at h
end Fw
