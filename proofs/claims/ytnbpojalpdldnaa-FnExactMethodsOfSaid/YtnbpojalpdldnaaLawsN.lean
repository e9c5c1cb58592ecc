/- Plain laws about writing a count into every cell and finding it there again. Conditions: none. -/
import Derived.Test.YtnbpojalpdldnaaLawsK
import Derived.Test.YtnbpojalpdldnaaLawsF
namespace Fw
open Go
set_option linter.unusedSimpArgs false

def bnd : Int := 1152921504606846976
theorem wrapB {n : Int} (h : 0 ≤ n) (h' : n ≤ bnd + 1) : IntKind.i64.wrap n = n := w64 (by omega) (by unfold bnd at h'; omega)

/-- the text of a count -/
noncomputable def textF (n : Int) : List UInt8 := if n ≤ 0 then [109, 48] else 109 :: digs n

def cellsL {α : Type} (c : α → Nat) : List α → Nat
  | [] => 0
  | x :: xs => c x + cellsL c xs
/-- how many cells are marked -/
def cellsC : (t : Ty) → El t → Nat
  | .slice e, xs => cellsL (cellsC e) xs
  | .pair a b, x => cellsC a x.1 + cellsC b x.2
  | .arr _ _, _ => 0
  | .int _, _ => 1
  | .bool, _ => 1
  | .str, _ => 1
/-- the same of a value whose own cells are not marked -/
def cellsV : (t : Ty) → El t → Nat
  | .slice e, xs => cellsL (cellsC e) xs
  | .pair a b, x => cellsV a x.1 + cellsV b x.2
  | _, _ => 0
def markL {α : Type} (c : α → Nat) (f : α → Int → α) : List α → Int → List α
  | [], _ => []
  | x :: xs, n => f x n :: markL c f xs (n + c x)
noncomputable def markC : (t : Ty) → El t → Int → El t
  | .int .i64, _, n => n
  | .int k, _, n => k.wrap n
  | .bool, _, n => n.tmod 3 == 0
  | .str, _, n => textF n
  | .slice e, xs, n => markL (cellsC e) (markC e) xs n
  | .pair a b, x, n => (markC a x.1 n, markC b x.2 (n + cellsC a x.1))
  | .arr _ _, x, _ => x
noncomputable def markV : (t : Ty) → El t → Int → El t
  | .slice e, xs, n => markL (cellsC e) (markC e) xs n
  | .pair a b, x, n => (markV a x.1 n, markV b x.2 (n + cellsV a x.1))
  | .int _, x, _ => x
  | .bool, x, _ => x
  | .str, x, _ => x
  | .arr _ _, x, _ => x
def okL {α : Type} (c : α → Nat) (f : α → Int → Bool) : List α → Int → Bool
  | [], _ => true
  | x :: xs, n => f x n && okL c f xs (n + c x)
noncomputable def okC : (t : Ty) → El t → Int → Bool
  | .int .i64, x, n => x == n
  | .int k, x, n => x == k.wrap n
  | .bool, x, n => x == (n.tmod 3 == 0)
  | .str, x, n => x == textF n
  | .slice e, xs, n => okL (cellsC e) (okC e) xs n
  | .pair a b, x, n => okC a x.1 n && okC b x.2 (n + cellsC a x.1)
  | .arr _ _, _, _ => true
noncomputable def okV : (t : Ty) → El t → Int → Bool
  | .slice e, xs, n => okL (cellsC e) (okC e) xs n
  | .pair a b, x, n => okV a x.1 n && okV b x.2 (n + cellsV a x.1)
  | _, _, _ => true

theorem cellsL_mark {α : Type} {c : α → Nat} {f : α → Int → α} (h : ∀ x n, c (f x n) = c x) : ∀ (xs : List α) (n : Int), cellsL c (markL c f xs n) = cellsL c xs
  | [], _ => rfl
  | x :: xs, n => by show c (f x n) + cellsL c (markL c f xs _) = c x + cellsL c xs; rw [h, cellsL_mark h xs]
theorem cells_mark : ∀ (t : Ty) (x : El t) (n : Int), cellsC t (markC t x n) = cellsC t x
  | .slice e, xs, n => cellsL_mark (cells_mark e) xs n
  | .pair a b, x, n => by show cellsC a (markC a x.1 n) + cellsC b (markC b x.2 _) = _; rw [cells_mark a, cells_mark b]; rfl
  | .arr _ _, _, _ => rfl
  | .int _, _, _ => rfl
  | .bool, _, _ => rfl
  | .str, _, _ => rfl
theorem cellsV_mark : ∀ (t : Ty) (x : El t) (n : Int), cellsV t (markV t x n) = cellsV t x
  | .slice e, xs, n => cellsL_mark (cells_mark e) xs n
  | .pair a b, x, n => by show cellsV a (markV a x.1 n) + cellsV b (markV b x.2 _) = _; rw [cellsV_mark a, cellsV_mark b]; rfl
  | .arr _ _, _, _ => rfl
  | .int _, _, _ => rfl
  | .bool, _, _ => rfl
  | .str, _, _ => rfl
theorem okL_mark {α : Type} {c : α → Nat} {f : α → Int → α} {g : α → Int → Bool} (hc : ∀ x n, c (f x n) = c x) (h : ∀ x n, g (f x n) n = true) : ∀ (xs : List α) (n : Int), okL c g (markL c f xs n) n = true
  | [], _ => rfl
  | x :: xs, n => by show (g (f x n) n && okL c g (markL c f xs _) (n + c (f x n))) = true; rw [hc, h, okL_mark hc h xs]; rfl
theorem ok_mark : ∀ (t : Ty) (x : El t) (n : Int), okC t (markC t x n) n = true
  | .slice e, xs, n => okL_mark (cells_mark e) (ok_mark e) xs n
  | .pair a b, x, n => by
    show (okC a (markC a x.1 n) n && okC b (markC b x.2 _) (n + cellsC a (markC a x.1 n))) = true
    rw [cells_mark a, ok_mark a, ok_mark b]; rfl
  | .arr _ _, _, _ => rfl
  | .int k, _, n => by cases k <;> exact beq_self_eq_true _
  | .bool, _, n => beq_self_eq_true _
  | .str, _, n => beq_self_eq_true _
theorem okV_mark : ∀ (t : Ty) (x : El t) (n : Int), okV t (markV t x n) n = true
  | .slice e, xs, n => okL_mark (cells_mark e) (ok_mark e) xs n
  | .pair a b, x, n => by
    show (okV a (markV a x.1 n) n && okV b (markV b x.2 _) (n + cellsV a (markV a x.1 n))) = true
    rw [cellsV_mark a, okV_mark a, okV_mark b]; rfl
  | .arr _ _, _, _ => rfl
  | .int _, _, _ => rfl
  | .bool, _, _ => rfl
  | .str, _, _ => rfl

/-- the count behind a marking; sealed, so that it is not unfolded -/
theorem cnt_ex (m : Int) : ∃ k : Int, k = m := ⟨m, rfl⟩
noncomputable def cntF (t : Ty) (x : El t) (n : Int) : Int := Classical.choose (cnt_ex (n + cellsC t x))
theorem cntF_eq (t : Ty) (x : El t) (n : Int) : cntF t x n = n + ((cellsC t x : Nat) : Int) := Classical.choose_spec (cnt_ex (n + cellsC t x))
noncomputable def cntV (t : Ty) (x : El t) (n : Int) : Int := Classical.choose (cnt_ex (n + cellsV t x))
theorem cntV_eq (t : Ty) (x : El t) (n : Int) : cntV t x n = n + ((cellsV t x : Nat) : Int) := Classical.choose_spec (cnt_ex (n + cellsV t x))

/-- what a reader answers -/
noncomputable def heldF (t : Ty) (x : El t) (n : Int) : Int := if okC t x n = true then n + cellsC t x else -1
noncomputable def heldVF (t : Ty) (x : El t) (n : Int) : Int := if okV t x n = true then n + cellsV t x else -1
def markPre (t : Ty) (x : El t) (n : Int) : Prop := 0 ≤ n ∧ n + cellsC t x ≤ bnd
def markPreV (t : Ty) (x : El t) (n : Int) : Prop := 0 ≤ n ∧ n + cellsV t x ≤ bnd
/-- the contract of a function that marks a row, and of one that marks a value's rows -/
@[reducible] noncomputable def mF (s : Sh) : MFun := ⟨s, markPre s.ty, markC s.ty, cntF s.ty⟩
@[reducible] noncomputable def mV (s : Sh) : MFun := ⟨s, markPreV s.ty, markV s.ty, cntV s.ty⟩

theorem cellsL_append {α : Type} (c : α → Nat) : ∀ (a b : List α), cellsL c (a ++ b) = cellsL c a + cellsL c b
  | [], b => by simp [cellsL]
  | x :: a, b => by show c x + cellsL c (a ++ b) = c x + cellsL c a + _; rw [cellsL_append c a b]; omega
theorem markL_append {α : Type} (c : α → Nat) (f : α → Int → α) : ∀ (a b : List α) (n : Int), markL c f (a ++ b) n = markL c f a n ++ markL c f b (n + cellsL c a)
  | [], b, n => by simp [cellsL, markL]
  | x :: a, b, n => by
    show f x n :: markL c f (a ++ b) (n + c x) = f x n :: (markL c f a (n + c x) ++ markL c f b _)
    rw [markL_append c f a b]
    congr 3
    show n + (c x : Int) + _ = n + ((c x + cellsL c a : Nat) : Int)
    omega
theorem markL_len {α : Type} (c : α → Nat) (f : α → Int → α) : ∀ (a : List α) (n : Int), (markL c f a n).length = a.length
  | [], _ => rfl
  | x :: a, n => by show _ + 1 = _ + 1; rw [markL_len c f a]
theorem okL_append {α : Type} (c : α → Nat) (f : α → Int → Bool) : ∀ (a b : List α) (n : Int), okL c f (a ++ b) n = (okL c f a n && okL c f b (n + cellsL c a))
  | [], b, n => by simp [cellsL, okL]
  | x :: a, b, n => by
    show (f x n && okL c f (a ++ b) (n + c x)) = (f x n && okL c f a (n + c x) && okL c f b _)
    rw [okL_append c f a b, Bool.and_assoc]
    congr 3
    show n + (c x : Int) + _ = n + ((c x + cellsL c a : Nat) : Int)
    omega

/-- a marking loop: what is written so far -/
def mkInv {α : Type} (c : α → Nat) (f : α → Int → α) (xs : List α) (k0 : Int) (v : List α) (k i : Int) : Prop :=
  0 ≤ i ∧ i ≤ xs.length ∧ v = markL c f (xs.take i.toNat) k0 ++ xs.drop i.toNat ∧ k = k0 + cellsL c (xs.take i.toNat)
theorem mkStart {α : Type} {c : α → Nat} {f : α → Int → α} {xs : List α} {k0 : Int} : mkInv c f xs k0 xs k0 0 := ⟨by omega, by omega, by simp [markL], by simp [cellsL]⟩
theorem mkLen {α : Type} {c : α → Nat} {f : α → Int → α} {xs v : List α} {k0 k i : Int} (h : mkInv c f xs k0 v k i) : v.length = xs.length := by
  obtain ⟨h1, h2, h3, _⟩ := h
  rw [h3, List.length_append, markL_len, ← List.length_append, List.take_append_drop]
theorem mkRange {α : Type} {c : α → Nat} {f : α → Int → α} {xs v : List α} {k0 k i : Int} (h : mkInv c f xs k0 v k i) (hl : i < (v.length : Int)) : inRange i v.length := ⟨h.1, hl⟩
theorem getD_setS {α : Type} {l : List α} {i : Nat} (h : i < l.length) (a d : α) : (l.set i a).getD i d = a := by
  rw [List.getD_eq_getElem?_getD, List.getElem?_set_self h]; rfl
/-- the element that is read is as it was -/
theorem mkGet {α : Type} {c : α → Nat} {f : α → Int → α} {xs v : List α} {k0 k i : Int} (h : mkInv c f xs k0 v k i) (hl : i < (v.length : Int)) (d : α) : v.getD i.toNat d = xs.getD i.toNat d := by
  have hlen := mkLen h
  obtain ⟨h1, h2, h3, _⟩ := h
  have hm : (markL c f (xs.take i.toNat) k0).length = i.toNat := by rw [markL_len, List.length_take]; omega
  rw [h3, List.getD_eq_getElem?_getD, List.getD_eq_getElem?_getD, List.getElem?_append_right (by omega), hm, Nat.sub_self, List.getElem?_drop, Nat.add_zero]
theorem take_succD {α : Type} {xs : List α} {i : Nat} (h : i < xs.length) (d : α) : xs.take (i + 1) = xs.take i ++ [xs.getD i d] := by
  rw [List.take_add_one, List.getD_eq_getElem?_getD, List.getElem?_eq_getElem h]; rfl
theorem mkBound {α : Type} {c : α → Nat} {f : α → Int → α} {xs v : List α} {k0 k i : Int} (h : mkInv c f xs k0 v k i) (hl : i < (v.length : Int)) (d : α) (h0 : 0 ≤ k0) (hb : k0 + cellsL c xs ≤ bnd) :
    0 ≤ k ∧ k + c (v.getD i.toNat d) ≤ bnd := by
  have hlen := mkLen h
  rw [mkGet h hl d]
  obtain ⟨h1, h2, h3, h4⟩ := h
  have hi : i.toNat < xs.length := by omega
  have e : cellsL c xs = cellsL c (xs.take (i.toNat + 1)) + cellsL c (xs.drop (i.toNat + 1)) := by rw [← cellsL_append, List.take_append_drop]
  rw [take_succD hi d, cellsL_append] at e
  have e2 : cellsL c [xs.getD i.toNat d] = c (xs.getD i.toNat d) := by simp [cellsL]
  rw [e2] at e
  constructor <;> omega
theorem mkStep {α : Type} {c : α → Nat} {f : α → Int → α} {xs v v' : List α} {k0 k k' i : Int} (h : mkInv c f xs k0 v k i) (hl : i < (v.length : Int)) (hb : v.length ≤ bigLen) (d : α)
    (hv : v' = v.set i.toNat (f (v.getD i.toNat d) k)) (hk : k' = k + c (v.getD i.toNat d)) :
    mkInv c f xs k0 v' k' (IntKind.i64.wrap (i + 1)) ∧ ((v'.length : Int) - IntKind.i64.wrap (i + 1)).toNat < ((v.length : Int) - i).toNat := by
  have hlen := mkLen h
  have hg := mkGet h hl d
  obtain ⟨h1, h2, h3, h4⟩ := h
  unfold bigLen at hb
  rw [w64 (by omega) (by omega)]
  have hl' : v'.length = v.length := by rw [hv, List.length_set]
  refine ⟨⟨by omega, by omega, ?_, ?_⟩, by omega⟩
  · have hi : i.toNat < xs.length := by omega
    have e : (i + 1).toNat = i.toNat + 1 := by omega
    have hm : (markL c f (xs.take i.toNat) k0).length = i.toNat := by rw [markL_len, List.length_take]; omega
    rw [hv, hg, e, take_succD hi d, markL_append, h3, List.set_append_right _ _ (by omega), hm, Nat.sub_self, ← h4]
    have hd : xs.drop i.toNat = xs.getD i.toNat d :: xs.drop (i.toNat + 1) := by
      rw [List.drop_eq_getElem_cons hi, List.getD_eq_getElem?_getD, List.getElem?_eq_getElem hi]; rfl
    rw [hd]
    simp [markL]
  · have hi : i.toNat < xs.length := by omega
    have e : (i + 1).toNat = i.toNat + 1 := by omega
    rw [hk, hg, e, take_succD hi d, cellsL_append, h4]
    have e2 : cellsL c [xs.getD i.toNat d] = c (xs.getD i.toNat d) := by simp [cellsL]
    rw [e2]; omega
theorem mkEnd {α : Type} {c : α → Nat} {f : α → Int → α} {xs v : List α} {k0 k i : Int} (h : mkInv c f xs k0 v k i) (hl : ¬ i < (v.length : Int)) : k = k0 + cellsL c xs ∧ v = markL c f xs k0 := by
  have hlen := mkLen h
  obtain ⟨h1, h2, h3, h4⟩ := h
  have : i.toNat = xs.length := by omega
  rw [this, List.take_length] at h3 h4
  rw [List.drop_length, List.append_nil] at h3
  exact ⟨h4, h3⟩

/-- a reading loop: all found so far -/
def hdInv {α : Type} (c : α → Nat) (g : α → Int → Bool) (xs : List α) (k0 k i : Int) : Prop :=
  0 ≤ i ∧ i ≤ xs.length ∧ okL c g (xs.take i.toNat) k0 = true ∧ k = k0 + cellsL c (xs.take i.toNat)
theorem hdStart {α : Type} {c : α → Nat} {g : α → Int → Bool} {xs : List α} {k0 : Int} : hdInv c g xs k0 k0 0 := ⟨by omega, by omega, by simp [okL], by simp [cellsL]⟩
theorem hdRange {α : Type} {c : α → Nat} {g : α → Int → Bool} {xs : List α} {k0 k i : Int} (h : hdInv c g xs k0 k i) (hl : i < (xs.length : Int)) : inRange i xs.length := ⟨h.1, hl⟩
theorem hdBound {α : Type} {c : α → Nat} {g : α → Int → Bool} {xs : List α} {k0 k i : Int} (h : hdInv c g xs k0 k i) (hl : i < (xs.length : Int)) (d : α) (h0 : 0 ≤ k0) (hb : k0 + cellsL c xs ≤ bnd) :
    0 ≤ k ∧ k + c (xs.getD i.toNat d) ≤ bnd := by
  obtain ⟨h1, h2, h3, h4⟩ := h
  have hi : i.toNat < xs.length := by omega
  have e : cellsL c xs = cellsL c (xs.take (i.toNat + 1)) + cellsL c (xs.drop (i.toNat + 1)) := by rw [← cellsL_append, List.take_append_drop]
  rw [take_succD hi d, cellsL_append] at e
  have e2 : cellsL c [xs.getD i.toNat d] = c (xs.getD i.toNat d) := by simp [cellsL]
  rw [e2] at e
  constructor <;> omega
theorem hdStep {α : Type} {c : α → Nat} {g : α → Int → Bool} {xs : List α} {k0 k k' i : Int} (h : hdInv c g xs k0 k i) (hl : i < (xs.length : Int)) (hb : xs.length ≤ bigLen) (d : α)
    (hg : g (xs.getD i.toNat d) k = true) (hk : k' = k + c (xs.getD i.toNat d)) :
    hdInv c g xs k0 k' (IntKind.i64.wrap (i + 1)) ∧ ((xs.length : Int) - IntKind.i64.wrap (i + 1)).toNat < ((xs.length : Int) - i).toNat := by
  obtain ⟨h1, h2, h3, h4⟩ := h
  unfold bigLen at hb
  rw [w64 (by omega) (by omega)]
  have hi : i.toNat < xs.length := by omega
  have e : (i + 1).toNat = i.toNat + 1 := by omega
  refine ⟨⟨by omega, by omega, ?_, ?_⟩, by omega⟩
  · rw [e, take_succD hi d, okL_append, h3, ← h4]
    show (true && (g (xs.getD i.toNat d) k && true)) = true
    rw [hg]; rfl
  · rw [hk, e, take_succD hi d, cellsL_append, h4]
    have e2 : cellsL c [xs.getD i.toNat d] = c (xs.getD i.toNat d) := by simp [cellsL]
    rw [e2]; omega
theorem hdEnd {α : Type} {c : α → Nat} {g : α → Int → Bool} {xs : List α} {k0 k i : Int} (h : hdInv c g xs k0 k i) (hl : ¬ i < (xs.length : Int)) : k = if okL c g xs k0 = true then k0 + cellsL c xs else -1 := by
  obtain ⟨h1, h2, h3, h4⟩ := h
  have : i.toNat = xs.length := by omega
  rw [this, List.take_length] at h3 h4
  rw [if_pos h3]; exact h4
theorem hdNo {α : Type} {c : α → Nat} {g : α → Int → Bool} {xs : List α} {k0 k i : Int} (h : hdInv c g xs k0 k i) (hl : i < (xs.length : Int)) (d : α) (hg : g (xs.getD i.toNat d) k = false) : (-1 : Int) = if okL c g xs k0 = true then k0 + cellsL c xs else -1 := by
  obtain ⟨h1, h2, h3, h4⟩ := h
  have hi : i.toNat < xs.length := by omega
  have : okL c g xs k0 = false := by
    have e : xs = xs.take i.toNat ++ (xs.getD i.toNat d :: xs.drop (i.toNat + 1)) := by
      have hd : xs.drop i.toNat = xs.getD i.toNat d :: xs.drop (i.toNat + 1) := by
        rw [List.drop_eq_getElem_cons hi, List.getD_eq_getElem?_getD, List.getElem?_eq_getElem hi]; rfl
      rw [← hd, List.take_append_drop]
    rw [e, okL_append, h3, ← h4]
    show (true && (g (xs.getD i.toNat d) k && _)) = false
    rw [hg]; rfl
  rw [if_neg (by rw [this]; simp)]

/-- the law's last step: what was marked is found -/
theorem held_mark (t : Ty) (x : El t) (n : Int) : heldF t (markC t x n) n = n + cellsC t x := by
  unfold heldF; rw [if_pos (ok_mark t x n), cells_mark]
theorem heldV_mark (t : Ty) (x : El t) (n : Int) : heldVF t (markV t x n) n = n + cellsV t x := by
  unfold heldVF; rw [if_pos (okV_mark t x n), cellsV_mark]

/-- how many cells there may be -/
def Ty.wid : Ty → Nat
  | .slice e => e.wid
  | .pair a b => a.wid + b.wid
  | _ => 1
theorem cellsL_sz {α : Type} {c : α → Nat} {f : α → Int → Int} {W : Int} (hW : 0 ≤ W) (hle : ∀ x l, f x l ≤ l ∨ f x l < 0) (h : ∀ x l, 0 ≤ f x l → (c x : Int) ≤ W * (1 + (l - f x l))) :
    ∀ (xs : List α) (l : Int), 0 ≤ szL f xs l → (cellsL c xs : Int) ≤ W * (xs.length + (l - szL f xs l))
  | [], l, _ => by simp [cellsL, szL]
  | x :: xs, l, hs => by
    unfold szL at hs ⊢
    split at hs
    · omega
    · rename_i hn
      rw [if_neg hn]
      have h1 := h x l (by omega)
      have h2 := cellsL_sz hW hle h xs (f x l) hs
      have e : W * ((x :: xs).length + (l - szL f xs (f x l))) = W * (1 + (l - f x l)) + W * (xs.length + (f x l - szL f xs (f x l))) := by
        rw [← Int.mul_add]; congr 1; simp only [List.length_cons]; omega
      rw [e]
      show ((c x + cellsL c xs : Nat) : Int) ≤ _
      omega
theorem cells_sz : ∀ (t : Ty) (x : El t) (l : Int), 0 ≤ szF t x l → (cellsC t x : Int) ≤ (t.wid : Int) * (1 + (l - szF t x l))
  | .slice e, xs, l, h => by
    unfold szF at h ⊢
    split at h
    · omega
    · rename_i hn
      rw [if_neg hn]
      have := cellsL_sz (W := (e.wid : Int)) (by omega) (fun x l => szF_le e x l) (cells_sz e) xs _ h
      refine Int.le_trans this ?_
      refine Int.mul_le_mul_of_nonneg_left ?_ (by show (0 : Int) ≤ (e.wid : Int); omega)
      omega
  | .pair a b, x, l, h => by
    unfold szF at h ⊢
    split at h
    · omega
    · rename_i hn
      rw [if_neg hn]
      have h1 := cells_sz a x.1 l (by omega)
      have h2 := cells_sz b x.2 _ h
      have ha : szF a x.1 l ≤ l := (szF_le a x.1 l).resolve_right hn
      have hb : szF b x.2 (szF a x.1 l) ≤ szF a x.1 l := (szF_le b x.2 _).resolve_right (by omega)
      show ((cellsC a x.1 + cellsC b x.2 : Nat) : Int) ≤ ((a.wid + b.wid : Nat) : Int) * _
      have e1 : (a.wid : Int) * (1 + (l - szF a x.1 l)) ≤ (a.wid : Int) * (1 + (l - szF b x.2 (szF a x.1 l))) := Int.mul_le_mul_of_nonneg_left (by omega) (by omega)
      have e2 : (b.wid : Int) * (1 + (szF a x.1 l - szF b x.2 (szF a x.1 l))) ≤ (b.wid : Int) * (1 + (l - szF b x.2 (szF a x.1 l))) := Int.mul_le_mul_of_nonneg_left (by omega) (by omega)
      rw [Int.natCast_add, Int.natCast_add, Int.add_mul]
      omega
  | .arr _ _, _, l, _ => by show (0 : Int) ≤ 1 * (1 + (l - l)); omega
  | .int _, _, l, _ => by show (1 : Int) ≤ 1 * (1 + (l - l)); omega
  | .bool, _, l, _ => by show (1 : Int) ≤ 1 * (1 + (l - l)); omega
  | .str, x, l, _ => by show (1 : Int) ≤ 1 * (1 + (l - (l - x.length))); omega
theorem cellsV_le : ∀ (t : Ty) (x : El t), cellsV t x ≤ cellsC t x
  | .slice _, _ => Nat.le_refl _
  | .pair a b, x => Nat.add_le_add (cellsV_le a x.1) (cellsV_le b x.2)
  | .arr _ _, _ => Nat.zero_le _
  | .int _, _ => Nat.zero_le _
  | .bool, _ => Nat.zero_le _
  | .str, _ => Nat.zero_le _
/-- counted data may be marked from 1 on -/
theorem markPre_sz {t : Ty} {x : El t} {l : Int} (h : 0 ≤ szF t x l) (hl : l ≤ 1048576) (hw : t.wid ≤ 1000) : markPre t x 1 := by
  refine ⟨by omega, ?_⟩
  have h1 := cells_sz t x l h
  have h2 : (t.wid : Int) * (1 + (l - szF t x l)) ≤ 1000 * 1048577 := by
    refine Int.le_trans (Int.mul_le_mul_of_nonneg_right (b := 1000) (by omega) (by have := szF_le t x l; omega)) ?_
    omega
  unfold bnd; omega
theorem markPreV_sz {t : Ty} {x : El t} {l : Int} (h : 0 ≤ szF t x l) (hl : l ≤ 1048576) (hw : t.wid ≤ 1000) : markPreV t x 1 := by
  have := markPre_sz h hl hw
  have h2 := cellsV_le t x
  exact ⟨by omega, by have := this.2; omega⟩
/-- a row of flat elements -/
theorem cells_flat : ∀ (t : Ty) (x : El t), t.flat = true → cellsC t x ≤ t.wid
  | .slice _, _, h => by simp [Ty.flat] at h
  | .pair a b, x, h => by
    simp only [Ty.flat, Bool.and_eq_true] at h
    exact Nat.add_le_add (cells_flat a x.1 h.1) (cells_flat b x.2 h.2)
  | .arr _ _, _, _ => Nat.zero_le _
  | .int _, _, _ => Nat.le_refl _
  | .bool, _, _ => Nat.le_refl _
  | .str, _, _ => Nat.le_refl _
theorem cellsL_le {α : Type} {c : α → Nat} {w : Nat} (h : ∀ x, c x ≤ w) : ∀ (xs : List α), cellsL c xs ≤ w * xs.length
  | [] => by simp [cellsL]
  | x :: xs => by
    have := cellsL_le h xs
    have := h x
    show c x + cellsL c xs ≤ w * (xs.length + 1)
    rw [Nat.mul_add]; omega
theorem markPre_len {e : Ty} {xs : List (El e)} (hf : e.flat = true) (hw : e.wid ≤ 1000) (h : xs.length ≤ 1000000000000) : markPre (.slice e) xs 1 := by
  refine ⟨by omega, ?_⟩
  have h1 := cellsL_le (fun x => cells_flat e x hf) xs
  have h2 : e.wid * xs.length ≤ 1000 * 1000000000000 := Nat.mul_le_mul hw h
  show (1 : Int) + ((cellsL (cellsC e) xs : Nat) : Int) ≤ bnd
  unfold bnd; omega
theorem ok_ne {α : Type} [BEq α] {x y : α} (h : (x != y) = true) : (x == y) = false := by simpa [bne] using h
theorem ok_eq {α : Type} [BEq α] {x y : α} (h : (x != y) = false) : (x == y) = true := by simpa [bne] using h
theorem held_neg {t : Ty} {x : El t} {n : Int} (q : 0 ≤ n) (h : heldF t x n < 0) : okC t x n = false := by
  unfold heldF at h
  split at h
  · omega
  · rename_i hn; simpa using hn
theorem held_pos {t : Ty} {x : El t} {n : Int} (h : ¬ heldF t x n < 0) : okC t x n = true := by
  unfold heldF at h
  split at h
  · assumption
  · omega
theorem held_val {t : Ty} {x : El t} {n : Int} (h : ¬ heldF t x n < 0) : heldF t x n = n + ((cellsC t x : Nat) : Int) := by
  unfold heldF; rw [if_pos (held_pos h)]
theorem cellsLe (t : Ty) (x : El t) (l : Int) (h : 0 ≤ szF t x l) (hl : l ≤ 1048576) (hw : t.wid ≤ 1000) : ((cellsC t x : Nat) : Int) ≤ 2000000000 := by
  have h1 := markPre_sz h hl hw
  have h2 := cells_sz t x l h
  have h3 : (t.wid : Int) * (1 + (l - szF t x l)) ≤ 1000 * 1048577 := by
    refine Int.le_trans (Int.mul_le_mul_of_nonneg_right (b := 1000) (by omega) (by have := szF_le t x l; omega)) ?_
    omega
  omega
theorem cellsBig (e : Ty) (xs : List (El e)) (hf : e.flat = true) (hw : e.wid ≤ 1000) (h : xs.length ≤ 1000000000000) : ((cellsC (.slice e) xs : Nat) : Int) ≤ 1000000000000000 := by
  have h1 := cellsL_le (fun x => cells_flat e x hf) xs
  have h2 : e.wid * xs.length ≤ 1000 * 1000000000000 := Nat.mul_le_mul hw h
  show ((cellsL (cellsC e) xs : Nat) : Int) ≤ 1000000000000000
  omega
theorem orNe {α : Type} {x : α} {K : Int} (hk : 0 ≤ K) (h : pick2 (decide (K < 0)) true (!(eqC x x)) = true) : False := by
  have : decide (K < 0) = false := decide_eq_false (by omega)
  rw [this] at h
  exact ne_selfC h
theorem heldLt {t : Ty} {x : El t} {n : Int} (hn : 0 ≤ n) (h : heldF t (markC t x n) n < 0) : False := by
  rw [held_mark] at h; omega
theorem heldNe {t : Ty} {x : El t} {n : Int} (h : (heldF t (markC t x n) n != cntF t x n) = true) : False := by
  rw [held_mark, cntF_eq] at h; simp at h
theorem heldVLt {t : Ty} {x : El t} {n : Int} (hn : 0 ≤ n) (h : heldVF t (markV t x n) n < 0) : False := by
  rw [heldV_mark] at h; omega
theorem heldVNe {t : Ty} {x : El t} {n : Int} (h : (heldVF t (markV t x n) n != cntV t x n) = true) : False := by
  rw [heldV_mark, cntV_eq] at h; simp at h
theorem heldV_neg {t : Ty} {x : El t} {n : Int} (q : 0 ≤ n) (h : heldVF t x n < 0) : okV t x n = false := by
  unfold heldVF at h
  split at h
  · omega
  · rename_i hn; simpa using hn
theorem heldV_pos {t : Ty} {x : El t} {n : Int} (h : ¬ heldVF t x n < 0) : okV t x n = true := by
  unfold heldVF at h
  split at h
  · assumption
  · omega
theorem heldV_val {t : Ty} {x : El t} {n : Int} (h : ¬ heldVF t x n < 0) : heldVF t x n = n + ((cellsV t x : Nat) : Int) := by
  unfold heldVF; rw [if_pos (heldV_pos h)]
/-! the text of a count, digit by digit -/
def mtInv (n : Int) (x : Int) (s : List UInt8) : Prop := fsInv n s x ∧ 0 ≤ x
theorem mtStart {n : Int} (h : inR .i64 n) (g : ¬ n ≤ 0) : mtInv n n [] := ⟨⟨h, by simp⟩, by omega⟩
theorem mtDig {x : Int} (h : x > 0) : strOf [IntKind.u8.wrap (IntKind.i64.wrap (48 + x.tmod 10))] = [dgB x] := by
  have hb := tmod_bd x
  have h0 : 0 ≤ x.tmod 10 := Int.tmod_nonneg 10 (by omega)
  rw [w64 (by omega) (by omega)]
  have e : dgI x = x.tmod 10 := (dg_pos (by omega)).symm
  unfold dgB
  rw [e]
  have hu : IntKind.u8.wrap (48 + x.tmod 10) = 48 + x.tmod 10 := by
    have : ∀ m : Int, 0 ≤ m → m < 256 → IntKind.u8.wrap m = m := fun m h1 h2 => by
      simp [IntKind.wrap, IntKind.bits, IntKind.signed]
      omega
    exact this _ (by omega) (by omega)
  rw [hu]
  rfl
theorem mtLen {n x : Int} {s : List UInt8} (hn : inR .i64 n) (h : mtInv n x s) (k : Nat) (hk : k ≤ 10) : k + s.length ≤ bigLen := by
  have := fsBound hn h.1
  unfold bigLen; omega
theorem mtStep {n x : Int} {s s' : List UInt8} (h : mtInv n x s) (g : x > 0) (e : s' = [dgB x] ++ s) : mtInv n (IntKind.i64.wrap (x.tdiv 10)) s' ∧ (IntKind.i64.wrap (x.tdiv 10)).natAbs < x.natAbs := by
  obtain ⟨e1, e2⟩ := tdiv_in h.1.1
  rw [e1]
  refine ⟨⟨⟨e2, ?_⟩, Int.tdiv_nonneg (by omega) (by decide)⟩, natAbs_tdiv x (by omega)⟩
  rw [h.1.2, digs_ne (by omega : x ≠ 0), e, List.append_assoc]
theorem text0 {n : Int} (h : n ≤ 0) : [109, 48] = textF n := by unfold textF; rw [if_pos h]
theorem text1 {n x : Int} {s : List UInt8} (h : mtInv n x s) (g : ¬ n ≤ 0) (hx : ¬ x > 0) : [109] ++ s = textF n := by
  have : x = 0 := by have := h.2; omega
  unfold textF
  rw [if_neg g, h.1.2, this, digs_zero]; rfl
end Fw
