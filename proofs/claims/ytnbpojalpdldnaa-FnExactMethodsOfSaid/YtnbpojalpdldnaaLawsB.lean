/- Plain laws about reading, copying and comparing data of any type. Conditions: none. -/
import Derived.Test.YtnbpojalpdldnaaLaws
namespace Fw
open Go

theorem w64 {x : Int} (h1 : -9223372036854775808 ≤ x) (h2 : x ≤ 9223372036854775807) : IntKind.i64.wrap x = x := by
  rw [IntKind.wrap_i64]; omega

/-- all slices in it have at most n elements -/
def Sm (n : Nat) : (t : Ty) → El t → Prop
  | .slice e, xs => xs.length ≤ n ∧ ∀ x ∈ xs, Sm n e x
  | .pair a b, x => Sm n a x.1 ∧ Sm n b x.2
  | _, _ => True
def big20 : Nat := 1048576

/-- what the laws count -/
def szL {α : Type} (f : α → Int → Int) : List α → Int → Int
  | [], l => l
  | x :: xs, l => if f x l < 0 then -1 else szL f xs (f x l)
def szF : (t : Ty) → El t → Int → Int
  | .slice e, xs, l => if l - xs.length < 0 then -1 else szL (szF e) xs (l - xs.length)
  | .pair a b, x, l => if szF a x.1 l < 0 then -1 else szF b x.2 (szF a x.1 l)
  | .str, x, l => l - x.length
  | _, _, l => l

theorem szL_le {α : Type} {f : α → Int → Int} (hf : ∀ x l, f x l ≤ l ∨ f x l < 0) : ∀ (xs : List α) (l : Int), szL f xs l ≤ l ∨ szL f xs l < 0
  | [], l => .inl (Int.le_refl _)
  | x :: xs, l => by
    unfold szL
    split
    · right; omega
    · rcases szL_le hf xs (f x l) with h | h
      · rcases hf x l with h' | h'
        · left; omega
        · omega
      · right; exact h
theorem szF_le : ∀ (t : Ty) (x : El t) (l : Int), szF t x l ≤ l ∨ szF t x l < 0
  | .int _, _, l => .inl (Int.le_refl _)
  | .bool, _, l => .inl (Int.le_refl _)
  | .str, x, l => .inl (by show l - _ ≤ l; omega)
  | .arr _ _, _, l => .inl (Int.le_refl _)
  | .slice e, xs, l => by
    unfold szF
    split
    · right; omega
    · rcases szL_le (fun x l => szF_le e x l) xs (l - xs.length) with h | h
      · left; omega
      · right; exact h
  | .pair a b, x, l => by
    unfold szF
    split
    · right; omega
    · rcases szF_le b x.2 (szF a x.1 l) with h | h
      · rcases szF_le a x.1 l with h' | h'
        · left; omega
        · omega
      · right; exact h

theorem szL_sm {α : Type} {f : α → Int → Int} {p : α → Prop} {m : Int} (hle : ∀ x l, f x l ≤ l ∨ f x l < 0) (hf : ∀ x l, l ≤ m → 0 ≤ f x l → p x) : ∀ (xs : List α) (l : Int), l ≤ m → 0 ≤ szL f xs l → ∀ x ∈ xs, p x
  | [], _, _, _, x, hx => by simp at hx
  | y :: xs, l, hl, h, x, hx => by
    unfold szL at h
    split at h
    · omega
    · rename_i hn
      rcases List.mem_cons.1 hx with rfl | hx
      · exact hf x l hl (by omega)
      · exact szL_sm hle hf xs (f y l) (by rcases hle y l with h' | h' <;> omega) h x hx
/-- what is counted and found small is small -/
theorem szF_sm {n : Nat} : ∀ (t : Ty) (x : El t) (l : Int), l ≤ n → 0 ≤ szF t x l → Sm n t x
  | .int _, _, _, _, _ => trivial
  | .bool, _, _, _, _ => trivial
  | .str, _, _, _, _ => trivial
  | .arr _ _, _, _, _, _ => trivial
  | .slice e, xs, l, hl, h => by
    unfold szF at h
    split at h
    · omega
    · exact ⟨by omega, szL_sm (m := n) (fun x l => szF_le e x l) (fun x l => szF_sm e x l) xs _ (by omega) h⟩
  | .pair a b, x, l, hl, h => by
    unfold szF at h
    split at h
    · omega
    · exact ⟨szF_sm a x.1 l hl (by omega), szF_sm b x.2 _ (by rcases szF_le a x.1 l with h' | h' <;> omega) h⟩

/-- data that hold no slice and no string are not counted -/
theorem szL_id {α : Type} {f : α → Int → Int} (hf : ∀ x l, 0 ≤ l → f x l = l) : ∀ (xs : List α) (l : Int), 0 ≤ l → szL f xs l = l
  | [], _, _ => rfl
  | x :: xs, l, h => by unfold szL; rw [hf x l h, if_neg (by omega)]; exact szL_id hf xs l h
def plainT : Ty → Bool
  | .pair a b => plainT a && plainT b
  | .slice _ => false
  | .str => false
  | _ => true
theorem szF_id : ∀ (t : Ty), plainT t = true → ∀ (x : El t) (l : Int), 0 ≤ l → szF t x l = l := by
  intro t
  induction t with
  | pair a b iha ihb =>
    intro h x l hl
    simp only [plainT, Bool.and_eq_true] at h
    show (if szF a x.1 l < 0 then -1 else szF b x.2 (szF a x.1 l)) = l
    rw [iha h.1 x.1 l hl, if_neg (by omega), ihb h.2 x.2 l hl]
  | slice e => intro h; cases h
  | str => intro h; cases h
  | _ => intro _ x l _; rfl
theorem szF_pair (a b : Ty) (x : El a × El b) (l : Int) : szF (.pair a b) x l = if szF a x.1 l < 0 then -1 else szF b x.2 (szF a x.1 l) := rfl
theorem szF_int (k : IntKind) (x : Int) (l : Int) : szF (.int k) x l = l := rfl
theorem szF_bool (x : Bool) (l : Int) : szF .bool x l = l := rfl
def szM : Ty → Bool
  | .pair a b => szM a && szM b
  | .str => false
  | _ => true
theorem szL_m1 {α : Type} {f : α → Int → Int} : ∀ (xs : List α) (l : Int), 0 ≤ l → szL f xs l = -1 ∨ 0 ≤ szL f xs l
  | [], l, h => .inr h
  | x :: xs, l, h => by
    unfold szL
    split
    · exact .inl rfl
    · exact szL_m1 xs _ (by omega)
theorem szF_m1 : ∀ (t : Ty), szM t = true → ∀ (x : El t) (l : Int), 0 ≤ l → szF t x l = -1 ∨ 0 ≤ szF t x l := by
  intro t
  induction t with
  | pair a b iha ihb =>
    intro h x l hl
    simp only [szM, Bool.and_eq_true] at h
    show (if szF a x.1 l < 0 then -1 else szF b x.2 (szF a x.1 l)) = -1 ∨ 0 ≤ (if szF a x.1 l < 0 then -1 else szF b x.2 (szF a x.1 l))
    split
    · exact .inl rfl
    · exact ihb h.2 x.2 _ (by omega)
  | slice e =>
    intro _ x l hl
    show (if l - List.length x < 0 then -1 else szL (szF e) x (l - List.length x)) = -1 ∨ 0 ≤ (if l - List.length x < 0 then -1 else szL (szF e) x (l - List.length x))
    split
    · exact .inl rfl
    · exact szL_m1 x _ (by omega)
  | str => intro h; cases h
  | _ => intro _ x l hl; exact .inr hl
theorem szSpine (x y : Int) (h : x = y) : y = x := h.symm
def szPre {α : Type} (_ : α) (l : Int) : Prop := 0 ≤ l ∧ l ≤ big20
theorem mkSmall {n : Nat} (h : n ≤ big20) : (n : Int) ≤ (maxNew : Int) := by unfold big20 at h; unfold maxNew; omega
theorem subW {l : Int} {n : Nat} (h : 0 ≤ l ∧ l ≤ big20) (hn : n ≤ bigLen) : IntKind.i64.wrap (l - (n : Int)) = l - (n : Int) := by
  unfold big20 at h; unfold bigLen at hn; exact w64 (by omega) (by omega)


/-- equal, as the laws ask -/
noncomputable def eqC {α : Type} (x y : α) : Bool := @decide (x = y) (Classical.propDecidable _)
theorem eqC_iff {α : Type} {x y : α} : eqC x y = true ↔ x = y := by unfold eqC; simp
theorem eqC_self {α : Type} (x : α) : eqC x x = true := eqC_iff.2 rfl
theorem eqC_no {α : Type} {x y : α} (h : x = y → False) : false = eqC x y := by
  cases he : eqC x y with
  | false => rfl
  | true => exact (h (eqC_iff.1 he)).elim
theorem eqC_yes {α : Type} {x y : α} (h : x = y) : true = eqC x y := (eqC_iff.2 h).symm
theorem notC {α : Type} {x y : α} (h : (!(eqC x y)) = false) : x = y := eqC_iff.1 (by simpa using h)
theorem bneI {x y : Int} (h : (x != y) = false) : x = y := by simpa using h
theorem lenEq {m n : Nat} (h : ((m : Int) != (n : Int)) = false) : m = n := by
  have : (m : Int) = (n : Int) := bneI h
  omega
theorem bneB {x y : Bool} (h : (x != y) = false) : x = y := by simpa using h
theorem bneS {x y : List UInt8} (h : (x != y) = false) : x = y := by simpa using h
theorem notE {t : Ty} {x y : El t} (h : (!(El.eq t x y)) = false) (hc : t.cmp = true) : x = y := by
  have key : ∀ (t : Ty) (x y : El t), t.cmp = true → El.eq t x y = true → x = y := by
    intro t
    induction t with
    | int k => intro x y _ h; exact of_decide_eq_true (by simpa [El.eq] using h)
    | bool => intro x y _ h; simpa [El.eq] using h
    | str => intro x y _ h; simpa [El.eq] using h
    | slice e => intro x y h; simp [Ty.cmp] at h
    | arr m e => intro x y h; simp [Ty.cmp] at h
    | pair a b iha ihb =>
      intro x y hc h
      simp only [Ty.cmp, Bool.and_eq_true] at hc
      simp only [El.eq, Bool.and_eq_true] at h
      exact Prod.ext (iha x.1 y.1 hc.1 h.1) (ihb x.2 y.2 hc.2 h.2)
  exact key t x y hc (by simpa using h)
theorem El.eq_self : ∀ (t : Ty) (x : El t), t.cmp = true → El.eq t x x = true := by
  intro t
  induction t with
  | int k => intro x _; simp [El.eq]
  | bool => intro x _; simp [El.eq]
  | str => intro x _; simp [El.eq]
  | slice e => intro x h; simp [Ty.cmp] at h
  | arr m e => intro x h; simp [Ty.cmp] at h
  | pair a b iha ihb =>
    intro x hc
    simp only [Ty.cmp, Bool.and_eq_true] at hc
    simp only [El.eq, Bool.and_eq_true]
    exact ⟨iha x.1 hc.1, ihb x.2 hc.2⟩

/-! ### Copying element by element -/
def toInv {α : Type} (a : List α) (z : α) (ys : List α) (i : Int) : Prop := ∃ k : Nat, k ≤ a.length ∧ i = k ∧ ys = a.take k ++ List.replicate (a.length - k) z
theorem toStart {α : Type} {a : List α} {z : α} : toInv a z (List.replicate (a.length : Int).toNat z) 0 := ⟨0, Nat.zero_le _, rfl, by simp⟩
theorem toStep {α : Type} {a : List α} {z d : α} {ys : List α} {i : Int} (h : toInv a z ys i) (hl : i < a.length) (hb : a.length ≤ bigLen) :
    toInv a z (ys.set i.toNat (a.getD i.toNat d)) (IntKind.i64.wrap (i + 1)) := by
  obtain ⟨k, hk, rfl, rfl⟩ := h
  have hk' : k < a.length := by omega
  refine ⟨k + 1, hk', ?_, ?_⟩
  · unfold bigLen at hb; rw [w64 (by omega) (by omega)]; omega
  · have e1 : ((k : Int)).toNat = k := by omega
    rw [e1]
    have e2 : a.length - k = (a.length - (k + 1)) + 1 := by omega
    rw [e2, List.replicate_succ, List.set_append_right _ _ (by simp; omega)]
    have e3 : k - (List.take k a).length = 0 := by simp; omega
    rw [e3, List.set_cons_zero]
    rw [List.getD_eq_getElem?_getD, List.getElem?_eq_getElem hk']
    rw [Option.getD_some, List.take_succ_eq_append_getElem hk', List.append_assoc]
    rfl
theorem toEnd {α : Type} {a : List α} {z : α} {ys : List α} {i : Int} (h : toInv a z ys i) (hl : ¬ i < a.length) : ys = a := by
  obtain ⟨k, hk, rfl, rfl⟩ := h
  have : k = a.length := by omega
  subst this; simp
theorem toMu {α : Type} {a : List α} {z : α} {ys : List α} {i : Int} (h : toInv a z ys i) (hl : i < a.length) (hb : a.length ≤ bigLen) : (a.length - (IntKind.i64.wrap (i + 1))).toNat < (a.length - i).toNat := by
  obtain ⟨k, hk, rfl, rfl⟩ := h
  unfold bigLen at hb; rw [w64 (by omega) (by omega)]; omega
theorem toRange {α : Type} {a : List α} {z : α} {ys : List α} {i : Int} (h : toInv a z ys i) (hl : i < a.length) : inRange i a.length ∧ inRange i ys.length := by
  obtain ⟨k, hk, rfl, rfl⟩ := h
  unfold inRange; simp; omega
theorem toElem {α : Type} {a : List α} {z d : α} {ys : List α} {i : Int} (h : toInv a z ys i) (hl : i < a.length) : a.getD i.toNat d ∈ a := by
  obtain ⟨k, hk, rfl, rfl⟩ := h
  have : ((k : Int)).toNat < a.length := by omega
  rw [List.getD_eq_getElem?_getD, List.getElem?_eq_getElem this]
  simp

/-! ### Counting -/
def upInv {α : Type} (a : List α) (i : Int) : Prop := ∃ k : Nat, k ≤ a.length ∧ i = k
theorem upStart {α : Type} {a : List α} : upInv a 0 := ⟨0, Nat.zero_le _, rfl⟩
theorem upStep {α : Type} {a : List α} {i : Int} (h : upInv a i) (hl : i < a.length) (hb : a.length ≤ bigLen) : upInv a (IntKind.i64.wrap (i + 1)) ∧ IntKind.i64.wrap (i + 1) = i + 1 ∧ (a.length - (IntKind.i64.wrap (i + 1))).toNat < (a.length - i).toNat := by
  obtain ⟨k, hk, rfl⟩ := h
  unfold bigLen at hb
  rw [w64 (by omega) (by omega)]
  exact ⟨⟨k + 1, by omega, by omega⟩, rfl, by omega⟩
theorem upRange {α : Type} {a : List α} {i : Int} (h : upInv a i) (hl : i < a.length) : inRange i a.length := by
  obtain ⟨k, hk, rfl⟩ := h
  unfold inRange; omega
theorem upElem {α : Type} {a : List α} {d : α} {i : Int} (h : upInv a i) (hl : i < a.length) : a.getD i.toNat d ∈ a := by
  obtain ⟨k, hk, rfl⟩ := h
  have : ((k : Int)).toNat < a.length := by omega
  rw [List.getD_eq_getElem?_getD, List.getElem?_eq_getElem this]
  simp
theorem drop_cons {α : Type} {a : List α} {d : α} {i : Int} (h : upInv a i) (hl : i < a.length) : a.drop i.toNat = a.getD i.toNat d :: a.drop (i + 1).toNat := by
  obtain ⟨k, hk, rfl⟩ := h
  have h1 : ((k : Int)).toNat = k := by omega
  have h2 : ((k : Int) + 1).toNat = k + 1 := by omega
  rw [h1, h2, List.drop_eq_getElem_cons (by omega), List.getD_eq_getElem?_getD, List.getElem?_eq_getElem (by omega)]
  rfl
theorem take_snoc {α : Type} {a : List α} {d : α} {i : Int} (h : upInv a i) (hl : i < a.length) : a.take (i + 1).toNat = a.take i.toNat ++ [a.getD i.toNat d] := by
  obtain ⟨k, hk, rfl⟩ := h
  have h1 : ((k : Int)).toNat = k := by omega
  have h2 : ((k : Int) + 1).toNat = k + 1 := by omega
  rw [h1, h2, List.take_succ_eq_append_getElem (by omega), List.getD_eq_getElem?_getD, List.getElem?_eq_getElem (by omega)]
  rfl
theorem up_end {α : Type} {a : List α} {i : Int} (h : upInv a i) (hl : ¬ i < a.length) : i.toNat = a.length := by
  obtain ⟨k, hk, rfl⟩ := h; omega
/-- what is left to be counted -/
def szInv {α : Type} (f : α → Int → Int) (a : List α) (l0 : Int) (l i : Int) : Prop := upInv a i ∧ 0 ≤ l ∧ l ≤ big20 ∧ szL f a l0 = szL f (a.drop i.toNat) l
theorem szStart {α : Type} {f : α → Int → Int} {a : List α} {l : Int} (h : 0 ≤ l) (h' : l ≤ big20) : szInv f a l l 0 := ⟨upStart, h, h', rfl⟩
theorem szStep {α : Type} {f : α → Int → Int} {a : List α} {l0 l i : Int} {d : α} (h : szInv f a l0 l i) (hle : ∀ x l, f x l ≤ l ∨ f x l < 0) (hl : i < a.length) (hb : a.length ≤ bigLen) :
    (f (a.getD i.toNat d) l < 0 → szL f a l0 = -1) ∧ (¬ f (a.getD i.toNat d) l < 0 → szInv f a l0 (f (a.getD i.toNat d) l) (IntKind.i64.wrap (i + 1))) := by
  obtain ⟨h1, h2, h3, h4⟩ := h
  rw [drop_cons (d := d) h1 hl] at h4
  have h4 : szL f a l0 = if f (a.getD i.toNat d) l < 0 then -1 else szL f (a.drop (i + 1).toNat) (f (a.getD i.toNat d) l) := h4
  refine ⟨fun hn => by rw [h4, if_pos hn], fun hn => ?_⟩
  rw [if_neg hn] at h4
  obtain ⟨u1, u2, _⟩ := upStep h1 hl hb
  refine ⟨u1, by omega, by rcases hle (a.getD i.toNat d) l with h' | h' <;> omega, ?_⟩
  rw [u2]; exact h4
theorem szEnd {α : Type} {f : α → Int → Int} {a : List α} {l0 l i : Int} (h : szInv f a l0 l i) (hl : ¬ i < a.length) : szL f a l0 = l := by
  obtain ⟨h1, h2, h3, h4⟩ := h
  rw [up_end h1 hl] at h4
  simpa [szL] using h4
/-- alike so far -/
def eqInv {α : Type} (a b : List α) (i : Int) : Prop := upInv a i ∧ a.length = b.length ∧ a.take i.toNat = b.take i.toNat
theorem eqStart {α : Type} {a b : List α} (h : a.length = b.length) : eqInv a b 0 := ⟨upStart, h, rfl⟩
theorem eqStep {α : Type} {a b : List α} {d : α} {i : Int} (h : eqInv a b i) (hl : i < a.length) (hb : a.length ≤ bigLen) (he : a.getD i.toNat d = b.getD i.toNat d) : eqInv a b (IntKind.i64.wrap (i + 1)) := by
  obtain ⟨h1, h2, h3⟩ := h
  obtain ⟨u1, u2, _⟩ := upStep h1 hl hb
  refine ⟨u1, h2, ?_⟩
  have hb1 : upInv b i := by obtain ⟨k, hk, rfl⟩ := h1; exact ⟨k, by omega, rfl⟩
  rw [u2, take_snoc (d := d) h1 hl, take_snoc (d := d) hb1 (by omega), h3, he]
theorem eqNo {α : Type} {a b : List α} {d : α} {i : Int} (he : a.getD i.toNat d = b.getD i.toNat d → False) : false = eqC a b := eqC_no fun e => he (by rw [e])
theorem eqEnd {α : Type} {a b : List α} {i : Int} (h : eqInv a b i) (hl : ¬ i < a.length) : a = b := by
  obtain ⟨h1, h2, h3⟩ := h
  have e := up_end h1 hl
  rw [e, List.take_length] at h3
  rw [h3, h2, List.take_length]
theorem eqRange {α : Type} {a b : List α} {i : Int} (h : eqInv a b i) (hl : i < a.length) : inRange i a.length ∧ inRange i b.length := by
  obtain ⟨⟨k, hk, rfl⟩, h2, _⟩ := h
  unfold inRange; omega
end Fw
