/- The data that the framework's contracts speak of: types, their values, and how memory encodes them. Conditions: none. -/
import Derived.Below
import Derived.Laws.Sem
import Derived.Laws.World
namespace Fw
open Go

inductive Ty where
  | int (k : IntKind) | bool | str | slice (e : Ty) | pair (a b : Ty) | arr (n : Nat) (e : Ty)
  deriving DecidableEq

@[reducible] def El : Ty → Type
  | .int _ => Int
  | .bool => Bool
  | .str => List UInt8
  | .slice e => List (El e)
  | .pair a b => El a × El b
  | .arr _ e => List (El e)

def Ty.size : Ty → Nat
  | .pair a b => a.size + b.size
  | .arr n e => n * e.size
  | _ => 1

/-- no memory behind the cells -/
def Ty.flat : Ty → Bool
  | .slice _ => false
  | .pair a b => a.flat && b.flat
  | .arr _ e => e.flat
  | _ => true

def dflt : (t : Ty) → El t
  | .int _ => (0 : Int)
  | .bool => false
  | .str => []
  | .slice _ => []
  | .pair a b => (dflt a, dflt b)
  | .arr n e => List.replicate n (dflt e)

abbrev Mem := Nat → Nat → Option Value
def Mem.le (M M' : Mem) : Prop := ∀ b o v, M b o = some v → M' b o = some v
theorem Mem.le_refl (M : Mem) : M.le M := fun _ _ _ h => h
theorem Mem.le_trans {M M' M'' : Mem} (h : M.le M') (h' : M'.le M'') : M.le M'' := fun b o v x => h' b o v (h b o v x)

def bigLen : Nat := 9223372036854775807

/-- the n cells from o on in block b -/
def CellsAt (M : Mem) (b o : Nat) (cs : List Value) : Prop := ∀ j c, cs[j]? = some c → M b (o + j) = some c
theorem CellsAt.mono {M M' : Mem} (h : M.le M') {b o : Nat} {cs : List Value} (hc : CellsAt M b o cs) : CellsAt M' b o cs :=
  fun j c hj => h _ _ _ (hc j c hj)

def SliceAt {α : Type} (M : Mem) (p : List Value → α → Prop) (sz b : Nat) : Nat → List α → Prop
  | _, [] => True
  | o, x :: xs => (∃ cs, cs.length = sz ∧ CellsAt M b o cs ∧ p cs x) ∧ SliceAt M p sz b (o + sz) xs

/-- consecutive groups of sz cells encode the elements -/
def Groups {α : Type} (p : List Value → α → Prop) (sz : Nat) : List Value → List α → Prop
  | vs, [] => vs = []
  | vs, x :: xs => ∃ v1 v2, vs = v1 ++ v2 ∧ v1.length = sz ∧ p v1 x ∧ Groups p sz v2 xs

def inR (k : IntKind) (n : Int) : Prop := k.min ≤ n ∧ n ≤ k.max

/-- the cells vs encode x, with memory M behind them -/
def Enc (M : Mem) : (t : Ty) → List Value → El t → Prop
  | .int k, vs, x => vs = [.int k x] ∧ inR k x
  | .bool, vs, x => vs = [.bool x]
  | .str, vs, x => vs = [.string ⟨x.toArray⟩] ∧ x.length ≤ bigLen
  | .slice e, vs, xs => ∃ a cap, vs = [.slice a xs.length cap] ∧ xs.length ≤ cap ∧ cap ≤ bigLen ∧
      match a with
      | none => cap = 0
      | some a => (a.spot = none ∨ cap = 0) ∧ SliceAt M (Enc M e) e.size a.block a.off xs
  | .pair a b, vs, x => ∃ v1 v2, vs = v1 ++ v2 ∧ Enc M a v1 x.1 ∧ Enc M b v2 x.2
  | .arr n e, vs, xs => xs.length = n ∧ Groups (Enc M e) e.size vs xs

theorem SliceAt.imp {α : Type} {M M' : Mem} {p q : List Value → α → Prop} {sz b : Nat} (hM : M.le M') :
    ∀ (xs : List α) (o : Nat), (∀ x ∈ xs, ∀ cs, p cs x → q cs x) → SliceAt M p sz b o xs → SliceAt M' q sz b o xs
  | [], _, _, _ => trivial
  | x :: xs, o, h, ⟨⟨cs, h1, h2, h3⟩, h4⟩ =>
    ⟨⟨cs, h1, h2.mono hM, h x (by simp) cs h3⟩, SliceAt.imp hM xs (o + sz) (fun y hy => h y (by simp [hy])) h4⟩
theorem Groups.imp {α : Type} {p q : List Value → α → Prop} {sz : Nat} :
    ∀ (xs : List α) (vs : List Value), (∀ x ∈ xs, ∀ cs, p cs x → q cs x) → Groups p sz vs xs → Groups q sz vs xs
  | [], _, _, h => h
  | x :: xs, vs, h, ⟨v1, v2, h1, h2, h3, h4⟩ => ⟨v1, v2, h1, h2, h x (by simp) v1 h3, Groups.imp xs v2 (fun y hy => h y (by simp [hy])) h4⟩
theorem Groups.length {α : Type} {p : List Value → α → Prop} {sz : Nat} :
    ∀ (xs : List α) (vs : List Value), Groups p sz vs xs → vs.length = xs.length * sz
  | [], vs, h => by cases h; simp
  | x :: xs, vs, ⟨v1, v2, h1, h2, h3, h4⟩ => by
    subst h1; simp [Groups.length xs v2 h4, h2, Nat.add_mul]; omega
theorem Groups.get {α : Type} {p : List Value → α → Prop} {sz : Nat} :
    ∀ (xs : List α) (vs : List Value) (i : Nat) (x : α), Groups p sz vs xs → xs[i]? = some x → p ((vs.drop (i * sz)).take sz) x
  | [], _, _, _, _, hi => by simp at hi
  | y :: xs, vs, 0, x, ⟨v1, v2, h1, h2, h3, h4⟩, hi => by
    subst h1; simp at hi; subst hi; simp [← h2, h3]
  | y :: xs, vs, i + 1, x, ⟨v1, v2, h1, h2, h3, h4⟩, hi => by
    subst h1
    have := Groups.get xs v2 i x h4 (by simpa using hi)
    rwa [Nat.add_mul, Nat.one_mul, Nat.add_comm, ← List.drop_drop, ← h2, List.drop_left, h2]
theorem Groups.append {α : Type} {p : List Value → α → Prop} {sz : Nat} :
    ∀ (xs ys : List α) (vs ws : List Value), Groups p sz vs xs → Groups p sz ws ys → Groups p sz (vs ++ ws) (xs ++ ys)
  | [], _, _, _, h, h' => by cases h; simpa using h'
  | x :: xs, ys, vs, ws, ⟨v1, v2, h1, h2, h3, h4⟩, h' => by
    subst h1
    exact ⟨v1, v2 ++ ws, by simp, h2, h3, Groups.append xs ys v2 ws h4 h'⟩
theorem Groups.split {α : Type} {p : List Value → α → Prop} {sz : Nat} :
    ∀ (xs ys : List α) (vs : List Value), Groups p sz vs (xs ++ ys) → ∃ v1 v2, vs = v1 ++ v2 ∧ Groups p sz v1 xs ∧ Groups p sz v2 ys
  | [], _, vs, h => ⟨[], vs, rfl, rfl, h⟩
  | x :: xs, ys, vs, ⟨v1, v2, h1, h2, h3, h4⟩ => by
    obtain ⟨u1, u2, e, g1, g2⟩ := Groups.split xs ys v2 h4
    exact ⟨v1 ++ u1, u2, by rw [h1, e, List.append_assoc], ⟨v1, u1, rfl, h2, h3, g1⟩, g2⟩

theorem Enc.mono {M M' : Mem} (hM : M.le M') : ∀ (t : Ty) (vs : List Value) (x : El t), Enc M t vs x → Enc M' t vs x
  | .int _, _, _, h => h
  | .bool, _, _, h => h
  | .str, _, _, h => h
  | .slice e, vs, xs, h => by
    obtain ⟨a, cap, h1, h2, h3, h4⟩ := h
    refine ⟨a, cap, h1, h2, h3, ?_⟩
    cases a with
    | none => exact h4
    | some a => exact ⟨h4.1, SliceAt.imp hM xs _ (fun x _ cs => Enc.mono hM e cs x) h4.2⟩
  | .pair a b, vs, x, ⟨v1, v2, h1, h2, h3⟩ => ⟨v1, v2, h1, Enc.mono hM a _ _ h2, Enc.mono hM b _ _ h3⟩
  | .arr n e, vs, xs, ⟨h1, h2⟩ => ⟨h1, Groups.imp xs vs (fun x _ cs => Enc.mono hM e cs x) h2⟩

theorem Enc.length {M : Mem} : ∀ (t : Ty) (vs : List Value) (x : El t), Enc M t vs x → vs.length = t.size
  | .int _, _, _, h => by rw [h.1]; rfl
  | .bool, _, _, h => by rw [show _ = _ from h]; rfl
  | .str, _, _, h => by rw [h.1]; rfl
  | .slice e, vs, xs, ⟨a, cap, h, _⟩ => by rw [h]; rfl
  | .pair a b, vs, x, ⟨v1, v2, h1, h2, h3⟩ => by
    rw [h1, List.length_append, Enc.length a _ _ h2, Enc.length b _ _ h3]; rfl
  | .arr n e, vs, xs, ⟨h1, h2⟩ => by rw [Groups.length _ _ h2, h1]; rfl

/-- without memory behind, any memory serves -/
theorem Enc.flat {M M' : Mem} : ∀ (t : Ty) (vs : List Value) (x : El t), t.flat = true → Enc M t vs x → Enc M' t vs x
  | .int _, _, _, _, h => h
  | .bool, _, _, _, h => h
  | .str, _, _, _, h => h
  | .slice e, _, _, hf, _ => by simp [Ty.flat] at hf
  | .pair a b, vs, x, hf, ⟨v1, v2, h1, h2, h3⟩ => by
    simp [Ty.flat] at hf
    exact ⟨v1, v2, h1, Enc.flat a _ _ hf.1 h2, Enc.flat b _ _ hf.2 h3⟩
  | .arr n e, vs, xs, hf, ⟨h1, h2⟩ => ⟨h1, Groups.imp xs vs (fun x _ cs => Enc.flat e cs x (by simpa [Ty.flat] using hf)) h2⟩

theorem SliceAt.get {α : Type} {M : Mem} {p : List Value → α → Prop} {sz b : Nat} :
    ∀ (xs : List α) (o i : Nat) (x : α), SliceAt M p sz b o xs → xs[i]? = some x → ∃ cs, cs.length = sz ∧ CellsAt M b (o + i * sz) cs ∧ p cs x
  | [], _, _, _, _, hi => by simp at hi
  | y :: xs, o, 0, x, ⟨h, _⟩, hi => by
    simp at hi; subst hi; simpa using h
  | y :: xs, o, i + 1, x, ⟨_, h⟩, hi => by
    have := SliceAt.get xs (o + sz) i x h (by simpa using hi)
    rwa [show o + (i + 1) * sz = o + sz + i * sz by rw [Nat.add_mul]; omega]
theorem SliceAt.drop {α : Type} {M : Mem} {p : List Value → α → Prop} {sz b : Nat} :
    ∀ (xs : List α) (o i : Nat), SliceAt M p sz b o xs → SliceAt M p sz b (o + i * sz) (xs.drop i)
  | xs, o, 0, h => by simpa using h
  | [], o, i + 1, h => trivial
  | y :: xs, o, i + 1, ⟨_, h⟩ => by
    have := SliceAt.drop xs (o + sz) i h
    rwa [show o + (i + 1) * sz = o + sz + i * sz by rw [Nat.add_mul]; omega]
theorem SliceAt.take {α : Type} {M : Mem} {p : List Value → α → Prop} {sz b : Nat} :
    ∀ (xs : List α) (o i : Nat), SliceAt M p sz b o xs → SliceAt M p sz b o (xs.take i)
  | xs, o, 0, h => by simp [SliceAt]
  | [], o, i + 1, h => trivial
  | y :: xs, o, i + 1, ⟨h1, h⟩ => ⟨h1, SliceAt.take xs (o + sz) i h⟩
theorem SliceAt.append {α : Type} {M : Mem} {p : List Value → α → Prop} {sz b : Nat} :
    ∀ (xs ys : List α) (o : Nat), SliceAt M p sz b o xs → SliceAt M p sz b (o + xs.length * sz) ys → SliceAt M p sz b o (xs ++ ys)
  | [], ys, o, _, h => by simpa using h
  | x :: xs, ys, o, ⟨h1, h2⟩, h => ⟨h1, SliceAt.append xs ys (o + sz) h2 (by
      rwa [show o + sz + xs.length * sz = o + (x :: xs).length * sz by simp [Nat.add_mul]; omega])⟩
/-- groups of cells that lie in memory are a slice's elements -/
theorem SliceAt.ofGroups {α : Type} {M : Mem} {p : List Value → α → Prop} {sz b : Nat} :
    ∀ (xs : List α) (o : Nat) (vs : List Value), Groups p sz vs xs → CellsAt M b o vs → SliceAt M p sz b o xs
  | [], _, _, _, _ => trivial
  | x :: xs, o, vs, ⟨v1, v2, h1, h2, h3, h4⟩, hc => by
    subst h1
    refine ⟨⟨v1, h2, fun j c hj => hc j c ?_, h3⟩, SliceAt.ofGroups xs (o + sz) v2 h4 fun j c hj => ?_⟩
    · have := List.getElem?_eq_some_iff.1 hj |>.1
      rw [List.getElem?_append_left this]; exact hj
    · have := hc (sz + j) c (by rw [List.getElem?_append_right (by omega)]; simpa [h2] using hj)
      rwa [Nat.add_assoc]
/-- the cells of a slice's elements -/
theorem SliceAt.groups {α : Type} {M : Mem} {p : List Value → α → Prop} {sz b : Nat} :
    ∀ (xs : List α) (o : Nat), SliceAt M p sz b o xs → ∃ vs, Groups p sz vs xs ∧ CellsAt M b o vs
  | [], _, _ => ⟨[], rfl, fun j c hj => by simp at hj⟩
  | x :: xs, o, ⟨⟨cs, h1, h2, h3⟩, h⟩ => by
    obtain ⟨vs, g1, g2⟩ := SliceAt.groups xs (o + sz) h
    refine ⟨cs ++ vs, ⟨cs, vs, rfl, h1, h3, g1⟩, fun j c hj => ?_⟩
    rcases Nat.lt_or_ge j cs.length with hl | hl
    · rw [List.getElem?_append_left hl] at hj; exact h2 j c hj
    · rw [List.getElem?_append_right hl] at hj
      have := g2 (j - cs.length) c hj
      rwa [show o + sz + (j - cs.length) = o + j by omega] at this

/-- what every encoded value satisfies -/
def Wf : (t : Ty) → El t → Prop
  | .int k, x => inR k x
  | .bool, _ => True
  | .str, x => x.length ≤ bigLen
  | .slice e, xs => xs.length ≤ bigLen ∧ ∀ x ∈ xs, Wf e x
  | .pair a b, x => Wf a x.1 ∧ Wf b x.2
  | .arr n e, xs => xs.length = n ∧ ∀ x ∈ xs, Wf e x
theorem SliceAt.all {α : Type} {M : Mem} {p : List Value → α → Prop} {q : α → Prop} {sz b : Nat} :
    ∀ (xs : List α) (o : Nat), (∀ cs x, p cs x → q x) → SliceAt M p sz b o xs → ∀ x ∈ xs, q x
  | [], _, _, _, x, hx => by simp at hx
  | y :: xs, o, h, ⟨⟨cs, _, _, h3⟩, h4⟩, x, hx => by
    rcases List.mem_cons.1 hx with rfl | hx
    · exact h _ _ h3
    · exact SliceAt.all xs _ h h4 x hx
theorem Groups.all {α : Type} {p : List Value → α → Prop} {q : α → Prop} {sz : Nat} :
    ∀ (xs : List α) (vs : List Value), (∀ cs x, p cs x → q x) → Groups p sz vs xs → ∀ x ∈ xs, q x
  | [], _, _, _, x, hx => by simp at hx
  | y :: xs, vs, h, ⟨v1, v2, _, _, h3, h4⟩, x, hx => by
    rcases List.mem_cons.1 hx with rfl | hx
    · exact h _ _ h3
    · exact Groups.all xs _ h h4 x hx
theorem Enc.wf {M : Mem} : ∀ (t : Ty) (vs : List Value) (x : El t), Enc M t vs x → Wf t x
  | .int _, _, _, h => h.2
  | .bool, _, _, _ => trivial
  | .str, _, _, h => h.2
  | .slice e, vs, xs, ⟨a, cap, h1, h2, h3, h4⟩ => by
    refine ⟨Nat.le_trans h2 h3, ?_⟩
    cases a with
    | none => intro x hx; have : xs = [] := List.length_eq_zero_iff.1 (by simp at h4; omega); rw [this] at hx; simp at hx
    | some a => exact SliceAt.all xs _ (fun cs x => Enc.wf e cs x) h4.2
  | .pair a b, vs, x, ⟨v1, v2, h1, h2, h3⟩ => ⟨Enc.wf a _ _ h2, Enc.wf b _ _ h3⟩
  | .arr n e, vs, xs, ⟨h1, h2⟩ => ⟨h1, Groups.all xs _ (fun cs x => Enc.wf e cs x) h2⟩

/-- the value of type t that lies at cell off of a value of type T -/
def El.sub : (T : Ty) → El T → (off : Nat) → (t : Ty) → Option (El t)
  | .pair a b, x, off, t =>
    if h : off = 0 ∧ Ty.pair a b = t then some (h.2 ▸ x)
    else if off < a.size then El.sub a x.1 off t else El.sub b x.2 (off - a.size) t
  | .int k, x, off, t => if h : off = 0 ∧ Ty.int k = t then some (h.2 ▸ x) else none
  | .bool, x, off, t => if h : off = 0 ∧ Ty.bool = t then some (h.2 ▸ x) else none
  | .str, x, off, t => if h : off = 0 ∧ Ty.str = t then some (h.2 ▸ x) else none
  | .slice e, x, off, t => if h : off = 0 ∧ Ty.slice e = t then some (h.2 ▸ x) else none
  | .arr n e, x, off, t => if h : off = 0 ∧ Ty.arr n e = t then some (h.2 ▸ x) else none

theorem sub_self {M : Mem} {T t : Ty} {x : El T} {y : El t} {off : Nat} {vs : List Value} (h : Enc M T vs x)
    (hs : (if h : off = 0 ∧ T = t then some (h.2 ▸ x) else none) = some y) : Enc M t ((vs.drop off).take t.size) y := by
  split at hs
  · rename_i hc
    obtain ⟨rfl, rfl⟩ := hc
    simp only [Option.some.injEq] at hs
    subst hs
    have := Enc.length T vs x h
    simp only [List.drop_zero, ← this, List.take_length]; exact h
  · cases hs
theorem Enc.sub {M : Mem} : ∀ (T : Ty) (x : El T) (off : Nat) (t : Ty) (y : El t) (vs : List Value),
    Enc M T vs x → El.sub T x off t = some y → Enc M t ((vs.drop off).take t.size) y
  | .pair a b, x, off, t, y, vs, h, hs => by
    simp only [El.sub] at hs
    split at hs
    · rename_i hc
      obtain ⟨rfl, rfl⟩ := hc
      simp only [Option.some.injEq] at hs
      subst hs
      have := Enc.length _ vs x h
      simp only [List.drop_zero, ← this, List.take_length]; exact h
    · obtain ⟨v1, v2, rfl, h1, h2⟩ := h
      have l1 := Enc.length _ _ _ h1
      split at hs
      · rename_i hlt
        have ih := Enc.sub a x.1 off t y v1 h1 hs
        have il := Enc.length _ _ _ ih
        simp at il
        rwa [List.drop_append_of_le_length (by omega), List.take_append_of_le_length (by simp; omega)]
      · rename_i hge
        have ih := Enc.sub b x.2 (off - a.size) t y v2 h2 hs
        rwa [List.drop_append, List.drop_eq_nil_of_le (by omega : v1.length ≤ off), List.nil_append, l1]
  | .int k, x, off, t, y, vs, h, hs => sub_self h hs
  | .bool, x, off, t, y, vs, h, hs => sub_self h hs
  | .str, x, off, t, y, vs, h, hs => sub_self h hs
  | .slice e, x, off, t, y, vs, h, hs => sub_self h hs
  | .arr n e, x, off, t, y, vs, h, hs => sub_self h hs

end Fw
