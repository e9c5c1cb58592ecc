/- Shapes: which parts of a value are owned by whoever holds it. Conditions: none. -/
import Derived.Test.YtnbpojalpdldnaaFw1
namespace Fw
open Go

inductive Sh where
  | pure (t : Ty) | nil (e : Ty) | own (e : Sh) | ref (s : Sh) | pair (a b : Sh) | hole (t : Ty)
  deriving DecidableEq

@[reducible] def Sh.ty : Sh → Ty
  | .pure t => t
  | .nil e => .slice e
  | .hole t => t
  | .own e => .slice e.ty
  | .ref s => s.ty
  | .pair a b => .pair a.ty b.ty

def Sh.size : Sh → Nat
  | .pure t => t.size
  | .hole t => t.size
  | .pair a b => a.size + b.size
  | _ => 1

/-- no pointer to a variable in it, and nothing that is not known -/
def Sh.noref : Sh → Bool
  | .ref _ => false
  | .hole _ => false
  | .own e => e.noref
  | .pair a b => a.noref && b.noref
  | _ => true

/-- nothing owned in it -/
def Sh.free : Sh → Bool
  | .pure _ => true
  | .nil _ => true
  | .pair a b => a.free && b.free
  | _ => false

/-- no memory behind it but what it owns -/
def Sh.closed : Sh → Bool
  | .pure t => t.flat
  | .nil _ => true
  | .own e => e.closed
  | .ref s => s.closed
  | .hole _ => false
  | .pair a b => a.closed && b.closed

abbrev RowFn := Nat → Option (List Value)

def GroupsO {α : Type} (p : List Value → α → List Nat → Prop) (sz : Nat) : List Value → List α → List Nat → Prop
  | _, [], bs => bs = []
  | vs, x :: xs, bs => ∃ v1 v2 b1 b2, vs = v1 ++ v2 ∧ v1.length = sz ∧ bs = b1 ++ b2 ∧ p v1 x b1 ∧ GroupsO p sz v2 xs b2

/-- a slice of no capacity -/
def EmptySl (vs : List Value) : Prop := ∃ a, vs = [.slice a 0 0] ∧ True

def EncO (M : Mem) (R : RowFn) : (s : Sh) → List Value → El s.ty → List Nat → Prop
  | .pure t, vs, x, bs => bs = [] ∧ Enc M t vs x
  | .nil _, vs, x, bs => bs = [] ∧ EmptySl vs ∧ x = []
  | .hole t, vs, _, bs => bs = [] ∧ vs.length = t.size
  | .own e, vs, xs, bs => (bs = [] ∧ EmptySl vs ∧ xs = []) ∨
      ∃ b cap row bss, bs = b :: bss ∧ vs = [.slice (some ⟨b, 0, none⟩) xs.length cap] ∧ xs.length ≤ cap ∧ cap ≤ bigLen ∧
        R b = some row ∧ row.length = cap * e.size ∧ GroupsO (EncO M R e) e.size row xs bss
  | .ref s, vs, x, bs => ∃ b row bss, bs = b :: bss ∧ vs = [.pointer (some ⟨b, 0, none⟩)] ∧ R b = some row ∧ EncO M R s row x bss
  | .pair a b, vs, x, bs => ∃ v1 v2 b1 b2, vs = v1 ++ v2 ∧ bs = b1 ++ b2 ∧ EncO M R a v1 x.1 b1 ∧ EncO M R b v2 x.2 b2

theorem GroupsO.imp {α : Type} {p q : List Value → α → List Nat → Prop} {sz : Nat} :
    ∀ (xs : List α) (vs : List Value) (bs : List Nat), (∀ x ∈ xs, ∀ cs b, (∀ i ∈ b, i ∈ bs) → p cs x b → q cs x b) → GroupsO p sz vs xs bs → GroupsO q sz vs xs bs
  | [], _, _, _, h => h
  | x :: xs, vs, bs, h, ⟨v1, v2, b1, b2, h1, h2, h3, h4, h5⟩ =>
    ⟨v1, v2, b1, b2, h1, h2, h3, h x (by simp) v1 b1 (fun i hi => by rw [h3]; simp [hi]) h4,
      GroupsO.imp xs v2 b2 (fun y hy cs b hb => h y (by simp [hy]) cs b (fun i hi => by rw [h3]; simp [hb i hi])) h5⟩

theorem EncO.mono {M M' : Mem} {R R' : RowFn} (hM : M.le M') : ∀ (s : Sh) (vs : List Value) (x : El s.ty) (bs : List Nat),
    (∀ b ∈ bs, R' b = R b) → EncO M R s vs x bs → EncO M' R' s vs x bs
  | .pure t, vs, x, bs, _, ⟨h1, h2⟩ => ⟨h1, Enc.mono hM t vs x h2⟩
  | .nil _, _, _, _, _, h => h
  | .hole _, _, _, _, _, h => h
  | .own e, vs, xs, bs, hR, h => by
    rcases h with h | ⟨b, cap, row, bss, h1, h2, h3, h4, h5, h6, h7⟩
    · exact .inl h
    · refine .inr ⟨b, cap, row, bss, h1, h2, h3, h4, by rw [hR b (by simp [h1])]; exact h5, h6, ?_⟩
      exact GroupsO.imp xs row bss (fun x _ cs b' hb' hp => EncO.mono hM e cs x b' (fun i hi => hR i (by simp [h1, hb' i hi])) hp) h7
  | .ref s, vs, x, bs, hR, ⟨b, row, bss, h1, h2, h3, h4⟩ =>
    ⟨b, row, bss, h1, h2, by rw [hR b (by simp [h1])]; exact h3, EncO.mono hM s row x bss (fun i hi => hR i (by simp [h1, hi])) h4⟩
  | .pair a b, vs, x, bs, hR, ⟨v1, v2, b1, b2, h1, h2, h3, h4⟩ =>
    ⟨v1, v2, b1, b2, h1, h2, EncO.mono hM a v1 x.1 b1 (fun i hi => hR i (by simp [h2, hi])) h3,
      EncO.mono hM b v2 x.2 b2 (fun i hi => hR i (by simp [h2, hi])) h4⟩

theorem EncO.length {M : Mem} {R : RowFn} : ∀ (s : Sh) (vs : List Value) (x : El s.ty) (bs : List Nat), EncO M R s vs x bs → vs.length = s.size
  | .pure t, vs, x, bs, ⟨_, h⟩ => Enc.length t vs x h
  | .nil _, _, _, _, ⟨_, ⟨a, h, _⟩, _⟩ => by rw [h]; rfl
  | .hole _, _, _, _, ⟨_, h⟩ => h
  | .own e, vs, xs, bs, h => by
    rcases h with ⟨_, ⟨a, h, _⟩, _⟩ | ⟨b, cap, row, bss, h1, h2, _⟩
    · rw [h]; rfl
    · rw [h2]; rfl
  | .ref s, vs, x, bs, ⟨b, row, bss, h1, h2, _⟩ => by rw [h2]; rfl
  | .pair a b, vs, x, bs, ⟨v1, v2, b1, b2, h1, h2, h3, h4⟩ => by
    rw [h1, List.length_append, EncO.length a _ _ _ h3, EncO.length b _ _ _ h4]; rfl

theorem GroupsO.rows {α : Type} {p : List Value → α → List Nat → Prop} {sz : Nat} {Q : Nat → Prop} :
    ∀ (xs : List α) (vs : List Value) (bs : List Nat), (∀ x ∈ xs, ∀ cs b, p cs x b → ∀ i ∈ b, Q i) → GroupsO p sz vs xs bs → ∀ i ∈ bs, Q i
  | [], _, _, _, h, i, hi => by rw [show _ = _ from h] at hi; simp at hi
  | x :: xs, vs, bs, h, ⟨v1, v2, b1, b2, h1, h2, h3, h4, h5⟩, i, hi => by
    rw [h3] at hi
    rcases List.mem_append.1 hi with hi | hi
    · exact h x (by simp) _ _ h4 i hi
    · exact GroupsO.rows xs v2 b2 (fun y hy => h y (by simp [hy])) h5 i hi

theorem EncO.rows {M : Mem} {R : RowFn} : ∀ (s : Sh) (vs : List Value) (x : El s.ty) (bs : List Nat), EncO M R s vs x bs → ∀ b ∈ bs, ∃ row, R b = some row
  | .pure t, vs, x, bs, ⟨h, _⟩, b, hb => by rw [h] at hb; simp at hb
  | .nil _, _, _, bs, ⟨h, _⟩, b, hb => by rw [h] at hb; simp at hb
  | .hole _, _, _, bs, ⟨h, _⟩, b, hb => by rw [h] at hb; simp at hb
  | .own e, vs, xs, bs, h, b, hb => by
    rcases h with ⟨h, _⟩ | ⟨b', cap, row, bss, h1, h2, h3, h4, h5, h6, h7⟩
    · rw [h] at hb; simp at hb
    · rw [h1] at hb
      rcases List.mem_cons.1 hb with rfl | hb
      · exact ⟨row, h5⟩
      · exact GroupsO.rows xs row bss (fun x _ cs b'' hp => EncO.rows e cs x b'' hp) h7 b hb
  | .ref s, vs, x, bs, ⟨b', row, bss, h1, h2, h3, h4⟩, b, hb => by
    rw [h1] at hb
    rcases List.mem_cons.1 hb with rfl | hb
    · exact ⟨row, h3⟩
    · exact EncO.rows s row x bss h4 b hb
  | .pair a b', vs, x, bs, ⟨v1, v2, b1, b2, h1, h2, h3, h4⟩, b, hb => by
    rw [h2] at hb
    rcases List.mem_append.1 hb with hb | hb
    · exact EncO.rows a _ _ _ h3 b hb
    · exact EncO.rows b' _ _ _ h4 b hb

theorem GroupsO.toGroups {α : Type} {p : List Value → α → List Nat → Prop} {q : List Value → α → Prop} {sz : Nat} :
    ∀ (xs : List α) (vs : List Value) (bs : List Nat), (∀ x ∈ xs, ∀ cs b, (∀ i ∈ b, i ∈ bs) → p cs x b → q cs x) → GroupsO p sz vs xs bs →
      ∃ v1 v2, vs = v1 ++ v2 ∧ Groups q sz v1 xs
  | [], vs, _, _, _ => ⟨[], vs, rfl, rfl⟩
  | x :: xs, vs, bs, h, ⟨v1, v2, b1, b2, h1, h2, h3, h4, h5⟩ => by
    obtain ⟨u1, u2, e, g⟩ := GroupsO.toGroups xs v2 b2 (fun y hy cs b hb => h y (by simp [hy]) cs b (fun i hi => by rw [h3]; simp [hb i hi])) h5
    exact ⟨v1 ++ u1, u2, by rw [h1, e, List.append_assoc], v1, u1, rfl, h2, h x (by simp) v1 b1 (fun i hi => by rw [h3]; simp [hi]) h4, g⟩

theorem EmptySl.enc {M : Mem} {e : Ty} {vs : List Value} (h : EmptySl vs) : Enc M (.slice e) vs [] := by
  obtain ⟨a, h1, h2⟩ := h
  refine ⟨a, 0, h1, Nat.le_refl _, by simp, ?_⟩
  cases a with
  | none => rfl
  | some ad => exact ⟨.inr rfl, trivial⟩
/-- what is owned may be read as any memory that holds its rows -/
theorem EncO.toEnc {M M' : Mem} {R : RowFn} (hM : M.le M') : ∀ (s : Sh) (vs : List Value) (x : El s.ty) (bs : List Nat), s.noref = true →
    (∀ b ∈ bs, ∀ row, R b = some row → CellsAt M' b 0 row) → EncO M R s vs x bs → Enc M' s.ty vs x
  | .pure t, vs, x, bs, _, _, ⟨_, h⟩ => Enc.mono hM t vs x h
  | .nil e, vs, x, bs, _, _, ⟨_, h1, h2⟩ => by
    subst h2; exact EmptySl.enc h1
  | .hole t, vs, x, bs, hn, _, _ => by simp [Sh.noref] at hn
  | .own e, vs, xs, bs, hn, hc, h => by
    rcases h with ⟨_, h1, h2⟩ | ⟨b, cap, row, bss, h1, h2, h3, h4, h5, h6, h7⟩
    · subst h2; exact EmptySl.enc h1
    · refine ⟨some ⟨b, 0, none⟩, cap, h2, h3, h4, .inl rfl, ?_⟩
      obtain ⟨v1, v2, e1, g⟩ := GroupsO.toGroups (q := Enc M' e.ty) xs row bss (fun x _ cs b' hb' hp =>
        EncO.toEnc hM e cs x b' (by simpa [Sh.noref] using hn) (fun i hi => hc i (by simp [h1, hb' i hi])) hp) h7
      have hsz : e.size = e.ty.size := by
        cases xs with
        | nil =>
          have : ∀ s : Sh, s.noref = true → s.size = s.ty.size := by
            intro s; induction s with
            | pure t => intro _; rfl
            | nil t => intro _; rfl
            | own t _ => intro _; rfl
            | ref t _ => intro h; simp [Sh.noref] at h
            | hole t => intro h; simp [Sh.noref] at h
            | pair a b iha ihb => intro h; simp [Sh.noref] at h; simp [Sh.size, Ty.size, iha h.1, ihb h.2]
          exact this e (by simpa [Sh.noref] using hn)
        | cons y ys =>
          obtain ⟨u1, u2, _, k1, k2, _⟩ := g
          rw [← k1, Enc.length _ _ _ k2]
      have hcell := hc b (by simp [h1]) row h5
      show SliceAt M' (Enc M' e.ty) e.ty.size b 0 xs
      rw [← hsz]
      refine SliceAt.ofGroups xs 0 v1 g fun j c hj => hcell j c ?_
      rw [e1, List.getElem?_append_left (List.getElem?_eq_some_iff.1 hj).1]; exact hj
  | .ref s, vs, x, bs, hn, _, _ => by simp [Sh.noref] at hn
  | .pair a b, vs, x, bs, hn, hc, ⟨v1, v2, b1, b2, h1, h2, h3, h4⟩ => by
    simp [Sh.noref] at hn
    exact ⟨v1, v2, h1, EncO.toEnc hM a _ _ _ hn.1 (fun i hi => hc i (by simp [h2, hi])) h3, EncO.toEnc hM b _ _ _ hn.2 (fun i hi => hc i (by simp [h2, hi])) h4⟩

theorem Sh.size_ty : ∀ s : Sh, s.noref = true → s.size = s.ty.size := by
  intro s; induction s with
  | pure t => intro _; rfl
  | nil t => intro _; rfl
  | own t _ => intro _; rfl
  | ref t _ => intro h; simp [Sh.noref] at h
  | hole t => intro h; simp [Sh.noref] at h
  | pair a b iha ihb => intro h; simp [Sh.noref] at h; simp [Sh.size, Ty.size, iha h.1, ihb h.2]

theorem EncO.free {M : Mem} {R : RowFn} : ∀ (s : Sh) (vs : List Value) (x : El s.ty) (bs : List Nat), s.free = true → EncO M R s vs x bs → bs = []
  | .pure t, vs, x, bs, _, ⟨h, _⟩ => h
  | .nil _, _, _, _, _, ⟨h, _⟩ => h
  | .hole _, _, _, _, _, ⟨h, _⟩ => h
  | .own e, _, _, _, h, _ => by simp [Sh.free] at h
  | .ref e, _, _, _, h, _ => by simp [Sh.free] at h
  | .pair a b, vs, x, bs, hf, ⟨v1, v2, b1, b2, h1, h2, h3, h4⟩ => by
    simp [Sh.free] at hf
    rw [h2, EncO.free a _ _ _ hf.1 h3, EncO.free b _ _ _ hf.2 h4]; rfl

theorem EncO.closed {M M' : Mem} {R : RowFn} : ∀ (s : Sh) (vs : List Value) (x : El s.ty) (bs : List Nat), s.closed = true → EncO M R s vs x bs → EncO M' R s vs x bs
  | .pure t, vs, x, bs, hf, ⟨h1, h2⟩ => ⟨h1, Enc.flat t vs x hf h2⟩
  | .nil _, _, _, _, _, h => h
  | .hole _, _, _, _, hf, _ => by simp [Sh.closed] at hf
  | .own e, vs, xs, bs, hf, h => by
    rcases h with h | ⟨b, cap, row, bss, h1, h2, h3, h4, h5, h6, h7⟩
    · exact .inl h
    · exact .inr ⟨b, cap, row, bss, h1, h2, h3, h4, h5, h6, GroupsO.imp xs row bss (fun x _ cs b' _ hp => EncO.closed e cs x b' (by simpa [Sh.closed] using hf) hp) h7⟩
  | .ref s, vs, x, bs, hf, ⟨b, row, bss, h1, h2, h3, h4⟩ => ⟨b, row, bss, h1, h2, h3, EncO.closed s row x bss (by simpa [Sh.closed] using hf) h4⟩
  | .pair a b, vs, x, bs, hf, ⟨v1, v2, b1, b2, h1, h2, h3, h4⟩ => by
    simp [Sh.closed] at hf
    exact ⟨v1, v2, b1, b2, h1, h2, EncO.closed a _ _ _ hf.1 h3, EncO.closed b _ _ _ hf.2 h4⟩

theorem GroupsO.append {α : Type} {p : List Value → α → List Nat → Prop} {sz : Nat} :
    ∀ (xs ys : List α) (vs ws : List Value) (bs cs : List Nat), vs.length = xs.length * sz → GroupsO p sz vs xs bs → GroupsO p sz ws ys cs → GroupsO p sz (vs ++ ws) (xs ++ ys) (bs ++ cs)
  | [], ys, vs, ws, bs, cs, hl, h, h' => by
    have : vs = [] := List.length_eq_zero_iff.1 (by simpa using hl)
    subst this; rw [show bs = [] from h]; simpa using h'
  | x :: xs, ys, vs, ws, bs, cs, hl, ⟨v1, v2, b1, b2, h1, h2, h3, h4, h5⟩, h' => by
    subst h1; subst h3
    refine ⟨v1, v2 ++ ws, b1, b2 ++ cs, by simp, h2, by simp, h4, GroupsO.append xs ys v2 ws b2 cs ?_ h5 h'⟩
    simp [Nat.add_mul] at hl; omega
/-- the cells behind the elements may be anything -/
theorem GroupsO.spare {α : Type} {p : List Value → α → List Nat → Prop} {sz : Nat} :
    ∀ (xs : List α) (vs ws : List Value) (bs : List Nat), GroupsO p sz vs xs bs → GroupsO p sz (vs ++ ws) xs bs
  | [], _, _, _, h => h
  | x :: xs, vs, ws, bs, ⟨v1, v2, b1, b2, h1, h2, h3, h4, h5⟩ => by
    subst h1
    exact ⟨v1, v2 ++ ws, b1, b2, by simp, h2, h3, h4, GroupsO.spare xs v2 ws b2 h5⟩
theorem GroupsO.cut {α : Type} {p : List Value → α → List Nat → Prop} {sz : Nat} :
    ∀ (xs : List α) (vs : List Value) (bs : List Nat), GroupsO p sz vs xs bs → xs.length * sz ≤ vs.length ∧ GroupsO p sz (vs.take (xs.length * sz)) xs bs
  | [], _, _, h => ⟨by simp, h⟩
  | x :: xs, vs, bs, ⟨v1, v2, b1, b2, h1, h2, h3, h4, h5⟩ => by
    obtain ⟨g1, g2⟩ := GroupsO.cut xs v2 b2 h5
    subst h1
    refine ⟨by simp [Nat.add_mul]; omega, v1, v2.take (xs.length * sz), b1, b2, ?_, h2, h3, h4, g2⟩
    rw [List.take_append, List.take_of_length_le (by simp [Nat.add_mul]; omega)]
    congr 1
    simp [Nat.add_mul, h2]
theorem GroupsO.ofGroups {α : Type} {p : List Value → α → List Nat → Prop} {q : List Value → α → Prop} {sz : Nat} :
    ∀ (xs : List α) (vs : List Value), (∀ cs x, q cs x → p cs x []) → Groups q sz vs xs → GroupsO p sz vs xs []
  | [], _, _, _ => rfl
  | _ :: xs, _, h, ⟨v1, v2, h1, h2, h3, h4⟩ => ⟨v1, v2, [], [], h1, h2, rfl, h _ _ h3, GroupsO.ofGroups xs v2 h h4⟩
theorem GroupsO.get {α : Type} {p : List Value → α → List Nat → Prop} {sz : Nat} :
    ∀ (xs : List α) (vs : List Value) (bs : List Nat) (i : Nat) (x : α), GroupsO p sz vs xs bs → xs[i]? = some x →
      i * sz + sz ≤ vs.length ∧ ∃ b, b.Sublist bs ∧ p ((vs.drop (i * sz)).take sz) x b
  | [], _, _, _, _, _, hi => by simp at hi
  | y :: xs, vs, bs, 0, x, ⟨v1, v2, b1, b2, h1, h2, h3, h4, h5⟩, hi => by
    subst h1; simp at hi; subst hi
    refine ⟨by simp; omega, b1, by rw [h3]; exact List.sublist_append_left _ _, by simpa [← h2] using h4⟩
  | y :: xs, vs, bs, i + 1, x, ⟨v1, v2, b1, b2, h1, h2, h3, h4, h5⟩, hi => by
    subst h1
    obtain ⟨g1, b, g2, g3⟩ := GroupsO.get xs v2 b2 i x h5 (by simpa using hi)
    refine ⟨by simp [Nat.add_mul]; omega, b, by rw [h3]; exact g2.trans (List.sublist_append_right _ _), ?_⟩
    rwa [Nat.add_mul, Nat.one_mul, Nat.add_comm, ← List.drop_drop, ← h2, List.drop_left, h2]

/-- what is owned, read and kept: its wf -/
theorem EncO.wf {M : Mem} {R : RowFn} : ∀ (s : Sh) (vs : List Value) (x : El s.ty) (bs : List Nat), s.noref = true → EncO M R s vs x bs → Wf s.ty x
  | .pure t, vs, x, _, _, ⟨_, h⟩ => Enc.wf t vs x h
  | .nil _, _, x, _, _, ⟨_, _, h⟩ => by subst h; exact ⟨by simp [bigLen], fun x hx => by simp at hx⟩
  | .hole _, _, _, _, hn, _ => by simp [Sh.noref] at hn
  | .own e, vs, xs, bs, hn, h => by
    rcases h with ⟨_, _, h⟩ | ⟨b, cap, row, bss, h1, h2, h3, h4, h5, h6, h7⟩
    · subst h; exact ⟨by simp [bigLen], fun x hx => by simp at hx⟩
    · obtain ⟨v1, v2, _, g⟩ := GroupsO.toGroups (q := fun _ x => Wf e.ty x) xs row bss (fun x _ cs b' _ hp => EncO.wf e cs x b' (by simpa [Sh.noref] using hn) hp) h7
      exact ⟨Nat.le_trans h3 h4, Groups.all xs v1 (fun _ _ h => h) g⟩
  | .ref s, vs, x, bs, hn, _ => by simp [Sh.noref] at hn
  | .pair a b, vs, x, bs, hn, ⟨v1, v2, b1, b2, h1, h2, h3, h4⟩ => by
    simp [Sh.noref] at hn
    exact ⟨EncO.wf a _ _ _ hn.1 h3, EncO.wf b _ _ _ hn.2 h4⟩

end Fw
