/- One shape seen as another: the same data. Conditions: none. -/
import Derived.Test.YtnbpojalpdldnaaFw11
namespace Fw
open Go

theorem upP_ag : ∀ (t : Ty) (s : Sh), upP t s = true → t.ag = s.ag := by
  intro t s h
  rcases upP_cases h with h | ⟨a, b, c, d, h1, h2, _⟩
  · rw [h]; rfl
  · rw [h1, h2]; rfl
theorem upB_ag : ∀ (a b : Sh), upB a b = true → a.ag = b.ag := by
  intro a b h
  cases a with
  | pure t => exact upP_ag t b h
  | nil e => cases b with
    | own e' => rfl
    | pure t => cases t with
      | slice e' => rfl
      | _ => simp [upB] at h
    | nil e' => rfl
    | _ => simp [upB] at h
  | pair a b' => cases b with
    | pair c d => rfl
    | pure t => cases t with
      | pair c d => rfl
      | _ => simp [upB] at h
    | _ => simp [upB] at h
  | own e => cases b <;> first | rfl | (simp [upB] at h)
  | ref e => cases b <;> first | rfl | (simp [upB] at h)
  | hole t => cases b <;> first | (simp [upB] at h; done) | (simp [upB] at h; rw [h])
theorem upP_size : ∀ (t : Ty) (s : Sh), upP t s = true → t.size = s.size := by
  intro t
  induction t with
  | pair a b iha ihb =>
    intro s h
    rcases upP_cases h with h | ⟨a', b', c, d, h1, h2, h3, h4⟩
    · rw [h]; rfl
    · cases h1; subst h2; simp [Ty.size, Sh.size, iha c h3, ihb d h4]
  | _ =>
    intro s h
    rcases upP_cases h with h | ⟨_, _, _, _, h, _⟩
    · rw [h]; rfl
    · cases h
theorem upB_size : ∀ (a b : Sh), upB a b = true → a.size = b.size := by
  intro a
  induction a with
  | pure t => intro b h; exact upP_size t b h
  | nil e => intro b h; cases b with
    | own e' => rfl
    | pure t => cases t with
      | slice e' => rfl
      | _ => simp [upB] at h
    | nil e' => rfl
    | _ => simp [upB] at h
  | pair a b iha ihb =>
    intro s h
    cases s with
    | pair c d => simp [upB] at h; simp [Sh.size, iha c h.1, ihb d h.2]
    | pure t => cases t with
      | pair c d => simp [upB] at h; simp [Sh.size, Ty.size, iha (.pure c) h.1, ihb (.pure d) h.2]
      | _ => simp [upB] at h
    | _ => simp [upB] at h
  | own e ih => intro b h; cases b <;> first | rfl | (simp [upB] at h)
  | ref e ih => intro b h; cases b <;> first | rfl | (simp [upB] at h)
  | hole t => intro b h; cases b <;> first | (simp [upB] at h; done) | (simp [upB] at h; rw [h])

theorem heq_pair : ∀ {A B C D : Ty}, A = C → B = D → ∀ {x : El A × El B} {y : El C × El D}, HEq x y → HEq x.1 y.1 ∧ HEq x.2 y.2 := by
  intro A B C D h1 h2 x y h
  subst h1; subst h2
  cases h; exact ⟨HEq.rfl, HEq.rfl⟩
theorem heq_nil : ∀ {A C : Ty}, A = C → ∀ {ys : List (El C)}, HEq ([] : List (El A)) ys → ys = [] := by
  intro A C h ys e
  subst h; cases e; rfl
theorem heq_cons : ∀ {A C : Ty}, A = C → ∀ {x : El A} {xs : List (El A)} {ys : List (El C)}, HEq (x :: xs) ys → ∃ y ys', ys = y :: ys' ∧ HEq x y ∧ HEq xs ys' := by
  intro A C h x xs ys e
  subst h; cases e; exact ⟨x, xs, rfl, HEq.rfl, HEq.rfl⟩
theorem heq_nil' : ∀ {A C : Ty}, A = C → ∀ {xs : List (El A)} {ys : List (El C)}, HEq xs ys → xs = [] → ys = [] := by
  intro A C h xs ys e hx
  subst h; cases e; exact hx
theorem heq_len : ∀ {A C : Ty}, A = C → ∀ {xs : List (El A)} {ys : List (El C)}, HEq xs ys → xs.length = ys.length := by
  intro A C h xs ys e
  subst h; cases e; rfl

theorem GroupsO.heq {A C : Ty} (hA : A = C) {p : List Value → El A → List Nat → Prop} {q : List Value → El C → List Nat → Prop} {sz : Nat} (hpq : ∀ x y cs b, HEq x y → p cs x b → q cs y b) :
    ∀ (xs : List (El A)) (ys : List (El C)) (vs : List Value) (bs : List Nat), HEq xs ys → GroupsO p sz vs xs bs → GroupsO q sz vs ys bs
  | [], ys, vs, bs, he, h => by rw [heq_nil hA he]; exact h
  | x :: xs, ys, vs, bs, he, ⟨v1, v2, b1, b2, h1, h2, h3, h4, h5⟩ => by
    obtain ⟨y, ys', rfl, e1, e2⟩ := heq_cons hA he
    exact ⟨v1, v2, b1, b2, h1, h2, h3, hpq x y v1 b1 e1 h4, GroupsO.heq hA hpq xs ys' v2 b2 e2 h5⟩

theorem upP_enc {M : Mem} {R : RowFn} : ∀ (t : Ty) (s : Sh), upP t s = true → ∀ (x : El t) (y : El s.ty) (vs : List Value), HEq x y → Enc M t vs x → EncO M R s vs y [] := by
  intro t
  induction t with
  | pair a b iha ihb =>
    intro s h x y vs he hh
    rcases upP_cases h with h | ⟨a', b', c, d, h1, h2, h3, h4⟩
    · subst h; cases he; exact ⟨rfl, hh⟩
    · cases h1; subst h2
      obtain ⟨v1, v2, e1, e2, e3⟩ := hh
      obtain ⟨g1, g2⟩ := heq_pair (upP_ty _ _ h3) (upP_ty _ _ h4) he
      exact ⟨v1, v2, [], [], e1, rfl, iha c h3 _ _ _ g1 e2, ihb d h4 _ _ _ g2 e3⟩
  | _ =>
    intro s h x y vs he hh
    rcases upP_cases h with h | ⟨_, _, _, _, h, _⟩
    · subst h; cases he; exact ⟨rfl, hh⟩
    · cases h

theorem upB_enc {M : Mem} {R : RowFn} : ∀ (a b : Sh), upB a b = true → ∀ (x : El a.ty) (y : El b.ty) (vs : List Value) (bs : List Nat), HEq x y → EncO M R a vs x bs → EncO M R b vs y bs := by
  have same : ∀ (a b : Sh), a = b → ∀ (x : El a.ty) (y : El b.ty) (vs : List Value) (bs : List Nat), HEq x y → EncO M R a vs x bs → EncO M R b vs y bs := by
    intro a b h x y vs bs he hh
    subst h; cases he; exact hh
  intro a
  induction a with
  | pure t => intro b h x y vs bs he ⟨h1, h2⟩; rw [h1]; exact upP_enc t b h x y vs he h2
  | nil e =>
    intro b h x y vs bs he hh
    cases b with
    | own e' =>
      obtain ⟨h1, h2, h3⟩ := hh
      have ht : e = e'.ty := by simp [upB] at h; exact h.symm
      exact .inl ⟨h1, h2, heq_nil' ht he h3⟩
    | pure t => cases t with
      | slice e' =>
        obtain ⟨h1, h2, h3⟩ := hh
        have ht : e = e' := by simp [upB] at h; exact h.symm
        have hy : (y : List (El e')) = [] := heq_nil' ht he h3
        refine ⟨h1, ?_⟩
        rw [hy]; exact EmptySl.enc h2
      | _ => simp [upB] at h
    | nil e' => exact same _ _ (by simp [upB] at h; rw [h]) x y vs bs he hh
    | _ => simp [upB] at h
  | pair a b iha ihb =>
    intro s h x y vs bs he hh
    obtain ⟨v1, v2, b1, b2, h1, h2, h3, h4⟩ := hh
    cases s with
    | pair c d =>
      simp [upB] at h
      obtain ⟨e1, e2⟩ := heq_pair (upB_ty _ _ h.1) (upB_ty _ _ h.2) he
      exact ⟨v1, v2, b1, b2, h1, h2, iha c h.1 _ _ _ _ e1 h3, ihb d h.2 _ _ _ _ e2 h4⟩
    | pure t => cases t with
      | pair c d =>
        simp [upB] at h
        obtain ⟨e1, e2⟩ := heq_pair (show _ = c from upB_ty _ _ h.1) (show _ = d from upB_ty _ _ h.2) he
        obtain ⟨k1, k2⟩ := iha (.pure c) h.1 x.1 y.1 _ _ e1 h3
        obtain ⟨k3, k4⟩ := ihb (.pure d) h.2 x.2 y.2 _ _ e2 h4
        exact ⟨by rw [h2, k1, k3]; rfl, v1, v2, h1, k2, k4⟩
      | _ => simp [upB] at h
    | _ => simp [upB] at h
  | own e ih =>
    intro b h x y vs bs he hh
    cases b with
    | own e' =>
      simp only [upB] at h
      have ht := upB_ty _ _ h
      have hl := heq_len ht he
      rcases hh with ⟨h1, h2, h3⟩ | ⟨b, cap, row, bss, h1, h2, h3, h4, h5, h6, h7⟩
      · exact .inl ⟨h1, h2, heq_nil' ht he h3⟩
      · refine .inr ⟨b, cap, row, bss, h1, by rw [← hl]; exact h2, by rw [← hl]; exact h3, h4, h5, by rw [← upB_size _ _ h]; exact h6, ?_⟩
        rw [← upB_size _ _ h]
        exact GroupsO.heq ht (fun x y cs b he hp => ih e' h x y cs b he hp) x y row bss he h7
    | _ => simp [upB] at h
  | ref e ih =>
    intro b h x y vs bs he hh
    cases b with
    | ref e' => exact same _ _ (by simp [upB] at h; rw [h]) x y vs bs he hh
    | _ => simp [upB] at h
  | hole t =>
    intro b h x y vs bs he hh
    cases b with
    | hole t' => exact same _ _ (by simp [upB] at h; rw [h]) x y vs bs he hh
    | _ => simp [upB] at h

theorem castK_heq {a b : Ty} {R : Type} (h : a = b) (k : El b → R) (x : El a) : ∃ y, castK h k x = k y ∧ HEq x y := by subst h; exact ⟨x, rfl, HEq.rfl⟩
end Fw
