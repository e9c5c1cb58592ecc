/- Taking a value for good: moved out of its slot, or made shared. Conditions: none. -/
import Derived.Test.YtnbpojalpdldnaaFw7
namespace Fw
open Go

section
variable {n B : Nat} {X : List Nat} {w0 : World} {M0 M : Mem} {ω : Own} {ρ : Env} {tmps : Array Value} {w : World}

/-- what a step in which only ownership moves leaves as it was -/
structure Moved (n : Nat) (M M' : Mem) (ω ω' : Own) (w : World) (ρ : Env) (tmps : Array Value) (ws : List Wr) (L : Nat) : Prop where
  step : Step n M M' ω ω' w w ρ (ρ.puts ws) (vl tmps) (vl tmps)
  low : ∀ x ∈ ws, x.slot < n
  limbo : ∀ L', n ≤ L' → L' ≠ L → ∀ b, ω b = some L' → ω' b = some L'

theorem Step.refl (S : St0 n B X w0 M0 M ω ρ tmps w) : Step n M M ω ω w w ρ ρ (vl tmps) (vl tmps) :=
  ⟨Mem.le_refl _, fun b k h => (S.dis b k h).2.2, fun _ => .inr (.inr rfl), fun _ _ => rfl, fun _ _ _ _ h => ⟨h, rfl⟩⟩

/-- shared memory, grown by what j owns but for the variable itself -/
def frozM (M : Mem) (ω : Own) (w : World) (j : Nat) (vj : Value) : Mem := heapOf M ω w j vj
def frozω (ω : Own) (j : Nat) (vj : Value) : Own := fun b => if ω b = some j ∧ notBox vj b = true then none else ω b

theorem froz_spec {a a' : A} (h : froz a = some a') : (∃ s x, a = .c (.ref s) x ∧ s.noref = true ∧ a' = .c (.ref (.pure s.ty)) x) ∨
    (∃ s x, a = .c s x ∧ s.noref = true ∧ a' = .c (.pure s.ty) x) := by
  unfold froz at h
  split at h
  · rename_i s x
    split at h
    · rename_i hn; simp at h; exact .inl ⟨s, x, rfl, hn, h.symm⟩
    · cases h
  · rename_i s x _
    split at h
    · rename_i hn; simp at h; exact .inr ⟨s, x, rfl, hn, h.symm⟩
    · cases h
  · cases h

theorem notBox_ne {b b' : Nat} (h : b' ≠ b) : notBox (.pointer (some ⟨b, 0, none⟩)) b' = true := by simp [notBox]; exact fun e => h e.symm
theorem notBox_self (b : Nat) : notBox (.pointer (some ⟨b, 0, none⟩)) b = false := by simp [notBox]

/-- slot j's content is made shared -/
theorem freeze_ok (S : St0 n B X w0 M0 M ω ρ tmps w) {j : Nat} {a' : A} (hj : j < n) (h : froz (ρ.get j).a = some a') :
    St0 n B X w0 M0 (frozM M ω w j (vl tmps j)) (frozω ω j (vl tmps j)) (ρ.puts [⟨j, true, a'⟩]) tmps w ∧
    ∀ L, Moved n M (frozM M ω w j (vl tmps j)) ω (frozω ω j (vl tmps j)) w ρ tmps [⟨j, true, a'⟩] L := by
  have hM : M.le (frozM M ω w j (vl tmps j)) := fun b o v hm => by unfold frozM heapOf; rw [hm]
  have hold : ∀ b o, b < B → b ∉ X → frozM M ω w j (vl tmps j) b o = M b o := by
    intro b o hb hx
    unfold frozM heapOf
    cases hm : M b o with
    | some u => rfl
    | none =>
      simp only
      rw [if_neg]
      rintro ⟨h1, _⟩
      rcases (S.dis b j h1).1 with h2 | h2
      · omega
      · exact hx h2
  have hdis : ∀ b k, frozω ω j (vl tmps j) b = some k → (B ≤ b ∨ b ∈ X) ∧ b < w.heap.size ∧ ∀ o, frozM M ω w j (vl tmps j) b o = none := by
    intro b k hk
    unfold frozω at hk
    split at hk
    · cases hk
    · rename_i hne
      obtain ⟨h1, h2, h3⟩ := S.dis b k hk
      refine ⟨h1, h2, fun o => ?_⟩
      unfold frozM heapOf
      rw [h3 o]
      simp only [if_neg hne]
  have hown : ∀ t, t < n → (∀ x ∈ ([⟨j, true, a'⟩] : List Wr), x.slot ≠ t) → ∀ b, ω b = some t → frozω ω j (vl tmps j) b = some t ∧ w.heap[b]? = w.heap[b]? := by
    intro t _ hne b hb
    have : t ≠ j := fun e => hne _ (List.mem_singleton.2 rfl) e.symm
    refine ⟨?_, rfl⟩
    unfold frozω
    rw [if_neg (by rintro ⟨h1, _⟩; rw [hb] at h1; simp at h1; exact this h1)]
    exact hb
  have hget : (ρ.puts [⟨j, true, a'⟩]).get j = ⟨(ρ.get j).g, (ρ.get j).ver + 1, a'⟩ := by
    show (ρ.put ⟨j, true, a'⟩).get j = _
    rw [Env.get_put]; simp
  refine ⟨S.step [⟨j, true, a'⟩] S.size (Fr.refl _ _ _) hM hold ?_ hdis (fun _ _ => rfl) (by intro x hx; simp at hx; subst hx; exact hj) hown ?_, ?_⟩
  · intro b o v hm
    unfold frozM at hm
    exact heapOf_full S _ _ b o v hm
  · intro t ⟨x, hx, hxt⟩ _
    simp at hx; subst hx
    have : t = j := hxt.symm
    subst this
    rw [hget]
    have hr := S.slots t hj
    rcases froz_spec h with ⟨s, x, ha, hn, rfl⟩ | ⟨s, x, ha, hn, rfl⟩
    · rw [ha] at hr
      obtain ⟨cs, bs, h1, ⟨b, row, bss, h2, h3, h4, h5⟩, h6, h7⟩ := hr
      subst h2; subst h3
      have hv : vl tmps t = .pointer (some ⟨b, 0, none⟩) := by
        have h1' : [Value.pointer (some ⟨b, 0, none⟩)] = [vl tmps t] := h1
        exact (List.cons.inj h1').1.symm
      rw [List.nodup_cons] at h6
      refine ⟨_, [b], h1, ⟨b, row, [], rfl, rfl, h4, rfl, ?_⟩, by simp, ?_⟩
      · refine EncO.toEnc hM s row x bss hn (fun b' hb' row' hrow' i c hc => ?_) h5
        have hne : b' ≠ b := fun e => h6.1 (e ▸ hb')
        have how := h7 b' (by simp [hb'])
        unfold frozM heapOf
        rw [(S.dis b' t how).2.2 (0 + i), hv]
        simp only [how, notBox_ne hne, and_self, if_true]
        exact rows_full hrow' i c hc
      · intro b' hb'
        simp at hb'; subst hb'
        unfold frozω
        rw [hv, notBox_self]
        simp [h7 b' (by simp)]
    · have hs : s.noref = true := hn
      rw [ha] at hr
      have hr' : Owns M ω w t s x (tmps.getD t undef) := hr
      obtain ⟨cs, bs, h1, h2, h6, h7⟩ := hr'
      have hag := Sh.ag_ty s hn
      have hbox : ∀ b ∈ bs, notBox (vl tmps t) b = true := by
        intro b hb
        cases s with
        | ref s => simp [Sh.noref] at hn
        | pure u => rw [h2.1] at hb; simp at hb
        | nil e => rw [h2.1] at hb; simp at hb
        | hole u => rw [h2.1] at hb; simp at hb
        | own e =>
          rcases h2 with ⟨h2, _⟩ | ⟨b', cap, row, bss, _, h3, _⟩
          · rw [h2] at hb; simp at hb
          · have : vl tmps t = .slice (some ⟨b', 0, none⟩) (List.length x) cap := by
              have h1' : cs = [vl tmps t] := h1
              rw [h3] at h1'
              exact (List.cons.inj h1').1.symm
            rw [this]; rfl
        | pair a b' =>
          have : vl tmps t = .agg cs.toArray := by have := h1; simpa [ValC, Sh.ag] using this
          rw [this]; rfl
      refine ⟨cs, [], by show ValC s.ty.ag _ _; rw [← hag]; exact h1, ⟨rfl, ?_⟩, List.nodup_nil, by simp⟩
      refine EncO.toEnc hM s cs x bs hn (fun b' hb' row' hrow' i c hc => ?_) h2
      have how := h7 b' hb'
      unfold frozM heapOf
      rw [(S.dis b' t how).2.2 (0 + i)]
      simp only [how, hbox b' hb', and_self, if_true]
      exact rows_full hrow' i c hc
  · intro L
    refine ⟨⟨hM, fun b k hk => (hdis b k hk).2.2, fun k => Older.puts _ ρ k, fun _ _ => rfl, fun k hkn hk b hb => ?_⟩, by intro x hx; simp at hx; subst hx; exact hj, ?_⟩
    · refine hown k hkn (fun x hx e => ?_) b hb
      simp at hx; subst hx
      have : j = k := e
      subst this
      rw [hget] at hk
      have := congrArg Ent.ver hk
      simp at this
    · intro L' hL' _ b hb
      unfold frozω
      rw [if_neg (by rintro ⟨h1, _⟩; rw [hb] at h1; simp at h1; omega)]
      exact hb

/-- moved out of slot j, into limbo -/
theorem move_ok (S : St0 n B X w0 M0 M ω ρ tmps w) {j L : Nat} (hj : j < n) :
    St0 n B X w0 M0 M (fun b => if ω b = some j then some L else ω b) (ρ.puts [w1 j .junk]) tmps w ∧
    Moved n M M ω (fun b => if ω b = some j then some L else ω b) w ρ tmps [w1 j .junk] L := by
  have hdis : ∀ b k, (if ω b = some j then some L else ω b) = some k → (B ≤ b ∨ b ∈ X) ∧ b < w.heap.size ∧ ∀ o, M b o = none := by
    intro b k hk
    split at hk
    · rename_i h; exact S.dis b j h
    · exact S.dis b k hk
  have hown : ∀ t, t < n → (∀ x ∈ [w1 j .junk], x.slot ≠ t) → ∀ b, ω b = some t → (if ω b = some j then some L else ω b) = some t ∧ w.heap[b]? = w.heap[b]? := by
    intro t _ hne b hb
    have : t ≠ j := fun e => hne _ (List.mem_singleton.2 rfl) e.symm
    exact ⟨by rw [if_neg (by rw [hb]; simpa using this)]; exact hb, rfl⟩
  have hget : (ρ.puts [w1 j .junk]).get j = ⟨(ρ.get j).g + 1, 0, .junk⟩ := by
    show (ρ.put (w1 j .junk)).get j = _
    rw [Env.get_put]; simp [w1]
  refine ⟨S.step [w1 j .junk] S.size (Fr.refl _ _ _) (Mem.le_refl _) (fun _ _ _ _ => rfl) S.mem hdis (fun _ _ => rfl) (by intro x hx; simp at hx; subst hx; exact hj) hown ?_, ?_⟩
  · intro t ⟨x, hx, hxt⟩ _
    simp at hx; subst hx
    have : t = j := hxt.symm
    subst this
    rw [hget]; exact trivial
  · refine ⟨⟨Mem.le_refl _, fun b k hk => (hdis b k hk).2.2, fun k => Older.puts _ ρ k, fun _ _ => rfl, fun k hkn hk b hb => ?_⟩, by intro x hx; simp at hx; subst hx; exact hj, ?_⟩
    · refine hown k hkn (fun x hx e => ?_) b hb
      simp at hx; subst hx
      have : j = k := e
      subst this
      rw [hget] at hk
      have := congrArg Ent.g hk
      simp at this
    · intro L' hL' hne b hb
      show (if ω b = some j then some L else ω b) = some L'
      rw [if_neg (by rw [hb]; simp; omega)]; exact hb

/-- a value that was taken: it stands in limbo L -/
structure Taken (n : Nat) (M : Mem) (ω : Own) (w : World) (L : Nat) (v : Value) (s : Sh) (x : El s.ty) : Prop where
  enc : ∃ cs bs, ValC s.ag v cs ∧ EncO M (rows w) s cs x bs ∧ bs.Nodup ∧ ∀ b ∈ bs, ω b = some L

/-- taking -/
theorem tk_ok (S : St0 n B X w0 M0 M ω ρ tmps w) (L : Nat) {R : Type} {q : Opd} {k : (s : Sh) → El s.ty → List Wr → Option R} {r : R}
    (h : tk q k = some r) {v : Value} (hq : OpdR n M ω w ρ (vl tmps) q v) : ∃ s x ws, k s x ws = some r ∧
      ∃ M' ω', St0 n B X w0 M0 M' ω' (ρ.puts ws) tmps w ∧ Moved n M M' ω ω' w ρ tmps ws L ∧ Taken n M' ω' w L v s x := by
  unfold tk at h
  split at h
  · rename_i s x ha
    have hr := hq.rel (by rw [ha]; intro _ _ _ _ _ e; cases e)
    rw [ha] at hr
    obtain ⟨cs, bs, h1, h2, h3, h4⟩ := hr
    split at h
    · rename_i hf
      have hbs := EncO.free s cs x bs hf h2
      subst hbs
      exact ⟨s, x, [], h, M, ω, S, ⟨Step.refl S, by simp, fun _ _ _ _ h => h⟩, ⟨cs, [], h1, h2, h3, by simp⟩⟩
    · split at h
      · rename_i j hj
        obtain ⟨e1, e2, e3⟩ := hq.slot j hj
        have hjn := e3 (by rw [ha]; intro e; cases e)
        obtain ⟨g1, g2⟩ := move_ok S (L := L) hjn
        refine ⟨s, x, _, h, M, _, g1, g2, ⟨cs, bs, h1, h2, h3, fun b hb => ?_⟩⟩
        have := h4 b hb
        rw [hj] at this
        simp only [Option.getD_some] at this
        simp [this]
      · cases h
  · rename_i j g ver t x org e ha
    have hr := hq.rel (by rw [ha]; intro _ _ _ _ _ e; cases e)
    have htg := hq.tgt j (by rw [ha]; rfl)
    rw [ha] at hr
    obtain ⟨⟨hjn, _⟩, hcl⟩ := hr
    split at h
    · rename_i hc
      rw [htg] at hc
      split at h
      · rename_i a' hf
        rw [htg] at hf
        obtain ⟨g1, g2⟩ := freeze_ok S hjn hf
        obtain ⟨cs, h1, h2, _⟩ := hcl hc
        exact ⟨.pure t, x, _, h, _, _, g1, g2 L, ⟨cs, [], h1, ⟨rfl, h2⟩, List.nodup_nil, by simp⟩⟩
      · cases h
    · cases h
  · cases h

end
end Fw
