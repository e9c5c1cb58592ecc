/- The steps that operations are made of. Conditions: none. -/
import Derived.Test.YtnbpojalpdldnaaFw6
namespace Fw
open Go

section
variable {n B : Nat} {X : List Nat} {w0 : World} {M0 M : Mem} {ω : Own} {ρ : Env} {tmps : Array Value} {w : World}

abbrev vl (tmps : Array Value) : Vl := fun t => tmps.getD t undef

theorem heapOf_full (S : St0 n B X w0 M0 M ω ρ tmps w) (k : Nat) (vk : Value) : (heapOf M ω w k vk).le (full w) := by
  intro b o v h
  unfold heapOf at h
  cases hm : M b o with
  | some u => rw [hm] at h; simp only [Option.some.injEq] at h; subst h; exact S.mem b o u hm
  | none =>
    rw [hm] at h
    simp only at h
    split at h
    · exact h
    · cases h
theorem M_full (S : St0 n B X w0 M0 M ω ρ tmps w) : M.le (full w) := fun b o v h => S.mem b o v h

/-- what is known of an operand -/
structure OpdR (n : Nat) (M : Mem) (ω : Own) (w : World) (ρ : Env) (vals : Vl) (q : Opd) (v : Value) : Prop where
  rel : (∀ s g ver b a, q.a ≠ .cond s g ver b a) → Rel0 n M ω w ρ vals (q.slot.getD 0) v q.a
  tgt : ∀ k, q.a.tgt = some k → q.tgt = ρ.get k
  slot : ∀ j, q.slot = some j → v = vals j ∧ q.ent = ρ.get j ∧ (q.a ≠ .junk → j < n)

def GuardOk (ρ : Env) (vals : Vl) (gd : Gd) : Prop := ∀ s g ver b, gd = some (s, g, ver, b) → curK ρ s g ver ∧ vals s = .bool b

theorem ofConst_rel (t : Nat) (v : Value) : Rel0 n M ω w ρ (vl tmps) t v (ofConst v) := by
  cases v <;> simp only [ofConst] <;> try exact trivial
  case bool b => exact ⟨[.bool b], [], rfl, ⟨rfl, rfl⟩, List.nodup_nil, by simp⟩
  case int k x =>
    split
    · rename_i h; exact ⟨[.int k x], [], rfl, ⟨rfl, rfl, h⟩, List.nodup_nil, by simp⟩
    · exact trivial
  case string s =>
    split
    · rename_i h; exact ⟨[.string s], [], rfl, ⟨rfl, by simp, h⟩, List.nodup_nil, by simp⟩
    · exact trivial
theorem ofConst_ne (v : Value) (s g ver : Nat) (b : Bool) (a : A) : ofConst v ≠ .cond s g ver b a := by
  cases v <;> simp only [ofConst] <;> intro h <;> try cases h
  all_goals (split at h <;> cases h)
theorem ofConst_tgt (v : Value) : (ofConst v).tgt = none := by
  cases v <;> simp only [ofConst] <;> try rfl
  all_goals (split <;> rfl)

theorem opd_rel (S : St0 n B X w0 M0 M ω ρ tmps w) {gd : Gd} (hg : GuardOk ρ (vl tmps) gd) (x : Operand) (d : List Deferred) :
    OpdR n M ω w ρ (vl tmps) (opd ρ gd x) (Act.eval ⟨tmps, d⟩ x) := by
  cases x with
  | const v =>
    refine ⟨fun _ => ofConst_rel _ v, fun k hk => ?_, fun j hj => by cases hj⟩
    simp only [opd, ofConst_tgt] at hk; cases hk
  | func f => exact ⟨fun _ => rfl, fun k hk => (by cases hk), fun j hj => (by cases hj)⟩
  | global g => exact ⟨fun _ => trivial, fun k hk => (by cases hk), fun j hj => (by cases hj)⟩
  | tmp t =>
    refine ⟨fun hne => ?_, fun k hk => ?_, fun j hj => ?_⟩
    · simp only [opd] at hne ⊢
      show Rel0 n M ω w ρ (vl tmps) t _ _
      by_cases ht : t < n
      · have hr := S.slots t ht
        generalize hA : (ρ.get t).a = A at *
        cases A with
        | cond s g ver b a =>
          cases gd with
          | none => exact (hne _ _ _ _ _ rfl).elim
          | some q =>
            obtain ⟨s', g', ver', b'⟩ := q
            simp only [A.stripG, A.strip] at hne ⊢
            split
            · rename_i he
              obtain ⟨rfl, rfl, rfl, rfl⟩ := he
              obtain ⟨h1, h2⟩ := hg _ _ _ _ rfl
              exact (hr.2 h1).1 h2
            · rename_i he
              rw [if_neg he] at hne
              exact (hne _ _ _ _ _ rfl).elim
        | _ => cases gd <;> exact hr
      · have hj := S.high t (Nat.le_of_not_lt ht)
        rw [hj]
        cases gd <;> exact trivial
    · simp only [opd] at hk ⊢
      unfold tgtOf; rw [hk]
    · simp only [opd, Option.some.injEq] at hj
      subst hj
      refine ⟨rfl, rfl, fun hne => ?_⟩
      rcases Nat.lt_or_ge t n with h | h
      · exact h
      · simp only [opd, S.high t h] at hne
        exact (hne (by cases gd <;> rfl)).elim

theorem Sh.ag_ty (s : Sh) (h : s.noref = true) : s.ag = s.ty.ag := by
  cases s <;> first | rfl | simp [Sh.noref] at h

/-- reading -/
theorem rd_ok (S : St0 n B X w0 M0 M ω ρ tmps w) {R : Type} {t : Ty} {q : Opd} {k : El t → Option R} {r : R} (h : rd t q k = some r) :
    ∃ x, k x = some r ∧ ∀ v, OpdR n M ω w ρ (vl tmps) q v → ∃ cs, ValC t.ag v cs ∧ Enc (full w) t cs x := by
  unfold rd at h
  split at h
  · rename_i s x ha
    split at h
    · rename_i ht
      split at h
      · rename_i hn
        subst ht
        refine ⟨x, h, fun v hq => ?_⟩
        have hr := hq.rel (by rw [ha]; intro _ _ _ _ _ e; cases e)
        rw [ha] at hr
        obtain ⟨cs, bs, h1, h2, h3, h4⟩ := hr
        refine ⟨cs, by rw [← Sh.ag_ty s hn]; exact h1, EncO.toEnc (M_full S) s cs x bs hn (fun b _ row hrow => rows_full hrow) h2⟩
      · cases h
    · cases h
  · rename_i j g ver t' x org e ha
    split at h
    · rename_i hc
      split at h
      · rename_i ht
        subst ht
        refine ⟨x, h, fun v hq => ?_⟩
        have hr := hq.rel (by rw [ha]; intro _ _ _ _ _ e; cases e)
        have htg := hq.tgt j (by rw [ha]; rfl)
        rw [ha] at hr
        obtain ⟨h1, h2⟩ := hr
        rw [htg] at hc
        obtain ⟨cs, h3, h4, _⟩ := h2 hc
        exact ⟨cs, h3, Enc.mono (heapOf_full S _ _) t' cs x h4⟩
      · cases h
    · cases h
  · cases h

theorem rd_int (S : St0 n B X w0 M0 M ω ρ tmps w) {R : Type} {kk : IntKind} {q : Opd} {k : Int → Option R} {r : R} (h : rd (.int kk) q k = some r) :
    ∃ x, k x = some r ∧ ∀ v, OpdR n M ω w ρ (vl tmps) q v → v = .int kk x ∧ inR kk x := by
  obtain ⟨x, h1, h2⟩ := rd_ok S h
  refine ⟨x, h1, fun v hq => ?_⟩
  obtain ⟨cs, h3, h4, h5⟩ := h2 v hq
  have : cs = [v] := h3
  rw [this] at h4
  exact ⟨by simpa using h4, h5⟩
theorem rd_bool (S : St0 n B X w0 M0 M ω ρ tmps w) {R : Type} {q : Opd} {k : Bool → Option R} {r : R} (h : rd .bool q k = some r) :
    ∃ x, k x = some r ∧ ∀ v, OpdR n M ω w ρ (vl tmps) q v → v = .bool x := by
  obtain ⟨x, h1, h2⟩ := rd_ok S h
  refine ⟨x, h1, fun v hq => ?_⟩
  obtain ⟨cs, h3, h4⟩ := h2 v hq
  have : cs = [v] := h3
  rw [this] at h4
  have h5 : [v] = [Value.bool x] := h4
  simpa using h5
theorem rd_str (S : St0 n B X w0 M0 M ω ρ tmps w) {R : Type} {q : Opd} {k : List UInt8 → Option R} {r : R} (h : rd .str q k = some r) :
    ∃ x, k x = some r ∧ ∀ v, OpdR n M ω w ρ (vl tmps) q v → v = .string ⟨x.toArray⟩ ∧ x.length ≤ bigLen := by
  obtain ⟨x, h1, h2⟩ := rd_ok S h
  refine ⟨x, h1, fun v hq => ?_⟩
  obtain ⟨cs, h3, h4, h5⟩ := h2 v hq
  have : cs = [v] := h3
  rw [this] at h4
  exact ⟨by simpa using h4, h5⟩

/-- limbo goes to slot d -/
def settle (n d : Nat) (ω : Own) : Own := fun b => match ω b with | some k => if n ≤ k then some d else some k | none => none
theorem settle_lim {n d : Nat} {ω : Own} {b L : Nat} (h : ω b = some L) (hL : n ≤ L) : settle n d ω b = some d := by simp [settle, h, hL]

theorem getD_set (tmps : Array Value) {d : Nat} (hd : d < tmps.size) (v : Value) (t : Nat) : (tmps.setIfInBounds d v).getD t undef = if t = d then v else tmps.getD t undef := by
  rw [Array.getD_eq_getD_getElem?, Array.getD_eq_getD_getElem?, Array.getElem?_setIfInBounds]
  by_cases h : d = t
  · subst h; simp [hd]
  · simp [h, Ne.symm h]

/-- a result is put into slot d -/
theorem put_ok (S : St0 n B X w0 M0 M ω ρ tmps w) {d : Nat} (hd : d < n) {v : Value} {A : A}
    (hA : Step n M M ω (settle n d ω) w w ρ (ρ.puts [w1 d A]) (vl tmps) (vl (tmps.setIfInBounds d v)) →
      Rel n M (settle n d ω) w (ρ.puts [w1 d A]) (vl (tmps.setIfInBounds d v)) d v A) :
    St0 n B X w0 M0 M (settle n d ω) (ρ.puts [w1 d A]) (tmps.setIfInBounds d v) w := by
  have hsz : d < tmps.size := by rw [S.size]; exact hd
  refine S.step [w1 d A] (by simpa using S.size) (Fr.refl _ _ _) (Mem.le_refl _) (fun _ _ _ _ => rfl) S.mem ?_ ?_ ?_ ?_ ?_
  · intro b k hk
    unfold settle at hk
    split at hk
    · rename_i k' hk'; exact S.dis b k' hk'
    · cases hk
  · intro t ht
    rw [getD_set tmps hsz]
    by_cases h : t = d
    · have := ht (w1 d A) (by simp) h.symm; cases this
    · simp [h]
  · intro x hx; simp at hx; subst hx; exact hd
  · intro t ht hne b hb
    refine ⟨?_, rfl⟩
    simp only [settle, hb]
    rw [if_neg (by omega)]
  · intro t ⟨x, hx, hxt⟩ hst
    simp at hx; subst hx
    have : t = d := hxt.symm
    subst this
    have h1 : (ρ.puts [w1 t A]).get t = ⟨(ρ.get t).g + 1, 0, A⟩ := by
      show (ρ.put (w1 t A)).get t = _
      rw [Env.get_put]; simp [w1]
    rw [getD_set tmps hsz, if_pos rfl, h1]
    exact hA hst

/-- an owned, or shared, value is put into slot d -/
theorem put_c (S : St0 n B X w0 M0 M ω ρ tmps w) {d : Nat} (hd : d < n) {v : Value} {s : Sh} {x : El s.ty} {cs : List Value} {bs : List Nat}
    (hv : ValC s.ag v cs) (he : EncO M (rows w) s cs x bs) (hn : bs.Nodup) (hb : ∀ b ∈ bs, ∃ L, n ≤ L ∧ ω b = some L) :
    St0 n B X w0 M0 M (settle n d ω) (ρ.puts [w1 d (.c s x)]) (tmps.setIfInBounds d v) w :=
  put_ok S hd fun _ => ⟨cs, bs, hv, he, hn, fun b hi => let ⟨_, h1, h2⟩ := hb b hi; settle_lim h2 h1⟩

theorem put_pure (S : St0 n B X w0 M0 M ω ρ tmps w) {d : Nat} (hd : d < n) {v : Value} {t : Ty} {x : El t} {cs : List Value}
    (hv : ValC t.ag v cs) (he : Enc M t cs x) :
    St0 n B X w0 M0 M (settle n d ω) (ρ.puts [w1 d (.c (.pure t) x)]) (tmps.setIfInBounds d v) w :=
  put_c (s := .pure t) S hd hv ⟨rfl, he⟩ List.nodup_nil (by simp)

/-- a new block, held in limbo -/
theorem alloc_ok (S : St0 n B X w0 M0 M ω ρ tmps w) (hB : B ≤ w.heap.size) (c : Array Value) (e : TypeId) (L : Nat) :
    St0 n B X w0 M0 M (fun b => if b = w.heap.size then some L else ω b) ρ tmps (w.alloc (.cells c e)) := by
  have hold : ∀ b, b < w.heap.size → (w.alloc (.cells c e)).heap[b]? = w.heap[b]? := fun b hb => heap_alloc_old hb
  refine S.step [] S.size (Fr.alloc w _ hB) (Mem.le_refl _) (fun _ _ _ _ => rfl) ?_ ?_ (fun _ _ => rfl) (by simp) ?_ (by simp)
  · intro b o v hm
    have h := S.mem b o v hm
    have hlt := World.block_lt_of_cell? _ _ h
    rw [cell_of_block (hold b hlt)]; exact h
  · intro b k hk
    by_cases hb : b = w.heap.size
    · subst hb
      refine ⟨.inl hB, by simp, fun o => ?_⟩
      cases hm : M w.heap.size o with
      | none => rfl
      | some v => have := World.block_lt_of_cell? _ _ (S.mem _ _ _ hm); simp at this
    · rw [if_neg hb] at hk
      obtain ⟨h1, h2, h3⟩ := S.dis b k hk
      exact ⟨h1, by simp; omega, h3⟩
  · intro t _ _ b hb
    obtain ⟨_, h2, _⟩ := S.dis b t hb
    exact ⟨by rw [if_neg (by omega)]; exact hb, hold b h2⟩

theorem rows_alloc_old {w : World} {o : Obj} {b : Nat} {row : List Value} (h : rows w b = some row) : rows (w.alloc o) b = rows w b :=
  rows_of_block (heap_alloc_old (rows_lt h))
theorem EncO.alloc {M : Mem} {w : World} {o : Obj} {s : Sh} {cs : List Value} {x : El s.ty} {bs : List Nat} (h : EncO M (Fw.rows w) s cs x bs) :
    EncO M (Fw.rows (w.alloc o)) s cs x bs :=
  EncO.mono (Mem.le_refl _) s cs x bs (fun b hb => by obtain ⟨row, hr⟩ := EncO.rows s cs x bs h b hb; exact rows_alloc_old hr) h

end
end Fw
