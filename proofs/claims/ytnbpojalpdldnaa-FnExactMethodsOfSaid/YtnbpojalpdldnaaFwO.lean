/- A call of a function that writes into what its first argument owns does what is computed of it. Conditions: none. -/
import Derived.Test.YtnbpojalpdldnaaFwM
namespace Fw
open Go

/-- a part with its blocks, and the whole with the part told anew -/
def Foc (M : Mem) (R : RowFn) (bs : List Nat) (f : Sh) (fc : List Value) (y y' : El f.ty) (Out : RowFn → List Nat → Prop) : Prop :=
  ∃ (mid rest : List Nat), (∀ a, bs.count a = mid.count a + rest.count a) ∧ EncO M R f fc y mid ∧
    ∀ (R' : RowFn) (mid' : List Nat), (∀ b ∈ rest, R' b = R b) → EncO M R' f fc y' mid' → ∃ bs' : List Nat, (∀ a, bs'.count a ≤ mid'.count a + rest.count a) ∧ Out R' bs'

theorem Foc.comp {M : Mem} {R : RowFn} {bs : List Nat} {f g : Sh} {fc gc : List Value} {y y' : El f.ty} {z z' : El g.ty} {Out : RowFn → List Nat → Prop} (h1 : Foc M R bs f fc y y' Out)
    (h2 : ∀ mid, EncO M R f fc y mid → Foc M R mid g gc z z' (fun R' m => EncO M R' f fc y' m)) : Foc M R bs g gc z z' Out := by
  obtain ⟨mid, rest, c1, e1, k1⟩ := h1
  obtain ⟨mid2, rest2, c2, e2, k2⟩ := h2 mid e1
  refine ⟨mid2, rest2 ++ rest, fun a => by rw [c1, c2, List.count_append]; omega, e2, fun R' m' hr he => ?_⟩
  obtain ⟨b1, c3, e3⟩ := k2 R' m' (fun b hb => hr b (by simp [hb])) he
  obtain ⟨b2, c4, e4⟩ := k1 R' b1 (fun b hb => hr b (by simp [hb])) e3
  exact ⟨b2, fun a => by have := c3 a; have := c4 a; rw [List.count_append]; omega, e4⟩

theorem Foc.out {M : Mem} {R : RowFn} {bs : List Nat} {f : Sh} {fc : List Value} {y y' : El f.ty} {Out Out' : RowFn → List Nat → Prop} (h1 : Foc M R bs f fc y y' Out) (k : ∀ R' b, Out R' b → Out' R' b) : Foc M R bs f fc y y' Out' := by
  obtain ⟨mid, rest, c1, e1, k1⟩ := h1
  refine ⟨mid, rest, c1, e1, fun R' m' hr he => ?_⟩
  obtain ⟨b1, c3, e3⟩ := k1 R' m' hr he
  exact ⟨b1, c3, k _ _ e3⟩

theorem ov_same (vs : List Value) (off n : Nat) : ov vs off ((vs.drop off).take n) = vs := by
  unfold ov
  rw [List.length_take, List.length_drop, ← List.drop_drop]
  have : (vs.drop off).take n ++ (vs.drop off).drop (min n (vs.length - off)) = vs.drop off := by
    rcases Nat.le_total n (vs.length - off) with h | h
    · rw [Nat.min_eq_left h, List.take_append_drop]
    · rw [Nat.min_eq_right h, List.take_of_length_le (by rw [List.length_drop]; omega), List.drop_eq_nil_of_le (as := vs.drop off) (by rw [List.length_drop]; exact Nat.le_refl _), List.append_nil]
  rw [List.append_assoc, this, List.take_append_drop]

theorem Foc.cut {M : Mem} {R : RowFn} {s s1 s2 f s3 : Sh} {x : El s.ty} {y1 : El s1.ty} {x2 : El s2.ty} {y y' : El f.ty} {x3 : El s3.ty} {off : Nat}
    {cells : List Value} {bl : List Nat} (he : EncO M R s cells x bl)
    (h3 : ∀ M Rw vs bs, EncO M Rw s vs x bs → ∃ b1 b2 b3, bs = b1 ++ b2 ++ b3 ∧ EncO M Rw s1 ((vs.drop off).take s1.size) y1 b2 ∧ EncO M Rw s2 vs x2 (b1 ++ b3))
    (hen : ∀ M Rw vs bs, EncO M Rw s1 vs y1 bs → EncO M Rw f vs y bs) (hup : UpdOk s2 x2 off f y' s3 x3) :
    Foc M R bl f ((cells.drop off).take f.size) y y' (fun R' m => EncO M R' s3 cells x3 m) := by
  obtain ⟨b1, b2, b3, rfl, e2, e3⟩ := h3 M R cells bl he
  have e2' := hen _ _ _ _ e2
  have hsz : s1.size = f.size := by rw [← EncO.length _ _ _ _ e2, EncO.length _ _ _ _ e2']
  rw [hsz] at e2'
  refine ⟨b2, b1 ++ b3, fun a => by simp only [List.count_append]; omega, e2', fun R' m' hr hE => ?_⟩
  have e3' := EncO.mono (Mem.le_refl M) s2 cells x2 _ hr e3
  obtain ⟨_, f1, f2, f3, g1, g2⟩ := hup.2 M R' cells (b1 ++ b3) _ m' e3' hE
  rw [ov_same] at g2
  refine ⟨_, fun a => ?_, g2⟩
  rw [g1]; simp only [List.count_append]; omega

theorem GroupsO.at2 {α : Type} {p : List Value → α → List Nat → Prop} {sz : Nat} : ∀ (xs : List α) (vs : List Value) (bs : List Nat) (i : Nat) (x : α), GroupsO p sz vs xs bs → xs[i]? = some x →
    ∃ r1 r2 r3 c1 c2 c3, vs = r1 ++ r2 ++ r3 ∧ bs = c1 ++ c2 ++ c3 ∧ r1.length = i * sz ∧ r2.length = sz ∧ p r2 x c2 ∧
      ∀ (q : List Value → α → List Nat → Prop), (∀ cs x b, (∀ i ∈ b, i ∈ c1 ++ c3) → p cs x b → q cs x b) →
        ∀ r2' z c2', r2'.length = sz → q r2' z c2' → GroupsO q sz (r1 ++ r2' ++ r3) (xs.set i z) (c1 ++ c2' ++ c3)
  | [], _, _, _, _, _, h => by simp at h
  | y :: xs, vs, bs, 0, x, ⟨v1, v2, b1, b2, h1, h2, h3, h4, h5⟩, hx => by
    simp at hx; subst hx
    exact ⟨[], v1, v2, [], b1, b2, by simp [h1], by simp [h3], by simp, h2, h4, fun q hq r2' z c2' g1 g2 => ⟨r2', v2, c2', b2, by simp, g1, by simp, g2,
      GroupsO.imp xs v2 b2 (fun x _ cs b hb hp => hq cs x b (fun i hi => by simpa using hb i hi) hp) h5⟩⟩
  | y :: xs, vs, bs, i + 1, x, ⟨v1, v2, b1, b2, h1, h2, h3, h4, h5⟩, hx => by
    obtain ⟨r1, r2, r3, c1, c2, c3, g1, g2, g3, g4, g5, g6⟩ := GroupsO.at2 xs v2 b2 i x h5 (by simpa using hx)
    refine ⟨v1 ++ r1, r2, r3, b1 ++ c1, c2, c3, by simp [h1, g1], by simp [h3, g2], by simp [h2, g3, Nat.add_mul]; omega, g4, g5, fun q hq r2' z c2' k1 k2 => ?_⟩
    exact ⟨v1, r1 ++ r2' ++ r3, b1, c1 ++ c2' ++ c3, by simp, h2, by simp, hq _ _ _ (fun i hi => by simp [hi]) h4,
      g6 q (fun cs x b hb hp => hq cs x b (fun i hi => by have := hb i hi; simp only [List.mem_append] at this ⊢; rcases this with h | h <;> simp [h]) hp) r2' z c2' k1 k2⟩

theorem Foc.elem {M : Mem} {R : RowFn} {e : Sh} {fc : List Value} {ys : List (El e.ty)} {bl : List Nat} {i : Nat} {d z' : El e.ty} (he : EncO M R (.own e) fc ys bl) (hi : i < ys.length) :
    ∃ b cap row, fc = [.slice (some ⟨b, 0, none⟩) ys.length cap] ∧ R b = some row ∧ b ∈ bl ∧
      Foc M R bl e ((row.drop (i * e.size)).take e.size) (ys.getD i d) z' (fun R' m => EncO M R' (.own e) fc (ys.set i z') m) := by
  rcases he with ⟨_, _, h⟩ | ⟨b, cap, row, bss, h1, h2, h3, h4, h5, h6, h7⟩
  · rw [h] at hi; simp at hi
  · have hx : ys[i]? = some (ys.getD i d) := by rw [List.getD_eq_getElem?_getD, List.getElem?_eq_getElem hi]; rfl
    obtain ⟨r1, r2, r3, c1, c2, c3, g1, g2, g3, g4, g5, g6⟩ := GroupsO.at2 ys row bss i _ h7 hx
    have hr2 : (row.drop (i * e.size)).take e.size = r2 := by
      rw [g1, ← g3, List.append_assoc, List.drop_left, ← g4, List.take_left]
    refine ⟨b, cap, row, h2, h5, by simp [h1], ?_⟩
    rw [hr2]
    refine ⟨c2, b :: (c1 ++ c3), fun a => by rw [h1, g2]; simp only [List.count_append, List.count_cons]; omega, g5, fun R' m' hr hE => ?_⟩
    refine ⟨b :: (c1 ++ m' ++ c3), fun a => by simp only [List.count_append, List.count_cons]; omega, .inr ⟨b, cap, row, _, rfl, by rw [h2, List.length_set], by rw [List.length_set]; exact h3, h4, by rw [hr b (by simp)]; exact h5, h6, ?_⟩⟩
    have := g6 (EncO M R' e) (fun cs x b' hb hp => EncO.mono (Mem.le_refl _) e cs x b' (fun j hj => hr j (by have := hb j hj; simp only [List.mem_append, List.mem_cons] at this ⊢; exact .inr this)) hp) r2 z' m' g4 hE
    rwa [← g1] at this

section
variable {n B : Nat} {X : List Nat} {w0 : World} {M0 M : Mem} {ω : Own} {ρ : Env} {tmps : Array Value} {w : World} {P : Program} {C : Ctx}

/-- the content of a slot, its blocks, and the slot told anew -/
theorem cont_open (S : St0 n B X w0 M0 M ω ρ tmps w) {k : Nat} (hk : k < n) {R : Type} {g : (s : Sh) → El s.ty → Option R} {r : R} (h : contK (ρ.get k) g = some r) :
    ∃ s x pc bs b0l, g s x = some r ∧ Place ω w k (ρ.get k).a (vl tmps k) pc ∧ EncO M (rows w) s pc x bs ∧ (b0l ++ bs).Nodup ∧ (∀ i ∈ b0l ++ bs, ω i = some k) ∧
      (isRef (ρ.get k).a = false → ValC s.ag (vl tmps k) pc ∧ s.ag = s.ty.ag) ∧
      ∀ (R' : World) (ω' : Own) (ρ' : Env) (s3 : Sh) (x3 : El s3.ty) (bs4 : List Nat), s3.ty = s.ty → s3.ag = s3.ty.ag → (∀ i ∈ b0l, rows R' i = rows w i) → EncO M (rows R') s3 pc x3 bs4 → (b0l ++ bs4).Nodup →
        (∀ i ∈ b0l ++ bs4, ω' i = some k) → Rel n M ω' R' ρ' (vl tmps) k (vl tmps k) (contWrap (ρ.get k) s3 x3) := by
  have hslot := S.slots k hk
  obtain ⟨s, x, g1, g2⟩ := contK_inv h
  rcases g2 with g2 | ⟨g2, g3⟩
  · rw [g2] at hslot ⊢
    obtain ⟨pcs, bs, q1, ⟨b, row, bss, q2, q3, q4, q5⟩, q6, q7⟩ := hslot
    subst q2
    have t1 : pcs = [vl tmps k] := q1
    rw [t1] at q3
    have q3 : vl tmps k = .pointer (some ⟨b, 0, none⟩) := by simpa using q3
    refine ⟨s, x, row, bss, [b], g1, ⟨b, q3, q7 b (by simp), q4⟩, q5, q6, q7, fun h => by simp [isRef] at h, fun R' ω' ρ' s3 x3 bs4 _ _ z1 z2 z3 z4 => ?_⟩
    have : contWrap (ρ.get k) s3 x3 = .c (.ref s3) x3 := by unfold contWrap; rw [g2]
    rw [this]
    exact ⟨pcs, b :: bs4, q1, ⟨b, row, bs4, rfl, by rw [t1, q3], by rw [z1 b (by simp)]; exact q4, z2⟩, z3, z4⟩
  · rw [g2] at hslot
    have hslot' : Owns M ω w k s x (vl tmps k) := hslot
    obtain ⟨pcs, bs, q1, q2, q6, q7⟩ := hslot'
    have hag : s.ag = s.ty.ag := by cases s <;> first | rfl | exact (g3 _ _ g2).elim
    refine ⟨s, x, pcs, bs, [], g1, ?_, q2, q6, q7, fun _ => ⟨q1, hag⟩, fun R' ω' ρ' s3 x3 bs4 ht h3 _ z2 z3 z4 => ?_⟩
    · rw [g2]; cases s <;> first | exact q1 | exact (g3 _ _ g2).elim
    · have : contWrap (ρ.get k) s3 x3 = .c s3 x3 := by
        unfold contWrap
        split
        · rename_i s5 x5 he; exact (g3 _ _ he).elim
        · rfl
      rw [this]
      exact ⟨pcs, bs4, by rw [h3, ht, ← hag]; exact q1, z2, z3, z4⟩

theorem count_pos_of_mem {a : Nat} {l : List Nat} (h : a ∈ l) : 0 < l.count a := List.count_pos_iff.2 h

/-- the call, its argument's blocks apart -/
theorem io_call (hC : CtxOk P C) (S : St0 n B X w0 M0 M ω ρ tmps w) (hB : B ≤ w0.heap.size) {f : Nat} {F : MFun} (hf : C.fnM f = some F) {d j : Nat} (hd : d < n) (hj : j < n)
    {pc : List Value} {bs b0l : List Nat} (hnd : (b0l ++ bs).Nodup) (how : ∀ i ∈ b0l ++ bs, ω i = some j) {s3 : Sh} {x3 : El s3.ty}
    (hfin : ∀ (R' : World) (ω' : Own) (ρ' : Env) (bs4 : List Nat), (∀ i ∈ b0l, rows R' i = rows w i) → EncO M (rows R') s3 pc x3 bs4 → (b0l ++ bs4).Nodup →
        (∀ i ∈ b0l ++ bs4, ω' i = some j) → Rel n M ω' R' ρ' (vl tmps) j (vl tmps j) (contWrap (ρ.get j) s3 x3))
    {fc : List Value} {y : El F.s.ty} {m : Int} (hfoc : Foc M (rows w) bs F.s fc y (F.out y m) (fun R' b => EncO M R' s3 pc x3 b)) {v : Value} (hv : ValC F.s.ag v fc) (hm : inR .i64 m) (hpre : F.pre y m) :
    Calls P f #[v, .int .i64 m] w fun e w' => ∃ v' M' ω', e = .returned v' ∧
      St0 n B X w0 M0 M' ω' (ρ.puts [⟨j, true, contWrap (ρ.get j) s3 x3⟩, w1 d (.c (.pure (.int .i64)) (F.run y m))]) (tmps.setIfInBounds d v') w' := by
  have hF := hC.fnM f F hf
  obtain ⟨mid, rest, hc, he, hk⟩ := hfoc
  have hmem : ∀ a, a ∈ bs ↔ a ∈ mid ∨ a ∈ rest := fun a => by
    have := hc a
    rw [← List.count_pos_iff, ← List.count_pos_iff, ← List.count_pos_iff]; omega
  have hcnt := List.nodup_iff_count.1 hnd
  simp only [List.count_append] at hcnt
  have hmidN : mid.Nodup := List.nodup_iff_count.2 fun a => by have := hcnt a; have := hc a; omega
  refine (hF.call w v fc y mid m hm hv (EncO.closed _ _ _ _ hF.closed he) hmidN hpre).mono ?_
  rintro e w' ⟨mid', rfl, hr, hfr, he', hn', hb'⟩
  -- blocks that are not in mid are as they were
  have hsame : ∀ b, b < w.heap.size → b ∉ mid → w'.heap[b]? = w.heap[b]? := fun b hb hx => hfr.block b hb hx
  have hlt : ∀ b k, ω b = some k → b < w.heap.size := fun b k h => (S.dis b k h).2.1
  have hmidj : ∀ b ∈ mid, ω b = some j := fun b hb => how b (by simp [(hmem b).2 (.inl hb)])
  have hrest : ∀ b ∈ rest, b ∉ mid := fun b hb hx => by
    have h1 := hcnt b; have h2 := hc b; have h3 := count_pos_of_mem hb; have h4 := count_pos_of_mem hx; omega
  have hrow : ∀ b ∈ rest, rows w' b = rows w b := fun b hb => rows_of_block (hsame b (hlt b j (how b (by simp [(hmem b).2 (.inr hb)]))) (hrest b hb))
  obtain ⟨bs', hc', hE⟩ := hk (rows w') mid' hrow (EncO.closed _ _ _ _ hF.closed he')
  have hmid' : ∀ b ∈ mid', b < w'.heap.size := fun b hb => by obtain ⟨row, hrow⟩ := EncO.rows _ _ _ _ he' b hb; exact rows_lt hrow
  have hfresh : ∀ b ∈ mid', b ∉ mid → w.heap.size ≤ b := fun b hb hx => (hb' b hb).resolve_left hx
  have hMnone : ∀ b, w.heap.size ≤ b → ∀ o, M b o = none := fun b hb o => by
    cases hm : M b o with
    | none => rfl
    | some u => have := World.block_lt_of_cell? _ _ (S.mem b o u hm); simp at this; omega
  have hbs'mem : ∀ b ∈ bs', b ∈ mid' ∨ b ∈ rest := fun b hb => by
    have h1 := count_pos_of_mem hb; have h2 := hc' b
    rcases Nat.eq_zero_or_pos (mid'.count b) with h | h
    · exact .inr (List.count_pos_iff.1 (by omega))
    · exact .inl (List.count_pos_iff.1 h)
  have hget : (ρ.puts [(⟨j, true, contWrap (ρ.get j) s3 x3⟩ : Wr)]).get j = ⟨(ρ.get j).g, (ρ.get j).ver + 1, contWrap (ρ.get j) s3 x3⟩ := by
    show (ρ.put _).get j = _
    rw [Env.get_put]; simp
  have S2 : St0 n B X w0 M0 M (fun b => if b ∈ mid' then some j else ω b) (ρ.puts [⟨j, true, contWrap (ρ.get j) s3 x3⟩]) tmps w' := by
    refine S.step _ S.size ⟨hfr.os, hfr.tape, hfr.output, hfr.size, fun k hkB hx => hsame k (Nat.lt_of_lt_of_le hkB (S.bnd hB)) (fun hm => ?_)⟩ (Mem.le_refl _) (fun _ _ _ _ => rfl) ?_ ?_ (fun _ _ => rfl) ?_ ?_ ?_
    · rcases (S.dis k j (hmidj k hm)).1 with h | h
      · omega
      · exact hx h
    · intro b o u hM
      have hc := S.mem b o u hM
      have hbl := World.block_lt_of_cell? _ _ hc
      rw [cell_of_block (hsame b hbl (fun hx => by have := (S.dis b j (hmidj b hx)).2.2 o; rw [this] at hM; cases hM))]
      exact hc
    · intro b k hbk
      by_cases hb : b ∈ mid'
      · by_cases hx : b ∈ mid
        · obtain ⟨q1, q2, q3⟩ := S.dis b j (hmidj b hx)
          exact ⟨q1, hmid' b hb, q3⟩
        · have h1 := hfresh b hb hx
          exact ⟨.inl (Nat.le_trans (S.bnd hB) h1), hmid' b hb, hMnone b h1⟩
      · have : ω b = some k := by simpa [hb] using hbk
        obtain ⟨q1, q2, q3⟩ := S.dis b k this
        exact ⟨q1, Nat.lt_of_lt_of_le q2 hfr.size, q3⟩
    · intro x hx
      simp at hx; subst hx; exact hj
    · intro t ht hne b hb
      have htj : t ≠ j := fun e => hne _ (List.mem_singleton.2 rfl) e.symm
      have hbm : b ∉ mid := fun hx => by have := hmidj b hx; rw [hb] at this; simp at this; exact htj this
      have hbl := hlt b t hb
      refine ⟨?_, hsame b hbl hbm⟩
      show (if b ∈ mid' then some j else ω b) = some t
      rw [if_neg (fun hx => by have := hfresh b hx hbm; omega)]; exact hb
    · intro t ⟨x, hx, hxt⟩ _
      simp at hx; subst hx
      have : t = j := hxt.symm
      subst this
      rw [hget]
      refine hfin w' _ _ bs' (fun i hi => ?_) hE ?_ ?_
      · have hij := how i (by simp [hi])
        refine rows_of_block (hsame i (hlt i _ hij) (fun hx => ?_))
        have h1 := hcnt i; have h2 := hc i; have h3 := count_pos_of_mem hi; have h4 := count_pos_of_mem hx; omega
      · refine List.nodup_iff_count.2 fun a => ?_
        rw [List.count_append]
        have h1 := hcnt a; have h2 := hc a; have h3 := hc' a; have h4 := List.nodup_iff_count.1 hn' a
        by_cases ha : a ∈ mid'
        · by_cases hx : a ∈ mid
          · have := count_pos_of_mem hx; omega
          · have h5 := hfresh a ha hx
            have h6 : ∀ l : List Nat, (∀ i ∈ l, ω i = some t) → l.count a = 0 := fun l hl => List.count_eq_zero.2 fun hm => by have := hlt a t (hl a hm); omega
            have h7 := h6 b0l (fun i hi => how i (by simp [hi]))
            have h8 := h6 rest (fun i hi => how i (by simp [(hmem i).2 (.inr hi)]))
            omega
        · have := List.count_eq_zero.2 ha
          omega
      · intro i hi
        show (if i ∈ mid' then some t else ω i) = some t
        split
        · rfl
        · rename_i hn
          rcases List.mem_append.1 hi with h | h
          · exact how i (by simp [h])
          · rcases hbs'mem i h with h | h
            · exact (hn h).elim
            · exact how i (by simp [(hmem i).2 (.inr h)])
  have S3 := put_pure (t := .int .i64) (x := F.run y m) S2 hd (v := .int .i64 (F.run y m)) (cs := [.int .i64 (F.run y m)]) rfl ⟨rfl, hr⟩
  exact ⟨_, _, _, rfl, S3⟩

theorem opdsR2 {q q' : Opd} {vs : List Value} {vals : Vl} (h : OpdsR n M ω w ρ vals [q, q'] vs) : ∃ v v', vs = [v, v'] ∧ OpdR n M ω w ρ vals q v ∧ OpdR n M ω w ρ vals q' v' := by
  match vs, h with
  | [v, v'], ⟨h1, h2, _⟩ => exact ⟨v, v', rfl, h1, h2⟩
  | [v], h => exact h.2.elim
  | [], h => exact h.elim
  | _ :: _ :: _ :: _, h => exact h.2.2.elim

theorem ioK_ok (hC : CtxOk P C) (S : St0 n B X w0 M0 M ω ρ tmps w) (hB : B ≤ w0.heap.size) {f : Nat} {F : MFun} (hf : C.fnM f = some F) {d j off : Nat} (hd : d < n) (hj : j < n) {m : Int} (hm : inR .i64 m)
    {ws : List Wr} {cs : List Prop} (h : ioK F d j off (ρ.get j) m = some (ws, cs)) (hcs : ∀ p ∈ cs, p) {v : Value}
    (hv : ∀ pc, Place ω w j (ρ.get j).a (vl tmps j) pc → ValC F.s.ag v ((pc.drop off).take F.s.size)) :
    Calls P f #[v, .int .i64 m] w fun e w' => ∃ v' M' ω', e = .returned v' ∧ St0 n B X w0 M0 M' ω' (ρ.puts ws) (tmps.setIfInBounds d v') w' := by
  unfold ioK at h
  obtain ⟨s, x, pc, bs, b0l, g, hpl, he, hnd, how, _, hfin⟩ := cont_open S hj h
  obtain ⟨s1, y1, s2, x2, f1, f2, f2', f3⟩ := Sh.cutK_ok s x off _ _ _ g
  split at f1
  · rename_i hu
    obtain ⟨y, p3, p4⟩ := castK_heq (upB_ty s1 F.s hu) (fun y => s2.updK x2 off F.s (F.out y m) fun s3 x3 =>
      some ([(⟨j, true, contWrap (ρ.get j) s3 x3⟩ : Wr), w1 d (.c (.pure (.int .i64)) (F.run y m))], [F.pre y m])) y1
    rw [p3] at f1
    obtain ⟨s3, x3, p5, p6, p7⟩ := Sh.updK_ok (hC.fnM f F hf).noref s2 x2 off _ _ f1
    simp only [Option.some.injEq, Prod.mk.injEq] at p5
    obtain ⟨rfl, rfl⟩ := p5
    exact io_call hC S hB hf hd hj hnd how (fun R' ω' ρ' bs4 z1 z2 z3 z4 => hfin R' ω' ρ' s3 x3 bs4 (p6.1.trans f2') p7 z1 z2 z3 z4)
      (Foc.cut he f3 (fun _ _ _ _ h => upB_enc s1 F.s hu y1 y _ _ p4 h) p6) (hv pc hpl) hm (hcs _ (by simp))
  · cases f1

theorem ioElK_ok (hC : CtxOk P C) (S : St0 n B X w0 M0 M ω ρ tmps w) (hB : B ≤ w0.heap.size) {f : Nat} {F : MFun} (hf : C.fnM f = some F) {d j off i eo : Nat} {et : Ty} (hd : d < n) (hj : j < n) {m : Int} (hm : inR .i64 m)
    {ws : List Wr} {cs : List Prop} (h : ioElK F d j off et i eo (ρ.get j) m = some (ws, cs)) (hcs : ∀ p ∈ cs, p) {v : Value} {fc : List Value}
    (hel : ElC ω w j (ρ.get j).a (vl tmps j) off et i eo F.s.ty.size fc) (hv : ValC F.s.ag v fc) :
    Calls P f #[v, .int .i64 m] w fun e w' => ∃ v' M' ω', e = .returned v' ∧ St0 n B X w0 M0 M' ω' (ρ.puts ws) (tmps.setIfInBounds d v') w' := by
  have hnr := (hC.fnM f F hf).noref
  unfold ioElK at h
  obtain ⟨s, x, pc, bs, b0l, g, hpl, he, hnd, how, _, hfin⟩ := cont_open S hj h
  obtain ⟨s1, y1, s2, x2, f1, f2, f2', f3⟩ := Sh.cutK_ok s x off _ _ _ g
  split at f1
  · rename_i el ys
    split at f1
    · rename_i hen
      obtain ⟨u1, z1, u2, w2, k1, k2, k2', k3⟩ := Sh.cutK_ok el (ys.getD i (dflt el.ty)) eo _ _ _ f1
      split at k1
      · rename_i hu
        obtain ⟨z, p3, p4⟩ := castK_heq (upB_ty u1 F.s hu) (fun z => u2.updK w2 eo F.s (F.out z m) fun u3 w3 =>
          if h3 : upB u3 el = true then castK (upB_ty u3 el h3) (fun w3 => s2.updK x2 off (.own el) (ys.set i w3) fun s3 x3 =>
            some ([(⟨j, true, contWrap (ρ.get j) s3 x3⟩ : Wr), w1 d (.c (.pure (.int .i64)) (F.run z m))], [F.pre z m])) w3 else none) z1
        rw [p3] at k1
        obtain ⟨u3, w3, p5, p6, p7⟩ := Sh.updK_ok hnr u2 w2 eo _ _ k1
        split at p5
        · rename_i hu3
          obtain ⟨w3', q3, q4⟩ := castK_heq (upB_ty u3 el hu3) (fun w3 => s2.updK x2 off (.own el) (ys.set i w3) fun s3 x3 =>
            some ([(⟨j, true, contWrap (ρ.get j) s3 x3⟩ : Wr), w1 d (.c (.pure (.int .i64)) (F.run z m))], [F.pre z m])) w3
          rw [q3] at p5
          obtain ⟨s3, x3, r5, r6, r7⟩ := Sh.updK_ok (s' := .own el) (y := ys.set i w3') hen s2 x2 off _ _ p5
          simp only [Option.some.injEq, Prod.mk.injEq] at r5
          obtain ⟨rfl, rfl⟩ := r5
          have F1 := Foc.cut (f := .own el) he f3 (fun _ _ _ _ h => h) r6
          obtain ⟨pc', b, len, cap, row, h1, h2, h3, h4, h5, h6⟩ := hel
          have := Place.uniq h1 hpl
          subst this
          have hty : el.ty = et := by have := f2; simpa using this
          have hsz : el.size = et.size := by rw [Sh.size_ty el hen, hty]
          have hfs : F.s.size = F.s.ty.size := Sh.size_ty F.s hnr
          have hhead : (pc'.drop off).take (Sh.own el).size = [.slice (some ⟨b, 0, none⟩) len cap] := by
            have hlt : off < pc'.length := (List.getElem?_eq_some_iff.1 h2).1
            show (pc'.drop off).take 1 = _
            rw [List.drop_eq_getElem_cons hlt]
            simp [List.getElem?_eq_getElem hlt] at h2
            simp [h2]
          refine io_call hC S hB hf hd hj hnd how (fun R' ω' ρ' bs4 z1 z2 z3 z4 => hfin R' ω' ρ' s3 x3 bs4 (r6.1.trans f2') r7 z1 z2 z3 z4)
            (F1.comp fun mid hE => ?_) hv hm (hcs _ (by simp))
          rw [hhead] at hE
          have hi : i < ys.length := by
            rcases hE with ⟨_, ⟨a', e1, _⟩, _⟩ | ⟨b', cap', row', bss, _, e1, _⟩
            · simp at e1; omega
            · simp at e1; omega
          obtain ⟨b', cap', row', e1, e2, _, F2⟩ := Foc.elem (d := dflt el.ty) (z' := w3') hE hi
          simp only [List.cons.injEq, Value.slice.injEq, Option.some.injEq, Addr.mk.injEq, and_true] at e1
          obtain ⟨rfl, _, _⟩ := e1
          rw [h5] at e2
          simp only [Option.some.injEq] at e2
          subst e2
          rw [hhead]
          refine F2.comp fun mid2 hE2 => ?_
          have F3 := (Foc.cut (f := F.s) hE2 k3 (fun _ _ _ _ h => upB_enc u1 F.s hu z1 z _ _ p4 h) p6).out (fun R' b h => upB_enc u3 el hu3 w3 w3' _ _ q4 h)
          obtain ⟨_, _, _, hE3, _⟩ := id F3
          have hl := EncO.length _ _ _ _ hE3
          have hl2 := EncO.length _ _ _ _ hE2
          have hcell : (((row.drop (i * el.size)).take el.size).drop eo).take F.s.size = fc := by
            rw [h6, ← hfs, ← hsz]
            rw [List.length_take, List.length_drop, hl2] at hl
            rw [List.drop_take, List.take_take, List.drop_drop, Nat.min_eq_left (by omega)]
          rw [hcell] at F3
          exact F3
        · cases p5
      · cases k1
    · cases f1
  · cases f1

theorem argsFK_ok (S : St0 n B X w0 M0 M ω ρ tmps w) {R : Type} {r : R} : ∀ (ts : List Ty) (qs : List Opd) (vs : List Value) (k : Vals ts → Option R), argsFK ts qs k = some r →
    OpdsR n M ω w ρ (vl tmps) qs vs → ∃ xs, k xs = some r ∧ ∀ M2, M.le M2 → ArgsR M2 ts vs xs
  | [], [], [], k, h, _ => ⟨(), h, fun _ _ => trivial⟩
  | t :: ts, q :: qs, v :: vs, k, h, ⟨hq, hqs⟩ => by
    simp only [argsFK] at h
    split at h
    · rename_i hf
      obtain ⟨x, h1, h2⟩ := rd_ok S h
      obtain ⟨xs, h3, h4⟩ := argsFK_ok S ts qs vs _ h1 hqs
      obtain ⟨cs, g1, g2⟩ := h2 v hq
      exact ⟨(x, xs), h3, fun M2 hM => ⟨⟨cs, g1, Enc.flat t cs x hf g2⟩, h4 M2 hM⟩⟩
    · split at h
      · rename_i s x ha
        split at h
        · rename_i hty
          subst hty
          split at h
          · rename_i hc
            obtain ⟨xs, h3, h4⟩ := argsFK_ok S ts qs vs (fun xs => k (x, xs)) h hqs
            have hr := hq.rel (by rw [ha]; intro _ _ _ _ _ e; cases e)
            rw [ha] at hr
            obtain ⟨cs, bs, k1, k2, _, _⟩ := (show Owns M ω w _ s x v from hr)
            have hb := EncO.free _ _ _ _ hc.1 k2
            subst hb
            exact ⟨(x, xs), h3, fun M2 hM => ⟨⟨cs, by rw [← Sh.ag_ty s hc.2]; exact k1, EncO.toEnc hM s cs x [] hc.2 (fun b hb => by simp at hb) k2⟩, h4 M2 hM⟩⟩
          · cases h
        · cases h
      · cases h
  | [], _ :: _, _, k, h, _ => by simp [argsFK] at h
  | _ :: _, [], _, k, h, _ => by simp [argsFK] at h
  | [], [], _ :: _, _, _, hq => hq.elim
  | _ :: _, _ :: _, [], _, _, hq => hq.elim

theorem exCallT_ok (hC : CtxOk P C) (S : St0 n B X w0 M0 M ω ρ tmps w) (hB : B ≤ w0.heap.size) {f d : Nat} (hd : d < n) {qs : List Opd} {ws : List Wr} {cs : List Prop}
    (h : exCallT C f d qs = some (ws, cs)) (hcs : ∀ p ∈ cs, p) {vs : List Value} (hqs : OpdsR n M ω w ρ (vl tmps) qs vs) :
    Calls P f vs.toArray w fun e w' => ∃ v M' ω', e = .returned v ∧ St0 n B X w0 M0 M' ω' (ρ.puts ws) (tmps.setIfInBounds d v) w' := by
  unfold exCallT at h
  split at h
  · rename_i F q qs hf
    have hF := hC.fnT f F hf
    match vs, hqs with
    | v :: vs, ⟨hq, hqs⟩ =>
      obtain ⟨xs, h, hargs⟩ := argsFK_ok S F.args qs vs _ h hqs
      obtain ⟨s, x, ws1, h1, M1, ω1, S1, m1, t1⟩ := tkOwn_ok S n h hq
      split at h1
      · rename_i hu
        obtain ⟨y, p3, p4⟩ := castK_heq (upB_ty s F.s hu) (fun y => some (ws1 ++ [w1 d (.c F.res (F.run y xs))], [F.pre y xs])) x
        rw [p3] at h1
        simp only [Option.some.injEq, Prod.mk.injEq] at h1
        obtain ⟨rfl, rfl⟩ := h1
        obtain ⟨cs1, bs, a1, a2, a3, a4⟩ := t1.enc
        have hE : EncO emp (rows w) F.s cs1 y bs := EncO.closed _ _ _ _ hF.closed (upB_enc s F.s hu x y cs1 bs p4 a2)
        have hlt : ∀ b k, ω1 b = some k → b < w.heap.size := fun b k h => (S1.dis b k h).2.1
        refine (hF.call w M1 v cs1 y bs vs xs S1.mem (fun b hb => (S1.dis b n (a4 b hb)).2.2) (by rw [← upB_ag s F.s hu]; exact a1) hE a3 (hargs M1 m1.step.mem) (hcs _ (by simp))).mono ?_
        rintro e w' ⟨r, cs', bs', rfl, hfr, hv', he', hn', hb'⟩
        have hsame : ∀ b, b < w.heap.size → b ∉ bs → w'.heap[b]? = w.heap[b]? := fun b hb hx => hfr.block b hb hx
        have hbs' : ∀ b ∈ bs', b < w'.heap.size := fun b hb => by obtain ⟨row, hrow⟩ := EncO.rows _ _ _ _ he' b hb; exact rows_lt hrow
        have S2 : St0 n B X w0 M0 M1 (fun b => if b ∈ bs' then some n else ω1 b) (ρ.puts ws1) tmps w' := by
          refine S1.step [] S1.size ⟨hfr.os, hfr.tape, hfr.output, hfr.size, fun k hkB hx => hsame k (Nat.lt_of_lt_of_le hkB (S1.bnd hB)) (fun hm => ?_)⟩ (Mem.le_refl _) (fun _ _ _ _ => rfl) ?_ ?_ (fun _ _ => rfl) (by simp) ?_ (by simp)
          · rcases (S1.dis k n (a4 k hm)).1 with h | h
            · omega
            · exact hx h
          · intro b o u hM
            have hc := S1.mem b o u hM
            have hbl := World.block_lt_of_cell? _ _ hc
            rw [cell_of_block (hsame b hbl (fun hx => by have := (S1.dis b n (a4 b hx)).2.2 o; rw [this] at hM; cases hM))]
            exact hc
          · intro b k hbk
            by_cases hb : b ∈ bs'
            · by_cases hx : b ∈ bs
              · obtain ⟨q1, q2, q3⟩ := S1.dis b n (a4 b hx)
                exact ⟨q1, hbs' b hb, q3⟩
              · have h1 := (hb' b hb).resolve_left hx
                refine ⟨.inl (Nat.le_trans (S1.bnd hB) h1), hbs' b hb, fun o => ?_⟩
                cases hm : M1 b o with
                | none => rfl
                | some u => have := World.block_lt_of_cell? _ _ (S1.mem b o u hm); simp at this; omega
            · have : ω1 b = some k := by simpa [hb] using hbk
              obtain ⟨q1, q2, q3⟩ := S1.dis b k this
              exact ⟨q1, Nat.lt_of_lt_of_le q2 hfr.size, q3⟩
          · intro t ht _ b hb
            have hbm : b ∉ bs := fun hx => by have := a4 b hx; rw [hb] at this; simp at this; omega
            have hbl := hlt b t hb
            refine ⟨?_, hsame b hbl hbm⟩
            show (if b ∈ bs' then some n else ω1 b) = some t
            rw [if_neg (fun hx => by have := (hb' b hx).resolve_left hbm; omega)]; exact hb
        have S3 := put_c S2 hd hv' (EncO.closed (M' := M1) _ _ _ _ hF.rclosed he') hn' (fun b hb => ⟨n, Nat.le_refl _, by simp [hb]⟩)
        exact ⟨r, M1, _, rfl, by rw [Env.puts_append]; exact S3⟩
      · cases h1
  · cases h

theorem exCallM_ok (hC : CtxOk P C) (S : St0 n B X w0 M0 M ω ρ tmps w) (hB : B ≤ w0.heap.size) {f d : Nat} (hd : d < n) {qs : List Opd} {ws : List Wr} {cs : List Prop}
    (h : exCallM C f d qs = some (ws, cs)) (hcs : ∀ p ∈ cs, p) {vs : List Value} (hqs : OpdsR n M ω w ρ (vl tmps) qs vs) :
    Calls P f vs.toArray w fun e w' => ∃ v M' ω', e = .returned v ∧ St0 n B X w0 M0 M' ω' (ρ.puts ws) (tmps.setIfInBounds d v) w' := by
  unfold exCallM at h
  split at h
  · rename_i F q qn hf
    have hnr := (hC.fnM f F hf).noref
    have hfs : F.s.size = F.s.ty.size := Sh.size_ty F.s hnr
    have hfa : F.s.ag = F.s.ty.ag := Sh.ag_ty F.s hnr
    obtain ⟨v, v', rfl, hq, hqn⟩ := opdsR2 hqs
    obtain ⟨m, h, hm⟩ := rd_int S h
    obtain ⟨rfl, hr⟩ := hm v' hqn
    split at h
    · split at h
      · rename_i s0 x0 ha _ j hj
        obtain ⟨e1, e2, e3⟩ := hq.slot j hj
        have hjn := e3 (by rw [ha]; intro e; cases e)
        rw [e2] at h
        split at h
        · rename_i s x hA
          split at h
          · cases h
          · rename_i hnref
            split at h
            · rename_i hc
              obtain ⟨c1, c2⟩ := hc
              refine ioK_ok hC S hB hf hd hjn hr h hcs fun pc hpl => ?_
              have hs := S.slots j hjn
              rw [hA] at hs hpl
              obtain ⟨cs2, bs2, k1, k2, _, _⟩ := (show Owns M ω w j s x (vl tmps j) from hs)
              have hpl' : ValC s.ag (vl tmps j) pc := by
                cases s <;> first | exact hpl | (simp [Sh.noref] at c2)
              have := ValC.fun_ k1 hpl'
              subst this
              have hl := EncO.length _ _ _ _ k2
              rw [List.drop_zero, hfs, ← c1, ← Sh.size_ty s c2, ← hl, List.take_length, hfa, ← c1, ← Sh.ag_ty s c2, e1]
              exact k1
            · cases h
        · cases h
      · cases h
    · rename_i j g ver t y off ha
      split at h
      · rename_i hc
        obtain ⟨c1, c2, c3⟩ := hc
        have hrl := hq.rel (by rw [ha]; intro _ _ _ _ _ e; cases e)
        have htg := hq.tgt j (by rw [ha]; rfl)
        rw [ha] at hrl
        obtain ⟨⟨hjn, _⟩, hcl⟩ := hrl
        rw [htg] at c1 c2 h
        obtain ⟨cs2, k1, k2, k3, _⟩ := hcl ⟨c1, c2⟩
        obtain ⟨pc', k4, k5⟩ := k3 off rfl
        simp only [Bx.isT, if_true] at k5
        refine ioK_ok hC S hB hf hd hjn hr h hcs fun pc hpl => ?_
        have := Place.uniq k4 hpl
        subst this
        rw [hfs, ← c3, ← k5, hfa, ← c3]; exact k1
      · cases h
    · rename_i j g ver t y off et i eo ha
      split at h
      · rename_i hc
        obtain ⟨c1, c2, c3⟩ := hc
        have hrl := hq.rel (by rw [ha]; intro _ _ _ _ _ e; cases e)
        have htg := hq.tgt j (by rw [ha]; rfl)
        rw [ha] at hrl
        obtain ⟨⟨hjn, _⟩, hcl⟩ := hrl
        rw [htg] at c1 c2 h
        obtain ⟨cs2, k1, k2, _, k3⟩ := hcl ⟨c1, c2⟩
        have k4 := k3 off et i eo rfl
        rw [c3] at k4
        exact ioElK_ok hC S hB hf hd hjn hr h hcs k4 (by rw [hfa, ← c3]; exact k1)
      · cases h
    · cases h
  · exact exCallT_ok hC S hB hd h hcs hqs
  · cases h
end
end Fw
