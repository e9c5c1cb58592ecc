/- Each operation does what is computed of it: slices of slices, stores into rows. Conditions: none. -/
import Derived.Test.YtnbpojalpdldnaaFwL
import Derived.Test.YtnbpojalpdldnaaFwU
namespace Fw
open Go

section
variable {n B : Nat} {X : List Nat} {w0 : World} {M0 M : Mem} {ω : Own} {ρ : Env} {tmps : Array Value} {w w' : World} {P : Program} {C : Ctx}

theorem takeK_ok (S : St0 n B X w0 M0 M ω ρ tmps w) (L : Nat) {R : Type} {j : Nat} {q : Opd} {k : (s : Sh) → El s.ty → List Wr → Option R} {r : R}
    (h : takeK C j q k = some r) {v : Value} (hq : OpdR n M ω w ρ (vl tmps) q v) : ∃ s x ws, k s x ws = some r ∧
      ∃ M' ω', St0 n B X w0 M0 M' ω' (ρ.puts ws) tmps w ∧ Moved n M M' ω ω' w ρ tmps ws L ∧ Taken n M' ω' w L v s x := by
  unfold takeK at h
  split at h
  · exact tkOwn_ok S L h hq
  · exact tk_ok S L h hq

theorem exStore_ok (hC : CtxOk P C) (S : St0 n B X w0 M0 M ω ρ tmps w) {t : TypeId} {q1 q2 : Opd} {ws : List Wr} {cs : List Prop}
    (h : exStore C t q1 q2 = some (ws, cs)) {v1 v2 : Value} (hq1 : OpdR n M ω w ρ (vl tmps) q1 v1) (hq2 : OpdR n M ω w ρ (vl tmps) q2 v2) :
    ∃ w', (Instr.storeAt t v1 v2).run P w = .ok () w' ∧ ∃ M' ω', St0 n B X w0 M0 M' ω' (ρ.puts ws) tmps w' := by
  unfold exStore at h
  split at h
  · rename_i T hT
    have hTy := hC.ty t T hT
    split at h
    · cases h
    · obtain ⟨j, g, off, e, h1, h2⟩ := ptrK_ok S h
      obtain ⟨hj, rfl, hro, hp⟩ := h2 v1 hq1
      split at h1
      · rename_i hg
        obtain ⟨b0, hb0, hv1⟩ := hp hg
        obtain ⟨s', y, ws', k1, M', ω', S1, _, ⟨cs', bs', k2, k3, k4, k5⟩⟩ := takeK_ok S n h1 hq2
        split at k1
        · rename_i hc
          obtain ⟨c1, c2, c3⟩ := hc
          have hsame := Env.puts_other ws' ρ j (noneIs_ok c3)
          split at k1
          · rename_i s x ha
            rw [← hsame] at ha
            obtain ⟨s2, x2, u1, ⟨u2, u3⟩, _⟩ := Sh.updK_ok c2 s x off _ _ k1
            simp only [Option.some.injEq, Prod.mk.injEq] at u1
            obtain ⟨rfl, rfl⟩ := u1
            obtain ⟨b, row, bss, r1, r2, r3, r4, r5⟩ := ref_ptr S1 hj ha
            rw [hb0] at r1
            simp only [Value.pointer.injEq, Option.some.injEq, Addr.mk.injEq, and_true] at r1
            subst r1
            obtain ⟨g1, b1, b2, b3, g2, g3⟩ := u3 _ _ _ _ _ _ r3 k3
            have hpl := EncO.plain s' cs' y bs' c2 k3
            have hl : cs'.length = T.size := by rw [EncO.length _ _ _ _ k3, Sh.size_ty s' c2, c1]
            obtain ⟨w', e1, e2⟩ := run_storeVar (P := P) hTy r2 hl g1 hpl (ValC.cells k2 hpl)
            have hdj : ∀ i ∈ bs', ω' i ≠ some j := fun i hi e => by rw [k5 i hi] at e; simp at e; omega
            have hnd : (b0 :: (b1 ++ bs' ++ b3)).Nodup := by
              rw [g2] at r4 r5
              rw [List.nodup_cons] at r4 ⊢
              obtain ⟨q1, q2⟩ := r4
              have hb0' : b0 ∉ bs' := fun hi => hdj b0 hi (r5 b0 (by simp))
              refine ⟨by simp only [List.mem_append, not_or] at q1 ⊢; exact ⟨⟨q1.1.1, hb0'⟩, q1.2⟩, ?_⟩
              rw [List.nodup_append] at q2 ⊢
              obtain ⟨p1, p2, p3⟩ := q2
              rw [List.nodup_append] at p1
              refine ⟨?_, p2, fun a ha c hc => ?_⟩
              · rw [List.nodup_append]
                exact ⟨p1.1, k4, fun a ha c hc e => by subst e; exact hdj a hc (r5 a (by simp [ha]))⟩
              · rcases List.mem_append.1 ha with ha | ha
                · exact p3 a (by simp [ha]) c hc
                · intro e; subst e; exact hdj a ha (r5 a (by simp [hc]))
            obtain ⟨ω2, S2⟩ := put_row S1 hj (r5 b0 (by simp)) hb0 e2 g3 hnd (fun i hi => by
              rw [g2] at r5
              simp only [List.mem_append] at hi
              rcases hi with (hi | hi) | hi
              · exact .inr (r5 i (by simp [hi]))
              · exact .inl (k5 i hi)
              · exact .inr (r5 i (by simp [hi])))
            refine ⟨w', ?_, M', ω2, by rw [Env.puts_append]; exact S2⟩
            subst hv1
            simp only [Instr.storeAt, Instr.sureAddr, Sem.run_bind, Sem.run_pure, Result.andThen_ok]
            exact e1
          · cases k1
        · cases k1
      · cases h1
  · cases h
theorem exTake_ok (S : St0 n B X w0 M0 M ω ρ tmps w) {d : Nat} (hd : d < n) {q : Opd} {ws : List Wr} {cs : List Prop} (h : exTake d q = some (ws, cs))
    {v : Value} (hq : OpdR n M ω w ρ (vl tmps) q v) : ∃ M' ω', St0 n B X w0 M0 M' ω' (ρ.puts ws) (tmps.setIfInBounds d v) w := by
  unfold exTake at h
  obtain ⟨s, x, ws1, h1, M1, ω1, S1, m1, t1⟩ := tkOwn_ok S n h hq
  simp only [Option.some.injEq, Prod.mk.injEq] at h1
  obtain ⟨rfl, rfl⟩ := h1
  obtain ⟨cs, bs, a1, a2, a3, a4⟩ := t1.enc
  have S2 := put_c S1 hd a1 a2 a3 (fun b hb => ⟨n, Nat.le_refl _, a4 b hb⟩)
  rw [← Env.puts_append] at S2
  exact ⟨_, _, S2⟩

/-- a bound's value -/
def bndV (v : Option Value) (x : Int) : Prop := match v with | none => True | some v => v = .int .i64 x
theorem loK_ok (S : St0 n B X w0 M0 M ω ρ tmps w) {gd : Gd} (hg : GuardOk ρ (vl tmps) gd) (df : List Deferred) {R : Type} {o : Option Operand} {k : Int → Option R} {r : R} (h : loK (o.map (opd ρ gd)) k = some r) :
    ∃ x, k x = some r ∧ bndV (o.map (Act.eval ⟨tmps, df⟩)) x ∧ (o = none → x = 0) := by
  cases o with
  | none => exact ⟨0, h, trivial, fun _ => rfl⟩
  | some o =>
    obtain ⟨x, h1, h2⟩ := rd_int S h
    exact ⟨x, h1, (h2 _ (opd_rel S hg o df)).1, fun e => by cases e⟩
theorem hiK_ok (S : St0 n B X w0 M0 M ω ρ tmps w) {gd : Gd} (hg : GuardOk ρ (vl tmps) gd) (df : List Deferred) {R : Type} {o : Option Operand} {m : Int} {k : Int → Option R} {r : R} (h : hiK (o.map (opd ρ gd)) m k = some r) :
    ∃ x, k x = some r ∧ bndV (o.map (Act.eval ⟨tmps, df⟩)) x ∧ (o = none → x = m) := by
  cases o with
  | none => exact ⟨m, h, trivial, fun _ => rfl⟩
  | some o =>
    obtain ⟨x, h1, h2⟩ := rd_int S h
    exact ⟨x, h1, (h2 _ (opd_rel S hg o df)).1, fun e => by cases e⟩

theorem run_bounds {isS : Bool} {len cap : Nat} {lo hi : Option Value} {l h : Int} (hl : bndV lo l) (hl0 : lo = none → l = 0) (hh : bndV hi h) (hh0 : hi = none → h = len) (h0 : 0 ≤ l) (h1 : l ≤ h) (h2 : h ≤ len) (hc : len ≤ cap) :
    (Instr.sliceBounds isS len cap lo hi none).run P w = .ok (l.toNat, h.toNat, cap) w := by
  have e1 : ∀ (x : Int) (y : Nat) (c : BoundsCode), 0 ≤ x → x ≤ y → (Instr.sliceBound (.int .i64 x) y c).run P w = .ok x.toNat w := by
    intro x y c g1 g2
    simp [Instr.sliceBound, asIntOf, g1, g2]
  have eh : h ≤ (cap : Int) := by omega
  have el : l ≤ (h.toNat : Int) := by omega
  cases lo with
  | none =>
    have := hl0 rfl
    subst this
    cases hi with
    | none => have := hh0 rfl; subst this; simp [Instr.sliceBounds]
    | some v =>
      have hv : v = .int .i64 h := hh
      subst hv
      simp [Instr.sliceBounds, e1 h cap _ (by omega) eh]
  | some u =>
    have hu : u = .int .i64 l := hl
    subst hu
    cases hi with
    | none =>
      have := hh0 rfl; subst this
      simp [Instr.sliceBounds, e1 l len _ h0 h1]
    | some v =>
      have hv : v = .int .i64 h := hh
      subst hv
      simp [Instr.sliceBounds, e1 h cap _ (by omega) eh, e1 l h.toNat _ h0 el]

theorem subL_length {α : Type} (xs : List α) {l h : Int} (h0 : 0 ≤ l) (h1 : l ≤ h) (h2 : h ≤ xs.length) : (subL xs l h).length = h.toNat - l.toNat := by
  simp only [subL, List.length_drop, List.length_take]; omega

/-- a part of a slice is a slice -/
theorem enc_sub {M : Mem} {e : Ty} {xs : List (El e)} {a : Option Addr} {cap : Nat} (he : Enc M (.slice e) [.slice a xs.length cap] xs) {l h : Int} (h0 : 0 ≤ l) (h1 : l ≤ h) (h2 : h ≤ xs.length) :
    Enc M (.slice e) [.slice (if cap = l.toNat then a else a.map (·.add (l.toNat * e.size))) (h.toNat - l.toNat) (cap - l.toNat)] (subL xs l h) := by
  obtain ⟨a', cap', g1, g2, g3, g4⟩ := he
  simp only [List.cons.injEq, Value.slice.injEq, and_true, true_and] at g1
  obtain ⟨rfl, rfl⟩ := g1
  refine ⟨_, cap - l.toNat, by rw [subL_length xs h0 h1 h2], by rw [subL_length xs h0 h1 h2]; omega, by omega, ?_⟩
  cases a with
  | none =>
    have : cap = 0 := g4
    subst this
    have hl : l.toNat = 0 := by omega
    rw [hl]; simp
  | some ad =>
    obtain ⟨b, o, sp⟩ := ad
    obtain ⟨k1, k2⟩ := g4
    simp only at k1
    by_cases hc : cap = l.toNat
    · rw [if_pos hc]
      have hn : subL xs l h = [] := List.length_eq_zero_iff.1 (by rw [subL_length xs h0 h1 h2]; omega)
      rw [hn]; exact ⟨.inr (by omega), trivial⟩
    · rw [if_neg hc]
      have k1 : sp = none := k1.resolve_right (by omega)
      subst k1
      simp only [Option.map_some, addr_add]
      refine ⟨.inl trivial, ?_⟩
      have := SliceAt.drop (xs.take h.toNat) _ l.toNat (SliceAt.take xs _ h.toNat k2)
      exact this

theorem exSlice_ok (hC : CtxOk P C) (S : St0 n B X w0 M0 M ω ρ tmps w) {gd : Gd} (hg : GuardOk ρ (vl tmps) gd) {t : TypeId} {d : Nat} (hd : d < n) {q : Opd} {lo hi : Option Operand} {ws : List Wr} {cs : List Prop}
    (h : exSlice C t d q (lo.map (opd ρ gd)) (hi.map (opd ρ gd)) = some (ws, cs)) (hcs : ∀ p ∈ cs, p) (df : List Deferred) {v : Value} (hq : OpdR n M ω w ρ (vl tmps) q v) :
    Res n B X w0 M0 ρ tmps d ws ((Instr.sliceAt t v (lo.map (Act.eval ⟨tmps, df⟩)) (hi.map (Act.eval ⟨tmps, df⟩)) none).run P w) := by
  unfold exSlice at h
  split at h
  · rename_i E hT
    obtain ⟨te, hu, hTe⟩ := (hC.ty t _ hT).under
    -- what runs
    have hrun : ∀ (a : Option Addr) (len cap : Nat) (l h : Int), bndV (lo.map (Act.eval ⟨tmps, df⟩)) l → (lo = none → l = 0) → bndV (hi.map (Act.eval ⟨tmps, df⟩)) h → (hi = none → h = len) → 0 ≤ l → l ≤ h → h ≤ len → len ≤ cap →
        (Instr.sliceAt t (.slice a len cap) (lo.map (Act.eval ⟨tmps, df⟩)) (hi.map (Act.eval ⟨tmps, df⟩)) none).run P w = .ok (.slice (if cap = l.toNat then a else a.map (·.add (l.toNat * E.size))) (h.toNat - l.toNat) (cap - l.toNat)) w := by
      intro a len cap l h g1 g2 g3 g4 g5 g6 g7 g8
      have hb := run_bounds (P := P) (w := w) (isS := true) (len := len) (cap := cap) g1 (fun e => g2 (by cases lo with | none => rfl | some _ => cases e)) g3 (fun e => g4 (by cases hi with | none => rfl | some _ => cases e)) g5 g6 g7 g8
      simp only [Instr.sliceAt, Instr.slice, Sem.run_bind, run_underlying' hu, Result.andThen_ok, hb, run_sizeOf hTe, Sem.run_pure]
    split at h
    · rename_i e xs ha
      split at h
      · rename_i he
        subst he
        obtain ⟨l, h1, h2, h3⟩ := loK_ok S hg df h
        obtain ⟨hh, h4, h5, h6⟩ := hiK_ok S hg df h1
        simp only [Option.some.injEq, Prod.mk.injEq] at h4
        obtain ⟨rfl, rfl⟩ := h4
        have c1 : 0 ≤ l := hcs _ (by simp)
        have c2 : l ≤ hh := hcs _ (by simp)
        have c3 : hh ≤ xs.length := hcs _ (by simp)
        have hr := hq.rel (by rw [ha]; intro _ _ _ _ _ e; cases e)
        rw [ha] at hr
        obtain ⟨cs', bs, k1, ⟨k2, k3⟩, _⟩ := hr
        have e1 : cs' = [v] := k1
        obtain ⟨a, cap, g2, g3, g4, g5⟩ := id k3
        rw [e1] at g2
        simp only [List.cons.injEq, and_true] at g2
        subst g2
        rw [e1] at k3
        exact ⟨_, w, _, _, hrun a _ cap l hh h2 h3 h5 h6 c1 c2 c3 g3, put_pure S hd (t := .slice e) (cs := [_]) rfl (enc_sub k3 c1 c2 c3)⟩
      · cases h
    · rename_i e0 x0 ha
      split at h
      · rename_i j e xs hj hent
        split at h
        · rename_i hc
          obtain ⟨hc1, hc2⟩ := hc
          subst hc1
          obtain ⟨l, h1, h2, h3⟩ := loK_ok S hg df h
          obtain ⟨hh, h4, h5, h6⟩ := hiK_ok S hg df h1
          simp only [Option.some.injEq, Prod.mk.injEq] at h4
          obtain ⟨rfl, rfl⟩ := h4
          have c1 : 0 ≤ l := hcs _ (by simp)
          have c2 : l ≤ hh := hcs _ (by simp)
          have c3 : hh ≤ (List.length xs : Int) := hcs _ (by simp)
          obtain ⟨e1, e2, e3⟩ := hq.slot j hj
          have hjn := e3 (by rw [ha]; intro e; cases e)
          rw [e2] at hent ⊢
          have hs := S.slots j hjn
          rw [hent] at hs
          obtain ⟨cs2, bs2, k1, k2, k3, k4⟩ := hs
          have hn : (Sh.own e).noref = true := hc2
          have henc := EncO.toEnc (M_heapOf M ω w j (vl tmps j)) (.own e) cs2 xs bs2 hn (fun b hb row hrow => heapOf_rows S hrow (k4 b hb) (noref_box hn k1 k2 b hb)) k2
          have e1' : v = tmps.getD j undef := e1
          have ec : cs2 = [v] := by rw [e1']; exact k1
          rw [ec] at henc
          obtain ⟨a, cap, g2, g3, g4, g5⟩ := id henc
          simp only [List.cons.injEq, and_true] at g2
          subst g2
          refine ⟨_, w, _, _, ?_, put_ref S hd (t := 0) (by intros; intro e; cases e) (by intros; intro e; cases e) (by intros; intro e; cases e) ⟨⟨hjn, Nat.le_refl _, fun _ => Nat.le_refl _⟩, fun _ => ⟨_, rfl, enc_sub henc c1 c2 c3, fun off ho => by (cases ho), fun _ _ _ _ e => by cases e⟩⟩⟩
          exact hrun a _ cap l hh h2 h3 h5 h6 c1 c2 c3 g3
        · cases h
      · cases h
    · rename_i k g ver e xs org ex ha
      split at h
      · rename_i hc
        obtain ⟨hc1, hc2, hc3⟩ := hc
        subst hc3
        obtain ⟨l, h1, h2, h3⟩ := loK_ok S hg df h
        obtain ⟨hh, h4, h5, h6⟩ := hiK_ok S hg df h1
        simp only [Option.some.injEq, Prod.mk.injEq] at h4
        obtain ⟨rfl, rfl⟩ := h4
        have c1 : 0 ≤ l := hcs _ (by simp)
        have c2 : l ≤ hh := hcs _ (by simp)
        have c3 : hh ≤ xs.length := hcs _ (by simp)
        have hr := hq.rel (by rw [ha]; intro _ _ _ _ _ e; cases e)
        have htg := hq.tgt k (by rw [ha]; rfl)
        rw [ha] at hr
        obtain ⟨r1, r2⟩ := hr
        rw [htg] at hc1 hc2
        obtain ⟨cs', k1, k2, _⟩ := r2 ⟨hc1, hc2⟩
        have e1 : cs' = [v] := k1
        obtain ⟨a, cap, g2, g3, g4, g5⟩ := id k2
        rw [e1] at g2
        simp only [List.cons.injEq, and_true] at g2
        subst g2
        rw [e1] at k2
        exact ⟨_, w, _, _, hrun a _ cap l hh h2 h3 h5 h6 c1 c2 c3 g3, put_ref S hd (t := 0) (by intros; intro e; cases e) (by intros; intro e; cases e) (by intros; intro e; cases e) ⟨r1, fun _ => ⟨_, rfl, enc_sub k2 c1 c2 c3, fun off ho => by (cases ho), fun _ _ _ _ e => by cases e⟩⟩⟩
      · cases h
    · cases h
  · rename_i hT
    have hu : P.underlying t = some .string := (hC.ty t _ hT).under
    obtain ⟨xs, k1, k2⟩ := rd_str S h
    obtain ⟨l, h1, h2, h3⟩ := loK_ok S hg df k1
    obtain ⟨hh, h4, h5, h6⟩ := hiK_ok S hg df h1
    simp only [Option.some.injEq, Prod.mk.injEq] at h4
    obtain ⟨rfl, rfl⟩ := h4
    have c1 : 0 ≤ l := hcs _ (by simp)
    have c2 : l ≤ hh := hcs _ (by simp)
    have c3 : hh ≤ xs.length := hcs _ (by simp)
    obtain ⟨rfl, hx⟩ := k2 v hq
    have hsz : (ByteArray.mk xs.toArray).size = xs.length := by simp [ByteArray.size]
    have hb := run_bounds (P := P) (w := w) (isS := false) (len := xs.length) (cap := xs.length) (lo := lo.map (Act.eval ⟨tmps, df⟩)) (hi := hi.map (Act.eval ⟨tmps, df⟩)) h2 (fun e => h3 (by cases lo with | none => rfl | some _ => cases e)) h5 (fun e => h6 (by cases hi with | none => rfl | some _ => cases e)) c1 c2 c3 (Nat.le_refl _)
    refine ⟨.string ((ByteArray.mk xs.toArray).extract l.toNat hh.toNat), w, _, _, ?_, put_pure S hd (t := .str) (cs := [_]) rfl ⟨?_, ?_⟩⟩
    · simp only [Instr.sliceAt, Instr.slice, Sem.run_bind, run_underlying' hu, Result.andThen_ok, hsz, Option.isSome_none, Bool.false_eq_true, if_false, Sem.run_pure, hb]
    · congr 2
      apply ByteArray.ext
      simp [subL, List.drop_take]
    · rw [subL_length xs c1 c2 c3]; omega
  · cases h

/-- element i of a row, and the row with another in its place -/
theorem GroupsO.at {α : Type} {p : List Value → α → List Nat → Prop} {sz : Nat} : ∀ (xs : List α) (vs : List Value) (bs : List Nat) (i : Nat) (x : α), GroupsO p sz vs xs bs → xs[i]? = some x →
    ∃ r1 r2 r3 c1 c2 c3, vs = r1 ++ r2 ++ r3 ∧ bs = c1 ++ c2 ++ c3 ∧ r1.length = i * sz ∧ r2.length = sz ∧ p r2 x c2 ∧
      ∀ r2' z c2', r2'.length = sz → p r2' z c2' → GroupsO p sz (r1 ++ r2' ++ r3) (xs.set i z) (c1 ++ c2' ++ c3)
  | [], _, _, _, _, _, h => by simp at h
  | y :: xs, vs, bs, 0, x, ⟨v1, v2, b1, b2, h1, h2, h3, h4, h5⟩, hx => by
    simp at hx; subst hx
    exact ⟨[], v1, v2, [], b1, b2, by simp [h1], by simp [h3], by simp, h2, h4, fun r2' z c2' g1 g2 => ⟨r2', v2, c2', b2, by simp, g1, by simp, g2, h5⟩⟩
  | y :: xs, vs, bs, i + 1, x, ⟨v1, v2, b1, b2, h1, h2, h3, h4, h5⟩, hx => by
    obtain ⟨r1, r2, r3, c1, c2, c3, g1, g2, g3, g4, g5, g6⟩ := GroupsO.at xs v2 b2 i x h5 (by simpa using hx)
    refine ⟨v1 ++ r1, r2, r3, b1 ++ c1, c2, c3, by simp [h1, g1], by simp [h3, g2], by simp [h2, g3, Nat.add_mul]; omega, g4, g5, fun r2' z c2' k1 k2 => ?_⟩
    exact ⟨v1, r1 ++ r2' ++ r3, b1, c1 ++ c2' ++ c3, by simp, h2, by simp, h4, g6 r2' z c2' k1 k2⟩

/-- what slot k holds is told anew, a block of it written -/
theorem put_cont (S : St0 n B X w0 M0 M ω ρ tmps w) {k b : Nat} (hk : k < n) (hb : ω b = some k) {row : List Value} (hu : Upd w b row w') {A' : A}
    (hA : Rel n M (fun i => if ω i = some n then some k else ω i) w' (ρ.puts [⟨k, true, A'⟩]) (vl tmps) k (vl tmps k) A') :
    ∃ ω', St0 n B X w0 M0 M ω' (ρ.puts [⟨k, true, A'⟩]) tmps w' := by
  refine ⟨fun i => if ω i = some n then some k else ω i, ?_⟩
  obtain ⟨d1, d2, d3⟩ := S.dis b k hb
  have hget : (ρ.puts [(⟨k, true, A'⟩ : Wr)]).get k = ⟨(ρ.get k).g, (ρ.get k).ver + 1, A'⟩ := by
    show (ρ.put _).get k = _
    rw [Env.get_put]; simp
  refine S.step _ S.size ⟨hu.os, hu.tape, hu.output, Nat.le_of_eq hu.size.symm, fun i hi hx => hu.other i (fun e => ?_)⟩ (Mem.le_refl _) (fun _ _ _ _ => rfl) ?_ ?_ (fun _ _ => rfl) ?_ ?_ ?_
  · subst e
    rcases d1 with d1 | d1
    · omega
    · exact hx d1
  · intro i o v hm
    have hne : i ≠ b := fun e => by subst e; rw [d3 o] at hm; cases hm
    rw [cell_of_block (hu.other i hne)]
    exact S.mem i o v hm
  · intro i j hj
    have : ∃ k', ω i = some k' := by
      revert hj
      show (if ω i = some n then some k else ω i) = some j → _
      split
      · rename_i e; intro _; exact ⟨n, e⟩
      · intro e; exact ⟨j, e⟩
    obtain ⟨k', hk'⟩ := this
    obtain ⟨q1, q2, q3⟩ := S.dis i k' hk'
    exact ⟨q1, by rw [hu.size]; exact q2, q3⟩
  · intro x hx
    simp at hx; subst hx; exact hk
  · intro t ht hne i hi
    have htj : t ≠ k := fun e => hne _ (List.mem_singleton.2 rfl) e.symm
    refine ⟨?_, hu.other i (fun e => ?_)⟩
    · show (if ω i = some n then some k else ω i) = some t
      rw [if_neg (by rw [hi]; simp; omega)]; exact hi
    · subst e; rw [hb] at hi; simp at hi; exact htj hi.symm
  · intro t ⟨x, hx, hxt⟩ _
    simp at hx; subst hx
    have : t = k := hxt.symm
    subst this
    rw [hget]; exact hA

theorem contK_inv {R : Type} {e : Ent} {k : (s : Sh) → El s.ty → Option R} {r : R} (h : contK e k = some r) :
    ∃ s x, k s x = some r ∧ (e.a = .c (.ref s) x ∨ (e.a = .c s x ∧ ∀ s' (x' : El s'.ty), e.a ≠ .c (.ref s') x')) := by
  unfold contK at h
  split at h
  · rename_i s x he; exact ⟨s, x, h, .inl he⟩
  · rename_i s x hne he
    refine ⟨s, x, h, .inr ⟨he, fun s' x' e => ?_⟩⟩
    rw [he] at e
    simp only [A.c.injEq] at e
    obtain ⟨e1, e2⟩ := e
    subst e1
    exact hne _ _ rfl HEq.rfl
  · cases h

theorem nodup_swap {b : Nat} {b0 b1 b3 d1 y1 y2 y3 d3 bs f1 f2 f3 : List Nat} (h : (b0 ++ (b1 ++ (b :: (d1 ++ (y1 ++ y2 ++ y3) ++ d3)) ++ b3)).Nodup) (hb : bs.Nodup)
    (hd : ∀ i ∈ bs, i ∉ b0 ++ (b1 ++ (b :: (d1 ++ (y1 ++ y2 ++ y3) ++ d3)) ++ b3)) (e : b1 ++ b3 = f1 ++ f2 ++ f3) : (b0 ++ (f1 ++ (b :: (d1 ++ (y1 ++ bs ++ y3) ++ d3)) ++ f3)).Nodup := by
  rw [List.nodup_iff_count] at h hb ⊢
  intro a
  have h1 := h a
  have h2 := hb a
  have e1 := congrArg (List.count a) e
  by_cases hm : a ∈ bs
  · have h3 := List.count_eq_zero.2 (hd a hm)
    simp only [List.count_append, List.count_cons] at h1 h2 h3 e1 ⊢
    omega
  · have h3 := List.count_eq_zero.2 hm
    simp only [List.count_append, List.count_cons] at h1 h2 h3 e1 ⊢
    omega

theorem exStoreEl_ok (hC : CtxOk P C) (S : St0 n B X w0 M0 M ω ρ tmps w) {t : TypeId} {q1 q2 : Opd} {ws : List Wr} {cs : List Prop}
    (h : exStoreEl C t q1 q2 = some (ws, cs)) {v1 v2 : Value} (hq1 : OpdR n M ω w ρ (vl tmps) q1 v1) (hq2 : OpdR n M ω w ρ (vl tmps) q2 v2) :
    ∃ w', (Instr.storeAt t v1 v2).run P w = .ok () w' ∧ ∃ M' ω', St0 n B X w0 M0 M' ω' (ρ.puts ws) tmps w' := by
  unfold exStoreEl at h
  split at h
  · rename_i T hT
    have hTy := hC.ty t T hT
    split at h
    · rename_i k g ver off et i eo ha
      have hr := hq1.rel (by rw [ha]; intro _ _ _ _ _ e; cases e)
      have htg := hq1.tgt k (by rw [ha]; rfl)
      rw [ha] at hr
      obtain ⟨⟨hkn, _⟩, hcl⟩ := hr
      split at h
      · rename_i hcur
        rw [htg] at hcur h
        have hel := hcl hcur
        unfold ElpR at hel
        simp only [Option.isSome_none, Bool.false_eq_true, if_false] at hel
        obtain ⟨pc, hpc, a, len, cap, e1, e2, e3, e4⟩ := hel
        obtain ⟨s', y, ws', k1, M1, ω1, S1, m1, t1⟩ := takeK_ok S n h hq2
        obtain ⟨cs', bs', k2, k3, k4, k5⟩ := t1.enc
        split at k1
        · rename_i hc
          obtain ⟨c1, c2, c3⟩ := hc
          have hsame := Env.puts_other ws' ρ k (noneIs_ok c3)
          obtain ⟨s, x, g1, g2⟩ := contK_inv k1
          obtain ⟨s1, y1, s2, x2, f1, f2, f2', f3⟩ := Sh.cutK_ok s x off _ _ _ g1
          split at f1
          · rename_i e ys
            split at f1
            · rename_i hen
              obtain ⟨u2, z, p1, ⟨p2a, p2⟩, _⟩ := Sh.updK_ok c2 e _ eo _ _ f1
              split at p1
              · rename_i hup
                obtain ⟨z', p3, p4⟩ := castK_heq (upB_ty u2 e hup) (fun z => s2.updK x2 off (.own e) (ys.set i z) fun s3 x3 => some (ws' ++ [(⟨k, true, contWrap (ρ.get k) s3 x3⟩ : Wr)], ([] : List Prop))) z
                rw [p3] at p1
                obtain ⟨s3, x3, p5, ⟨p6a, p6⟩, p7⟩ := Sh.updK_ok (s' := .own e) (y := ys.set i z') hen s2 x2 off _ _ p1
                simp only [Option.some.injEq, Prod.mk.injEq] at p5
                obtain ⟨rfl, rfl⟩ := p5
                -- the content of slot k as it now stands
                have hslot := S1.slots k hkn
                rw [hsame] at hslot
                have hcont : ∃ bs, EncO M1 (rows w) s pc x bs ∧ (∃ b0l, (b0l ++ bs).Nodup ∧ (∀ i ∈ b0l ++ bs, ω1 i = some k) ∧
                    ∀ (R' : World) (ω' : Own) (bs4 : List Nat), (∀ i ∈ b0l, rows R' i = rows w i) → EncO M1 (rows R') s3 pc x3 bs4 → (b0l ++ bs4).Nodup → (∀ i ∈ b0l ++ bs4, ω' i = some k) →
                      Rel n M1 ω' R' ((ρ.puts ws').puts [⟨k, true, contWrap (ρ.get k) s3 x3⟩]) (vl tmps) k (vl tmps k) (contWrap (ρ.get k) s3 x3)) := by
                  rcases g2 with g2 | ⟨g2, g3⟩
                  · rw [g2] at hslot hpc
                    obtain ⟨pcs, bs, q1, ⟨b, row, bss, q2, q3, q4, q5⟩, q6, q7⟩ := hslot
                    obtain ⟨b', r1, r2, r3⟩ := hpc
                    have hbb : b' = b := by
                      have t1 : pcs = [tmps.getD k undef] := q1
                      have t2 : tmps.getD k undef = .pointer (some ⟨b', 0, none⟩) := r1
                      rw [t1, t2] at q3
                      simpa using q3
                    subst hbb
                    rw [q4] at r3
                    simp only [Option.some.injEq] at r3
                    subst r3
                    subst q2
                    refine ⟨bss, q5, [b'], q6, q7, fun R' ω' bs4 z1 z2 z3 z4 => ?_⟩
                    have : contWrap (ρ.get k) s3 x3 = .c (.ref s3) x3 := by unfold contWrap; rw [g2]
                    rw [this]
                    exact ⟨pcs, b' :: bs4, q1, ⟨b', row, bs4, rfl, q3, by rw [z1 b' (by simp)]; exact q4, z2⟩, z3, z4⟩
                  · rw [g2] at hslot hpc
                    have hslot' : Owns M1 ω1 w k s x (tmps.getD k undef) := hslot
                    obtain ⟨pcs, bs, q1, q2, q6, q7⟩ := hslot'
                    have hpc' : ValC s.ag (tmps.getD k undef) pc := by cases s <;> first | exact hpc | exact (g3 _ _ g2).elim
                    have := ValC.fun_ q1 hpc'
                    subst this
                    refine ⟨bs, q2, [], q6, q7, fun R' ω' bs4 _ z2 z3 z4 => ?_⟩
                    have : contWrap (ρ.get k) s3 x3 = .c s3 x3 := by
                      unfold contWrap
                      split
                      · rename_i s5 x5 he; exact (g3 _ _ he).elim
                      · rfl
                    rw [this]
                    have hag : s3.ag = s.ag := by
                      have : s.ag = s.ty.ag := by cases s <;> first | rfl | exact (g3 _ _ g2).elim
                      rw [p7, p6a, f2', this]
                    exact ⟨pcs, bs4, by rw [hag]; exact q1, z2, z3, z4⟩
                obtain ⟨bs, hE, b0l, hnd, how, hfin⟩ := hcont
                obtain ⟨b1, b2, b3, j1, j2, j3⟩ := f3 _ _ _ _ hE
                have hoff : (pc.drop off).take (Sh.own e).size = [.slice (some a) len cap] := by
                  have hlt : off < pc.length := (List.getElem?_eq_some_iff.1 e1).1
                  show (pc.drop off).take 1 = _
                  rw [List.drop_eq_getElem_cons hlt]
                  simp [List.getElem?_eq_getElem hlt] at e1
                  simp [e1]
                rw [hoff] at j2
                have hty : e.ty = et := by have := f2; simpa using this
                rcases j2 with ⟨_, ⟨a', j4, _⟩, _⟩ | ⟨b, cap', row, bss, j4, j5, j6, j7, j8, j9, j10⟩
                · simp at j4; omega
                · simp only [List.cons.injEq, Value.slice.injEq, Option.some.injEq, and_true] at j5
                  obtain ⟨rfl, rfl, rfl⟩ := j5
                  have hsz : e.size = et.size := by rw [Sh.size_ty e hen, hty]
                  obtain ⟨r1, r2, r3, d1, d2, d3, l1, l2, l3, l4, l5, l6⟩ := GroupsO.at ys row bss i _ j10 (getD_of_lt ys i (dflt e.ty) e2)
                  obtain ⟨u1, y1, y2, y3, y4, y5⟩ := p2 _ _ _ _ _ _ l5 k3
                  have y6 := upB_enc u2 e hup z z' _ _ p4 y5
                  have hcl : cs'.length = T.size := by rw [EncO.length _ _ _ _ k3, Sh.size_ty s' c2, c1]
                  have hpl := EncO.plain s' cs' y bs' c2 k3
                  have hrl : row.length = r1.length + (r2.length + r3.length) := by rw [l1]; simp
                  obtain ⟨w', v1', v2'⟩ := run_storeVar (P := P) hTy j8 hcl (o := i * et.size + eo) (by rw [hrl, l3, hsz]; omega) hpl (ValC.cells k2 hpl)
                  have hrow' : row.take (i * et.size + eo) ++ cs' ++ row.drop (i * et.size + eo + cs'.length) = r1 ++ ov r2 eo cs' ++ r3 := by
                    have hi : i * et.size = r1.length := by rw [l3, hsz]
                    rw [hi, l1]
                    unfold ov
                    rw [List.append_assoc r1 r2 r3, List.take_append, List.drop_append, List.take_of_length_le (by omega), List.drop_eq_nil_of_le (by omega)]
                    rw [show r1.length + eo - r1.length = eo by omega, show r1.length + eo + cs'.length - r1.length = eo + cs'.length by omega, List.take_append_of_le_length (by omega), List.drop_append_of_le_length u1]
                    simp
                  rw [hrow'] at v2'
                  have y7 := l6 (ov r2 eo cs') z' (y1 ++ bs' ++ y3) (by rw [EncO.length _ _ _ _ y6]) y6
                  -- blocks apart
                  subst j4
                  rw [j1] at hnd how
                  have hlim : ∀ i ∈ bs', ω1 i ≠ some k := fun i hi e => by rw [k5 i hi] at e; simp at e; omega
                  rw [l2, y4] at hnd how
                  have hbk : ω1 b = some k := how b (by simp)
                  have hbn : b ∉ bs' := fun hi => hlim b hi hbk
                  have hother : ∀ i, i ≠ b → rows w' i = rows w i := fun i hi => rows_of_block (v2'.other i hi)
                  have hnb : b ∉ b1 ++ b3 ∧ b ∉ b0l ∧ b ∉ d1 ++ (y1 ++ bs' ++ y3) ++ d3 := by
                    have := hnd
                    simp only [List.nodup_append, List.nodup_cons, List.mem_append, List.mem_cons] at this
                    refine ⟨?_, ?_, ?_⟩ <;> grind
                  have j3' : EncO M1 (rows w') s2 pc x2 (b1 ++ b3) := EncO.mono (Mem.le_refl _) s2 pc x2 _ (fun i hi => hother i (fun e => hnb.1 (e ▸ hi))) j3
                  have j2' : EncO M1 (rows w') (.own e) [.slice (some ⟨b, 0, none⟩) (ys.set i z').length cap] (ys.set i z') (b :: (d1 ++ (y1 ++ bs' ++ y3) ++ d3)) := by
                    refine .inr ⟨b, cap, r1 ++ ov r2 eo cs' ++ r3, _, rfl, rfl, by rw [List.length_set]; exact j6, j7, v2'.row, ?_, ?_⟩
                    · rw [← j9, l1]; simp only [List.length_append]
                      rw [EncO.length _ _ _ _ y6, l4]
                    · exact GroupsO.imp _ _ _ (fun x _ cs b' hb' hp => EncO.mono (Mem.le_refl _) e cs x b' (fun i hi => hother i (fun e => hnb.2.2 (e ▸ hb' i hi))) hp) y7
                  obtain ⟨m5, f1', f2'', f3', m6, m7⟩ := p6 _ _ _ _ _ _ j3' j2'
                  have hov : ov pc off [.slice (some ⟨b, 0, none⟩) (ys.set i z').length cap] = pc := by
                    unfold ov
                    rw [List.length_set]
                    have hlt : off < pc.length := (List.getElem?_eq_some_iff.1 e1).1
                    have hg := (List.getElem?_eq_some_iff.1 e1).2
                    rw [← hg]
                    simp
                  rw [hov] at m7
                  have hnew : (b0l ++ (f1' ++ (b :: (d1 ++ (y1 ++ bs' ++ y3) ++ d3)) ++ f3')).Nodup := by
                    exact nodup_swap hnd k4 (fun i hi hm => hlim i hi (how i hm)) m6
                  have hS : ∃ ω', St0 n B X w0 M0 M1 ω' ((ρ.puts ws').puts [⟨k, true, contWrap (ρ.get k) s3 x3⟩]) tmps w' := by
                    refine put_cont S1 hkn hbk v2' (hfin w' _ _ (fun i hi => hother i (fun e => hnb.2.1 (e ▸ hi))) m7 hnew fun i hi => ?_)
                    show (if ω1 i = some n then some k else ω1 i) = some k
                    by_cases hib : i ∈ bs'
                    · rw [if_pos (k5 i hib)]
                    · have : ω1 i = some k := how i (by
                        have hm : i ∈ b1 ++ b3 ↔ i ∈ f1' ++ f2'' ++ f3' := by rw [m6]
                        simp only [List.mem_append, List.mem_cons] at hi hm ⊢
                        grind)
                      rw [if_neg (by rw [this]; simp; omega)]; exact this
                  obtain ⟨ω', hS⟩ := hS
                  refine ⟨w', ?_, M1, ω', by rw [Env.puts_append]; exact hS⟩
                  rw [e4]
                  simp only [Instr.storeAt, Instr.sureAddr, Sem.run_bind, Sem.run_pure, Result.andThen_ok, Nat.zero_add]
                  exact v1'
              · cases p1
            · cases f1
          · cases f1
        · cases k1
      · cases h
    · cases h
  · cases h
end
end Fw
