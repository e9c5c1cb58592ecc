/- Each operation does what is computed of it: values built of parts. Conditions: none. -/
import Derived.Test.YtnbpojalpdldnaaFwA
namespace Fw
open Go

section
variable {n B : Nat} {X : List Nat} {w0 : World} {M0 M : Mem} {ω : Own} {ρ : Env} {tmps : Array Value} {w : World} {P : Program} {C : Ctx}

theorem castK_cast {a b : Ty} {R : Type} (h : a = b) (k : El b → R) (x : El a) : castK h k x = k (h ▸ x) := by subst h; rfl
theorem enc_cast {M : Mem} {a b : Ty} (h : a = b) {cs : List Value} {x : El a} (he : Enc M a cs x) : Enc M b cs (h ▸ x) := by subst h; exact he
theorem run_newRow (t : TypeId) (cells : Array Value) : (newRow t cells).run P w = .ok ⟨w.heap.size, 0, none⟩ (w.alloc (.cells cells t)) := by
  simp [newRow]

theorem tkAs_ok (S : St0 n B X w0 M0 M ω ρ tmps w) (L : Nat) {R : Type} {s : Sh} {q : Opd} {k : El s.ty → List Wr → Option R} {r : R}
    (h : tkAs s q k = some r) {v : Value} (hq : OpdR n M ω w ρ (vl tmps) q v) : ∃ x ws, k x ws = some r ∧
      ∃ M' ω', St0 n B X w0 M0 M' ω' (ρ.puts ws) tmps w ∧ Moved n M M' ω ω' w ρ tmps ws L ∧ Taken n M' ω' w L v s x := by
  unfold tkAs at h
  obtain ⟨s', x, ws, h1, M', ω', S1, m1, t1⟩ := tk_ok S L h hq
  split at h1
  · rename_i hty
    split at h1
    · rename_i hs
      subst hs
      exact ⟨x, ws, h1, M', ω', S1, m1, t1⟩
    · split at h1
      · rename_i hs
        obtain ⟨hs1, hs2, hs3⟩ := hs
        obtain ⟨T, hT⟩ : ∃ T, s = .pure T := ⟨_, hs1⟩
        subst hT
        rw [castK_cast] at h1
        refine ⟨_, ws, h1, M', ω', S1, m1, ?_⟩
        obtain ⟨cs, bs, k1, k2, k3, k4⟩ := t1.enc
        have := EncO.free _ _ _ _ hs3 k2
        subst this
        have he := EncO.toEnc (Mem.le_refl _) s' cs x [] hs2 (by simp) k2
        have hty' : s'.ty = T := hty
        exact ⟨cs, [], by rw [free_solid_ag hs3, hty'] at k1; exact k1, ⟨rfl, enc_cast hty' he⟩, List.nodup_nil, by simp⟩
      · cases h1
  · cases h1

theorem guard_next {gd : Gd} (hg : GuardOk ρ (vl tmps) gd) (ws : List Wr) : GuardOk (ρ.puts ws) (vl tmps) (nextG gd ws) := by
  intro s g ver b h
  unfold nextG at h
  split at h
  · split at h
    · rename_i s' g' ver' b' hn
      simp only [Option.some.injEq, Prod.mk.injEq] at h
      obtain ⟨rfl, rfl, rfl, rfl⟩ := h
      obtain ⟨h1, h2⟩ := hg _ _ _ _ rfl
      have key : ∀ (ws : List Wr), noneIs s' ws = true → ∀ x ∈ ws, x.slot ≠ s' := by
        intro ws
        induction ws with
        | nil => intro _ x hx; simp at hx
        | cons y r ih =>
          intro hn x hx
          simp only [noneIs] at hn
          split at hn
          · cases hn
          · rename_i hne
            rcases List.mem_cons.1 hx with rfl | hx
            · exact hne
            · exact ih hn x hx
      have := Env.puts_other ws ρ s' (key ws hn)
      exact ⟨by unfold curK at *; rw [this]; exact h1, h2⟩
    · cases h
  · cases h

theorem elems_ok {R : Type} (s : Sh) (hn : s.noref = true) (df : List Deferred) : ∀ (ps : List (Nat × Operand)) (i : Nat) (gd : Gd) (ρ : Env) (M : Mem) (ω : Own) (k : List (El s.ty) → List Wr → Option R) (r : R),
    St0 n B X w0 M0 M ω ρ tmps w → GuardOk ρ (vl tmps) gd → elemsK s gd ρ ps i k = some r →
    ∃ xs ws M' ω' bs, k xs ws = some r ∧ St0 n B X w0 M0 M' ω' (ρ.puts ws) tmps w ∧ M.le M' ∧ (∀ b L, n ≤ L → L < n + i → ω b = some L → ω' b = some L) ∧
      xs.length = ps.length ∧ ps.map Prod.fst = List.range' i ps.length ∧
      GroupsO (EncO M' (rows w) s) s.size (ps.map fun q => (Act.eval ⟨tmps, df⟩ q.2).cells.toList).flatten xs bs ∧ bs.Nodup ∧ (∀ b ∈ bs, ∃ L, n + i ≤ L ∧ ω' b = some L) ∧
      ∀ q ∈ ps, (Act.eval ⟨tmps, df⟩ q.2).cells.size = s.size
  | [], i, gd, ρ, M, ω, k, r, S, _, h => ⟨[], [], M, ω, [], h, S, Mem.le_refl _, fun _ _ _ _ h => h, rfl, rfl, rfl, List.nodup_nil, by simp, by simp⟩
  | (j, o) :: ps, i, gd, ρ, M, ω, k, r, S, hg, h => by
    simp only [elemsK] at h
    split at h
    · rename_i hji
      subst hji
      obtain ⟨x, ws, h1, M1, ω1, S1, m1, t1⟩ := tkAs_ok S (n + j) h (opd_rel S hg o df)
      obtain ⟨xs, ws', M2, ω2, bs, k1, k2, k3, k4, k5, k6, k7, k8, k9, k10⟩ := elems_ok s hn df ps (j + 1) _ _ _ _ _ _ S1 (guard_next hg ws) h1
      obtain ⟨cs, b1, e1, e2, e3, e4⟩ := t1.enc
      have hc := ValC.cells e1 (EncO.plain s cs x b1 hn e2)
      have hlen := EncO.length _ _ _ _ e2
      have e5 : ∀ b ∈ b1, ω2 b = some (n + j) := fun b hb => k4 b _ (by omega) (by omega) (e4 b hb)
      refine ⟨x :: xs, ws ++ ws', M2, ω2, b1 ++ bs, k1, by rw [Env.puts_append]; exact k2, Mem.le_trans m1.step.mem k3, fun b L hL hL2 hb => k4 b L hL (by omega) (m1.limbo L hL (by omega) b hb), by simp [k5],
        by simp [k6, List.range'_succ], ?_, ?_, ?_, ?_⟩
      · refine ⟨cs, _, b1, bs, by simp [hc], hlen, rfl, EncO.mono k3 s cs x b1 (fun _ _ => rfl) e2, k7⟩
      · rw [List.nodup_append]
        refine ⟨e3, k8, fun a ha b hb e => ?_⟩
        subst e
        obtain ⟨L, g1, g2⟩ := k9 a hb
        rw [e5 a ha] at g2
        simp at g2; omega
      · intro b hb
        rcases List.mem_append.1 hb with hb | hb
        · exact ⟨n + j, Nat.le_refl _, e5 b hb⟩
        · obtain ⟨L, g1, g2⟩ := k9 b hb
          exact ⟨L, by omega, g2⟩
      · intro q hq
        rcases List.mem_cons.1 hq with rfl | hq
        · have := congrArg List.length hc
          simpa [hlen] using this
        · exact k10 q hq
    · cases h

/-- a new row, held by slot d -/
theorem ownrow_ok (S : St0 n B X w0 M0 M ω ρ tmps w) (hB : B ≤ w0.heap.size) {d : Nat} (hd : d < n) {cells : Array Value} {s : Sh} {xs : List (El s.ty)} {bs : List Nat} {cap : Nat}
    (he : GroupsO (EncO M (rows w) s) s.size cells.toList xs bs) (hc : cells.size = cap * s.size) (h1 : xs.length ≤ cap) (h2 : cap ≤ bigLen)
    (hn : bs.Nodup) (hb : ∀ b ∈ bs, ∃ L, n ≤ L ∧ ω b = some L) (t : TypeId) :
    ∃ ω', St0 n B X w0 M0 M ω' (ρ.puts [w1 d (.c (.own s) xs)]) (tmps.setIfInBounds d (.slice (some ⟨w.heap.size, 0, none⟩) xs.length cap)) (w.alloc (.cells cells t)) := by
  have S2 := alloc_ok S (S.bnd hB) cells t n
  have hlt : ∀ b ∈ bs, b < w.heap.size := fun b hi => by
    obtain ⟨row, hr⟩ := GroupsO.rows (Q := fun b => ∃ row, rows w b = some row) xs _ bs (fun x _ cs b hp => EncO.rows s cs x b hp) he b hi
    exact rows_lt hr
  refine ⟨_, put_c S2 hd (s := .own s) (x := xs) (cs := [.slice (some ⟨w.heap.size, 0, none⟩) xs.length cap]) (bs := w.heap.size :: bs) rfl
    (.inr ⟨_, cap, cells.toList, bs, rfl, rfl, h1, h2, rows_alloc _ _, by simpa using hc, GroupsO.imp xs _ bs (fun x _ cs b _ hp => EncO.alloc hp) he⟩) ?_ ?_⟩
  · rw [List.nodup_cons]
    exact ⟨fun h => by have := hlt _ h; omega, hn⟩
  · intro b hi
    rcases List.mem_cons.1 hi with rfl | hi
    · exact ⟨n, Nat.le_refl _, by simp⟩
    · obtain ⟨L, g1, g2⟩ := hb b hi
      have := hlt b hi
      exact ⟨L, g1, (if_neg (by omega)).trans g2⟩

theorem segs_flatten (sz : Nat) : ∀ (L : List (List Value)) (z : List Value), z.length = L.length * sz → (∀ i p, L[i]? = some p → (z.drop (i * sz)).take sz = p) → z = L.flatten
  | [], z, h, _ => by simp at h; simp [h]
  | p :: L, z, h, hp => by
    have h0 := hp 0 p rfl
    simp at h0
    rw [List.flatten_cons, ← h0, ← segs_flatten sz L (z.drop sz) (by simp [h, Nat.add_mul]) (fun i q hq => by
      have := hp (i + 1) q (by simpa using hq)
      rw [List.drop_drop, Nat.add_comm]
      rwa [Nat.add_mul, Nat.one_mul] at this), List.take_append_drop]

theorem exBuildSlice_ok (hC : CtxOk P C) (S : St0 n B X w0 M0 M ω ρ tmps w) (hB : B ≤ w0.heap.size) {gd : Gd} (hg : GuardOk ρ (vl tmps) gd) {t : TypeId} {d len : Nat} (hd : d < n) {ps : Array (Nat × Operand)} {ws : List Wr} {cs : List Prop}
    (h : exBuildSlice C t d len gd ρ ps.toList = some (ws, cs)) (df : List Deferred) :
    Res n B X w0 M0 ρ tmps d ws ((Instr.buildSlice t len (ps.map fun (i, x) => (i, Act.eval ⟨tmps, df⟩ x))).run P w) := by
  unfold exBuildSlice at h
  split at h
  · rename_i e hT
    have hTy := hC.ty t _ hT
    obtain ⟨te, hu, hTe⟩ := hTy.under
    split at h
    · rename_i hc
      obtain ⟨c1, c2, c3, c4, c5⟩ := hc
      obtain ⟨xs, ws', M', ω', bs, k1, k2, k3, k4, k5, k6, k7, k8, k9, k10⟩ := elems_ok _ c5 df _ _ _ _ _ _ _ _ S hg h
      simp only [Option.some.injEq, Prod.mk.injEq] at k1
      obtain ⟨rfl, rfl⟩ := k1
      generalize elemSh e gd ρ ps.toList = s at *
      have hsz : s.size = e.size := by rw [Sh.size_ty s c5, c4]
      have hmul : len * e.size ≤ 2 ^ 24 := Nat.le_trans (Nat.mul_le_mul c2 c3) (by decide)
      have hf := fun (z : Array Value) (hz : z.size = len * e.size) => fill_ok (fun i => some (i * e.size, e.size)) len (by
        intro i j oi si oj sj h1 h2 hi hj hne
        simp only [Option.some.injEq, Prod.mk.injEq] at h1 h2
        obtain ⟨rfl, rfl⟩ := h1
        obtain ⟨rfl, rfl⟩ := h2
        rcases Nat.lt_or_gt_of_ne hne with hl | hl
        · left
          have := Nat.mul_le_mul_right e.size (show i + 1 ≤ j from hl)
          rw [Nat.add_mul] at this; omega
        · right
          have := Nat.mul_le_mul_right e.size (show j + 1 ≤ i from hl)
          rw [Nat.add_mul] at this; omega) (ps.map fun (i, x) => (i, Act.eval ⟨tmps, df⟩ x)).toList z (by
        intro q hq
        simp only [Array.toList_map, List.mem_map] at hq
        obtain ⟨p, hp, rfl⟩ := hq
        have hm := k10 p hp
        have hk : p.1 ∈ ps.toList.map Prod.fst := List.mem_map_of_mem hp
        rw [k6, List.mem_range'_1] at hk
        rw [c1] at hk
        refine ⟨by simpa using hk.2, p.1 * e.size, by simp [hm, hsz], ?_⟩
        rw [hz, hm, hsz]
        have := Nat.mul_le_mul_right e.size (show p.1 + 1 ≤ len from by have := hk.2; omega)
        rw [Nat.add_mul] at this; omega) (by
        rw [Array.toList_map, List.map_map]
        have : (Prod.fst ∘ fun (q : Nat × Operand) => (q.1, Act.eval ⟨tmps, df⟩ q.2)) = Prod.fst := rfl
        show (List.map (Prod.fst ∘ fun (q : Nat × Operand) => (q.1, Act.eval ⟨tmps, df⟩ q.2)) ps.toList).Nodup
        rw [this, k6]
        exact List.nodup_range')
      have hcells : ∀ z : Array Value, z.size = len * e.size → ∃ cells, Instr.fill (fun i => some (i * e.size, e.size)) z (ps.map fun (i, x) => (i, Act.eval ⟨tmps, df⟩ x)).toList = some cells ∧ cells.size = len * e.size ∧
          cells.toList = (ps.toList.map fun q => (Act.eval ⟨tmps, df⟩ q.2).cells.toList).flatten := by
        intro z hz
        obtain ⟨cells, f1, f2, f3⟩ := hf z hz
        refine ⟨cells, f1, by rw [f2, hz], segs_flatten e.size _ _ (by simp [f2, hz, c1]) fun i p hp => ?_⟩
        rw [List.getElem?_map] at hp
        cases hq : ps.toList[i]? with
        | none => rw [hq] at hp; simp at hp
        | some q =>
          rw [hq] at hp
          simp at hp
          have hi : i < len := by rw [← c1]; exact (List.getElem?_eq_some_iff.1 hq).1
          rw [f3 i _ _ hi rfl]
          have hk := congrArg (fun l => l[i]?) k6
          simp only [List.getElem?_map, hq, Option.map_some] at hk
          rw [List.getElem?_range' (by rw [c1]; exact hi)] at hk
          simp at hk
          have hlk : look (ps.map fun (i, x) => (i, Act.eval ⟨tmps, df⟩ x)).toList i = some (Act.eval ⟨tmps, df⟩ q.2) := by
            have : (ps.map fun (i, x) => (i, Act.eval ⟨tmps, df⟩ x)).toList = ps.toList.map fun q => (q.1, Act.eval ⟨tmps, df⟩ q.2) := by rw [Array.toList_map]
            rw [this, look_map]
            have key : ∀ (l : List (Nat × Operand)) (m : Nat), l.map Prod.fst = List.range' m l.length → ∀ i q, l[i]? = some q → look l (m + i) = some q.2 := by
              intro l
              induction l with
              | nil => intro m _ i q hq; simp at hq
              | cons a r ih =>
                intro m hm i q hq
                simp only [List.map_cons, List.length_cons, List.range'_succ, List.cons.injEq] at hm
                obtain ⟨a1, a2⟩ := a
                simp only at hm
                cases i with
                | zero => simp at hq; subst hq; simp [look, hm.1]
                | succ i =>
                  simp only [look]
                  rw [if_neg (by omega)]
                  have := ih (m + 1) hm.2 i q (by simpa using hq)
                  rwa [Nat.add_assoc, Nat.add_comm 1 i] at this
            have := key ps.toList 0 k6 i q hq
            rw [Nat.zero_add] at this
            rw [this]; rfl
          rw [hlk]
          exact hp
      obtain ⟨i', hi1, hi2, hi3, zv, hi4, hi5⟩ := hTe.info
      have hz : (zeroValue te).run P w = .ok zv w := by simp [zeroValue, typeInfo, hi1, hi4]
      have fin : ∀ z0 : Array Value, ∃ cells, Instr.fill (fun i => some (i * e.size, e.size)) ((Array.range (len * e.size)).map (z0[· % z0.size]!)) (ps.map fun (i, x) => (i, Act.eval ⟨tmps, df⟩ x)).toList = some cells ∧
          ∃ ω2, St0 n B X w0 M0 M' ω2 (ρ.puts (ws' ++ [w1 d (.c (.own s) xs)])) (tmps.setIfInBounds d (.slice (some ⟨w.heap.size, 0, none⟩) len len)) (w.alloc (.cells cells te)) := by
        intro z0
        obtain ⟨cells, f1, f2, f3⟩ := hcells ((Array.range (len * e.size)).map (z0[· % z0.size]!)) (by simp)
        obtain ⟨ω2, S2⟩ := ownrow_ok k2 hB hd (cells := cells) (cap := len) (by rw [f3]; exact k7) (by rw [f2, hsz]) (by rw [k5, c1]; exact Nat.le_refl _) (Nat.le_trans c2 (by decide)) k8 (fun b hb => by obtain ⟨L, g1, g2⟩ := k9 b hb; exact ⟨L, by omega, g2⟩) te
        refine ⟨cells, f1, ω2, ?_⟩
        rw [Env.puts_append]
        rw [k5, c1] at S2
        exact S2
      have hbig : ¬ len * e.size > 2 ^ 24 := by omega
      by_cases h0 : len * e.size = 0
      · obtain ⟨cells, f1, ω2, S2⟩ := fin #[]
        refine ⟨_, _, M', ω2, ?_, S2⟩
        unfold Instr.buildSlice
        rw [Sem.run_bind, run_underlying' hu, Result.andThen_ok]
        simp only
        rw [Sem.run_bind, run_sizeOf hTe, Result.andThen_ok, if_neg hbig, if_pos h0]
        simp only [Sem.run_bind, Sem.run_pure, Result.andThen_ok, f1, run_newRow]
      · obtain ⟨cells, f1, ω2, S2⟩ := fin zv.cells
        refine ⟨_, _, M', ω2, ?_, S2⟩
        unfold Instr.buildSlice
        rw [Sem.run_bind, run_underlying' hu, Result.andThen_ok]
        simp only
        rw [Sem.run_bind, run_sizeOf hTe, Result.andThen_ok, if_neg hbig, if_neg h0]
        simp only [Sem.run_bind, Sem.run_pure, Result.andThen_ok, hz, f1, run_newRow]
    · cases h
  · cases h

end
end Fw
