/- Each operation does what is computed of it: new variables, tests, arithmetic. Conditions: none. -/
import Derived.Test.YtnbpojalpdldnaaFw10
namespace Fw
open Go

theorem mkPair_ok (a : Sh) (x : El a.ty) (b : Sh) (y : El b.ty) : ∃ (s : Sh) (z : El s.ty), (∀ (R : Type) (k : (s : Sh) → El s.ty → R), mkPair a x b y k = k s z) ∧
    s.ty = .pair a.ty b.ty ∧ s.ag = true ∧ s.noref = (a.noref && b.noref) ∧ s.free = (a.free && b.free) ∧ s.size = a.size + b.size ∧
    ∀ M Rw v1 v2 b1 b2, EncO M Rw a v1 x b1 → EncO M Rw b v2 y b2 → EncO M Rw s (v1 ++ v2) z (b1 ++ b2) := by
  have gen : ∀ (a : Sh) (x : El a.ty) (b : Sh) (y : El b.ty), ∃ (z : El (Sh.pair a b).ty), z = (x, y) ∧ ∀ M Rw v1 v2 b1 b2, EncO M Rw a v1 x b1 → EncO M Rw b v2 y b2 → EncO M Rw (.pair a b) (v1 ++ v2) z (b1 ++ b2) := by
    intro a x b y
    exact ⟨(x, y), rfl, fun M Rw v1 v2 b1 b2 h1 h2 => ⟨v1, v2, b1, b2, rfl, rfl, h1, h2⟩⟩
  cases a with
  | pure ta =>
    cases b with
    | pure tb =>
      refine ⟨.pure (.pair ta tb), (x, y), fun _ _ => rfl, rfl, rfl, rfl, rfl, rfl, fun M Rw v1 v2 b1 b2 ⟨h1, h2⟩ ⟨h3, h4⟩ => ⟨by rw [h1, h3]; rfl, v1, v2, rfl, h2, h4⟩⟩
    | _ => obtain ⟨z, rfl, hz⟩ := gen _ x _ y; exact ⟨_, _, fun _ _ => rfl, rfl, rfl, rfl, rfl, rfl, hz⟩
  | _ => obtain ⟨z, rfl, hz⟩ := gen _ x _ y; exact ⟨_, _, fun _ _ => rfl, rfl, rfl, rfl, rfl, rfl, hz⟩

/-- zero cells encode the zero value -/
theorem zc_enc (M : Mem) : ∀ (T : Ty) (vs rest : List Value), zc T vs = some rest → ∃ v1, vs = v1 ++ rest ∧ Enc M T v1 (dflt T)
  | .int k, vs, rest, h => by
    unfold zc at h
    split at h <;> try cases h
    all_goals (rename_i heq; cases heq)
    · rename_i k' m r
      split at h
      · rename_i hc; obtain ⟨rfl, rfl⟩ := hc; cases h
        exact ⟨[_], rfl, rfl, by cases k <;> decide, by cases k <;> decide⟩
      · cases h
  | .bool, vs, rest, h => by
    unfold zc at h
    split at h <;> try cases h
    all_goals (rename_i heq; cases heq)
    · split at h
      · rename_i hc; cases h; exact ⟨[_], rfl, by rw [hc]; rfl⟩
      · cases h
  | .str, vs, rest, h => by
    unfold zc at h
    split at h <;> try cases h
    all_goals (rename_i heq; cases heq)
    · rename_i s r
      split at h
      · rename_i hc; cases h
        refine ⟨[_], rfl, ?_, Nat.zero_le _⟩
        have : s = ⟨#[]⟩ := by cases s; simp at hc; simp [hc]
        rw [this]; rfl
      · cases h
  | .slice e, vs, rest, h => by
    unfold zc at h
    split at h <;> try cases h
    all_goals (rename_i heq; cases heq)
    · exact ⟨[_], rfl, none, 0, rfl, Nat.le_refl _, by simp, rfl⟩
  | .pair a b, vs, rest, h => by
    simp only [zc] at h
    split at h
    · rename_i r hr
      obtain ⟨v1, h1, h2⟩ := zc_enc M a vs r hr
      obtain ⟨v2, h3, h4⟩ := zc_enc M b r rest h
      exact ⟨v1 ++ v2, by rw [h1, h3, List.append_assoc], v1, v2, rfl, h2, h4⟩
    · cases h
  | .arr n e, vs, rest, h => by
    have key : ∀ (m : Nat) (vs rest : List Value), repN (zc e) m vs = some rest → ∃ v1, vs = v1 ++ rest ∧ Groups (Enc M e) e.size v1 (List.replicate m (dflt e)) := by
      intro m
      induction m with
      | zero => intro vs rest h; simp [repN] at h; exact ⟨[], by simp [h], rfl⟩
      | succ m ih =>
        intro vs rest h
        simp only [repN] at h
        split at h
        · rename_i r hr
          obtain ⟨v1, h1, h2⟩ := zc_enc M e vs r hr
          obtain ⟨v2, h3, h4⟩ := ih r rest h
          exact ⟨v1 ++ v2, by rw [h1, h3, List.append_assoc], v1, v2, rfl, Enc.length _ _ _ h2, h2, h4⟩
        · cases h
    simp only [zc] at h
    obtain ⟨v1, h1, h2⟩ := key n vs rest h
    exact ⟨v1, h1, by simp [dflt], h2⟩

theorem zeroK_ok : ∀ (T : Ty), ∃ (s : Sh) (x : El s.ty), (∀ (R : Type) (k : (s : Sh) → El s.ty → R), zeroK T k = k s x) ∧ s.ty = T ∧ s.free = true ∧ s.noref = true ∧ s.ag = T.ag ∧
    ∀ M Rw vs rest, zc T vs = some rest → ∃ v1, vs = v1 ++ rest ∧ EncO M Rw s v1 x []
  | .int k => ⟨.pure (.int k), dflt (.int k), fun _ _ => rfl, rfl, rfl, rfl, rfl, fun M Rw vs rest h => by obtain ⟨v1, h1, h2⟩ := zc_enc M _ vs rest h; exact ⟨v1, h1, rfl, h2⟩⟩
  | .bool => ⟨.pure .bool, dflt .bool, fun _ _ => rfl, rfl, rfl, rfl, rfl, fun M Rw vs rest h => by obtain ⟨v1, h1, h2⟩ := zc_enc M _ vs rest h; exact ⟨v1, h1, rfl, h2⟩⟩
  | .str => ⟨.pure .str, dflt .str, fun _ _ => rfl, rfl, rfl, rfl, rfl, fun M Rw vs rest h => by obtain ⟨v1, h1, h2⟩ := zc_enc M _ vs rest h; exact ⟨v1, h1, rfl, h2⟩⟩
  | .arr m e => ⟨.pure (.arr m e), dflt (.arr m e), fun _ _ => rfl, rfl, rfl, rfl, rfl, fun M Rw vs rest h => by obtain ⟨v1, h1, h2⟩ := zc_enc M _ vs rest h; exact ⟨v1, h1, rfl, h2⟩⟩
  | .slice e => ⟨.nil e, [], fun _ _ => rfl, rfl, rfl, rfl, rfl, fun M Rw vs rest h => by
      unfold zc at h
      split at h <;> try cases h
      all_goals (rename_i heq; cases heq)
      exact ⟨[_], rfl, rfl, ⟨none, rfl, by simp⟩, rfl⟩⟩
  | .pair a b => by
    obtain ⟨s, x, h1, h2, h3, h4, _, h5⟩ := zeroK_ok a
    obtain ⟨s', x', k1, k2, k3, k4, _, k5⟩ := zeroK_ok b
    obtain ⟨s2, z, g1, g2, g3, g4, g5, _, g6⟩ := mkPair_ok s x s' x'
    refine ⟨s2, z, fun R k => by simp only [zeroK, h1, k1, g1], by rw [g2, h2, k2], by rw [g5, h3, k3]; rfl, by rw [g4, h4, k4]; rfl, by rw [g3]; rfl, fun M Rw vs rest h => ?_⟩
    simp only [zc] at h
    split at h
    · rename_i r hr
      obtain ⟨v1, e1, e2⟩ := h5 M Rw vs r hr
      obtain ⟨v2, e3, e4⟩ := k5 M Rw r rest h
      exact ⟨v1 ++ v2, by rw [e1, e3, List.append_assoc], g6 M Rw v1 v2 [] [] e2 e4⟩
    · cases h

theorem zOk_cells {T : Ty} {z : Value} (h : zOk T z = true) : ∃ cs, ValC T.ag z cs ∧ zc T cs = some [] ∧ z.cells.toList = cs := by
  cases z
  case agg cs =>
    simp only [zOk, Bool.and_eq_true] at h
    obtain ⟨h1, h2⟩ := h
    split at h2
    · rename_i hz; exact ⟨cs.toList, by unfold ValC; rw [if_pos h1], hz, rfl⟩
    · cases h2
  all_goals
    simp only [zOk, Bool.and_eq_true, Bool.not_eq_true'] at h
    obtain ⟨h1, h2⟩ := h
    split at h2
    · rename_i hz
      exact ⟨[_], by unfold ValC; rw [if_neg (by simp [h1])], hz, rfl⟩
    · cases h2

theorem EncO.plain {M : Mem} {R : RowFn} : ∀ (s : Sh) (vs : List Value) (x : El s.ty) (bs : List Nat), s.noref = true → EncO M R s vs x bs → Plain vs
  | .pure t, vs, x, bs, _, ⟨_, h⟩ => Enc.plain t vs x h
  | .nil _, _, _, _, _, ⟨_, ⟨a, h, _⟩, _⟩ => by rw [h]; intro c hc; simp at hc; subst hc; rfl
  | .hole _, _, _, _, h, _ => by simp [Sh.noref] at h
  | .ref _, _, _, _, h, _ => by simp [Sh.noref] at h
  | .own e, vs, xs, bs, _, h => by
    rcases h with ⟨_, ⟨a, h, _⟩, _⟩ | ⟨b, cap, row, bss, h1, h2, _⟩
    · rw [h]; intro c hc; simp at hc; subst hc; rfl
    · rw [h2]; intro c hc; simp at hc; subst hc; rfl
  | .pair a b, vs, x, bs, hn, ⟨v1, v2, b1, b2, h1, h2, h3, h4⟩ => by
    simp [Sh.noref] at hn
    subst h1; intro c hc
    rcases List.mem_append.1 hc with hc | hc
    · exact EncO.plain a _ _ _ hn.1 h3 c hc
    · exact EncO.plain b _ _ _ hn.2 h4 c hc

section
variable {n B : Nat} {X : List Nat} {w0 : World} {M0 M : Mem} {ω : Own} {ρ : Env} {tmps : Array Value} {w : World} {P : Program} {C : Ctx}

theorem St0.bnd (S : St0 n B X w0 M0 M ω ρ tmps w) (hB : B ≤ w0.heap.size) : B ≤ w.heap.size := Nat.le_trans hB S.fr.size

theorem run_newVar (t : TypeId) (v : Value) : (newVar t v).run P w = .ok ⟨w.heap.size, 0, none⟩ (w.alloc (.cells v.cells t)) := by
  simp [newVar, newRow]

/-- a value in limbo is put into a new variable, slot d -/
theorem box_ok (S : St0 n B X w0 M0 M ω ρ tmps w) (hB : B ≤ w0.heap.size) {d : Nat} (hd : d < n) {v : Value} {s : Sh} {x : El s.ty} {cs : List Value} {bs : List Nat}
    (hv : v.cells.toList = cs) (he : EncO M (rows w) s cs x bs) (hn : bs.Nodup) (hb : ∀ b ∈ bs, ∃ L, n ≤ L ∧ ω b = some L) (t : TypeId) :
    ∃ ω', St0 n B X w0 M0 M ω' (ρ.puts [w1 d (.c (.ref s) x)]) (tmps.setIfInBounds d (.pointer (some ⟨w.heap.size, 0, none⟩))) (w.alloc (.cells v.cells t)) := by
  have S2 := alloc_ok S (S.bnd hB) v.cells t n
  have hlt : ∀ b ∈ bs, b < w.heap.size := fun b hi => by obtain ⟨row, hr⟩ := EncO.rows s cs x bs he b hi; exact rows_lt hr
  refine ⟨_, put_c S2 hd (s := .ref s) (x := x) (cs := [.pointer (some ⟨w.heap.size, 0, none⟩)]) (bs := w.heap.size :: bs) rfl ⟨_, cs, bs, rfl, rfl, ?_, EncO.alloc he⟩ ?_ ?_⟩
  · rw [rows_alloc, hv]
  · rw [List.nodup_cons]
    exact ⟨fun h => by have := hlt _ h; omega, hn⟩
  · intro b hi
    rcases List.mem_cons.1 hi with rfl | hi
    · exact ⟨n, Nat.le_refl _, by simp⟩
    · obtain ⟨L, h1, h2⟩ := hb b hi
      have := hlt b hi
      exact ⟨L, h1, (if_neg (by omega)).trans h2⟩

/-- a new variable, shared from the start -/
theorem allocM_ok (S : St0 n B X w0 M0 M ω ρ tmps w) (hB : B ≤ w.heap.size) (c : Array Value) (e : TypeId) :
    ∃ M', M.le M' ∧ CellsAt M' w.heap.size 0 c.toList ∧ St0 n B X w0 M0 M' ω ρ tmps (w.alloc (.cells c e)) := by
  have hnone : ∀ o, M w.heap.size o = none := fun o => by
    cases hm : M w.heap.size o with
    | none => rfl
    | some v => have := World.block_lt_of_cell? _ _ (S.mem _ _ _ hm); simp at this
  have hM : M.le (fun b o => if b = w.heap.size then c.toList[o]? else M b o) := fun b o v hm => by
    show (if b = w.heap.size then c.toList[o]? else M b o) = some v
    rw [if_neg (fun e => by rw [e, hnone] at hm; cases hm)]; exact hm
  refine ⟨fun b o => if b = w.heap.size then c.toList[o]? else M b o, hM, fun j cc hj => by simp only [if_true, Nat.zero_add]; exact hj, ?_⟩
  have hold : ∀ b, b < w.heap.size → (w.alloc (.cells c e)).heap[b]? = w.heap[b]? := fun b hb => heap_alloc_old hb
  refine S.step [] S.size (Fr.alloc w _ hB) hM (fun b o hb _ => if_neg (by omega)) ?_ ?_ (fun _ _ => rfl) (by simp) ?_ (by simp)
  · intro b o v hm
    by_cases hb : b = w.heap.size
    · subst hb
      have hm : c.toList[o]? = some v := by simpa using hm
      have hr := rows_full (rows_alloc (w := w) (c := c) (e := e))
      have := hr o v hm
      rw [Nat.zero_add] at this
      exact this
    · have hm : M b o = some v := by simpa [hb] using hm
      have h := S.mem b o v hm
      have hlt := World.block_lt_of_cell? _ _ h
      rw [cell_of_block (hold b hlt)]; exact h
  · intro b k hk
    obtain ⟨h1, h2, h3⟩ := S.dis b k hk
    exact ⟨h1, by simp; omega, fun o => by show (if b = w.heap.size then c.toList[o]? else M b o) = none; rw [if_neg (by omega)]; exact h3 o⟩
  · intro t _ _ b hb
    obtain ⟨_, h2, _⟩ := S.dis b t hb
    exact ⟨hb, hold b h2⟩

theorem alOf_inv {C : Ctx} {T : Ty} {a : Opd} {j g : Nat} {ag : Bool} (h : alOf C T a = some (j, g, ag)) : ∃ s x, a.slot = some j ∧ a.ent.a = .c s x ∧ s.noref = true ∧ g = a.ent.g ∧ ag = s.ag := by
  unfold alOf at h
  split at h
  · cases h
  · split at h
    · rename_i j' s x h1 h2
      split at h
      · rename_i hc
        simp only [Option.some.injEq, Prod.mk.injEq] at h
        obtain ⟨rfl, rfl, rfl⟩ := h
        exact ⟨s, x, h1, h2, hc.2.2.2, rfl, rfl⟩
      · cases h
    · cases h
theorem exBox_ok (S : St0 n B X w0 M0 M ω ρ tmps w) (hB : B ≤ w0.heap.size) {t : TypeId} {d : Nat} (hd : d < n) {q : Opd} {ws : List Wr} {cs : List Prop}
    (h : exBox C t d q = some (ws, cs)) {v : Value} (hq : OpdR n M ω w ρ (vl tmps) q v) : Res n B X w0 M0 ρ tmps d ws ((Instr.box t v).run P w) := by
  unfold exBox at h
  split at h
  · rename_i T hT
    split at h
    · rename_i j g ag hal
      obtain ⟨s, x, e1, e2, e3, rfl, rfl⟩ := alOf_inv hal
      obtain ⟨g1, g2, _⟩ := hq.slot j e1
      rw [g2] at e2
      have hjn : j < n := by
        rcases Nat.lt_or_ge j n with h' | h'
        · exact h'
        · rw [S.high j h'] at e2; cases e2
      have hs := S.slots j hjn
      rw [e2] at hs
      obtain ⟨pc, bs, k1, k2, k3, k4⟩ := (show Owns M ω w j s x (vl tmps j) by cases s <;> exact hs)
      have hc := ValC.cells k1 (EncO.plain s pc x bs e3 k2)
      simp only [out1, Option.some.injEq, Prod.mk.injEq] at h
      obtain ⟨rfl, rfl⟩ := h
      obtain ⟨M', hM, hcell, S1⟩ := allocM_ok S (S.bnd hB) v.cells t
      rw [← g1] at hc
      rw [hc] at hcell
      refine ⟨.pointer (some ⟨w.heap.size, 0, none⟩), w.alloc (.cells v.cells t), M', _, by simp only [Instr.box, Sem.run_bind, run_newVar, Result.andThen_ok, Sem.run_pure],
        put_ref S1 hd (t := 0) (by intros; intro e; cases e) (by intros; intro e; cases e) (by intros; intro e; cases e) ⟨⟨hjn, by rw [g2]; exact Nat.le_refl _⟩, _, pc, rfl, hcell, fun _ => k1⟩⟩
    obtain ⟨s, x, ws', h1, M', ω', S1, m1, ⟨cs', bs, k1, k2, k3, k4⟩⟩ := tk_ok S n h hq
    split at h1
    · split at h1
      · rename_i hs hn
        simp only [Option.some.injEq, Prod.mk.injEq] at h1
        obtain ⟨rfl, rfl⟩ := h1
        have hc := ValC.cells k1 (EncO.plain s cs' x bs hn k2)
        obtain ⟨ω2, S2⟩ := box_ok S1 hB hd hc k2 k3 (fun b hb => ⟨n, Nat.le_refl _, k4 b hb⟩) t
        refine ⟨.pointer (some ⟨w.heap.size, 0, none⟩), w.alloc (.cells v.cells t), M', ω2, by simp only [Instr.box, Sem.run_bind, run_newVar, Result.andThen_ok, Sem.run_pure], ?_⟩
        rw [Env.puts_append]; exact S2
      · cases h1
    · cases h1
  · cases h

theorem exAlloc_ok (hC : CtxOk P C) (S : St0 n B X w0 M0 M ω ρ tmps w) (hB : B ≤ w0.heap.size) {t : TypeId} {d : Nat} (hd : d < n) {ws : List Wr} {cs : List Prop}
    (h : exAlloc C t d = some (ws, cs)) : Res n B X w0 M0 ρ tmps d ws ((Instr.alloc t true (.tuple #[])).run P w) := by
  unfold exAlloc at h
  split at h
  · rename_i T hT
    obtain ⟨i, h1, h2, h3, z, h4, h5⟩ := (hC.ty t T hT).info
    obtain ⟨s, x, k1, k2, k3, k4, k5, k6⟩ := zeroK_ok T
    rw [k1] at h
    simp only [out1, Option.some.injEq, Prod.mk.injEq] at h
    obtain ⟨rfl, rfl⟩ := h
    obtain ⟨cs', g1, g2, g3⟩ := zOk_cells h5
    obtain ⟨v1, e1, e2⟩ := k6 M (rows w) cs' [] g2
    rw [List.append_nil] at e1
    subst e1
    obtain ⟨ω2, S2⟩ := box_ok S hB hd g3 e2 List.nodup_nil (by simp) t
    refine ⟨_, _, M, ω2, ?_, S2⟩
    have hz : (zeroValue t).run P w = .ok z w := by simp [zeroValue, typeInfo, h1, h4]
    simp only [Instr.alloc, Sem.run_bind, hz, run_newVar, Result.andThen_ok, Sem.run_pure]
  · cases h

theorem exPick_ok (S : St0 n B X w0 M0 M ω ρ tmps w) {gd : Gd} (hg : GuardOk ρ (vl tmps) gd) {d : Nat} (hd : d < n) {c a b : Operand} {ws : List Wr} {cs : List Prop}
    (h : exPick d (opd ρ gd c) (fun s g ver => (opd ρ (some (s, g, ver, true)) a, opd ρ (some (s, g, ver, false)) b)) = some (ws, cs)) (df : List Deferred) :
    Res n B X w0 M0 ρ tmps d ws ((do pure (if ← asBool (Act.eval ⟨tmps, df⟩ c) then Act.eval ⟨tmps, df⟩ a else Act.eval ⟨tmps, df⟩ b) : Sem Value).run P w) := by
  unfold exPick at h
  obtain ⟨cb, h1, h2⟩ := rd_bool S h
  have hc := h2 _ (opd_rel S hg c df)
  split at h1
  · rename_i s hs
    obtain ⟨x, h3, h4⟩ := rd_bool S h1
    obtain ⟨y, h5, h6⟩ := rd_bool S h3
    simp only [out1, Option.some.injEq, Prod.mk.injEq] at h5
    obtain ⟨rfl, rfl⟩ := h5
    have hcs : ∃ t, c = .tmp t ∧ s = t := by
      cases c <;> simp [opd] at hs
      exact ⟨_, rfl, hs.symm⟩
    obtain ⟨t, rfl, rfl⟩ := hcs
    have hval : vl tmps s = .bool cb := hc
    cases cb with
    | true =>
      have hv := h4 _ (opd_rel S (gd := some (s, _, _, true)) (by rintro _ _ _ _ ⟨⟩; exact ⟨⟨rfl, rfl⟩, hval⟩) a df)
      exact ⟨_, w, _, _, by rw [hc, hv]; rfl, put_pure S hd (t := .bool) rfl rfl⟩
    | false =>
      have hv := h6 _ (opd_rel S (gd := some (s, _, _, false)) (by rintro _ _ _ _ ⟨⟩; exact ⟨⟨rfl, rfl⟩, hval⟩) b df)
      exact ⟨_, w, _, _, by rw [hc, hv]; rfl, put_pure S hd (t := .bool) rfl rfl⟩
  · cases h1

end
end Fw
