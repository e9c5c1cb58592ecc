/- Each operation does what is computed of it: the address of an element, structs and arrays built of parts. Conditions: none. -/
import Derived.Test.YtnbpojalpdldnaaFwB
namespace Fw
open Go

section
variable {n B : Nat} {X : List Nat} {w0 : World} {M0 M : Mem} {ω : Own} {ρ : Env} {tmps : Array Value} {w : World} {P : Program} {C : Ctx}

theorem run_indexAt_slice {t te : TypeId} {E : Ty} (hu : P.underlying t = some (.slice te)) (hTe : TyR P te E) {a : Addr} {len cap : Nat} {idx : Int} (h : inRange idx len) (ha : a.spot = none) :
    (Instr.indexAt t (.slice (some a) len cap) (.int .i64 idx)).run P w = .ok (.pointer (some ⟨a.block, a.off + idx.toNat * E.size, none⟩)) w := by
  obtain ⟨b, o, sp⟩ := a
  simp only at ha
  subst ha
  unfold inRange at h
  unfold Instr.indexAt
  simp only [asIntOf, Sem.run_bind, Sem.run_pure, Result.andThen_ok, run_underlying' hu, run_sizeOf hTe, addr_add, if_pos h]

theorem run_indexAt_arr {t te : TypeId} {E : Ty} {m : Nat} (hu : P.underlying t = some (.array m te)) (hTe : TyR P te E) {b o : Nat} {idx : Int} (h : inRange idx m) :
    (Instr.indexAt t (.pointer (some ⟨b, o, none⟩)) (.int .i64 idx)).run P w = .ok (.pointer (some ⟨b, o + idx.toNat * E.size, none⟩)) w := by
  unfold inRange at h
  unfold Instr.indexAt
  simp only [asIntOf, Sem.run_bind, Sem.run_pure, Result.andThen_ok, run_underlying' hu, run_sizeOf hTe, addr_add, if_pos h, Instr.sureAddr]

theorem exIndexAddr_ok (hC : CtxOk P C) (S : St0 n B X w0 M0 M ω ρ tmps w) {t : TypeId} {d : Nat} (hd : d < n) {q1 q2 : Opd} {ws : List Wr} {cs : List Prop}
    (h : exIndexAddr C t d q1 q2 = some (ws, cs)) (hcs : ∀ p ∈ cs, p) {v1 v2 : Value} (hq1 : OpdR n M ω w ρ (vl tmps) q1 v1) (hq2 : OpdR n M ω w ρ (vl tmps) q2 v2) :
    Res n B X w0 M0 ρ tmps d ws ((Instr.indexAt t v1 v2).run P w) := by
  unfold exIndexAddr at h
  obtain ⟨idx, h1, h2⟩ := rd_int S h
  obtain ⟨ev, ri⟩ := h2 v2 hq2
  subst ev
  split at h1
  · rename_i E hT
    obtain ⟨te, hu, hTe⟩ := (hC.ty t _ hT).under
    split at h1
    · rename_i e xs ha
      split at h1
      · rename_i heE
        subst heE
        simp only [Option.some.injEq, Prod.mk.injEq] at h1
        obtain ⟨rfl, rfl⟩ := h1
        have hr : inRange idx (List.length xs) := hcs _ (by simp)
        have hrel := hq1.rel (by rw [ha]; intro _ _ _ _ _ e; cases e)
        rw [ha] at hrel
        obtain ⟨cs', bs, k1, ⟨k2, k3⟩, _, _⟩ := hrel
        obtain ⟨a, cap, g1, g2, g3, g4⟩ := k3
        subst g1
        have k1 : v1 = .slice a (List.length xs) cap := by simpa [ValC, Sh.ag, Ty.ag] using k1.symm
        subst k1
        have hlt : idx.toNat < List.length xs := by unfold inRange at hr; omega
        cases a with
        | none => simp only at g4; omega
        | some a =>
          obtain ⟨g4, g5⟩ := g4
          have g4 : a.spot = none := g4.resolve_right (by omega)
          obtain ⟨c2, l1, l2, l3⟩ := SliceAt.get xs _ idx.toNat _ g5 (getD_of_lt' xs idx.toNat (dflt e) hlt)
          refine ⟨_, w, _, _, run_indexAt_slice hu hTe hr g4, put_ref S hd (t := 0) (by intros; intro e; cases e) (by intros; intro e; cases e) (by intros; intro e; cases e) ?_⟩
          exact ⟨a.block, a.off + idx.toNat * e.size, c2, rfl, l2, l3⟩
      · cases h1
    · rename_i u0 x0 ha
      split at h1
      · rename_i j e xs hj hea
        split at h1
        · rename_i heE
          subst heE
          simp only [Option.some.injEq, Prod.mk.injEq] at h1
          obtain ⟨rfl, rfl⟩ := h1
          have hr : inRange idx (List.length xs) := hcs _ (by simp)
          obtain ⟨e1, e2, e3⟩ := hq1.slot j hj
          have hjn := e3 (by rw [ha]; intro e; cases e)
          rw [e2] at hea
          have hs := S.slots j hjn
          rw [hea] at hs
          obtain ⟨cs', bs, k1, k2, _, _⟩ := hs
          have hlt : idx.toNat < List.length xs := by unfold inRange at hr; omega
          rcases k2 with ⟨_, _, k2⟩ | ⟨b, cap, row, bss, _, k3, _⟩
          · subst k2; simp at hlt
          · subst k3
            have k1 : vl tmps j = .slice (some ⟨b, 0, none⟩) (List.length xs) cap := by
              have : [vl tmps j] = [Value.slice (some ⟨b, 0, none⟩) (List.length xs) cap] := by simpa [ValC, Sh.ag] using k1.symm
              simpa using this
            rw [e1, k1, e2]
            refine ⟨_, w, _, _, run_indexAt_slice hu hTe hr rfl, put_ref S hd (t := 0) (by intros; intro e; cases e) (by intros; intro e; cases e) (by intros; intro e; cases e) ⟨⟨hjn, Nat.le_refl _, fun _ => Nat.le_refl _⟩, fun _ => ?_⟩⟩
            unfold ElpR
            simp only [Option.isSome_none, Bool.false_eq_true, if_false]
            refine ⟨[vl tmps j], ?_, ⟨b, 0, none⟩, List.length xs, cap, by simp [k1], hlt, rfl, rfl⟩
            rw [hea]
            simp [Place, ValC, Sh.ag]
        · cases h1
      · cases h1
    · rename_i k g ver e xs off ex ha
      split at h1
      · rename_i hc
        obtain ⟨c1, c2, heE⟩ := hc
        subst heE
        simp only [Option.some.injEq, Prod.mk.injEq] at h1
        obtain ⟨rfl, rfl⟩ := h1
        have hr : inRange idx (List.length xs) := hcs _ (by simp)
        have hrel := hq1.rel (by rw [ha]; intro _ _ _ _ _ e; cases e)
        have htg := hq1.tgt k (by rw [ha]; rfl)
        rw [ha] at hrel
        obtain ⟨r1, r2⟩ := hrel
        rw [htg] at c1 c2
        obtain ⟨cs', k1, k2, k3, _⟩ := r2 ⟨c1, c2⟩
        obtain ⟨a, cap, g1, g2, g3, g4⟩ := k2
        subst g1
        have k1 : v1 = .slice a (List.length xs) cap := by
          have : [v1] = [Value.slice a (List.length xs) cap] := by simpa [ValC, Ty.ag] using k1.symm
          simpa using this
        subst k1
        have hlt : idx.toNat < List.length xs := by unfold inRange at hr; omega
        obtain ⟨pc, p1, p2⟩ := k3 off rfl
        cases a with
        | none => simp only at g4; omega
        | some a =>
          have g4s : a.spot = none := g4.1.resolve_right (by omega)
          refine ⟨_, w, _, _, run_indexAt_slice hu hTe hr g4s, put_ref S hd (t := 0) (by intros; intro e; cases e) (by intros; intro e; cases e) (by intros; intro e; cases e) ⟨r1, fun _ => ?_⟩⟩
          unfold ElpR
          simp only [Option.isSome_none, Bool.false_eq_true, if_false]
          refine ⟨pc, p1, ?_⟩
          split at p2
          · have : pc[off]? = some (.slice (some a) (List.length xs) cap) := by
              have := congrArg (fun l => l[0]?) p2
              simp [Ty.size] at this
              exact this.symm
            exact ⟨a, List.length xs, cap, this, hlt, g4s, rfl⟩
          · obtain ⟨a', len', cap', n', q1, q2, q3⟩ := p2
            simp only [List.cons.injEq, Value.slice.injEq, and_true] at q2
            obtain ⟨rfl, q5, rfl⟩ := q2
            exact ⟨a, len', cap, q1, by omega, g4s, rfl⟩
      · cases h1
    · cases h1
  · rename_i m e hT
    obtain ⟨te, hu, hTe⟩ := (hC.ty t _ hT).under
    obtain ⟨j, g, off, en, g1, g2⟩ := ptrK_ok S h1
    obtain ⟨hj, rfl, hro, hp⟩ := g2 v1 hq1
    split at g1
    · rename_i hc
      simp only [Option.some.injEq, Prod.mk.injEq] at g1
      obtain ⟨rfl, rfl⟩ := g1
      have hr : inRange idx m := hcs _ (by simp)
      obtain ⟨b, hb, hv⟩ := hp hc.1
      subst hv
      refine ⟨_, w, _, _, run_indexAt_arr hu hTe hr, put_ref S hd (t := 0) (by intros; intro e; cases e) (by intros; intro e; cases e) (by intros; intro e; cases e) ⟨⟨hj, hro.2, fun _ => Nat.le_refl _⟩, fun _ => ?_⟩⟩
      unfold ElpR
      simp only [Option.isSome_some, if_true]
      exact ⟨fun m' hm => by simp only [Option.some.injEq] at hm; unfold inRange at hr; omega, b, hb, rfl⟩
    · cases g1
  · cases h1

theorem groups_of_segs {α : Type} {p : List Value → α → Prop} {sz : Nat} : ∀ (xs : List α) (z : List Value), z.length = xs.length * sz → (∀ j x, xs[j]? = some x → p ((z.drop (j * sz)).take sz) x) → Groups p sz z xs
  | [], z, h, _ => by simp at h; simp [Groups, h]
  | x :: xs, z, h, hp => by
    simp only [List.length_cons, Nat.add_mul, Nat.one_mul] at h
    refine ⟨z.take sz, z.drop sz, (List.take_append_drop _ _).symm, by simp; omega, by simpa using hp 0 x rfl, groups_of_segs xs _ (by simp; omega) fun j y hj => ?_⟩
    have := hp (j + 1) y (by simpa using hj)
    rw [List.drop_drop, Nat.add_comm]
    rwa [Nat.add_mul, Nat.one_mul] at this

theorem arr_ok (S : St0 n B X w0 M0 M ω ρ tmps w) {gd : Gd} (hg : GuardOk ρ (vl tmps) gd) {e : Ty} (he : e.flat = true) (df : List Deferred) {ps : List (Nat × Operand)} {R : Type} :
    ∀ (m i : Nat) (k : List (El e) → Option R) (r : R), arrK e gd ρ m i ps k = some r → ∃ xs, k xs = some r ∧ xs.length = m ∧ ∀ j x, xs[j]? = some x →
      match look ps (i + j) with
      | some o => (Act.eval ⟨tmps, df⟩ o).cells.size = e.size ∧ Enc M e (Act.eval ⟨tmps, df⟩ o).cells.toList x
      | none => x = dflt e
  | 0, i, k, r, h => ⟨[], h, rfl, fun j x hj => by simp at hj⟩
  | m + 1, i, k, r, h => by
    simp only [arrK] at h
    split at h
    · rename_i o hl
      obtain ⟨x, h1, h2⟩ := rd_ok S h
      obtain ⟨xs, k1, k2, k3⟩ := arr_ok S hg he df m (i + 1) _ r h1
      refine ⟨x :: xs, k1, by simp [k2], fun j y hj => ?_⟩
      cases j with
      | zero =>
        simp at hj; subst hj
        rw [Nat.add_zero, hl]
        obtain ⟨cs, g1, g2⟩ := h2 _ (opd_rel S hg o df)
        have hc := ValC.cells g1 (Enc.plain e cs x g2)
        have := congrArg List.length hc
        rw [Enc.length _ _ _ g2] at this
        exact ⟨by simpa using this, by rw [hc]; exact Enc.flat e _ _ he g2⟩
      | succ j =>
        have := k3 j y (by simpa using hj)
        rwa [Nat.add_assoc, Nat.add_comm 1 j] at this
    · rename_i hl
      obtain ⟨xs, k1, k2, k3⟩ := arr_ok S hg he df m (i + 1) _ r h
      refine ⟨dflt e :: xs, k1, by simp [k2], fun j y hj => ?_⟩
      cases j with
      | zero =>
        simp at hj
        rw [Nat.add_zero, hl]; exact hj.symm
      | succ j =>
        have := k3 j y (by simpa using hj)
        rwa [Nat.add_assoc, Nat.add_comm 1 j] at this

def foldTy : List (Nat × Ty) → Ty
  | [] => .bool
  | [(_, t)] => t
  | (_, t) :: r => .pair t (foldTy r)
def total : List (Nat × Ty) → Nat
  | [] => 0
  | (_, t) :: r => t.size + total r
theorem foldTy_size : ∀ (l : List (Nat × Ty)), l ≠ [] → (foldTy l).size = total l
  | [], h => (h rfl).elim
  | [(_, t)], _ => rfl
  | (_, t) :: q :: r, _ => by simp [foldTy, Ty.size, total, foldTy_size (q :: r)]

theorem zc_drop {T : Ty} {vs rest : List Value} (h : zc T vs = some rest) : rest = vs.drop T.size ∧ T.size ≤ vs.length := by
  obtain ⟨v1, h1, h2⟩ := zc_enc (fun _ _ => none) T vs rest h
  have := Enc.length _ _ _ h2
  subst h1
  exact ⟨by rw [← this]; simp, by simp; omega⟩

theorem build_ok {R : Type} (df : List Deferred) (ps : List (Nat × Operand)) : ∀ (l : List (Nat × Ty)) (p i : Nat) (gd : Gd) (ρ : Env) (M : Mem) (ω : Own) (k : (s : Sh) → El s.ty → List Wr → Option R) (r : R),
    St0 n B X w0 M0 M ω ρ tmps w → GuardOk ρ (vl tmps) gd → contB p l = true → buildK l i gd ρ ps k = some r →
    ∃ s x ws M' ω' bs, k s x ws = some r ∧ St0 n B X w0 M0 M' ω' (ρ.puts ws) tmps w ∧ M.le M' ∧ (∀ b L, n ≤ L → L < n + i → ω b = some L → ω' b = some L) ∧
      s.noref = true ∧ bs.Nodup ∧ (∀ b ∈ bs, ∃ L, n + i ≤ L ∧ ω' b = some L) ∧ s.ty = foldTy l ∧ l ≠ [] ∧
      (∀ j o t q, l[j]? = some (o, t) → look ps (i + j) = some q → (Act.eval ⟨tmps, df⟩ q).cells.size = t.size) ∧
      ∀ (z cells : List Value) (rest : List Value), zc (foldTy l) (z.drop p) = some rest → cells.length = z.length →
        (∀ j o t, l[j]? = some (o, t) → (cells.drop o).take t.size = match look ps (i + j) with | some q => (Act.eval ⟨tmps, df⟩ q).cells.toList | none => (z.drop o).take t.size) →
        EncO M' (rows w) s ((cells.drop p).take (total l)) x bs
  | [], p, i, gd, ρ, M, ω, k, r, S, hg, hc, h => by simp [buildK] at h
  | [(o, t)], p, i, gd, ρ, M, ω, k, r, S, hg, hc, h => by
    simp only [contB, Bool.and_true, beq_iff_eq] at hc
    subst hc
    simp only [buildK] at h
    split at h
    · rename_i q hl
      obtain ⟨s, x, ws, h1, M', ω', S1, m1, t1⟩ := tk_ok S (n + i) h (opd_rel S hg q df)
      split at h1
      · rename_i hs
        obtain ⟨hs1, hs2⟩ := hs
        obtain ⟨cs, bs, e1, e2, e3, e4⟩ := t1.enc
        have hcl := ValC.cells e1 (EncO.plain s cs x bs hs2 e2)
        have hlen := EncO.length _ _ _ _ e2
        have hsz : (Act.eval ⟨tmps, df⟩ q).cells.size = t.size := by
          have := congrArg List.length hcl
          rw [hlen, Sh.size_ty s hs2, hs1] at this
          simpa using this
        refine ⟨s, x, ws, M', ω', bs, h1, S1, m1.step.mem, fun b L g1 g2 g3 => m1.limbo L g1 (by omega) b g3, hs2, e3, fun b hb => ⟨_, Nat.le_refl _, e4 b hb⟩, hs1, by simp, ?_, ?_⟩
        · intro j o' t' q' hj hq'
          cases j with
          | zero => simp at hj; obtain ⟨rfl, rfl⟩ := hj; rw [Nat.add_zero, hl] at hq'; cases hq'; exact hsz
          | succ j => simp at hj
        · intro z cells rest hz hcz hseg
          have := hseg 0 o t rfl
          rw [Nat.add_zero, hl] at this
          simp only at this
          simp only [total, Nat.add_zero]
          rw [this, hcl]; exact e2
      · cases h1
    · rename_i hl
      obtain ⟨s, x, k1, k2, k3, k4, k5, k6⟩ := zeroK_ok t
      rw [k1] at h
      refine ⟨s, x, [], M, ω, [], h, S, Mem.le_refl _, fun _ _ _ _ h => h, k4, List.nodup_nil, by simp, k2, by simp, ?_, ?_⟩
      · intro j o' t' q' hj hq'
        cases j with
        | zero => rw [Nat.add_zero, hl] at hq'; cases hq'
        | succ j => simp at hj
      · intro z cells rest hz hcz hseg
        have := hseg 0 o t rfl
        rw [Nat.add_zero, hl] at this
        simp only [total, Nat.add_zero]
        rw [this]
        obtain ⟨v1, g1, g2⟩ := k6 M (rows w) _ _ hz
        have hlen := EncO.length _ _ _ _ g2
        rw [Sh.size_ty s k4, k2] at hlen
        rw [g1, ← hlen, List.take_left]; exact g2
  | (o, t) :: y :: l, p, i, gd, ρ, M, ω, k, r, S, hg, hc, h => by
    simp only [contB, Bool.and_eq_true, beq_iff_eq] at hc
    obtain ⟨rfl, hc⟩ := hc
    have hc' : contB (o + t.size) (y :: l) = true := by simp only [contB, Bool.and_eq_true, beq_iff_eq]; exact hc
    simp only [buildK] at h
    split at h
    · rename_i q hl
      obtain ⟨s, x, ws, h1, M1, ω1, S1, m1, t1⟩ := tk_ok S (n + i) h (opd_rel S hg q df)
      split at h1
      · rename_i hs
        obtain ⟨hs1, hs2⟩ := hs
        obtain ⟨s', x', ws', M2, ω2, bs, k1, k2, k3, k4, k5, k6, k7, k8, k9, k10, k11⟩ := build_ok df ps (y :: l) (o + t.size) (i + 1) _ _ _ _ _ _ S1 (guard_next hg ws) hc' h1
        obtain ⟨cs, b1, e1, e2, e3, e4⟩ := t1.enc
        have hcl := ValC.cells e1 (EncO.plain s cs x b1 hs2 e2)
        have hlen := EncO.length _ _ _ _ e2
        have hsz : (Act.eval ⟨tmps, df⟩ q).cells.size = t.size := by
          have := congrArg List.length hcl
          rw [hlen, Sh.size_ty s hs2, hs1] at this
          simpa using this
        have e5 : ∀ b ∈ b1, ω2 b = some (n + i) := fun b hb => k4 b _ (by omega) (by omega) (e4 b hb)
        obtain ⟨s2, z2, g1, g2, g3, g4, g5, g6, g7⟩ := mkPair_ok s x s' x'
        rw [g1] at k1
        refine ⟨s2, z2, ws ++ ws', M2, ω2, b1 ++ bs, k1, by rw [Env.puts_append]; exact k2, Mem.le_trans m1.step.mem k3, fun b L hL hL2 hb => k4 b L hL (by omega) (m1.limbo L hL (by omega) b hb),
          by rw [g4, hs2, k5]; rfl, ?_, ?_, by rw [g2, hs1, k8]; rfl, by simp, ?_, ?_⟩
        · rw [List.nodup_append]
          refine ⟨e3, k6, fun a ha b hb e => ?_⟩
          subst e
          obtain ⟨L, q1, q2⟩ := k7 a hb
          rw [e5 a ha] at q2
          simp at q2; omega
        · intro b hb
          rcases List.mem_append.1 hb with hb | hb
          · exact ⟨n + i, Nat.le_refl _, e5 b hb⟩
          · obtain ⟨L, q1, q2⟩ := k7 b hb
            exact ⟨L, by omega, q2⟩
        · intro j o' t' q' hj hq'
          cases j with
          | zero => simp at hj; obtain ⟨rfl, rfl⟩ := hj; rw [Nat.add_zero, hl] at hq'; cases hq'; exact hsz
          | succ j => exact k10 j o' t' q' (by simpa using hj) (by rw [Nat.add_assoc, Nat.add_comm 1 j]; exact hq')
        · intro z cells rest hz hcz hseg
          simp only [foldTy, zc] at hz
          split at hz
          · rename_i r1 hz1
            obtain ⟨hr1, hle⟩ := zc_drop hz1
            subst hr1
            rw [List.drop_drop] at hz
            have h0 := hseg 0 o t rfl
            rw [Nat.add_zero, hl] at h0
            simp only at h0
            have ih := k11 z cells rest hz hcz (fun j o' t' hj => by
              have := hseg (j + 1) o' t' (by simpa using hj)
              rw [this, Nat.add_assoc, Nat.add_comm 1 j])
            have hsplit : (cells.drop o).take (total ((o, t) :: y :: l)) = (cells.drop o).take t.size ++ (cells.drop (o + t.size)).take (total (y :: l)) := by
              show (cells.drop o).take (t.size + total (y :: l)) = _
              rw [List.take_add, List.drop_drop]
            rw [hsplit, h0, hcl]
            exact g7 M2 (rows w) _ _ _ _ (EncO.mono k3 s cs x b1 (fun _ _ => rfl) e2) ih
          · cases hz
      · cases h1
    · rename_i hl
      obtain ⟨s, x, z1, z2, z3, z4, z5, z6⟩ := zeroK_ok t
      rw [z1] at h
      obtain ⟨s', x', ws', M2, ω2, bs, k1, k2, k3, k4, k5, k6, k7, k8, k9, k10, k11⟩ := build_ok df ps (y :: l) (o + t.size) (i + 1) _ _ _ _ _ _ S hg hc' h
      obtain ⟨s2, zz, g1, g2, g3, g4, g5, g6, g7⟩ := mkPair_ok s x s' x'
      rw [g1] at k1
      refine ⟨s2, zz, ws', M2, ω2, bs, k1, k2, k3, fun b L hL hL2 hb => k4 b L hL (by omega) hb, by rw [g4, z4, k5]; rfl, k6, fun b hb => by obtain ⟨L, q1, q2⟩ := k7 b hb; exact ⟨L, by omega, q2⟩,
        by rw [g2, z2, k8]; rfl, by simp, ?_, ?_⟩
      · intro j o' t' q' hj hq'
        cases j with
        | zero => rw [Nat.add_zero, hl] at hq'; cases hq'
        | succ j => exact k10 j o' t' q' (by simpa using hj) (by rw [Nat.add_assoc, Nat.add_comm 1 j]; exact hq')
      · intro z cells rest hz hcz hseg
        simp only [foldTy, zc] at hz
        split at hz
        · rename_i r1 hz1
          obtain ⟨v1, q1, q2⟩ := z6 M2 (rows w) _ _ hz1
          have hlen := EncO.length _ _ _ _ q2
          rw [Sh.size_ty s z4, z2] at hlen
          obtain ⟨hr1, hle⟩ := zc_drop hz1
          have h0 := hseg 0 o t rfl
          rw [Nat.add_zero, hl] at h0
          simp only at h0
          have hv1 : (z.drop o).take t.size = v1 := by rw [q1, ← hlen, List.take_left]
          subst hr1
          rw [List.drop_drop] at hz
          have ih := k11 z cells rest hz hcz (fun j o' t' hj => by
            have := hseg (j + 1) o' t' (by simpa using hj)
            rw [this, Nat.add_assoc, Nat.add_comm 1 j])
          have hsplit : (cells.drop o).take (total ((o, t) :: y :: l)) = (cells.drop o).take t.size ++ (cells.drop (o + t.size)).take (total (y :: l)) := by
            show (cells.drop o).take (t.size + total (y :: l)) = _
            rw [List.take_add, List.drop_drop]
          rw [hsplit, h0, hv1]
          exact g7 M2 (rows w) _ _ [] _ q2 ih
        · cases hz

end
end Fw
