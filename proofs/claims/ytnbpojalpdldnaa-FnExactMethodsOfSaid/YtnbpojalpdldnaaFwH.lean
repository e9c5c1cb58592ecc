/- A region whose order is drawn: whatever order its edges allow, the state behind it is the text's. Conditions: none. -/
import Derived.Test.YtnbpojalpdldnaaFwF
namespace Fw
open Go

/-- the entries that the operands show are the same in both -/
def Agree (ρ ρ' : Env) (x : Operand) : Prop := ∀ t ∈ opdReads ρ x, ρ'.get t = ρ.get t

theorem tk_congr {R : Type} (o : Opd) (k k' : (s : Sh) → El s.ty → List Wr → Option R) (h : ∀ s x ws, (∀ w ∈ ws, w.a.tgt = none) → k s x ws = k' s x ws) : tk o k = tk o k' := by
  unfold tk
  split
  · rename_i s x _
    split
    · exact h s x [] (by simp)
    · split
      · exact h _ _ _ (by simp [A.tgt])
      · rfl
  · split
    · split
      · rename_i a' ha
        refine h _ _ _ ?_
        intro w hw
        rw [List.mem_singleton.1 hw]
        unfold froz at ha
        split at ha
        · split at ha
          · simp only [Option.some.injEq] at ha; subst ha; rfl
          · cases ha
        · split at ha
          · simp only [Option.some.injEq] at ha; subst ha; rfl
          · cases ha
        · cases ha
      · rfl
    · rfl
  · rfl

theorem agree_opd {ρ ρ' : Env} {x : Operand} (h : Agree ρ ρ' x) (gd : Gd) : opd ρ' gd x = opd ρ gd x := same_reads h gd

theorem puts_ent (ws : List Wr) : ∀ (ρ : Env) (t : Nat), (∀ w ∈ ws, w.a.tgt = none) → ((ρ.puts ws).get t = ρ.get t ∨ ((ρ.puts ws).get t).a.tgt = none) := by
  induction ws with
  | nil => intro ρ t _; exact .inl rfl
  | cons w r ih =>
    intro ρ t h
    rcases ih (ρ.put w) t (fun w' hw => h w' (by simp [hw])) with h1 | h1
    · show ((ρ.put w).puts r).get t = _ ∨ (((ρ.put w).puts r).get t).a.tgt = none
      rw [h1, Env.get_put]
      split
      · right
        have := h w (by simp)
        split <;> exact this
      · exact .inl rfl
    · exact .inr h1

theorem agree_puts {ρ ρ' : Env} {x : Operand} {ws : List Wr} (hw : ∀ w ∈ ws, w.a.tgt = none) (h : Agree ρ ρ' x) : Agree (ρ.puts ws) (ρ'.puts ws) x := by
  intro t ht
  cases x with
  | tmp s =>
    simp only [opdReads] at ht
    have hs : ρ'.get s = ρ.get s := h s (by simp only [opdReads]; split <;> simp)
    have hin : ∀ u, ρ'.get u = ρ.get u → (ρ'.puts ws).get u = (ρ.puts ws).get u := fun u e => puts_get_congr ws e
    rcases puts_ent ws ρ s hw with e | e
    · rw [e] at ht
      exact hin t (h t ht)
    · rw [e] at ht
      simp only [List.mem_singleton] at ht
      subst ht; exact hin _ hs
  | const _ => simp [opdReads] at ht
  | func _ => simp [opdReads] at ht
  | global _ => simp [opdReads] at ht

theorem look_mem2 {α : Type} : ∀ (l : List (Nat × α)) (i : Nat) (o : α), look l i = some o → (i, o) ∈ l
  | (k, a) :: r, i, o, h => by
    unfold look at h
    split at h
    · rename_i e; simp only [Option.some.injEq] at h; subst h; subst e; simp
    · exact List.mem_cons_of_mem _ (look_mem2 r i o h)
  | [], _, _, h => by simp [look] at h

theorem buildK_congr {R : Type} : ∀ (fl : List (Nat × Ty)) (i : Nat) (gd : Gd) (ρ ρ' : Env) (ps : List (Nat × Operand)) (k : (s : Sh) → El s.ty → List Wr → Option R),
    (∀ p ∈ ps, Agree ρ ρ' p.2) → buildK fl i gd ρ' ps k = buildK fl i gd ρ ps k
  | [], _, _, _, _, _, _, _ => rfl
  | [(_, t)], i, gd, ρ, ρ', ps, k, h => by
    unfold buildK
    split
    · rename_i o ho
      rw [agree_opd (h _ (look_mem2 ps i o ho)) gd]
    · rfl
  | (_, t) :: f :: r, i, gd, ρ, ρ', ps, k, h => by
    unfold buildK
    split
    · rename_i o ho
      rw [agree_opd (h _ (look_mem2 ps i o ho)) gd]
      refine tk_congr _ _ _ fun s x ws hw => ?_
      split
      · rw [buildK_congr (f :: r) (i + 1) (nextG gd ws) (ρ.puts ws) (ρ'.puts ws) ps _ fun p hp => agree_puts hw (h p hp)]
      · rfl
    · congr 1
      funext s x
      rw [buildK_congr (f :: r) (i + 1) gd ρ ρ' ps _ h]

theorem elemsK_congr {R : Type} (s : Sh) : ∀ (ps : List (Nat × Operand)) (gd : Gd) (ρ ρ' : Env) (i : Nat) (k : List (El s.ty) → List Wr → Option R),
    (∀ p ∈ ps, Agree ρ ρ' p.2) → elemsK s gd ρ' ps i k = elemsK s gd ρ ps i k
  | [], _, _, _, _, _, _ => rfl
  | (j, o) :: r, gd, ρ, ρ', i, k, h => by
    unfold elemsK
    split
    · rw [agree_opd (h (j, o) (by simp)) gd]
      unfold tkAs
      refine tk_congr _ _ _ fun s' x ws hw => ?_
      have ih := fun k => elemsK_congr (R := R) s r (nextG gd ws) (ρ.puts ws) (ρ'.puts ws) (i + 1) k fun p hp => agree_puts hw (h p (by simp [hp]))
      split
      · split
        · congr 1; funext y; exact ih _
        · split
          · congr 1; funext y; exact ih _
          · rfl
      · rfl
    · rfl

theorem arrK_congr {R : Type} (e : Ty) (gd : Gd) (ρ ρ' : Env) (ps : List (Nat × Operand)) (h : ∀ p ∈ ps, Agree ρ ρ' p.2) : ∀ (n i : Nat) (k : List (El e) → Option R),
    arrK e gd ρ' n i ps k = arrK e gd ρ n i ps k
  | 0, _, _ => rfl
  | n + 1, i, k => by
    unfold arrK
    split
    · rename_i o ho
      rw [agree_opd (h _ (look_mem2 ps i o ho)) gd]
      congr 1; funext x; exact arrK_congr e gd ρ ρ' ps h n (i + 1) _
    · exact arrK_congr e gd ρ ρ' ps h n (i + 1) _

theorem elemSh_congr (e : Ty) (gd : Gd) (ρ ρ' : Env) (ps : List (Nat × Operand)) (h : ∀ p ∈ ps, Agree ρ ρ' p.2) : elemSh e gd ρ' ps = elemSh e gd ρ ps := by
  cases ps with
  | nil => rfl
  | cons p r =>
    obtain ⟨i, o⟩ := p
    have e : opd ρ' gd o = opd ρ gd o := agree_opd (h (i, o) (by simp)) gd
    unfold elemSh
    simp only [e]

theorem tkOwn_congr {R : Type} (o : Opd) (k k' : (s : Sh) → El s.ty → List Wr → Option R) (h : ∀ s x ws, (∀ w ∈ ws, w.a.tgt = none) → k s x ws = k' s x ws) : tkOwn o k = tkOwn o k' := by
  unfold tkOwn
  split
  · split
    · split
      · congr 1
        funext s' y s2 x2
        split
        · exact h _ _ _ (by simp [A.tgt])
        · rfl
      · congr 1
        funext s' y s2 x2
        split
        · exact h _ _ _ (by simp [A.tgt])
        · rfl
      · rfl
    · rfl
  · split
    · exact h _ _ [] (by simp)
    · split
      · exact h _ _ _ (by simp [A.tgt])
      · rfl
  · rfl

theorem ex_agree {C : Ctx} {gd : Gd} {ρ ρ' : Env} {o : Oper} (h : ∀ x ∈ o.op.operands.toList, Agree ρ ρ' x) : ex C gd ρ' o = ex C gd ρ o := by
  by_cases hb : notBuild o.op = true
  · exact ex_congr hb fun x hx => same_reads (h x hx)
  · obtain ⟨dst, op, type, pos, after, guard⟩ := o
    simp only at h hb
    cases op with
    | build t ps =>
      have hp : ∀ p ∈ ps.toList, Agree ρ ρ' p.2 := fun p hp => h p.2 (by simp [Op.operands]; exact ⟨p.1, by simpa using hp⟩)
      unfold ex exAt
      cases dst with
      | none => rfl
      | some d =>
        simp only [exBuild]
        split
        · split
          · split
            · split
              · rw [buildK_congr _ _ _ ρ ρ' _ _ hp]
              · rfl
            · rfl
          · split
            · rw [arrK_congr _ _ ρ ρ' _ hp]
            · rfl
          · rfl
        · rfl
    | buildSlice t l ps =>
      have hp : ∀ p ∈ ps.toList, Agree ρ ρ' p.2 := fun p hp => h p.2 (by simp [Op.operands]; exact ⟨p.1, by simpa using hp⟩)
      unfold ex exAt
      cases dst with
      | none => rfl
      | some d =>
        simp only [exBuildSlice]
        split
        · split
          · rw [elemSh_congr _ _ ρ ρ' _ hp]
            split
            · rw [elemsK_congr _ _ _ ρ ρ' _ _ hp]
            · rfl
          · rfl
        · rfl
    | call c =>
      obtain ⟨callee, args, tys⟩ := c
      have hx : ∀ x ∈ args.toList, Agree ρ ρ' x := fun x hx => h x (by simp [Op.operands, Call.operands]; right; simpa using hx)
      cases callee with
      | builtin b =>
        cases b with
        | append =>
          unfold ex exAt
          cases dst with
          | none => rfl
          | some d =>
            simp only
            split
            · split
              · rename_i x y t u ha ht
                split
                · unfold exAppend
                  split
                  · rw [agree_opd (hx x (by simp [ha])) gd]
                    refine tkOwn_congr _ _ _ fun s x' ws hw => ?_
                    rw [agree_opd (agree_puts hw (hx y (by simp [ha]))) _]
                  · rfl
                · rfl
              · rfl
            · rfl
        | _ => simp [notBuild] at hb
      | _ => simp [notBuild] at hb
    | _ => simp [notBuild] at hb

theorem step_agree {C : Ctx} {ops : List Oper} {ρ ρ' : Env} {o : Oper} (h : ∀ t ∈ readsOf ops ρ o, ρ'.get t = ρ.get t) : step C ops ρ' o = step C ops ρ o := by
  have hs : ∀ x ∈ o.op.operands.toList, Agree ρ ρ' x := fun x hx t ht => h t (by
    unfold readsOf
    rw [List.mem_append]
    exact .inr (List.mem_flatMap.2 ⟨x, hx, ht⟩))
  unfold step
  cases hg : o.guard with
  | none => exact ex_agree hs
  | some q =>
    obtain ⟨j, b⟩ := q
    simp only
    cases hd : dstOf ops j with
    | none => rfl
    | some s =>
      have hr : ∀ t ∈ s :: condReads (ρ.get s).a, ρ'.get t = ρ.get t := fun t ht => h t (by
        unfold readsOf
        rw [hg]
        simp only [hd]
        rw [List.mem_append]
        exact .inl ht)
      have h0 := hr s (by simp)
      have hc : coreB ρ' (ρ.get s).a = coreB ρ (ρ.get s).a := by
        cases ha : (ρ.get s).a with
        | cond s' g ver w a =>
          rw [ha] at hr
          have := hr s' (by simp [condReads])
          simp only [coreB, this]
        | c s x => cases s <;> first | rfl | (rename_i t; cases t <;> rfl)
        | _ => rfl
      simp only [h0, hc, ex_agree hs]

/-- the text's run, operation by operation -/
theorem trace_at {C : Ctx} {ops : List Oper} : ∀ (l : List Oper) (ρ ρ2 : Env) (T : List Tr), trace C ops l ρ = some (T, ρ2) →
    T.length = l.length ∧ ∀ (k : Nat), foldE T (fun _ => true) k ρ = ρ2 ∧ ∀ (i : Nat) (o : Oper), l[i]? = some o → ∃ t, T[i]? = some t ∧
      step C ops (foldE T (fun j => decide (j < k + i)) k ρ) o = some (t.ws, t.cs) ∧ t.rd = readsOf ops (foldE T (fun j => decide (j < k + i)) k ρ) o
  | [], ρ, ρ2, T, h => by
    simp only [trace, Option.some.injEq, Prod.mk.injEq] at h
    obtain ⟨rfl, rfl⟩ := h
    exact ⟨rfl, fun k => ⟨rfl, fun i o h => by simp at h⟩⟩
  | o :: l, ρ, ρ2, T, h => by
    simp only [trace] at h
    split at h
    · rename_i ws cs hs
      rw [putsK_eq] at h
      split at h
      · rename_i T' ρ' ht
        simp only [Option.some.injEq, Prod.mk.injEq] at h
        obtain ⟨rfl, rfl⟩ := h
        obtain ⟨h1, h2⟩ := trace_at l _ _ _ ht
        refine ⟨by simp [h1], fun k => ⟨?_, fun i o' hi => ?_⟩⟩
        · simp only [foldE, if_true]; exact (h2 (k + 1)).1
        · have none_le : ∀ (T : List Tr) (m : Nat) (σ : Env), k ≤ m → foldE T (fun j => decide (j < k)) m σ = σ := by
            intro T
            induction T with
            | nil => intro m σ _; rfl
            | cons t r ih =>
              intro m σ hm
              simp only [foldE]
              rw [if_neg (by simp; omega)]
              exact ih (m + 1) σ (by omega)
          cases i with
          | zero =>
            simp at hi
            subst hi
            refine ⟨_, rfl, ?_⟩
            rw [Nat.add_zero, none_le _ k ρ (Nat.le_refl _)]
            exact ⟨hs, rfl⟩
          | succ i =>
            obtain ⟨t, g1, g2⟩ := (h2 (k + 1)).2 i o' (by simpa using hi)
            refine ⟨t, by simpa using g1, ?_⟩
            have e : foldE (⟨readsOf ops ρ o, ws, cs⟩ :: T') (fun j => decide (j < k + (i + 1))) k ρ = foldE T' (fun j => decide (j < k + 1 + i)) (k + 1) (ρ.puts ws) := by
              simp only [foldE]
              rw [if_pos (by simp)]
              congr 1
              funext j; congr 1; simp; omega
            rw [e]; exact g2
      · cases h
    · cases h

theorem rowOk_at {ms : List Nat} {i : Nat} {x : List Nat × List Nat} : ∀ (r : RW) (j k : Nat) (y : List Nat × List Nat), rowOk ms i x j r = true → r[k]? = some y → pairOk ms i (j + k) x y = true
  | [], _, _, _, _, h => by simp at h
  | z :: r, j, 0, y, h, hk => by
    simp only [rowOk, Bool.and_eq_true] at h
    simp at hk; subst hk; exact h.1
  | z :: r, j, k + 1, y, h, hk => by
    simp only [rowOk, Bool.and_eq_true] at h
    have := rowOk_at r (j + 1) k y h.2 (by simpa using hk)
    rwa [show j + (k + 1) = j + 1 + k by omega]
theorem allOk_at {ms : List Nat} : ∀ (r : RW) (k i j : Nat) (x y : List Nat × List Nat), allOk ms k r = true → r[i]? = some x → r[j]? = some y → i < j → pairOk ms (k + i) (k + j) x y = true
  | [], _, _, _, _, _, _, h, _, _ => by simp at h
  | z :: r, k, 0, j + 1, x, y, h, hi, hj, _ => by
    simp only [allOk, Bool.and_eq_true] at h
    simp at hi; subst hi
    have := rowOk_at r (k + 1) j y h.1 (by simpa using hj)
    rwa [Nat.add_zero, show k + (j + 1) = k + 1 + j by omega]
  | z :: r, k, i + 1, j + 1, x, y, h, hi, hj, hlt => by
    simp only [allOk, Bool.and_eq_true] at h
    have := allOk_at r (k + 1) i j x y h.2 (by simpa using hi) (by simpa using hj) (by omega)
    rwa [show k + (i + 1) = k + 1 + i by omega, show k + (j + 1) = k + 1 + j by omega]
  | _, _, 0, 0, _, _, _, _, _, h => by omega
  | _, _, _ + 1, 0, _, _, _, _, _, h => by omega

theorem meets_of {a b : List Nat} {t : Nat} (ha : t ∈ a) (hb : t ∈ b) : meets a b = true := by
  unfold meets
  rw [List.any_eq_true]
  exact ⟨t, ha, List.any_eq_true.2 ⟨t, hb, by simp⟩⟩

section
variable {B : Nat} {X : List Nat} {w0 : World} {M0 : Mem} {P : Program} {C : Ctx}

/-- two operations that touch the same slot: the earlier is among what the later waits for -/
theorem touch {ops : List Oper} {T : List Tr} (hok : anyOk ops T = true) {i j : Nat} {x y : Tr} (hi : T[i]? = some x) (hj : T[j]? = some y) (hlt : i < j) {t : Nat}
    (h : (t ∈ x.ws.map (·.slot) ∧ (t ∈ y.rd ∨ t ∈ y.ws.map (·.slot))) ∨ (t ∈ y.ws.map (·.slot) ∧ (t ∈ x.rd ∨ t ∈ x.ws.map (·.slot)))) :
    ((masks ops []).getD j 0).testBit i = true := by
  unfold anyOk at hok
  simp only [Bool.and_eq_true] at hok
  have hp := allOk_at (rwOf T) 0 i j (x.rd, x.ws.map (·.slot)) (y.rd, y.ws.map (·.slot)) hok.2 (by unfold rwOf; rw [List.getElem?_map, hi]; rfl) (by unfold rwOf; rw [List.getElem?_map, hj]; rfl) hlt
  rw [Nat.zero_add, Nat.zero_add] at hp
  unfold pairOk at hp
  simp only [Bool.or_eq_true, Bool.not_eq_true'] at hp
  rcases hp with hp | hp
  · exfalso
    rw [Bool.or_eq_false_iff] at hp
    rcases h with ⟨h1, h2⟩ | ⟨h1, h2⟩
    · rw [meets_of h1 (List.mem_append.2 h2)] at hp; cases hp.1
    · rw [meets_of h1 (List.mem_append.2 h2)] at hp; cases hp.2
  · exact hp

theorem any_ok (hC : CtxOk P C) (hF : ∀ f F, C.fn f = some F → Meets P f F) (hB : B ≤ w0.heap.size) {ops : Array Oper} {Q : Exit → Act → World → Prop} {df : List Deferred} {ρ ρ2 : Env} {T : List Tr}
    (ht : trace C ops.toList ops.toList ρ = some (T, ρ2)) (hok : anyOk ops.toList T = true) (hc : condsOf T)
    {b : Array Value} (hp : PinOk C.pins ops) (hQ : ∀ a' w', a'.defers = df → Pinned C.pins b a'.tmps → Sim C.n B X w0 M0 ρ2 a'.tmps w' → Q .normal a' w') :
    ∀ (fuel : Nat) (listed : Array Bool) (a : Act) (w : World), listed.size = ops.size → (listed.toList.filter (fun b => !b)).length = fuel →
      (∀ (j : Nat) (o : Oper), ops[j]? = some o → listed.getD j false = true → ∀ e ∈ o.after, Region.binds .any e = true → listed.getD e.on false = true) →
      a.defers = df → Pinned C.pins b a.tmps → Sim C.n B X w0 M0 (foldE T (fun j => listed.getD j false) 0 ρ) a.tmps w → wpAny P .any ops Q fuel listed a w := by
  obtain ⟨hlen, hat⟩ := trace_at ops.toList ρ ρ2 T ht
  obtain ⟨hall, hat⟩ := hat 0
  have hE : edgesOk 0 ops.toList = true := by unfold anyOk at hok; simp only [Bool.and_eq_true] at hok; exact hok.1
  have hcond : ∀ (i : Nat) (t : Tr), T[i]? = some t → ∀ p ∈ t.cs, p := by
    have key : ∀ (T : List Tr), condsOf T → ∀ (i : Nat) (t : Tr), T[i]? = some t → ∀ p ∈ t.cs, p := by
      intro T
      induction T with
      | nil => intro _ i t h; simp at h
      | cons x r ih =>
        intro h i t hi
        cases i with
        | zero => simp at hi; subst hi; exact h.1
        | succ i => exact ih h.2 i t (by simpa using hi)
    exact key T hc
  -- nothing ready: all are listed
  have done : ∀ (listed : Array Bool), listed.size = ops.size → Region.ready .any ops listed = [] → ∀ (N j : Nat), j < N → j < ops.size → listed.getD j false = true := by
    intro listed hsz hr N
    induction N with
    | zero => intro j h; omega
    | succ N ih =>
      intro j hj hlt
      cases hl : listed.getD j false with
      | true => rfl
      | false =>
        exfalso
        have ho : ops[j]? = some ops[j] := Array.getElem?_eq_getElem hlt
        have : j ∈ Region.ready .any ops listed := mem_ready.2 ⟨by
          rw [Array.getD_eq_getD_getElem?] at hl ⊢
          rw [Array.getElem?_eq_getElem (by omega)] at hl ⊢
          exact hl, ops[j], ho, fun e he hb => by
            have hlt' := edges_lt ops.toList 0 j ops[j] hE (by simp) e (by simpa using he) hb
            exact ih e.on (by omega) (by omega)⟩
        rw [hr] at this; simp at this
  have fin : ∀ (listed : Array Bool) (a : Act) (w : World), listed.size = ops.size → Region.ready .any ops listed = [] → a.defers = df → Pinned C.pins b a.tmps →
      Sim C.n B X w0 M0 (foldE T (fun j => listed.getD j false) 0 ρ) a.tmps w → Q .normal a w := by
    intro listed a w hsz hr hd hb ⟨M, ω, hS⟩
    refine hQ a w hd hb ⟨M, ω, hS.congr fun t => ?_⟩
    rw [← hall]
    refine foldE_get T 0 (fun i x hi _ => ?_) rfl
    have : i < T.length := (List.getElem?_eq_some_iff.1 hi).1
    have hi' : i < ops.size := by rw [hlen] at this; simpa using this
    rw [Nat.zero_add]
    exact (done listed hsz hr (i + 1) i (by omega) hi').symm
  intro fuel
  induction fuel with
  | zero =>
    intro listed a w hsz hcnt hcl hd hb hS
    have hr : Region.ready .any ops listed = [] := by
      rw [List.eq_nil_iff_forall_not_mem]
      intro j hj
      obtain ⟨h0, o, ho, _⟩ := mem_ready.1 hj
      have hlt := (Array.getElem?_eq_some_iff.1 ho).1
      have hm : listed[j]'(by omega) ∈ listed.toList.filter (fun b => !b) := by
        rw [List.mem_filter]
        refine ⟨by simp, ?_⟩
        rw [Array.getD_eq_getD_getElem?, Array.getElem?_eq_getElem (by omega)] at h0
        simp at h0; simp [h0]
      rw [List.length_eq_zero_iff.1 hcnt] at hm
      simp at hm
    exact ⟨hr, fin listed a w hsz hr hd hb hS⟩
  | succ fuel ih =>
    intro listed a w hsz hcnt hcl hd hb hS
    refine ⟨fun hr => fin listed a w hsz hr hd hb hS, fun i hi => ?_⟩
    obtain ⟨h0, o, ho, hedge⟩ := mem_ready.1 hi
    have hlt := (Array.getElem?_eq_some_iff.1 ho).1
    have hli : listed.getD i false = false := by
      rw [Array.getD_eq_getD_getElem?] at h0 ⊢
      rw [Array.getElem?_eq_getElem (by omega)] at h0 ⊢
      exact h0
    obtain ⟨x, hx, hst, hrd⟩ := hat i o (by simpa using ho)
    rw [Nat.zero_add] at hst hrd
    have hclL : ∀ j o, ops.toList[j]? = some o → (fun j => listed.getD j false) j = true → ∀ e ∈ o.after.toList, Region.binds .any e = true → (fun j => listed.getD j false) e.on = true :=
      fun j o hj hl e he hb => hcl j o (by simpa using hj) hl e (by simpa using he) hb
    have anc : ∀ (j : Nat) (oj : Oper), ops[j]? = some oj → (∀ e ∈ oj.after, Region.binds .any e = true → listed.getD e.on false = true) → ∀ k, ((masks ops.toList []).getD j 0).testBit k = true → listed.getD k false = true :=
      fun j oj hj hh k hk => mask_anc hE hclL (j + 1) j oj (by omega) (by simpa using hj) (fun e he hb => hh e (by simpa using he) hb) k hk
    have inops : ∀ (j : Nat) (y : Tr), T[j]? = some y → ∃ oj, ops[j]? = some oj := fun j y hy => by
      have : j < T.length := (List.getElem?_eq_some_iff.1 hy).1
      exact ⟨ops[j]'(by rw [hlen] at this; simpa using this), Array.getElem?_eq_getElem _⟩
    -- what it reads is as in the text's run
    have hread : ∀ t ∈ readsOf ops.toList (foldE T (fun j => decide (j < i)) 0 ρ) o, (foldE T (fun j => listed.getD j false) 0 ρ).get t = (foldE T (fun j => decide (j < i)) 0 ρ).get t := by
      intro t htr
      rw [← hrd] at htr
      refine foldE_get T 0 (fun j y hy ⟨wr, hw1, hw2⟩ => ?_) rfl
      rw [Nat.zero_add]
      have hm : t ∈ y.ws.map (·.slot) := List.mem_map.2 ⟨wr, hw1, hw2⟩
      rcases Nat.lt_trichotomy j i with hji | hji | hji
      · have hb := touch hok hy hx hji (.inl ⟨hm, .inl htr⟩)
        have := anc i o ho hedge j hb
        simp [this, hji]
      · subst hji; simp [hli]
      · have hb := touch hok hx hy hji (.inr ⟨hm, .inl htr⟩)
        obtain ⟨oj, hoj⟩ := inops j y hy
        have hn : listed.getD j false = false := by
          cases hl : listed.getD j false with
          | false => rfl
          | true =>
            have := anc j oj hoj (hcl j oj hoj hl) i hb
            rw [hli] at this; cases this
        simp only [hn]
        symm; simp; omega
    have hst' : step C ops.toList (foldE T (fun j => listed.getD j false) 0 ρ) o = some (x.ws, x.cs) := by rw [step_agree hread]; exact hst
    obtain ⟨M, ω, S⟩ := hS
    refine step_ok hC hF S hB ho hst' (hcond i x hx) fun a' w' hd' hv ⟨M', ω', S'⟩ => ?_
    refine ih _ a' w' (by simp [hsz]) ?_ ?_ (hd'.trans hd) (pin_put hp ho hv hb) ⟨M', ω', S'.congr fun t => ?_⟩
    · -- one fewer
      have hil : i < listed.toList.length := by simp; omega
      have hval : listed.toList[i] = false := by
        rw [Array.getD_eq_getD_getElem?, Array.getElem?_eq_getElem (by omega)] at hli
        simpa using hli
      rw [Array.toList_setIfInBounds]
      have key : ∀ (l : List Bool) (i : Nat) (h : i < l.length), l[i] = false → ((l.set i true).filter (fun b => !b)).length + 1 = (l.filter (fun b => !b)).length := by
        intro l
        induction l with
        | nil => intro i h; simp at h
        | cons b l ih =>
          intro i h hv
          cases i with
          | zero => simp at hv; subst hv; simp
          | succ i =>
            have := ih i (by simpa using h) (by simpa using hv)
            cases b <;> simp at this ⊢ <;> omega
      have := key listed.toList i hil hval
      omega
    · intro j oj hj hl e he hb
      by_cases hij : i = j
      · subst hij
        rw [hj] at ho
        simp only [Option.some.injEq] at ho
        subst ho
        exact getD_set_true (hedge e he hb)
      · rw [getD_set_ne false hij] at hl
        exact getD_set_true (hcl j oj hj hl e he hb)
    · -- the writes come last
      rw [← foldE_add (L := fun j => listed.getD j false) (x := x) (m := i) t T 0 ρ hx (by rw [Nat.zero_add]; exact hli) ?_]
      · congr 2
        funext j
        rw [Nat.zero_add]
        by_cases hij : i = j
        · subst hij
          simp only [beq_self_eq_true, Bool.or_true]
          rw [Array.getD_eq_getD_getElem?, Array.getElem?_setIfInBounds_self_of_lt (by omega)]
          rfl
        · rw [getD_set_ne false hij]
          have : (j == i) = false := by simp; omega
          rw [this, Bool.or_false]
      · intro j y hy hij hl wr hw1 wr' hw2 heq
        rw [Nat.zero_add] at hl
        obtain ⟨oj, hoj⟩ := inops j y hy
        have hb := touch hok hx hy hij (t := wr.slot) (.inr ⟨List.mem_map.2 ⟨wr, hw1, rfl⟩, .inr (List.mem_map.2 ⟨wr', hw2, heq.symm⟩)⟩)
        have := anc j oj hoj (hcl j oj hoj hl) i hb
        rw [hli] at this; cases this

/-- a region whose order is drawn -/
theorem region_any (hm : P.follows .mixedOrders = true) (hC : CtxOk P C) (hF : ∀ f F, C.fn f = some F → Meets P f F) (hB : B ≤ w0.heap.size) {id : Nat} {ops : Array Oper} {Q : Exit → Act → World → Prop} {ρ ρ2 : Env} {T : List Tr}
    (h : trace C ops.toList ops.toList ρ = some (T, ρ2)) (hok : anyOk ops.toList T = true) (hc : condsOf T) {a : Act} {w : World} (hS : Sim C.n B X w0 M0 ρ a.tmps w)
    (hp : PinOk C.pins ops) (hQ : ∀ a' w', a'.defers = a.defers → Pinned C.pins a.tmps a'.tmps → Sim C.n B X w0 M0 ρ2 a'.tmps w' → Q .normal a' w') : (Code.region id ops true).wp P Q a w := by
  refine wp_region_any hm ?_
  obtain ⟨M, ω, S⟩ := hS
  refine any_ok hC hF hB h hok hc hp hQ ops.size _ a _ (by simp) ?_ ?_ rfl (fun _ _ => rfl) ⟨M, ω, (S.drawn _).congr fun t => ?_⟩
  · simp
  · intro j o _ hl
    rw [Array.getD_eq_getD_getElem?, Array.getElem?_replicate] at hl
    split at hl <;> cases hl
  · refine foldE_skip T 0 fun i x _ hl => ?_
    rw [Array.getD_eq_getD_getElem?, Array.getElem?_replicate] at hl
    split at hl <;> cases hl
end
end Fw
