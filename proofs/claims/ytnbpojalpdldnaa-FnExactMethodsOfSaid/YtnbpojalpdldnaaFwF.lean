/- The state's relation looks at the entries alone, and not at the count of draws. Conditions: none. -/
import Derived.Test.YtnbpojalpdldnaaFw17
namespace Fw
open Go

section
variable {n B : Nat} {X : List Nat} {w0 : World} {M0 M : Mem} {ω : Own} {ρ ρ' : Env} {tmps : Array Value} {w : World}

theorem Rel0.congr (h : ∀ t, ρ'.get t = ρ.get t) {vals : Vl} {t : Nat} {v : Value} {a : A} (hr : Rel0 n M ω w ρ vals t v a) : Rel0 n M ω w ρ' vals t v a := by
  revert hr
  cases a <;> simp only [Rel0, refOk, verOk, curK, h] <;> exact id
theorem Rel.congr (h : ∀ t, ρ'.get t = ρ.get t) {vals : Vl} {t : Nat} {v : Value} {a : A} (hr : Rel n M ω w ρ vals t v a) : Rel n M ω w ρ' vals t v a := by
  cases a with
  | cond s g ver b a =>
    obtain ⟨h1, h2⟩ := hr
    refine ⟨by unfold verOk at *; rw [h]; exact h1, fun hc => ?_⟩
    have hc' : curK ρ s g ver := by unfold curK at *; rw [h] at hc; exact hc
    exact ⟨fun e => Rel0.congr h ((h2 hc').1 e), (h2 hc').2⟩
  | junk => exact trivial
  | c s x => exact Rel0.congr (n := n) (M := M) (ω := ω) (w := w) (vals := vals) (t := t) (a := .c s x) h hr
  | ptr k g off => exact Rel0.congr (n := n) (M := M) (ω := ω) (w := w) (vals := vals) (t := t) (a := .ptr k g off) h hr
  | bor k g ver u x org e => exact Rel0.congr (n := n) (M := M) (ω := ω) (w := w) (vals := vals) (t := t) (a := .bor k g ver u x org e) h hr
  | elp k g ver off et i eo arr => exact Rel0.congr (n := n) (M := M) (ω := ω) (w := w) (vals := vals) (t := t) (a := .elp k g ver off et i eo arr) h hr
  | al k g ag off => exact Rel0.congr (n := n) (M := M) (ω := ω) (w := w) (vals := vals) (t := t) (a := .al k g ag off) h hr
  | eptr u x off => exact Rel0.congr (n := n) (M := M) (ω := ω) (w := w) (vals := vals) (t := t) (a := .eptr u x off) h hr
  | tup l => exact Rel0.congr (n := n) (M := M) (ω := ω) (w := w) (vals := vals) (t := t) (a := .tup l) h hr
  | fn f => exact Rel0.congr (n := n) (M := M) (ω := ω) (w := w) (vals := vals) (t := t) (a := .fn f) h hr

theorem St0.congr (S : St0 n B X w0 M0 M ω ρ tmps w) (h : ∀ t, ρ'.get t = ρ.get t) : St0 n B X w0 M0 M ω ρ' tmps w :=
  ⟨S.size, S.fr, S.m0, S.old, S.mem, S.dis, fun t ht => by rw [h]; exact S.high t ht, fun t ht => by rw [h]; exact Rel.congr h (S.slots t ht)⟩

/-- the count of draws does not matter -/
theorem Fr.drawn {w w' : World} (h : Fr B X w w') (k : Nat) : Fr B X w { w' with drawn := k } :=
  ⟨h.os, h.tape, h.output, h.size, h.block⟩
theorem rows_drawn (w : World) (k : Nat) : rows { w with drawn := k } = rows w := rfl
theorem St0.drawn (S : St0 n B X w0 M0 M ω ρ tmps w) (k : Nat) : St0 n B X w0 M0 M ω ρ tmps { w with drawn := k } :=
  ⟨S.size, S.fr.drawn k, S.m0, S.old, fun b o v h => S.mem b o v h, fun b k h => S.dis b k h, S.high, fun t ht => by
    have := S.slots t ht
    revert this
    generalize (ρ.get t).a = a
    have key : ∀ a, Rel0 n M ω w ρ (fun t => tmps.getD t undef) t (tmps.getD t undef) a → Rel0 n M ω { w with drawn := k } ρ (fun t => tmps.getD t undef) t (tmps.getD t undef) a := by
      intro a h
      cases a <;> exact h
    intro h
    cases a with
    | cond s g ver b a => exact ⟨h.1, fun hc => ⟨fun e => key a ((h.2 hc).1 e), (h.2 hc).2⟩⟩
    | _ => exact h⟩
end

/-- the entries that an operand shows -/
def Same (ρ ρ' : Env) (x : Operand) : Prop := ∀ gd, opd ρ' gd x = opd ρ gd x
theorem same_tmp {ρ ρ' : Env} {t : Nat} (h : ρ'.get t = ρ.get t) (ht : ∀ gd k, ((ρ.get t).a.stripG gd).tgt = some k → ρ'.get k = ρ.get k) : Same ρ ρ' (.tmp t) := by
  intro gd
  simp only [opd, h]
  congr 1
  unfold tgtOf
  split
  · rename_i k hk; exact ht gd k hk
  · rfl
theorem same_const {ρ ρ' : Env} (v : Value) : Same ρ ρ' (.const v) := fun _ => rfl
theorem same_func {ρ ρ' : Env} (f : Nat) : Same ρ ρ' (.func f) := fun _ => rfl
theorem same_global {ρ ρ' : Env} (f : Nat) : Same ρ ρ' (.global f) := fun _ => rfl

def notBuild : Op → Bool
  | .build _ _ => false
  | .buildSlice _ _ _ => false
  | .call c => match c.callee with | .builtin .append => false | _ => true
  | _ => true
theorem ex_congr {C : Ctx} {gd : Gd} {ρ ρ' : Env} {o : Oper} (hb : notBuild o.op = true) (h : ∀ x ∈ o.op.operands.toList, Same ρ ρ' x) : ex C gd ρ' o = ex C gd ρ o := by
  obtain ⟨dst, op, type, pos, after, guard⟩ := o
  simp only at h hb
  cases op with
  | call c =>
    obtain ⟨callee, args, tys⟩ := c
    have hmap : args.toList.map (opd ρ' gd) = args.toList.map (opd ρ gd) := List.map_congr_left fun x hx => h x (by simp [Op.operands, Call.operands]; right; simpa using hx) gd
    have hx : ∀ x ∈ args.toList, opd ρ' gd x = opd ρ gd x := fun x hx => h x (by simp [Op.operands, Call.operands]; right; simpa using hx) gd
    unfold ex exAt
    simp only [hmap]
    cases dst with
    | none => rfl
    | some d =>
      simp only
      split
      · split
        · rfl
        · split
          · rename_i x t ha ht; rw [hx x (by simp [ha])]
          · rfl
        · simp [notBuild] at hb
        · split
          · rename_i x y ha; rw [hx x (by simp [ha]), hx y (by simp [ha])]
          · rfl
        · split
          · rename_i x y ha; rw [hx x (by simp [ha]), hx y (by simp [ha])]
          · rfl
        · rfl
      · rfl
  | build t ps => simp [notBuild] at hb
  | buildSlice t l ps => simp [notBuild] at hb
  | pick c a b =>
    have h1 := h c (by simp [Op.operands])
    have h2 := h a (by simp [Op.operands])
    have h3 := h b (by simp [Op.operands])
    unfold ex exAt
    simp only [h1 _, h2 _, h3 _]
  | move x => have h1 := h x (by simp [Op.operands]); unfold ex exAt; simp only [h1 _]
  | assign x => have h1 := h x (by simp [Op.operands]); unfold ex exAt; simp only [h1 _]
  | box t x => have h1 := h x (by simp [Op.operands]); unfold ex exAt; simp only [h1 _]
  | load t x => have h1 := h x (by simp [Op.operands]); unfold ex exAt; simp only [h1 _]
  | fieldAddr t x f => have h1 := h x (by simp [Op.operands]); unfold ex exAt; simp only [h1 _]
  | unOp op t x => have h1 := h x (by simp [Op.operands]); unfold ex exAt; simp only [h1 _]
  | store t a v => have h1 := h a (by simp [Op.operands]); have h2 := h v (by simp [Op.operands]); unfold ex exAt; simp only [h1 _, h2 _]
  | convert t u x => have h1 := h x (by simp [Op.operands]); unfold ex exAt; simp only [h1 _]
  | extract x i => have h1 := h x (by simp [Op.operands]); unfold ex exAt; simp only [h1 _]
  | makeSlice t a v => have h1 := h a (by simp [Op.operands]); have h2 := h v (by simp [Op.operands]); unfold ex exAt; simp only [h1 _, h2 _]
  | slice t x lo hi mx =>
    have h1 := h x (by simp [Op.operands])
    have h2 : lo.map (opd ρ' gd) = lo.map (opd ρ gd) := by
      cases lo with
      | none => rfl
      | some l => simp only [Option.map_some]; rw [h l (by simp [Op.operands]) gd]
    have h3 : hi.map (opd ρ' gd) = hi.map (opd ρ gd) := by
      cases hi with
      | none => rfl
      | some l => simp only [Option.map_some]; rw [h l (by simp [Op.operands]) gd]
    unfold ex exAt; simp only [h1 _, h2, h3]
  | binOp op t a v u => have h1 := h a (by simp [Op.operands]); have h2 := h v (by simp [Op.operands]); unfold ex exAt; simp only [h1 _, h2 _]
  | index t a v => have h1 := h a (by simp [Op.operands]); have h2 := h v (by simp [Op.operands]); unfold ex exAt; simp only [h1 _, h2 _]
  | indexAddr t a v => have h1 := h a (by simp [Op.operands]); have h2 := h v (by simp [Op.operands]); unfold ex exAt; simp only [h1 _, h2 _]
  | _ => rfl

theorem strip_tgt (gd : Gd) (a : A) : (a.stripG gd).tgt = a.tgt := by
  cases gd with
  | none => rfl
  | some q =>
    obtain ⟨s, g, ver, b⟩ := q
    cases a with
    | cond s' g' ver' w' a => simp only [A.stripG, A.strip]; split <;> rfl
    | _ => rfl
theorem same_reads {ρ ρ' : Env} {x : Operand} (h : ∀ t ∈ opdReads ρ x, ρ'.get t = ρ.get t) : Same ρ ρ' x := by
  cases x with
  | tmp t =>
    simp only [opdReads] at h
    refine same_tmp (h t (by split <;> simp)) fun gd k hk => ?_
    rw [strip_tgt] at hk
    rw [hk] at h
    exact h k (by simp)
  | const v => exact same_const v
  | func f => exact same_func f
  | global g => exact same_global g

theorem step_congr {C : Ctx} {ops : List Oper} {ρ ρ' : Env} {o : Oper} (hb : notBuild o.op = true) (h : ∀ t ∈ readsOf ops ρ o, ρ'.get t = ρ.get t) : step C ops ρ' o = step C ops ρ o := by
  have hs : ∀ x ∈ o.op.operands.toList, Same ρ ρ' x := fun x hx => same_reads fun t ht => h t (by
    unfold readsOf
    rw [List.mem_append]
    exact .inr (List.mem_flatMap.2 ⟨x, hx, ht⟩))
  unfold step
  cases hg : o.guard with
  | none => exact ex_congr hb hs
  | some q =>
    obtain ⟨j, b⟩ := q
    simp only
    cases hd : dstOf ops j with
    | none => rfl
    | some s =>
      have hr : ∀ t ∈ s :: condReads (ρ.get s).a, ρ'.get t = ρ.get t := fun t ht => h t (by
        unfold readsOf
        rw [hg]
        simp only [hd]
        rw [List.mem_append]
        exact .inl ht)
      have h0 := hr s (by simp)
      have hc : coreB ρ' (ρ.get s).a = coreB ρ (ρ.get s).a := by
        cases ha : (ρ.get s).a with
        | cond s' g ver w a =>
          rw [ha] at hr
          have := hr s' (by simp [condReads])
          simp only [coreB, this]
        | c s x => cases s <;> first | rfl | (rename_i t; cases t <;> rfl)
        | _ => rfl
      simp only [h0, hc, ex_congr hb hs]

theorem puts_get_congr : ∀ (ws : List Wr) {ρ ρ' : Env} {t : Nat}, ρ'.get t = ρ.get t → (ρ'.puts ws).get t = (ρ.puts ws).get t
  | [], _, _, _, h => h
  | w :: r, ρ, ρ', t, h => puts_get_congr r (by rw [Env.get_put, Env.get_put, h])

/-- the writes of the operations that L lists, in the order of the text -/
def foldE : List Tr → (Nat → Bool) → Nat → Env → Env
  | [], _, _, ρ => ρ
  | t :: r, L, k, ρ => foldE r L (k + 1) (if L k = true then ρ.puts t.ws else ρ)

theorem foldE_get {t : Nat} {L L' : Nat → Bool} : ∀ (T : List Tr) (k : Nat) {ρ ρ' : Env}, (∀ i x, T[i]? = some x → (∃ w ∈ x.ws, w.slot = t) → L' (k + i) = L (k + i)) → ρ'.get t = ρ.get t →
    (foldE T L' k ρ').get t = (foldE T L k ρ).get t
  | [], _, _, _, _, h => h
  | x :: r, k, ρ, ρ', hL, h => by
    refine foldE_get r (k + 1) (fun i y hi hw => by have := hL (i + 1) y (by simpa using hi) hw; rwa [← Nat.add_assoc, Nat.add_right_comm] at this) ?_
    by_cases hw : ∃ w ∈ x.ws, w.slot = t
    · have := hL 0 x rfl hw
      rw [Nat.add_zero] at this
      rw [this]
      split
      · exact puts_get_congr _ h
      · exact h
    · have hne : ∀ w ∈ x.ws, w.slot ≠ t := fun w hm e => hw ⟨w, hm, e⟩
      have e1 : ∀ (b : Bool) (σ : Env), (if b = true then σ.puts x.ws else σ).get t = σ.get t := fun b σ => by
        split
        · exact Env.puts_other x.ws σ t hne
        · rfl
      rw [e1, e1]; exact h

theorem foldE_skip {t : Nat} {L : Nat → Bool} : ∀ (T : List Tr) (k : Nat) {ρ : Env}, (∀ i x, T[i]? = some x → L (k + i) = true → ∀ w ∈ x.ws, w.slot ≠ t) → (foldE T L k ρ).get t = ρ.get t
  | [], _, _, _ => rfl
  | x :: r, k, ρ, h => by
    have ih := foldE_skip (L := L) r (k + 1) (ρ := if L k = true then ρ.puts x.ws else ρ) (fun i y hi hl => h (i + 1) y (by simpa using hi) (by rwa [← Nat.add_assoc, Nat.add_right_comm]))
    show (foldE r L (k + 1) _).get t = _
    rw [ih]
    split
    · rename_i hl
      exact Env.puts_other x.ws ρ t (h 0 x rfl (by rwa [Nat.add_zero]))
    · rfl

/-- one more is listed: its writes come last, if nothing listed behind it touches what it writes -/
theorem foldE_add {L : Nat → Bool} {x : Tr} {m : Nat} (t : Nat) : ∀ (T : List Tr) (k : Nat) (ρ : Env), T[m]? = some x → L (k + m) = false →
    (∀ j y, T[j]? = some y → m < j → L (k + j) = true → ∀ w ∈ y.ws, ∀ w' ∈ x.ws, w.slot ≠ w'.slot) →
    (foldE T (fun j => L j || j == k + m) k ρ).get t = ((foldE T L k ρ).puts x.ws).get t := by
  induction m with
  | zero =>
    intro T k ρ hx hL hlate
    cases T with
    | nil => simp at hx
    | cons y r =>
      simp at hx
      subst hx
      rw [Nat.add_zero] at hL
      have e1 : foldE (y :: r) (fun j => L j || j == k + 0) k ρ = foldE r (fun j => L j || j == k + 0) (k + 1) (ρ.puts y.ws) := by simp [foldE]
      have e2 : foldE (y :: r) L k ρ = foldE r L (k + 1) ρ := by simp [foldE, hL]
      rw [e1, e2]
      by_cases hw : ∃ w ∈ y.ws, w.slot = t
      · obtain ⟨w, hw1, hw2⟩ := hw
        have hsk : ∀ i z, r[i]? = some z → L (k + 1 + i) = true → ∀ u ∈ z.ws, u.slot ≠ t := fun i z hi hl u hu e =>
          hlate (i + 1) z (by simpa using hi) (by omega) (by rwa [← Nat.add_assoc, Nat.add_right_comm]) u hu w hw1 (by rw [e, hw2])
        rw [foldE_skip r (k + 1) (fun i z hi hl => hsk i z hi (by
          have : (k + 1 + i == k + 0) = false := by simp; omega
          rwa [this, Bool.or_false] at hl))]
        exact puts_get_congr y.ws (foldE_skip r (k + 1) hsk).symm
      · have hne : ∀ w ∈ y.ws, w.slot ≠ t := fun w hm e => hw ⟨w, hm, e⟩
        rw [Env.puts_other y.ws _ t hne]
        refine foldE_get r (k + 1) (fun i z _ _ => ?_) (Env.puts_other y.ws ρ t hne)
        have : (k + 1 + i == k + 0) = false := by simp; omega
        rw [this, Bool.or_false]
  | succ m ih =>
    intro T k ρ hx hL hlate
    cases T with
    | nil => simp at hx
    | cons y r =>
      have hk : (k == k + (m + 1)) = false := by simp
      have := ih r (k + 1) (if L k = true then ρ.puts y.ws else ρ) (by simpa using hx) (by rwa [Nat.add_right_comm, Nat.add_assoc]) (fun j z hj hlt hl => hlate (j + 1) z (by simpa using hj) (by omega) (by rwa [← Nat.add_assoc, Nat.add_right_comm]))
      have hsame : k + 1 + m = k + (m + 1) := by omega
      rw [hsame] at this
      show (foldE r _ (k + 1) (if (L k || k == k + (m + 1)) = true then ρ.puts y.ws else ρ)).get t = _
      rw [hk, Bool.or_false]
      exact this

theorem mask_fold {acc : List Nat} {i : Nat} : ∀ (l : List Edge) (s : Nat), (l.foldl (fun s e => if Region.binds .any e = true then s ||| 2 ^ e.on ||| acc.getD e.on 0 else s) s).testBit i = true →
    s.testBit i = true ∨ ∃ e ∈ l, Region.binds .any e = true ∧ (e.on = i ∨ (acc.getD e.on 0).testBit i = true)
  | [], s, h => .inl h
  | e :: l, s, h => by
    rcases mask_fold l _ h with h | ⟨e', h1, h2⟩
    · simp only at h
      split at h
      · rename_i hb
        rw [Nat.testBit_or, Nat.testBit_or, Nat.testBit_two_pow] at h
        simp only [Bool.or_eq_true, decide_eq_true_eq] at h
        rcases h with (h | h) | h
        · exact .inl h
        · exact .inr ⟨e, by simp, hb, .inl h⟩
        · exact .inr ⟨e, by simp, hb, .inr h⟩
      · exact .inl h
    · exact .inr ⟨e', by simp [h1], h2⟩

theorem masks_pre : ∀ (ops : List Oper) (acc : List Nat), ∃ r, masks ops acc = acc ++ r ∧ r.length = ops.length
  | [], acc => ⟨[], by simp [masks], rfl⟩
  | o :: ops, acc => by
    obtain ⟨r, h1, h2⟩ := masks_pre ops (acc ++ [maskOf acc o])
    exact ⟨maskOf acc o :: r, by simp [masks, h1], by simp [h2]⟩
theorem masks_at : ∀ (ops : List Oper) (acc : List Nat) (j : Nat) (o : Oper), ops[j]? = some o →
    ∃ pre, pre.length = acc.length + j ∧ (∃ r, masks ops acc = pre ++ r) ∧ (masks ops acc).getD (acc.length + j) 0 = maskOf pre o
  | [], _, _, _, h => by simp at h
  | o' :: ops, acc, 0, o, h => by
    simp at h; subst h
    obtain ⟨r, h1, _⟩ := masks_pre ops (acc ++ [maskOf acc o'])
    refine ⟨acc, rfl, ⟨maskOf acc o' :: r, by simp [masks, h1]⟩, ?_⟩
    simp [masks, h1]
  | o' :: ops, acc, j + 1, o, h => by
    obtain ⟨pre, h1, h2, h3⟩ := masks_at ops (acc ++ [maskOf acc o']) j o (by simpa using h)
    refine ⟨pre, by rw [h1]; simp; omega, h2, ?_⟩
    rw [← h3]
    simp [masks]
    congr 2; omega

theorem edges_lt : ∀ (ops : List Oper) (k j : Nat) (o : Oper), edgesOk k ops = true → ops[j]? = some o → ∀ e ∈ o.after.toList, Region.binds .any e = true → e.on < k + j
  | [], _, _, _, _, h => by simp at h
  | o' :: ops, k, 0, o, hE, h => by
    simp at h; subst h
    intro e he hb
    simp only [edgesOk, Bool.and_eq_true] at hE
    have := List.all_eq_true.1 hE.1 e he
    simpa [hb] using this
  | o' :: ops, k, j + 1, o, hE, h => by
    intro e he hb
    simp only [edgesOk, Bool.and_eq_true] at hE
    have := edges_lt ops (k + 1) j o hE.2 (by simpa using h) e he hb
    omega

/-- what a mask holds is listed, if all that the operation waits for is -/
theorem mask_anc {ops : List Oper} (hE : edgesOk 0 ops = true) {L : Nat → Bool}
    (hc : ∀ j o, ops[j]? = some o → L j = true → ∀ e ∈ o.after.toList, Region.binds .any e = true → L e.on = true) :
    ∀ (N j : Nat) (o : Oper), j < N → ops[j]? = some o → (∀ e ∈ o.after.toList, Region.binds .any e = true → L e.on = true) → ∀ i, ((masks ops []).getD j 0).testBit i = true → L i = true
  | 0, j, o, h, _, _, _, _ => by omega
  | N + 1, j, o, hN, ho, hd, i, hi => by
    obtain ⟨pre, h1, ⟨r, h2⟩, h3⟩ := masks_at ops [] j o ho
    simp only [List.length_nil, Nat.zero_add] at h1 h3
    rw [h3] at hi
    rcases mask_fold _ _ hi with h | ⟨e, he, hb, h⟩
    · simp at h
    · rcases h with rfl | h
      · exact hd e he hb
      · have hlt := edges_lt ops 0 j o hE ho e he hb
        rw [Nat.zero_add] at hlt
        have hj := (List.getElem?_eq_some_iff.1 ho).1
        have ho' : ops[e.on]? = some ops[e.on] := List.getElem?_eq_getElem (by omega)
        have heq : (masks ops []).getD e.on 0 = pre.getD e.on 0 := by
          rw [h2, List.getD_eq_getElem?_getD, List.getD_eq_getElem?_getD, List.getElem?_append_left (by omega)]
        exact mask_anc hE hc N e.on _ (by omega) ho' (hc e.on _ ho' (hd e he hb)) i (by rw [heq]; exact h)
end Fw
