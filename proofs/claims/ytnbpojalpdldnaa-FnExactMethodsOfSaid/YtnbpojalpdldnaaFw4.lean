/- What it means that the slots hold what they are said to hold. Conditions: none. -/
import Derived.Test.YtnbpojalpdldnaaFw3
import Derived.Orders
namespace Fw
open Go

def Ty.ag : Ty → Bool
  | .pair _ _ => true
  | .arr _ _ => true
  | _ => false
def Sh.ag : Sh → Bool
  | .pure t => t.ag
  | .hole t => t.ag
  | .pair _ _ => true
  | _ => false
/-- a value and its cells -/
def ValC (ag : Bool) (v : Value) (cs : List Value) : Prop := if ag = true then v = .agg cs.toArray else cs = [v]

def rows (w : World) : RowFn := fun b =>
  match w.heap[b]? with
  | some (.cells c _ fr) => if fr.2 ≤ fr.1 ∨ c.size ≤ fr.1 then some c.toList else none
  | _ => none

abbrev Own := Nat → Option Nat

/-- b is not the variable that v points to -/
def notBox (v : Value) (b : Nat) : Bool :=
  match v with
  | .pointer (some a) => a.block != b
  | _ => true

/-- what slot k's content may have behind it: shared memory, and the rows it owns -/
def heapOf (M : Mem) (ω : Own) (w : World) (k : Nat) (vk : Value) : Mem := fun b o =>
  match M b o with
  | some v => some v
  | none => if ω b = some k ∧ notBox vk b = true then w.cell? ⟨b, o, none⟩ else none

def Owns (M : Mem) (ω : Own) (w : World) (t : Nat) (s : Sh) (x : El s.ty) (v : Value) : Prop :=
  ∃ cs bs, ValC s.ag v cs ∧ EncO M (rows w) s cs x bs ∧ bs.Nodup ∧ ∀ b ∈ bs, ω b = some t

def TupR (M : Mem) (R : RowFn) : List (Option SV) → List Value → List Nat → Prop
  | [], [], bs => bs = []
  | some q :: l, v :: vs, bs => ∃ cs b1 b2, ValC q.s.ag v cs ∧ EncO M R q.s cs q.x b1 ∧ bs = b1 ++ b2 ∧ TupR M R l vs b2
  | none :: l, _ :: vs, bs => TupR M R l vs bs
  | _, _, _ => False

/-- the cells of the place in which slot k's content stands -/
def Place (ω : Own) (w : World) (k : Nat) (a : A) (v : Value) (cs : List Value) : Prop :=
  match a with
  | .c (.ref _) _ => ∃ b, v = .pointer (some ⟨b, 0, none⟩) ∧ ω b = some k ∧ rows w b = some cs
  | .c s _ => ValC s.ag v cs
  | _ => False

abbrev Vl := Nat → Value

def refOk (n : Nat) (ρ : Env) (k g : Nat) : Prop := k < n ∧ g ≤ (ρ.get k).g
def curK (ρ : Env) (k g ver : Nat) : Prop := (ρ.get k).g = g ∧ (ρ.get k).ver = ver
def verOk (n : Nat) (ρ : Env) (k g ver : Nat) : Prop := k < n ∧ g ≤ (ρ.get k).g ∧ ((ρ.get k).g = g → ver ≤ (ρ.get k).ver)

/-- cs are the cells at eo of element i of the owned row at cell off -/
def ElC (ω : Own) (w : World) (k : Nat) (ak : A) (vk : Value) (off : Nat) (et : Ty) (i eo sz : Nat) (cs : List Value) : Prop :=
  ∃ pc b len cap row, Place ω w k ak vk pc ∧ pc[off]? = some (.slice (some ⟨b, 0, none⟩) len cap) ∧ i < len ∧ ω b = some k ∧ rows w b = some row ∧ cs = (row.drop (i * et.size + eo)).take sz

/-- a borrowed value: it reads as x; of a slice, whether it is the very one that stands at cell off, or begins where that begins -/
def BorR (M : Mem) (ω : Own) (w : World) (k : Nat) (ak : A) (vk : Value) (t : Ty) (x : El t) (org : Option Nat) (exact : Bx) (v : Value) : Prop :=
  ∃ cs, ValC t.ag v cs ∧ Enc (heapOf M ω w k vk) t cs x ∧
    (∀ off, org = some off → ∃ pc, Place ω w k ak vk pc ∧
      if exact.isT = true then cs = (pc.drop off).take t.size
      else ∃ a len cap n, pc[off]? = some (.slice a len cap) ∧ cs = [.slice a n cap] ∧ n ≤ len) ∧
    ∀ off et i eo, exact = .el off et i eo → ElC ω w k ak vk off et i eo t.size cs

/-- a pointer to (cell eo of) element i of the row, or of the array, at cell off -/
def ElpR (ω : Own) (w : World) (k : Nat) (ak : A) (vk : Value) (off : Nat) (et : Ty) (i eo : Nat) (arr : Option Nat) (v : Value) : Prop :=
  if arr.isSome = true then (∀ m, arr = some m → i < m) ∧ ∃ b, vk = .pointer (some ⟨b, 0, none⟩) ∧ v = .pointer (some ⟨b, off + i * et.size + eo, none⟩)
  else ∃ pc, Place ω w k ak vk pc ∧ ∃ a len cap, pc[off]? = some (.slice (some a) len cap) ∧ i < len ∧ a.spot = none ∧ v = .pointer (some ⟨a.block, a.off + i * et.size + eo, none⟩)

def Rel0 (n : Nat) (M : Mem) (ω : Own) (w : World) (ρ : Env) (vals : Vl) (t : Nat) (v : Value) : A → Prop
  | .junk => True
  | .c s x => Owns M ω w t s x v
  | .ptr k g off => refOk n ρ k g ∧ ((ρ.get k).g = g → ∃ b, vals k = .pointer (some ⟨b, 0, none⟩) ∧ v = .pointer (some ⟨b, off, none⟩))
  | .bor k g ver u x org e => verOk n ρ k g ver ∧ (curK ρ k g ver → BorR M ω w k (ρ.get k).a (vals k) u x org e v)
  | .elp k g ver off et i eo arr => verOk n ρ k g ver ∧ (curK ρ k g ver → ElpR ω w k (ρ.get k).a (vals k) off et i eo arr v)
  | .al k g ag off => refOk n ρ k g ∧ ∃ b cs, v = .pointer (some ⟨b, off, none⟩) ∧ CellsAt M b 0 cs ∧ ((ρ.get k).g = g → ValC ag (vals k) cs)
  | .eptr u x off => ∃ b o cs, v = .pointer (some ⟨b, o + off, none⟩) ∧ CellsAt M b o cs ∧ Enc M u cs x
  | .cond _ _ _ _ _ => False
  | .tup l => ∃ vs bs, v = .tuple vs.toArray ∧ TupR M (rows w) l vs bs ∧ bs.Nodup ∧ ∀ b ∈ bs, ω b = some t
  | .fn f => v = .func (.func f) #[] #[]

def Rel (n : Nat) (M : Mem) (ω : Own) (w : World) (ρ : Env) (vals : Vl) (t : Nat) (v : Value) : A → Prop
  | .cond s g ver b a => verOk n ρ s g ver ∧ (curK ρ s g ver → (vals s = .bool b → Rel0 n M ω w ρ vals t v a) ∧ (vals s ≠ .bool b → v = undef))
  | a => Rel0 n M ω w ρ vals t v a

/-- what was there when the call began is as it was, but for the blocks of X -/
structure Fr (B : Nat) (X : List Nat) (w w' : World) : Prop where
  os : w'.os = w.os
  tape : w'.tape = w.tape
  output : w'.output = w.output
  size : w.heap.size ≤ w'.heap.size
  block : ∀ k, k < B → k ∉ X → w'.heap[k]? = w.heap[k]?

structure St0 (n B : Nat) (X : List Nat) (w0 : World) (M0 : Mem) (M : Mem) (ω : Own) (ρ : Env) (tmps : Array Value) (w : World) : Prop where
  size : tmps.size = n
  fr : Fr B X w0 w
  m0 : M0.le M
  old : ∀ b o, b < B → b ∉ X → M b o = M0 b o
  mem : ∀ b o v, M b o = some v → w.cell? ⟨b, o, none⟩ = some v
  dis : ∀ b k, ω b = some k → (B ≤ b ∨ b ∈ X) ∧ b < w.heap.size ∧ ∀ o, M b o = none
  high : ∀ t, n ≤ t → (ρ.get t).a = .junk
  slots : ∀ t, t < n → Rel n M ω w ρ (fun t => tmps.getD t undef) t (tmps.getD t undef) (ρ.get t).a

def Sim (n B : Nat) (X : List Nat) (w0 : World) (M0 : Mem) (ρ : Env) (tmps : Array Value) (w : World) : Prop :=
  ∃ M ω, St0 n B X w0 M0 M ω ρ tmps w

theorem Fr.refl (B : Nat) (X : List Nat) (w : World) : Fr B X w w := ⟨rfl, rfl, rfl, Nat.le_refl _, fun _ _ _ => rfl⟩
theorem Fr.trans {B : Nat} {X : List Nat} {a b c : World} (h : Fr B X a b) (k : Fr B X b c) : Fr B X a c :=
  ⟨k.os.trans h.os, k.tape.trans h.tape, k.output.trans h.output, Nat.le_trans h.size k.size, fun i hi hx => (k.block i hi hx).trans (h.block i hi hx)⟩

theorem Env.get_put (ρ : Env) (w : Wr) (t : Nat) : (ρ.put w).get t =
    if t = w.slot then (if w.keep then ⟨(ρ.get t).g, (ρ.get t).ver + 1, w.a⟩ else ⟨(ρ.get t).g + 1, 0, w.a⟩) else ρ.get t := by
  unfold Env.put
  by_cases h : t = w.slot
  · subst h; simp [Env.get]
  · simp [Env.get, h, Ne.symm h]

/-- entries only grow older -/
def Older (e e' : Ent) : Prop := e.g < e'.g ∨ (e.g = e'.g ∧ e.ver < e'.ver) ∨ e = e'
theorem Older.put (ρ : Env) (w : Wr) (t : Nat) : Older (ρ.get t) ((ρ.put w).get t) := by
  rw [Env.get_put]
  by_cases h : t = w.slot
  · cases hk : w.keep
    · simp only [h, if_true]; left; simp
    · simp only [h, if_true]; right; left; simp
  · simp [h, Older]
theorem Older.trans {a b c : Ent} (h : Older a b) (k : Older b c) : Older a c := by
  rcases h with h | ⟨h1, h2⟩ | rfl
  · rcases k with k | ⟨k1, _⟩ | rfl
    · exact .inl (by omega)
    · exact .inl (by omega)
    · exact .inl h
  · rcases k with k | ⟨k1, k2⟩ | rfl
    · exact .inl (by omega)
    · exact .inr (.inl ⟨by omega, by omega⟩)
    · exact .inr (.inl ⟨h1, h2⟩)
  · exact k
theorem Older.puts (ws : List Wr) : ∀ (ρ : Env) (t : Nat), Older (ρ.get t) ((ρ.puts ws).get t) := by
  induction ws with
  | nil => intro ρ t; exact .inr (.inr rfl)
  | cons w r ih => intro ρ t; exact (Older.put ρ w t).trans (ih (ρ.put w) t)
/-- a slot that no write names is as it was -/
theorem Env.puts_other (ws : List Wr) : ∀ (ρ : Env) (t : Nat), (∀ w ∈ ws, w.slot ≠ t) → (ρ.puts ws).get t = ρ.get t := by
  induction ws with
  | nil => intro ρ t _; rfl
  | cons w r ih =>
    intro ρ t h
    show ((ρ.put w).puts r).get t = _
    rw [ih (ρ.put w) t (fun w' hw => h w' (by simp [hw])), Env.get_put, if_neg (fun e => h w (by simp) e.symm)]
/-- a slot all of whose writes keep its pointer keeps its age -/
theorem Env.puts_keep (ws : List Wr) : ∀ (ρ : Env) (t : Nat), (∀ w ∈ ws, w.slot = t → w.keep = true) → ((ρ.puts ws).get t).g = (ρ.get t).g := by
  induction ws with
  | nil => intro ρ t _; rfl
  | cons w r ih =>
    intro ρ t h
    show (((ρ.put w).puts r).get t).g = _
    rw [ih (ρ.put w) t (fun w' hw => h w' (by simp [hw])), Env.get_put]
    split
    · rename_i e
      rw [h w (by simp) e.symm]; rfl
    · rfl

theorem Older.same {e e' : Ent} {g ver : Nat} (h : Older e e') (hg : g ≤ e.g) (hv : e.g = g → ver ≤ e.ver) (h1 : e'.g = g) (h2 : e'.ver = ver) : e = e' := by
  rcases h with h | ⟨h3, h4⟩ | h
  · omega
  · have := hv (by omega); omega
  · exact h
theorem Older.g_le {e e' : Ent} (h : Older e e') : e.g ≤ e'.g := by
  rcases h with h | ⟨h3, h4⟩ | h
  · omega
  · omega
  · rw [h]; exact Nat.le_refl _
theorem verOk.older {n : Nat} {ρ ρ' : Env} {k g ver : Nat} (h : verOk n ρ k g ver) (ho : Older (ρ.get k) (ρ'.get k)) : verOk n ρ' k g ver := by
  obtain ⟨h0, h1, h2⟩ := h
  refine ⟨h0, Nat.le_trans h1 ho.g_le, fun h3 => ?_⟩
  rcases ho with ho | ⟨h4, h5⟩ | ho
  · omega
  · have := h2 (by omega); omega
  · rw [← ho] at h3 ⊢; exact h2 h3

theorem rows_of_block {w w' : World} {b : Nat} (h : w'.heap[b]? = w.heap[b]?) : rows w' b = rows w b := by
  unfold rows; rw [h]
theorem cell_of_block {w w' : World} {b o : Nat} (h : w'.heap[b]? = w.heap[b]?) : w'.cell? ⟨b, o, none⟩ = w.cell? ⟨b, o, none⟩ := by
  unfold World.cell?; simp only [h]

/-- a step leaves alone what it does not name -/
structure Step (n : Nat) (M M' : Mem) (ω ω' : Own) (w w' : World) (ρ ρ' : Env) (vals vals' : Vl) : Prop where
  mem : M.le M'
  dis : ∀ b k, ω' b = some k → ∀ o, M' b o = none
  old : ∀ k, Older (ρ.get k) (ρ'.get k)
  ptr : ∀ k, (ρ'.get k).g = (ρ.get k).g → vals' k = vals k
  own : ∀ k, k < n → ρ'.get k = ρ.get k → ∀ b, ω b = some k → ω' b = some k ∧ w'.heap[b]? = w.heap[b]?

theorem Step.heap {n : Nat} {M M' : Mem} {ω ω' : Own} {w w' : World} {ρ ρ' : Env} {vals vals' : Vl} (S : Step n M M' ω ω' w w' ρ ρ' vals vals') {k : Nat} (hn : k < n)
    (hk : ρ'.get k = ρ.get k) : (heapOf M ω w k (vals k)).le (heapOf M' ω' w' k (vals' k)) := by
  intro b o v h
  rw [S.ptr k (by rw [hk])]
  unfold heapOf at *
  cases hm : M b o with
  | some u => rw [hm] at h; simp only [S.mem b o u hm]; exact h
  | none =>
    rw [hm] at h
    simp only at h
    split at h
    · rename_i hw
      obtain ⟨h1, h2⟩ := S.own k hn hk b hw.1
      rw [S.dis b k h1 o]
      simp only [h1, hw.2, and_self, if_true]
      rw [cell_of_block h2]; exact h
    · cases h

theorem Place.frame {n : Nat} {M M' : Mem} {ω ω' : Own} {w w' : World} {ρ ρ' : Env} {vals vals' : Vl} (S : Step n M M' ω ω' w w' ρ ρ' vals vals') {k : Nat} (hn : k < n)
    (hk : ρ'.get k = ρ.get k) {cs : List Value} (h : Place ω w k (ρ.get k).a (vals k) cs) : Place ω' w' k (ρ'.get k).a (vals' k) cs := by
  rw [hk, S.ptr k (by rw [hk])]
  have key : ∀ b, ω b = some k → rows w' b = rows w b ∧ ω' b = some k := fun b hb =>
    ⟨rows_of_block (S.own k hn hk b hb).2, (S.own k hn hk b hb).1⟩
  revert h
  generalize (ρ.get k).a = a
  intro h
  cases a with
  | c s x =>
    cases s with
    | ref s =>
      obtain ⟨b, h1, h2, h3⟩ := h
      exact ⟨b, h1, (key b h2).2, by rw [(key b h2).1]; exact h3⟩
    | _ => exact h
  | _ => exact h

theorem ElC.frame {n : Nat} {M M' : Mem} {ω ω' : Own} {w w' : World} {ρ ρ' : Env} {vals vals' : Vl} (S : Step n M M' ω ω' w w' ρ ρ' vals vals') {k : Nat} (hn : k < n)
    (hk : ρ'.get k = ρ.get k) {off : Nat} {et : Ty} {i eo sz : Nat} {cs : List Value} (h : ElC ω w k (ρ.get k).a (vals k) off et i eo sz cs) : ElC ω' w' k (ρ'.get k).a (vals' k) off et i eo sz cs := by
  obtain ⟨pc, b, len, cap, row, h1, h2, h3, h4, h5, h6⟩ := h
  obtain ⟨g1, g2⟩ := S.own k hn hk b h4
  exact ⟨pc, b, len, cap, row, Place.frame S hn hk h1, h2, h3, g1, by rw [rows_of_block g2]; exact h5, h6⟩

theorem EncO.frame {n : Nat} {M M' : Mem} {ω ω' : Own} {w w' : World} {ρ ρ' : Env} {vals vals' : Vl} (S : Step n M M' ω ω' w w' ρ ρ' vals vals') {t : Nat} (hn : t < n)
    (ht : ρ'.get t = ρ.get t) {s : Sh} {cs : List Value} {x : El s.ty} {bs : List Nat} (hb : ∀ b ∈ bs, ω b = some t)
    (h : EncO M (Fw.rows w) s cs x bs) : EncO M' (Fw.rows w') s cs x bs :=
  EncO.mono S.mem s cs x bs (fun b hi => rows_of_block (S.own t hn ht b (hb b hi)).2) h

theorem TupR.mono {M M' : Mem} {R R' : RowFn} (hM : M.le M') : ∀ (l : List (Option SV)) (vs : List Value) (bs : List Nat),
    (∀ b ∈ bs, R' b = R b) → TupR M R l vs bs → TupR M' R' l vs bs
  | [], [], _, _, h => h
  | some q :: l, v :: vs, bs, hR, ⟨cs, b1, b2, h1, h2, h3, h4⟩ =>
    ⟨cs, b1, b2, h1, EncO.mono hM q.s cs q.x b1 (fun b hb => hR b (by simp [h3, hb])) h2, h3, TupR.mono hM l vs b2 (fun b hb => hR b (by simp [h3, hb])) h4⟩
  | none :: l, _ :: vs, bs, hR, h => TupR.mono (l := l) (vs := vs) hM bs hR h
  | [], _ :: _, _, _, h => h
  | some _ :: _, [], _, _, h => h
  | none :: _, [], _, _, h => h

theorem Rel0.frame {n : Nat} {M M' : Mem} {ω ω' : Own} {w w' : World} {ρ ρ' : Env} {vals vals' : Vl} (S : Step n M M' ω ω' w w' ρ ρ' vals vals') {t : Nat} (hn : t < n)
    (ht : ρ'.get t = ρ.get t) {v : Value} : ∀ {a : A}, Rel0 n M ω w ρ vals t v a → Rel0 n M' ω' w' ρ' vals' t v a
  | .junk, _ => trivial
  | .c s x, ⟨cs, bs, h1, h2, h3, h4⟩ => ⟨cs, bs, h1, EncO.frame S hn ht h4 h2, h3, fun b hb => (S.own t hn ht b (h4 b hb)).1⟩
  | .ptr k g off, ⟨h1, h2⟩ => ⟨⟨h1.1, Nat.le_trans h1.2 (S.old k).g_le⟩, fun h3 => by
      have h4 : (ρ.get k).g = g := by have := (S.old k).g_le; have := h1.2; omega
      obtain ⟨b, h5, h6⟩ := h2 h4
      exact ⟨b, by rw [S.ptr k (by omega)]; exact h5, h6⟩⟩
  | .bor k g ver u x org e, ⟨h1, h2⟩ => ⟨h1.older (S.old k), fun h3 => by
      have hk := (S.old k).same h1.2.1 h1.2.2 h3.1 h3.2
      obtain ⟨cs, h4, h5, h6, h9⟩ := h2 ⟨by rw [hk]; exact h3.1, by rw [hk]; exact h3.2⟩
      refine ⟨cs, h4, Enc.mono (S.heap h1.1 hk.symm) u cs x h5, fun off ho => ?_, fun off et i eo he => ElC.frame S h1.1 hk.symm (h9 off et i eo he)⟩
      obtain ⟨pc, h7, h8⟩ := h6 off ho
      exact ⟨pc, Place.frame S h1.1 hk.symm h7, h8⟩⟩
  | .elp k g ver off et i eo arr, ⟨h1, h2⟩ => ⟨h1.older (S.old k), fun h3 => by
      have hk := (S.old k).same h1.2.1 h1.2.2 h3.1 h3.2
      have h4 := h2 ⟨by rw [hk]; exact h3.1, by rw [hk]; exact h3.2⟩
      unfold ElpR at *
      cases arr with
      | none =>
        simp only [Option.isSome_none, Bool.false_eq_true, if_false] at h4 ⊢
        obtain ⟨pc, h7, h8⟩ := h4
        exact ⟨pc, Place.frame S h1.1 hk.symm h7, h8⟩
      | some n =>
        simp only [Option.isSome_some, if_true] at h4 ⊢
        rw [S.ptr k (by rw [hk])]; exact h4⟩
  | .al k g ag off, ⟨h1, b, cs, h2, h3, h4⟩ => ⟨⟨h1.1, Nat.le_trans h1.2 (S.old k).g_le⟩, b, cs, h2, h3.mono S.mem, fun h5 => by
      have h6 : (ρ.get k).g = g := by have := (S.old k).g_le; have := h1.2; omega
      rw [S.ptr k (by omega)]; exact h4 h6⟩
  | .eptr u x off, ⟨b, o, cs, h1, h2, h3⟩ => ⟨b, o, cs, h1, h2.mono S.mem, Enc.mono S.mem u cs x h3⟩
  | .cond _ _ _ _ _, h => h.elim
  | .tup l, ⟨vs, bs, h1, h2, h3, h4⟩ => ⟨vs, bs, h1, TupR.mono S.mem l vs bs (fun b hi => rows_of_block (S.own t hn ht b (h4 b hi)).2) h2, h3, fun b hb => (S.own t hn ht b (h4 b hb)).1⟩
  | .fn f, h => h

theorem Rel.frame {n : Nat} {M M' : Mem} {ω ω' : Own} {w w' : World} {ρ ρ' : Env} {vals vals' : Vl} (S : Step n M M' ω ω' w w' ρ ρ' vals vals') {t : Nat} (hn : t < n)
    (ht : ρ'.get t = ρ.get t) {v : Value} {a : A} (h : Rel n M ω w ρ vals t v a) : Rel n M' ω' w' ρ' vals' t v a := by
  cases a with
  | cond s g ver b a =>
    obtain ⟨h1, h2⟩ := h
    refine ⟨h1.older (S.old s), fun h3 => ?_⟩
    have hs := (S.old s).same h1.2.1 h1.2.2 h3.1 h3.2
    have hv := S.ptr s (by rw [hs])
    obtain ⟨h4, h5⟩ := h2 ⟨by rw [hs]; exact h3.1, by rw [hs]; exact h3.2⟩
    rw [hv]
    exact ⟨fun e => Rel0.frame S hn ht (h4 e), h5⟩
  | junk => exact trivial
  | c s x => exact Rel0.frame (a := .c s x) S hn ht h
  | ptr k g off => exact Rel0.frame (a := .ptr k g off) S hn ht h
  | bor k g ver u x org e => exact Rel0.frame (a := .bor k g ver u x org e) S hn ht h
  | elp k g ver off et i eo arr => exact Rel0.frame (a := .elp k g ver off et i eo arr) S hn ht h
  | eptr u x off => exact Rel0.frame (a := .eptr u x off) S hn ht h
  | al k g ag off => exact Rel0.frame (a := .al k g ag off) S hn ht h
  | tup l => exact Rel0.frame (a := .tup l) S hn ht h
  | fn f => exact h

/-- the state behind a step -/
theorem St0.step {n B : Nat} {X : List Nat} {w0 : World} {M0 M M' : Mem} {ω ω' : Own} {ρ : Env} {tmps tmps' : Array Value} {w w' : World}
    (S : St0 n B X w0 M0 M ω ρ tmps w) (ws : List Wr) (hsize : tmps'.size = n) (hfr : Fr B X w w') (hM : M.le M') (hold : ∀ b o, b < B → b ∉ X → M' b o = M b o)
    (hmem : ∀ b o v, M' b o = some v → w'.cell? ⟨b, o, none⟩ = some v)
    (hdis : ∀ b k, ω' b = some k → (B ≤ b ∨ b ∈ X) ∧ b < w'.heap.size ∧ ∀ o, M' b o = none)
    (hkeep : ∀ t, (∀ x ∈ ws, x.slot = t → x.keep = true) → tmps'.getD t undef = tmps.getD t undef)
    (hlow : ∀ x ∈ ws, x.slot < n)
    (hown : ∀ t, t < n → (∀ x ∈ ws, x.slot ≠ t) → ∀ b, ω b = some t → ω' b = some t ∧ w'.heap[b]? = w.heap[b]?)
    (hnew : ∀ t, (∃ x ∈ ws, x.slot = t) → Step n M M' ω ω' w w' ρ (ρ.puts ws) (fun t => tmps.getD t undef) (fun t => tmps'.getD t undef) →
      Rel n M' ω' w' (ρ.puts ws) (fun t => tmps'.getD t undef) t (tmps'.getD t undef) ((ρ.puts ws).get t).a) :
    St0 n B X w0 M0 M' ω' (ρ.puts ws) tmps' w' := by
  have hold' : ∀ k, Older (ρ.get k) ((ρ.puts ws).get k) := fun k => Older.puts ws ρ k
  have hgk : ∀ t, ((ρ.puts ws).get t).g = (ρ.get t).g → ∀ x ∈ ws, x.slot = t → x.keep = true := by
    intro t
    have key : ∀ (ws : List Wr) (ρ : Env), ((ρ.puts ws).get t).g = (ρ.get t).g → ∀ x ∈ ws, x.slot = t → x.keep = true := by
      intro ws
      induction ws with
      | nil => intro ρ _ x hx; simp at hx
      | cons y r ih =>
        intro ρ h x hx hs
        have h' : (((ρ.put y).puts r).get t).g = (ρ.get t).g := h
        have o1 := (Older.put ρ y t).g_le
        have o2 := (Older.puts r (ρ.put y) t).g_le
        rcases List.mem_cons.1 hx with rfl | hx
        · cases hk : x.keep with
          | true => rfl
          | false =>
            have : ((ρ.put x).get t).g = (ρ.get t).g + 1 := by rw [Env.get_put, if_pos hs.symm, hk]; rfl
            omega
        · exact ih (ρ.put y) (by omega) x hx hs
    exact key ws ρ
  have hsame : ∀ k, (ρ.puts ws).get k = ρ.get k → ∀ x ∈ ws, x.slot ≠ k := by
    intro k
    have key : ∀ (ws : List Wr) (ρ : Env), (ρ.puts ws).get k = ρ.get k → ∀ x ∈ ws, x.slot ≠ k := by
      intro ws
      induction ws with
      | nil => intro ρ _ x hx; simp at hx
      | cons y r ih =>
        intro ρ h x hx hs
        have h' : ((ρ.put y).puts r).get k = ρ.get k := h
        have o2 := Older.puts r (ρ.put y) k
        rw [h'] at o2
        by_cases hy : y.slot = k
        · have o1 : (ρ.get k).g < ((ρ.put y).get k).g ∨ ((ρ.get k).g = ((ρ.put y).get k).g ∧ (ρ.get k).ver < ((ρ.put y).get k).ver) := by
            rw [Env.get_put, if_pos hy.symm]
            cases y.keep
            · left; simp
            · right; simp
          rcases o2 with o2 | ⟨o2, o3⟩ | o2
          · omega
          · omega
          · rw [o2] at o1; omega
        · have e : (ρ.put y).get k = ρ.get k := by rw [Env.get_put, if_neg (fun e => hy e.symm)]
          rcases List.mem_cons.1 hx with rfl | hx
          · exact hy hs
          · exact ih (ρ.put y) (by rw [h', e]) x hx hs
    exact key ws ρ
  have hst : Step n M M' ω ω' w w' ρ (ρ.puts ws) (fun t => tmps.getD t undef) (fun t => tmps'.getD t undef) :=
    { mem := hM
      dis := fun b k h => (hdis b k h).2.2
      old := hold'
      ptr := fun k h => hkeep k (hgk k h)
      own := fun k hn h => hown k hn (hsame k h) }
  refine { size := hsize, fr := S.fr.trans hfr, m0 := Mem.le_trans S.m0 hM, old := fun b o hb hx => (hold b o hb hx).trans (S.old b o hb hx), mem := hmem, dis := hdis, high := fun t ht => ?_, slots := fun t htn => ?_ }
  · rw [Env.puts_other ws ρ t (fun x hx e => by have := hlow x hx; omega)]; exact S.high t ht
  by_cases ht : ∃ x ∈ ws, x.slot = t
  · exact hnew t ht hst
  · have hne : ∀ x ∈ ws, x.slot ≠ t := fun x hx e => ht ⟨x, hx, e⟩
    have he := Env.puts_other ws ρ t hne
    rw [he]
    have hv : tmps'.getD t undef = tmps.getD t undef := hkeep t (fun x hx e => (hne x hx e).elim)
    rw [hv]
    exact Rel.frame hst htn he (S.slots t htn)

end Fw
