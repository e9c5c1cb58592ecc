/- Cells filled part by part. Conditions: none. -/
import Derived.Test.YtnbpojalpdldnaaFw14
namespace Fw
open Go

/-- one part laid over the cells -/
def ov (z : List Value) (o : Nat) (p : List Value) : List Value := z.take o ++ p ++ z.drop (o + p.length)

theorem ov_get {z p : List Value} {o : Nat} (h : o + p.length ≤ z.length) (i : Nat) : (ov z o p)[i]? = if o ≤ i ∧ i < o + p.length then p[i - o]? else z[i]? := by
  unfold ov
  rw [List.append_assoc]
  rcases Nat.lt_or_ge i o with hi | hi
  · rw [List.getElem?_append_left (by simp; omega), List.getElem?_take, if_pos hi, if_neg (by omega)]
  · rw [List.getElem?_append_right (by simp; omega)]
    rw [List.length_take, Nat.min_eq_left (by omega)]
    rcases Nat.lt_or_ge i (o + p.length) with h2 | h2
    · rw [List.getElem?_append_left (by omega), if_pos ⟨hi, h2⟩]
    · rw [List.getElem?_append_right (by omega), if_neg (by omega), List.getElem?_drop]
      congr 1; omega

theorem foldl_set (o : Nat) : ∀ (p : List Value) (k : Nat) (z : Array Value), o + k + p.length ≤ z.size →
    ((p.zipIdx k).foldl (fun cs (c, j) => cs.setIfInBounds (o + j) c) z).toList = ov z.toList (o + k) p
  | [], k, z, _ => by simp [ov]
  | c :: p, k, z, h => by
    simp only [List.zipIdx_cons, List.foldl_cons]
    simp only [List.length_cons] at h
    rw [foldl_set o p (k + 1) _ (by simp; omega)]
    apply List.ext_getElem?
    intro i
    rw [ov_get (by simp; omega), ov_get (by simp; omega)]
    simp only [Array.toList_setIfInBounds, List.length_cons]
    by_cases h1 : i = o + k
    · subst h1
      rw [if_neg (by omega), if_pos (by omega), List.getElem?_set_self (by simp; omega)]
      simp
    · by_cases h2 : o + (k + 1) ≤ i ∧ i < o + (k + 1) + p.length
      · rw [if_pos h2, if_pos (by omega), show i - (o + k) = (i - (o + (k + 1))) + 1 by omega, List.getElem?_cons_succ]
      · rw [if_neg h2, if_neg (by omega), List.getElem?_set_ne (by omega)]

theorem ov_length {z p : List Value} {o : Nat} (h : o + p.length ≤ z.length) : (ov z o p).length = z.length := by
  unfold ov; simp; omega
theorem ov_at {z p : List Value} {o : Nat} (h : o + p.length ≤ z.length) : ((ov z o p).drop o).take p.length = p := by
  unfold ov
  rw [List.append_assoc, List.drop_append, List.drop_eq_nil_of_le (by simp; omega)]
  simp [Nat.min_eq_left (show o ≤ z.length by omega)]
theorem ov_other {z p : List Value} {o o' s : Nat} (h : o + p.length ≤ z.length) (hd : o + p.length ≤ o' ∨ o' + s ≤ o) : ((ov z o p).drop o').take s = (z.drop o').take s := by
  apply List.ext_getElem?
  intro i
  simp only [List.getElem?_take, List.getElem?_drop]
  split
  · rename_i hi
    unfold ov
    rcases hd with hd | hd
    · rw [List.getElem?_append_right (by simp; omega), List.getElem?_drop]
      congr 1; simp; omega
    · rw [List.getElem?_append_left (by simp; omega), List.getElem?_append_left (by simp; omega), List.getElem?_take, if_pos (by omega)]
  · rfl

theorem fill_ok (place : Nat → Option (Nat × Nat)) (N : Nat)
    (hdisj : ∀ i j oi si oj sj, place i = some (oi, si) → place j = some (oj, sj) → i < N → j < N → i ≠ j → oi + si ≤ oj ∨ oj + sj ≤ oi) :
    ∀ (ps : List (Nat × Value)) (z : Array Value), (∀ q ∈ ps, q.1 < N ∧ ∃ o, place q.1 = some (o, q.2.cells.size) ∧ o + q.2.cells.size ≤ z.size) → (ps.map Prod.fst).Nodup →
    ∃ cells, Instr.fill place z ps = some cells ∧ cells.size = z.size ∧ ∀ i o s, i < N → place i = some (o, s) →
      (cells.toList.drop o).take s = match look ps i with | some v => v.cells.toList | none => (z.toList.drop o).take s
  | [], z, _, _ => ⟨z, rfl, rfl, fun i o s _ _ => rfl⟩
  | (i, v) :: ps, z, h, hn => by
    obtain ⟨hiN, o, h1, h2⟩ := h (i, v) (by simp)
    simp only [List.map_cons, List.nodup_cons] at hn
    have hz := foldl_set o v.cells.toList 0 z (by simpa using h2)
    rw [Nat.add_zero] at hz
    have hsz : (v.cells.zipIdx.foldl (fun cs (c, j) => cs.setIfInBounds (o + j) c) z).toList = ov z.toList o v.cells.toList := by
      rw [← hz, ← Array.foldl_toList]; simp
    have hlen := congrArg List.length hsz
    rw [ov_length (by simpa using h2)] at hlen
    simp only [Array.length_toList] at hlen
    obtain ⟨cells, k1, k2, k3⟩ := fill_ok place N hdisj ps (v.cells.zipIdx.foldl (fun cs (c, j) => cs.setIfInBounds (o + j) c) z)
      (fun q hq => by obtain ⟨g0, o', g1, g2⟩ := h q (by simp [hq]); exact ⟨g0, o', g1, by rw [hlen]; exact g2⟩) hn.2
    refine ⟨cells, ?_, by rw [k2, hlen], fun j oj sj hj hp => ?_⟩
    · unfold Instr.fill
      rw [h1]
      simp only
      rw [if_neg (by simp; omega)]
      exact k1
    · rw [k3 j oj sj hj hp, hsz]
      by_cases hij : i = j
      · subst hij
        rw [h1] at hp
        simp only [Option.some.injEq, Prod.mk.injEq] at hp
        obtain ⟨rfl, rfl⟩ := hp
        have : look ps i = none := by
          have hnone : ∀ (ps : List (Nat × Value)), i ∉ ps.map Prod.fst → look ps i = none := by
            intro ps
            induction ps with
            | nil => intro _; rfl
            | cons q r ih =>
              intro hni
              simp only [List.map_cons, List.mem_cons, not_or] at hni
              obtain ⟨q1, q2⟩ := q
              simp only [look]
              rw [if_neg (fun e => hni.1 e.symm)]
              exact ih hni.2
          exact hnone ps hn.1
        rw [this]
        simp only [look, if_true]
        have := ov_at (z := z.toList) (p := v.cells.toList) (o := o) (by simpa using h2)
        simpa using this
      · have hl : look ((i, v) :: ps) j = look ps j := by simp [look, hij]
        rw [hl]
        cases look ps j with
        | some v' => rfl
        | none =>
          simp only
          rw [ov_other (by simpa using h2) (by simpa using hdisj i j o _ oj sj h1 hp hiN hj hij)]

theorem nodupB_ok : ∀ (l : List Nat), nodupB l = true → l.Nodup
  | [], _ => List.nodup_nil
  | a :: r, h => by
    simp only [nodupB, Bool.and_eq_true, Bool.not_eq_true'] at h
    rw [List.nodup_cons]
    exact ⟨by have := h.1; simpa using this, nodupB_ok r h.2⟩
theorem keysB_ok {α : Type} {n : Nat} {ps : List (Nat × α)} (h : keysB n ps = true) : (ps.map Prod.fst).Nodup ∧ ∀ q ∈ ps, q.1 < n := by
  unfold keysB at h
  simp only [Bool.and_eq_true] at h
  refine ⟨nodupB_ok _ h.1, fun q hq => ?_⟩
  have := List.all_eq_true.1 h.2 q.1 (List.mem_map_of_mem hq)
  simpa using this
theorem look_map {α β : Type} (f : α → β) : ∀ (ps : List (Nat × α)) (i : Nat), look (ps.map fun q => (q.1, f q.2)) i = (look ps i).map f
  | [], _ => rfl
  | (k, a) :: r, i => by simp only [List.map_cons, look]; split <;> simp [look_map f r i]
theorem look_mem {α : Type} : ∀ {ps : List (Nat × α)} {i : Nat} {a : α}, look ps i = some a → (i, a) ∈ ps
  | (k, a') :: r, i, a, h => by
    simp only [look] at h
    split at h
    · rename_i e; subst e; simp at h; simp [h]
    · exact List.mem_cons_of_mem _ (look_mem h)

end Fw
