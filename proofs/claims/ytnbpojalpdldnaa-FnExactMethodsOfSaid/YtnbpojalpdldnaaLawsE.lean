/- Plain laws of the first contrary pair. Conditions: none. -/
import Derived.Test.YtnbpojalpdldnaaLawsD
namespace Fw
open Go
/-- the first pair of the list that c holds of, the earlier first -/
def fpF {α : Type} (c : α → α → Bool) (z : α × α) : List α → (α × α) × Bool
  | [] => (z, false)
  | a :: t => match t.find? (c a) with
    | some b => ((a, b), true)
    | none => fpF c z t
def fpInv {α : Type} (c : α → α → Bool) (z : α × α) (L : List α) (i : Int) : Prop := upInv L i ∧ fpF c z L = fpF c z (L.drop i.toNat)
theorem fpStart {α : Type} {c : α → α → Bool} {z : α × α} {L : List α} : fpInv c z L 0 := ⟨upStart, rfl⟩
theorem fpRange {α : Type} {c : α → α → Bool} {z : α × α} {L : List α} {i : Int} (h : fpInv c z L i) (hl : i < L.length) : inRange i L.length := upRange h.1 hl
theorem fpCons {α : Type} {c : α → α → Bool} {z : α × α} {L : List α} {d : α} {i : Int} (h : fpInv c z L i) (hl : i < L.length) :
    fpF c z L = match (L.drop (i.toNat + 1)).find? (c (L.getD i.toNat d)) with | some b => ((L.getD i.toNat d, b), true) | none => fpF c z (L.drop (i.toNat + 1)) := by
  obtain ⟨⟨k, hk, rfl⟩, h2⟩ := h
  have h1 : ((k : Int)).toNat = k := by omega
  rw [h1] at h2 ⊢
  have hk' : k < L.length := by omega
  rw [h2, List.drop_eq_getElem_cons hk']
  have : L.getD k d = L[k] := by rw [List.getD_eq_getElem?_getD, List.getElem?_eq_getElem hk']; rfl
  rw [this, fpF]
theorem fpEnd {α : Type} {c : α → α → Bool} {z : α × α} {L : List α} {i : Int} (h : fpInv c z L i) (hl : ¬ i < L.length) : (z, false) = fpF c z L := by
  obtain ⟨⟨k, hk, rfl⟩, h2⟩ := h
  have h1 : ((k : Int)).toNat = k := by omega
  rw [h2, h1, List.drop_eq_nil_of_le (by omega)]; rfl
theorem fpNext {α : Type} {c : α → α → Bool} {z : α × α} {L : List α} {d : α} {i : Int} (h : fpInv c z L i) (hl : i < L.length) (hb : L.length ≤ bigLen)
    (hn : (L.drop (i.toNat + 1)).find? (c (L.getD i.toNat d)) = none) :
    fpInv c z L (IntKind.i64.wrap (i + 1)) ∧ (L.length - (IntKind.i64.wrap (i + 1))).toNat < (L.length - i).toNat := by
  obtain ⟨u1, u2, u3⟩ := upStep h.1 hl hb
  refine ⟨⟨u1, ?_⟩, u3⟩
  obtain ⟨k, hk, e⟩ := h.1
  have e2 : (i + 1).toNat = i.toNat + 1 := by omega
  rw [fpCons (d := d) h hl, hn, u2, e2]
theorem fpHit {α : Type} {c : α → α → Bool} {z : α × α} {L : List α} {d b : α} {i : Int} (h : fpInv c z L i) (hl : i < L.length)
    (hn : (L.drop (i.toNat + 1)).find? (c (L.getD i.toNat d)) = some b) : ((L.getD i.toNat d, b), true) = fpF c z L := by
  rw [fpCons (d := d) h hl, hn]
theorem fFindHit {α : Type} {p : α → Bool} {a : List α} {d : α} {i : Int} (h : fInv p a i) (hl : i < a.length) (he : p (a.getD i.toNat d) = true) : a.find? p = some (a.getD i.toNat d) := by
  obtain ⟨⟨k, hk, rfl⟩, h2⟩ := h
  have h1 : ((k : Int)).toNat = k := by omega
  rw [h1] at h2 he ⊢
  have hk' : k < a.length := by omega
  have e : a.getD k d = a[k] := by rw [List.getD_eq_getElem?_getD, List.getElem?_eq_getElem hk']; rfl
  rw [e] at he ⊢
  conv => lhs; rw [← List.take_append_drop k a]
  rw [List.find?_append, List.find?_eq_none.2 (fun x hx => by rw [h2 x hx]; decide), List.drop_eq_getElem_cons hk', List.find?_cons_of_pos he]; rfl
theorem fFindEnd {α : Type} {p : α → Bool} {a : List α} {i : Int} (h : fInv p a i) (hl : ¬ i < a.length) : a.find? p = none := by
  obtain ⟨h1, h2⟩ := h
  rw [up_end h1 hl, List.take_length] at h2
  exact List.find?_eq_none.2 (fun x hx => by rw [h2 x hx]; decide)
/-- the search from place m on, by the list's own places -/
def gInv {α : Type} (p : α → Bool) (L : List α) (m : Nat) (j : Int) : Prop := ∃ k : Nat, j = ((m + k : Nat) : Int) ∧ m + k ≤ L.length ∧ ∀ x ∈ (L.drop m).take k, p x = false
theorem gStart {α : Type} {p : α → Bool} {L : List α} {i : Int} (h : upInv L i) (hl : i < L.length) (hb : L.length ≤ bigLen) : gInv p L (i.toNat + 1) (IntKind.i64.wrap (i + 1)) := by
  obtain ⟨u1, u2, _⟩ := upStep h hl hb
  obtain ⟨n, hn, e⟩ := u1
  obtain ⟨k, hk, e4⟩ := h
  refine ⟨0, by omega, by omega, fun x hx => by simp at hx⟩
theorem gRange {α : Type} {p : α → Bool} {L : List α} {m : Nat} {j : Int} (h : gInv p L m j) (hl : j < L.length) : inRange j L.length := by
  obtain ⟨k, e, h1, _⟩ := h
  exact upRange ⟨m + k, by omega, e⟩ hl
theorem gGet {α : Type} {p : α → Bool} {L : List α} {m : Nat} {j : Int} {d : α} (h : gInv p L m j) : L.getD j.toNat d = (L.drop m).getD (j - m).toNat d := by
  obtain ⟨k, e, h1, _⟩ := h
  subst e
  have e1 : (((m + k : Nat) : Int)).toNat = m + k := by omega
  have e2 : (((m + k : Nat) : Int) - m).toNat = k := by omega
  rw [e1, e2, List.getD_eq_getElem?_getD, List.getD_eq_getElem?_getD, List.getElem?_drop]
theorem gF {α : Type} {p : α → Bool} {L : List α} {m : Nat} {j : Int} (h : gInv p L m j) : fInv p (L.drop m) (j - m) := by
  obtain ⟨k, e, h1, h2⟩ := h
  have e2 : (j - m) = (k : Int) := by omega
  rw [e2]
  refine ⟨⟨k, by rw [List.length_drop]; omega, rfl⟩, ?_⟩
  have : ((k : Int)).toNat = k := by omega
  rw [this]; exact h2
theorem gLen {α : Type} {p : α → Bool} {L : List α} {m : Nat} {j : Int} (h : gInv p L m j) : (j < L.length ↔ j - m < ((L.drop m).length : Int)) := by
  obtain ⟨k, e, h1, h2⟩ := h
  rw [List.length_drop]; omega
theorem gHit {α : Type} {p : α → Bool} {L : List α} {m : Nat} {j : Int} {d : α} (h : gInv p L m j) (hl : j < L.length) (he : p (L.getD j.toNat d) = true) : (L.drop m).find? p = some (L.getD j.toNat d) := by
  rw [gGet h] at he ⊢
  exact fFindHit (gF h) ((gLen h).1 hl) he
theorem gEnd {α : Type} {p : α → Bool} {L : List α} {m : Nat} {j : Int} (h : gInv p L m j) (hl : ¬ j < L.length) : (L.drop m).find? p = none :=
  fFindEnd (gF h) (fun h2 => hl ((gLen h).2 h2))
theorem gStep {α : Type} {p : α → Bool} {L : List α} {m : Nat} {j : Int} {d : α} (h : gInv p L m j) (hl : j < L.length) (hb : L.length ≤ bigLen) (he : p (L.getD j.toNat d) = false) :
    gInv p L m (IntKind.i64.wrap (j + 1)) ∧ (L.length - (IntKind.i64.wrap (j + 1))).toNat < (L.length - j).toNat := by
  rw [gGet h] at he
  have hF := gF h
  obtain ⟨k, e, h1, h2⟩ := h
  have hup : upInv L j := ⟨m + k, by omega, e⟩
  obtain ⟨u1, u2, u3⟩ := upStep hup hl hb
  obtain ⟨n, hn, e3⟩ := u1
  refine ⟨⟨k + 1, by omega, by omega, ?_⟩, u3⟩
  have e2 : (j - m).toNat = k := by omega
  rw [e2] at he
  have hk : ((k : Nat) : Int) < ((L.drop m).length : Int) := by rw [List.length_drop]; omega
  have := take_snoc (d := d) (a := L.drop m) (i := (k : Int)) ⟨k, by omega, rfl⟩ hk
  have e5 : ((k : Int)).toNat = k := by omega
  have e6 : ((k : Int) + 1).toNat = k + 1 := by omega
  rw [e5, e6] at this
  rw [this]
  intro x hx
  rcases List.mem_append.1 hx with hx | hx
  · exact h2 x hx
  · rw [List.mem_singleton.1 hx]; exact he
theorem tailCond {α : Type} {L : List α} {i : Int} (h : upInv L i) (hl : i < L.length) (hb : L.length ≤ bigLen) :
    conj [(0 : Int) ≤ IntKind.i64.wrap (i + 1), IntKind.i64.wrap (i + 1) ≤ (L.length : Int), (L.length : Int) ≤ (L.length : Int)] := by
  obtain ⟨u1, u2, _⟩ := upStep h hl hb
  obtain ⟨k, hk, e⟩ := u1
  rw [e]
  exact ⟨by omega, by omega, Int.le_refl _⟩
theorem tailEq {α : Type} {L : List α} {i : Int} (h : upInv L i) (hl : i < L.length) (hb : L.length ≤ bigLen) :
    subL L (IntKind.i64.wrap (i + 1)) (L.length : Int) = L.drop (i.toNat + 1) := by
  obtain ⟨u1, u2, _⟩ := upStep h hl hb
  obtain ⟨k, hk, e⟩ := h
  unfold subL
  rw [u2, e, Int.toNat_natCast, List.take_length]
  congr 1
theorem tailLen {α : Type} {L : List α} {l h : Int} (hb : L.length ≤ bigLen) : (subL L l h).length ≤ bigLen := by
  unfold subL
  rw [List.length_drop, List.length_take]; omega
theorem fpNextT {α : Type} {c : α → α → Bool} {z : α × α} {L T : List α} {d : α} {i : Int} (h : fpInv c z L i) (hl : i < L.length) (hb : L.length ≤ bigLen) (hT : T = L.drop (i.toNat + 1))
    (hn : T.find? (c (L.getD i.toNat d)) = none) :
    fpInv c z L (IntKind.i64.wrap (i + 1)) ∧ (L.length - (IntKind.i64.wrap (i + 1))).toNat < (L.length - i).toNat := by
  subst hT; exact fpNext h hl hb hn
theorem fpHitT {α : Type} {c : α → α → Bool} {z : α × α} {L T : List α} {d b : α} {i : Int} (h : fpInv c z L i) (hl : i < L.length) (hT : T = L.drop (i.toNat + 1))
    (hn : T.find? (c (L.getD i.toNat d)) = some b) : ((L.getD i.toNat d, b), true) = fpF c z L := by
  subst hT; exact fpHit h hl hn
end Fw
