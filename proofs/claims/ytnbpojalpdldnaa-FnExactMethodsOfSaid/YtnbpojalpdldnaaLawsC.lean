/- Plain laws of searching and counting. Conditions: none. -/
import Derived.Test.YtnbpojalpdldnaaLawsB
namespace Fw
open Go
theorem ne_selfI {x : Int} (h : (x != x) = true) : False := by simp at h
theorem ne_selfS {x : List UInt8} (h : (x != x) = true) : False := by simp at h
theorem ne_selfC {α : Type} {x : α} (h : (!(eqC x x)) = true) : False := by rw [eqC_self] at h; cases h
theorem ne_self2CB {α : Type} {x : α} {y : Bool} (h : pick2 (!(eqC x x)) true (y != y) = true) : False := by rw [eqC_self] at h; cases y <;> cases h

def findI {α : Type} (p : α → Bool) (l : List α) : Int := match l.findIdx? p with | some k => k | none => -1
def fInv {α : Type} (p : α → Bool) (a : List α) (i : Int) : Prop := upInv a i ∧ ∀ x ∈ a.take i.toNat, p x = false
theorem fStart {α : Type} {p : α → Bool} {a : List α} : fInv p a 0 := ⟨upStart, fun x hx => by simp at hx⟩
theorem fStep {α : Type} {p : α → Bool} {a : List α} {d : α} {i : Int} (h : fInv p a i) (hl : i < a.length) (hb : a.length ≤ bigLen) (he : p (a.getD i.toNat d) = false) :
    fInv p a (IntKind.i64.wrap (i + 1)) ∧ (a.length - (IntKind.i64.wrap (i + 1))).toNat < (a.length - i).toNat := by
  obtain ⟨h1, h2⟩ := h
  obtain ⟨u1, u2, u3⟩ := upStep h1 hl hb
  refine ⟨⟨u1, ?_⟩, u3⟩
  rw [u2, take_snoc (d := d) h1 hl]
  intro x hx
  rcases List.mem_append.1 hx with hx | hx
  · exact h2 x hx
  · rw [List.mem_singleton.1 hx]; exact he
theorem fHit {α : Type} {p : α → Bool} {a : List α} {d : α} {i : Int} (h : fInv p a i) (hl : i < a.length) (he : p (a.getD i.toNat d) = true) : i = findI p a := by
  obtain ⟨⟨k, hk, rfl⟩, h2⟩ := h
  have h1 : ((k : Int)).toNat = k := by omega
  rw [h1] at h2 he
  have hk' : k < a.length := by omega
  have : a.findIdx? p = some k := by
    rw [List.findIdx?_eq_some_iff_getElem]
    refine ⟨hk', ?_, fun j hj => ?_⟩
    · rw [List.getD_eq_getElem?_getD, List.getElem?_eq_getElem hk'] at he; exact he
    · have := h2 (a[j]) (List.mem_take_iff_getElem.2 ⟨j, by omega, rfl⟩)
      simp [this]
  unfold findI; rw [this]
theorem fEnd {α : Type} {p : α → Bool} {a : List α} {i : Int} (h : fInv p a i) (hl : ¬ i < a.length) : (-1 : Int) = findI p a := by
  obtain ⟨h1, h2⟩ := h
  rw [up_end h1 hl, List.take_length] at h2
  have : a.findIdx? p = none := by rw [List.findIdx?_eq_none_iff]; exact h2
  unfold findI; rw [this]
theorem fRange {α : Type} {p : α → Bool} {a : List α} {i : Int} (h : fInv p a i) (hl : i < a.length) : inRange i a.length := upRange h.1 hl
theorem findI_lt {α : Type} {p : α → Bool} (a : List α) : findI p a = -1 ∨ (0 ≤ findI p a ∧ findI p a < a.length) := by
  unfold findI
  split
  · rename_i k h
    have := (List.findIdx?_eq_some_iff_getElem.1 h).1
    right; omega
  · exact .inl rfl
end Fw
namespace Fw
open Go
/-- folding from the left, so far -/
def foInv {α β : Type} (f : β → α → β) (z : β) (a : List α) (acc : β) (i : Int) : Prop := upInv a i ∧ acc = (a.take i.toNat).foldl f z
theorem foStart {α β : Type} {f : β → α → β} {z : β} {a : List α} : foInv f z a z 0 := ⟨upStart, by simp⟩
theorem foStep {α β : Type} {f : β → α → β} {z : β} {a : List α} {acc : β} {d : α} {i : Int} (h : foInv f z a acc i) (hl : i < a.length) (hb : a.length ≤ bigLen) :
    foInv f z a (f acc (a.getD i.toNat d)) (IntKind.i64.wrap (i + 1)) ∧ (a.length - (IntKind.i64.wrap (i + 1))).toNat < (a.length - i).toNat := by
  obtain ⟨h1, h2⟩ := h
  obtain ⟨u1, u2, u3⟩ := upStep h1 hl hb
  refine ⟨⟨u1, ?_⟩, u3⟩
  rw [u2, take_snoc (d := d) h1 hl, List.foldl_append, h2]; rfl
theorem foEnd {α β : Type} {f : β → α → β} {z : β} {a : List α} {acc : β} {i : Int} (h : foInv f z a acc i) (hl : ¬ i < a.length) : acc = a.foldl f z := by
  obtain ⟨h1, h2⟩ := h
  rw [up_end h1 hl, List.take_length] at h2; exact h2
theorem foRange {α β : Type} {f : β → α → β} {z : β} {a : List α} {acc : β} {i : Int} (h : foInv f z a acc i) (hl : i < a.length) : inRange i a.length := upRange h.1 hl

def modF (p q : Int) : Int := if inRangeF q 1 1000000000000 = true then (IntKind.i64.wrap (p.tmod q + q)).tmod q else 0
theorem inR_pos {q : Int} (h : (!(inRangeF q 1 1000000000000)) = false) : q ≠ 0 := by
  unfold inRangeF pick2 at h
  intro e; subst e; simp at h
def hstep (h v : Int) : Int := (IntKind.i64.wrap (IntKind.i64.wrap (IntKind.i64.wrap (h * 1000003) + modF v 2147483647) + 13)).tmod 2147483647
def hashF (l : List Int) : Int := l.foldl hstep 11
def keyedF (k : Int) (l : List Int) : Int := hashF ([k] ++ l ++ [k])
theorem digestEx : ∃ f : Int → List Int → Int, ∀ id l, f id l = hashF ([7, id] ++ l) := ⟨fun id l => hashF ([7, id] ++ l), fun _ _ => rfl⟩
/-- the digest, sealed: nothing unfolds it but digest_eq -/
noncomputable def digestF (id : Int) (l : List Int) : Int := Classical.choose digestEx id l
theorem digest_eq (id : Int) (l : List Int) : digestF id l = hashF ([7, id] ++ l) := Classical.choose_spec digestEx id l
theorem maxT {a b : Int} (h : decide (b > a) = true) : b = max a b := by have := of_decide_eq_true h; omega
theorem maxE {a b : Int} (h : decide (b > a) = false) : a = max a b := by have := of_decide_eq_false h; omega
theorem minT {a b : Int} (h : decide (b < a) = true) : b = min a b := by have := of_decide_eq_true h; omega
theorem minE {a b : Int} (h : decide (b < a) = false) : a = min a b := by have := of_decide_eq_false h; omega
end Fw
