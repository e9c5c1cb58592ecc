/- Plain laws of archives being well formed. Conditions: none. -/
import Derived.Test.YtnbpojalpdldnaaLawsH
namespace Fw
open Go
def itemAt (a : Archive) (k : Nat) : Item := List.getD a.2 k (dflt (.pair TI (.pair TI (.pair (.pair TI (.pair (.slice .str) (.slice TI))) (.pair (.pair TI (.pair TI (.pair TI (.pair TI (.pair TI (.pair TI (.pair TI (.pair TI TI)))))))) (.pair (.slice TPiece) (.slice TRen)))))))
def goodP (a : Archive) (k : Nat) : Prop := itemF (itemAt a k) = true ∧ (0 < k → (itemAt a (k - 1)).1 < (itemAt a k).1)
noncomputable def archF (a : Archive) : Bool := boolC ((∀ k, k < List.length a.2 → goodP a k) ∧ inRangeF a.1 0 99 = true ∧ (List.length a.2 : Int) ≤ 8)
noncomputable def badF (a : Archive) (i : Int) : Bool := pick2 (!(itemF (itemAt a i.toNat))) true (pick2 (decide (i > 0)) (decide ((itemAt a (IntKind.i64.wrap (i - 1)).toNat).1 ≥ (itemAt a i.toNat).1)) false)
theorem goodIff {a : Archive} {P : Nat → Prop} {i : Int} (h : kInv P a.2 i) (hb : a.2.length ≤ bigLen) : badF a i = false ↔ goodP a i.toNat := by
  unfold badF goodP
  by_cases h0 : i > 0
  · rw [backW h.1 hb h0]
    have e : (i - 1).toNat = i.toNat - 1 := by omega
    have e2 : decide (i > 0) = true := by simpa using h0
    rw [e, e2, pick2_or, pick2_and]
    simp only [Bool.or_eq_false_iff, Bool.true_and, Bool.not_eq_false', decide_eq_false_iff_not]
    constructor
    · rintro ⟨h1, h2⟩; exact ⟨h1, fun _ => by omega⟩
    · rintro ⟨h1, h2⟩; exact ⟨h1, by have := h2 (by omega); omega⟩
  · have e2 : decide (i > 0) = false := by simpa using h0
    rw [e2, pick2_or, pick2_and]
    simp only [Bool.or_eq_false_iff, Bool.false_and, Bool.not_eq_false', and_true]
    constructor
    · intro h1; exact ⟨h1, fun _ => by omega⟩
    · rintro ⟨h1, h2⟩; exact h1
end Fw
