/- Plain laws of gathering with an early end; when a method, a key or a renewal ends. Conditions: none. -/
import Derived.Test.YtnbpojalpdldnaaLawsJ
namespace Fw
open Go
/-- from the left, ending early with e at the first bad one -/
def efF {α β : Type} (bad : α → Bool) (g : β → α → β) (e : β) : List α → β → β
  | [], m => m
  | x :: t, m => if bad x = true then e else efF bad g e t (g m x)
def efInv {α β : Type} (bad : α → Bool) (g : β → α → β) (e z : β) (L : List α) (m : β) (i : Int) : Prop := upInv L i ∧ efF bad g e L z = efF bad g e (L.drop i.toNat) m
theorem efStart {α β : Type} {bad : α → Bool} {g : β → α → β} {e z : β} {L : List α} : efInv bad g e z L z 0 := ⟨upStart, rfl⟩
theorem efRange {α β : Type} {bad : α → Bool} {g : β → α → β} {e z m : β} {L : List α} {i : Int} (h : efInv bad g e z L m i) (hl : i < L.length) : inRange i L.length := upRange h.1 hl
theorem efCons {α β : Type} {bad : α → Bool} {g : β → α → β} {e z m : β} {L : List α} {d : α} {i : Int} (h : efInv bad g e z L m i) (hl : i < L.length) :
    efF bad g e L z = if bad (L.getD i.toNat d) = true then e else efF bad g e (L.drop (i.toNat + 1)) (g m (L.getD i.toNat d)) := by
  obtain ⟨⟨k, hk, rfl⟩, h2⟩ := h
  have h1 : ((k : Int)).toNat = k := by omega
  rw [h1] at h2 ⊢
  have hk' : k < L.length := by omega
  rw [h2, List.drop_eq_getElem_cons hk']
  have : L.getD k d = L[k] := by rw [List.getD_eq_getElem?_getD, List.getElem?_eq_getElem hk']; rfl
  rw [this, efF]
theorem efStop {α β : Type} {bad : α → Bool} {g : β → α → β} {e z m : β} {L : List α} {d : α} {i : Int} (h : efInv bad g e z L m i) (hl : i < L.length) (hb : bad (L.getD i.toNat d) = true) : e = efF bad g e L z := by
  rw [efCons (d := d) h hl, if_pos hb]
theorem efStep {α β : Type} {bad : α → Bool} {g : β → α → β} {e z m : β} {L : List α} {d : α} {i : Int} (h : efInv bad g e z L m i) (hl : i < L.length) (hb : L.length ≤ bigLen) (hx : bad (L.getD i.toNat d) = false) :
    efInv bad g e z L (g m (L.getD i.toNat d)) (IntKind.i64.wrap (i + 1)) ∧ (L.length - (IntKind.i64.wrap (i + 1))).toNat < (L.length - i).toNat := by
  obtain ⟨u1, u2, u3⟩ := upStep h.1 hl hb
  obtain ⟨k, hk, e1⟩ := h.1
  refine ⟨⟨u1, ?_⟩, u3⟩
  have e2 : (IntKind.i64.wrap (i + 1)).toNat = i.toNat + 1 := by rw [u2]; omega
  rw [e2, efCons (d := d) h hl, if_neg (by rw [hx]; decide)]
theorem efEnd {α β : Type} {bad : α → Bool} {g : β → α → β} {e z m : β} {L : List α} {i : Int} (h : efInv bad g e z L m i) (hl : ¬ i < L.length) : m = efF bad g e L z := by
  obtain ⟨k, hk, e1⟩ := h.1
  rw [h.2, List.drop_eq_nil_of_le (by omega)]; rfl
abbrev Method := Int × Int × Int × Int
abbrev TMethod : Ty := .pair TI (.pair TI (.pair TI TI))
abbrev Frame := List Key × List Authority × List Method × Int × Int
def methI (l : List Method) (n : Int) : Int := findI (fun (x : Method) => x.1 == n) l
def methAt (l : List Method) (n : Int) : Method := l.getD (methI l n).toNat (dflt TMethod)
def mEnds (l : List Method) (n : Int) : Int := if methI l n < 0 then 0 else (methAt l n).2.2.1
theorem mEnds0 {l : List Method} {n : Int} (h : methI l n < 0) : (0 : Int) = mEnds l n := by unfold mEnds; rw [if_pos h]
theorem mEnds1 {l : List Method} {n : Int} (h : ¬ methI l n < 0) : (methAt l n).2.2.1 = mEnds l n := by unfold mEnds; rw [if_neg h]
def stampKeyF (l : List Authority) (s : Stamp) : Int := if authI l s.1 < 0 then 0 else (authAt l s.1).2.1
theorem stampKey0 {l : List Authority} {s : Stamp} (h : authI l s.1 < 0) : (0 : Int) = stampKeyF l s := by unfold stampKeyF; rw [if_pos h]
theorem stampKey1 {l : List Authority} {s : Stamp} (h : ¬ authI l s.1 < 0) : (authAt l s.1).2.1 = stampKeyF l s := by unfold stampKeyF; rw [if_neg h]
def enBad (f : Frame) (s : Stamp) : Bool := decide (keyI f.1 (stampKeyF f.2.1 s) < 0)
def enG (f : Frame) (m : Int) (s : Stamp) : Int := min m (mEnds f.2.2.1 (keyAt f.1 (stampKeyF f.2.1 s)).2.2.1)
def endsOfF (f : Frame) (r : Renewal) : Int := efF (enBad f) (enG f) 0 r.2.2.2.2 (mEnds f.2.2.1 r.2.1)
end Fw
