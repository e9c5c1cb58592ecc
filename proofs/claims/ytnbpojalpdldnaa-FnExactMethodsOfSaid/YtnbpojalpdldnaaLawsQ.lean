/- Plain laws of trees of digests and of parcels. Conditions: none. -/
import Derived.Test.YtnbpojalpdldnaaLawsP
namespace Fw
open Go
noncomputable def pairDF (m a b : Int) : Int := digestF m [1, a, b]
noncomputable def upF (m : Int) : List Int → List Int
  | [] => []
  | [a] => [a]
  | a :: b :: r => pairDF m a b :: upF m r
theorem upF_len (m : Int) : ∀ l : List Int, (upF m l).length ≤ l.length ∧ (2 ≤ l.length → (upF m l).length < l.length) ∧ (1 ≤ l.length → 1 ≤ (upF m l).length)
  | [] => by simp [upF]
  | [a] => by simp [upF]
  | a :: b :: r => by
    have := upF_len m r
    simp only [upF, List.length_cons]
    omega
noncomputable def rootL (m : Int) (l : List Int) : List Int := if h : 2 ≤ l.length then rootL m (upF m l) else l
termination_by l.length
decreasing_by exact (upF_len m l).2.1 h
theorem rootL_up {m : Int} {l : List Int} (h : 2 ≤ l.length) : rootL m l = rootL m (upF m l) := by rw [rootL, dif_pos h]
theorem rootL_end {m : Int} {l : List Int} (h : ¬ 2 ≤ l.length) : rootL m l = l := by rw [rootL, dif_neg h]
noncomputable def treeF (m : Int) (l : List Int) : Int := if inRangeF (l.length : Int) 1 16 = true then (rootL m l).getD 0 (dflt TI) else -1
theorem tree0 {m : Int} {l : List Int} (h : (!(inRangeF (l.length : Int) 1 16)) = true) : (-1 : Int) = treeF m l := by
  unfold treeF; rw [if_neg]
  intro e; rw [e] at h; cases h
def trInv (m : Int) (l0 l : List Int) : Prop := rootL m l = rootL m l0 ∧ 1 ≤ l.length ∧ l.length ≤ 16
theorem rg {x a b : Int} (h : (!(inRangeF x a b)) = false) : a ≤ x ∧ x ≤ b := by
  unfold inRangeF pick2 at h
  cases h1 : decide (a ≤ x) <;> rw [h1] at h
  · cases h
  · cases h2 : decide (x ≤ b) <;> rw [h2] at h
    · cases h
    · exact ⟨of_decide_eq_true h1, of_decide_eq_true h2⟩
theorem trStart {m : Int} {l : List Int} (h : 1 ≤ (l.length : Int) ∧ (l.length : Int) ≤ 16) : trInv m l l := ⟨rfl, by omega, by omega⟩
theorem trStep {m : Int} {l0 l : List Int} (h : trInv m l0 l) (g : (l.length : Int) > 1) : trInv m l0 (upF m l) ∧ (upF m l).length < l.length := by
  have hl := upF_len m l
  have h2 : 2 ≤ l.length := by omega
  exact ⟨⟨by rw [← rootL_up h2]; exact h.1, hl.2.2 h.2.1, by have := hl.1; have := h.2.2; omega⟩, hl.2.1 h2⟩
theorem trEnd {m : Int} {l0 l : List Int} (h : trInv m l0 l) (g : ¬ (l.length : Int) > 1) (hr : (!(inRangeF (l0.length : Int) 1 16)) = false) : l.getD 0 (dflt TI) = treeF m l0 := by
  unfold treeF
  rw [if_pos (by simpa using hr), ← h.1, rootL_end (by omega)]
theorem trIdx {m : Int} {l0 l : List Int} (h : trInv m l0 l) : inRange 0 l.length := ⟨by omega, by have := h.2.1; omega⟩
theorem trSmall {m : Int} {l0 l : List Int} (h : trInv m l0 l) : l.length ≤ 1048576 := by have := h.2.2; omega
/-- two at a time -/
def liInv (m : Int) (l out : List Int) (i : Int) : Prop := 0 ≤ i ∧ upF m l = out ++ upF m (l.drop i.toNat) ∧ (out.length : Int) ≤ i
theorem liStart {m : Int} {l : List Int} : liInv m l [] 0 := ⟨by omega, by simp, by simp⟩
theorem liRange {m : Int} {l out : List Int} {i : Int} (h : liInv m l out i) (hl : i < (l.length : Int)) : inRange i l.length := ⟨h.1, hl⟩
theorem liRange1 {m : Int} {l out : List Int} {i : Int} (h : liInv m l out i) (g : IntKind.i64.wrap (i + 1) < (l.length : Int)) (hs : l.length ≤ 1048576) (hl : i < (l.length : Int)) : inRange (IntKind.i64.wrap (i + 1)) l.length := by
  refine ⟨?_, g⟩
  rw [w64 (by have := h.1; omega) (by omega)]
  have := h.1; omega
theorem liLen {m : Int} {l out : List Int} {i : Int} (h : liInv m l out i) (hs : l.length ≤ 1048576) (hl : i < (l.length : Int)) : out.length + 1 ≤ maxApp := by
  have := h.2.2; unfold maxApp; omega
theorem li2 {m : Int} {l out : List Int} {i : Int} (h : liInv m l out i) (hl : i < (l.length : Int)) (hs : l.length ≤ 1048576) (g : IntKind.i64.wrap (i + 1) < (l.length : Int)) :
    liInv m l (out ++ [pairDF m (l.getD i.toNat (dflt TI)) (l.getD (IntKind.i64.wrap (i + 1)).toNat (dflt TI))]) (IntKind.i64.wrap (i + 2)) ∧ ((l.length : Int) - IntKind.i64.wrap (i + 2)).toNat < ((l.length : Int) - i).toNat := by
  obtain ⟨h0, h1, h2⟩ := h
  rw [w64 (x := i + 1) (by omega) (by omega)] at g ⊢
  rw [w64 (x := i + 2) (by omega) (by omega)]
  have a1 : i.toNat < l.length := by omega
  have a2 : i.toNat + 1 < l.length := by omega
  have e1 : (i + 1).toNat = i.toNat + 1 := by omega
  have e2 : (i + 2).toNat = i.toNat + 2 := by omega
  refine ⟨⟨by omega, ?_, by simp only [List.length_append, List.length_singleton]; omega⟩, by omega⟩
  rw [h1, e1, e2, List.drop_eq_getElem_cons a1, List.drop_eq_getElem_cons a2]
  have g1 : l.getD i.toNat (dflt TI) = l[i.toNat] := by rw [List.getD_eq_getElem?_getD, List.getElem?_eq_getElem a1]; rfl
  have g2 : l.getD (i.toNat + 1) (dflt TI) = l[i.toNat + 1] := by rw [List.getD_eq_getElem?_getD, List.getElem?_eq_getElem a2]; rfl
  rw [g1, g2, upF, List.append_assoc]; rfl
theorem li1 {m : Int} {l out : List Int} {i : Int} (h : liInv m l out i) (hl : i < (l.length : Int)) (hs : l.length ≤ 1048576) (g : ¬ IntKind.i64.wrap (i + 1) < (l.length : Int)) :
    liInv m l (out ++ [l.getD i.toNat (dflt TI)]) (IntKind.i64.wrap (i + 2)) ∧ ((l.length : Int) - IntKind.i64.wrap (i + 2)).toNat < ((l.length : Int) - i).toNat := by
  obtain ⟨h0, h1, h2⟩ := h
  rw [w64 (x := i + 1) (by omega) (by omega)] at g
  rw [w64 (x := i + 2) (by omega) (by omega)]
  have a1 : i.toNat < l.length := by omega
  refine ⟨⟨by omega, ?_, by simp only [List.length_append, List.length_singleton]; omega⟩, by omega⟩
  have g1 : l.getD i.toNat (dflt TI) = l[i.toNat] := by rw [List.getD_eq_getElem?_getD, List.getElem?_eq_getElem a1]; rfl
  rw [h1, List.drop_eq_getElem_cons a1, List.drop_eq_nil_of_le (by omega), List.drop_eq_nil_of_le (by omega), g1]
  simp [upF]
theorem liEnd {m : Int} {l out : List Int} {i : Int} (h : liInv m l out i) (hl : ¬ i < (l.length : Int)) : out = upF m l := by
  rw [h.2.1, List.drop_eq_nil_of_le (by omega)]; simp [upF]
/-- items' digests -/
noncomputable def idF (m : Int) (x : Item) : Int × Bool := (itemDigF m x, true)
noncomputable def digItemsF (m : Int) (l : List Item) : Int := treeF m (pickF (idF m) l)
abbrev Parcel := Int × Int × List Item × Int
noncomputable def checkParcelF (p : Parcel) (m : Int) : Bool :=
  efF (fun x => !(itemF x)) (fun (b : Bool) _ => b) false p.2.2.1 (pick2 (inRangeF (p.2.2.1.length : Int) 1 8) (p.2.2.2 == digItemsF m p.2.2.1) false)
end Fw
