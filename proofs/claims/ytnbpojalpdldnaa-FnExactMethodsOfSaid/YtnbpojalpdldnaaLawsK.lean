/- Plain laws of digests of documents, pieces, renewals and items. Conditions: none. -/
import Derived.Test.YtnbpojalpdldnaaLawsH
namespace Fw
open Go
/-- numbers are gathered, place by place -/
def gsInv {α : Type} (g : Nat → List Int) (z : List Int) (L : List α) (acc : List Int) (i : Int) : Prop := upInv L i ∧ acc = z ++ (List.range i.toNat).flatMap g
theorem gsStart {α : Type} {g : Nat → List Int} {z : List Int} {L : List α} : gsInv g z L z 0 := ⟨upStart, by simp⟩
theorem gsStep {α : Type} {g : Nat → List Int} {z : List Int} {L : List α} {acc acc' : List Int} {i : Int} (h : gsInv g z L acc i) (hl : i < L.length) (hb : L.length ≤ bigLen)
    (e : acc' = acc ++ g i.toNat) : gsInv g z L acc' (IntKind.i64.wrap (i + 1)) ∧ (L.length - (IntKind.i64.wrap (i + 1))).toNat < (L.length - i).toNat := by
  obtain ⟨u1, u2, u3⟩ := upStep h.1 hl hb
  obtain ⟨k, hk, e1⟩ := h.1
  refine ⟨⟨u1, ?_⟩, u3⟩
  have e2 : (IntKind.i64.wrap (i + 1)).toNat = i.toNat + 1 := by rw [u2]; omega
  rw [e, h.2, e2, List.range_succ, List.flatMap_append, List.append_assoc]
  simp
theorem gsEnd {α : Type} {g : Nat → List Int} {z : List Int} {L : List α} {acc : List Int} {i : Int} (h : gsInv g z L acc i) (hl : ¬ i < L.length) : acc = z ++ (List.range L.length).flatMap g := by
  obtain ⟨k, hk, e1⟩ := h.1
  have : i.toNat = L.length := by omega
  rw [h.2, this]
theorem flatLen {g : Nat → List Int} {c : Nat} (hc : ∀ k, (g k).length ≤ c) : ∀ n, ((List.range n).flatMap g).length ≤ c * n
  | 0 => by simp
  | n + 1 => by
    rw [List.range_succ, List.flatMap_append, List.length_append]
    have h1 := flatLen hc n
    have h2 := hc n
    have h3 : (List.flatMap g [n]).length ≤ c := by simpa using h2
    rw [Nat.mul_succ]; omega
theorem gsLen {α : Type} {g : Nat → List Int} {z : List Int} {L : List α} {acc : List Int} {i : Int} {c m n : Nat} (h : gsInv g z L acc i) (hc : ∀ k, (g k).length ≤ c) (hL : L.length ≤ m) (hn : z.length + c * m ≤ n) : acc.length ≤ n := by
  obtain ⟨k, hk, e1⟩ := h.1
  rw [h.2, List.length_append]
  have h1 := flatLen hc i.toNat
  have h2 : c * i.toNat ≤ c * m := Nat.mul_le_mul_left c (by omega)
  omega
theorem gsRange {α : Type} {g : Nat → List Int} {z : List Int} {L : List α} {acc : List Int} {i : Int} (h : gsInv g z L acc i) (hl : i < L.length) : inRange i L.length := upRange h.1 hl

def partG (s : List UInt8) (k : Nat) : List Int := [IntKind.i64.wrap (((s.getD k 0).toNat : Int))]
noncomputable def partF (id : Int) (s : List UInt8) (x : Int) : Int := digestF id ([x] ++ (List.range s.length).flatMap (partG s))
def byteG (l : List Int) (k : Nat) : List Int := [IntKind.i64.wrap (l.getD k (dflt (.int .u8)))]
def bytesF (l : List Int) : List Int := [] ++ (List.range l.length).flatMap (byteG l)
theorem flatCongr {g h : Nat → List Int} : ∀ n, (∀ k, k < n → g k = h k) → (List.range n).flatMap g = (List.range n).flatMap h
  | 0, _ => rfl
  | n + 1, e => by
    rw [List.range_succ, List.flatMap_append, List.flatMap_append, flatCongr n (fun k hk => e k (by omega))]
    simp [e n (by omega)]
theorem bytesEq (s : List UInt8) : bytesF (bytesOf s) = (List.range s.length).flatMap (partG s) := by
  unfold bytesF
  have hl : (bytesOf s).length = s.length := by unfold bytesOf; rw [List.length_map]
  rw [List.nil_append, hl]
  refine flatCongr _ fun k hk => ?_
  unfold byteG partG bytesOf
  rw [List.getD_eq_getElem?_getD, List.getElem?_map, List.getD_eq_getElem?_getD, List.getElem?_eq_getElem hk]
  rfl
theorem bytesLen (s : List UInt8) : (bytesF (bytesOf s)).length = s.length := by
  unfold bytesF bytesOf
  have : ∀ (l : List Int) n, ((List.range n).flatMap (byteG l)).length = n := fun l n => by
    induction n with
    | zero => rfl
    | succ n ih => rw [List.range_succ, List.flatMap_append, List.length_append, ih]; simp [byteG]
  rw [List.nil_append, this, List.length_map]
noncomputable def docG (id : Int) (d : Doc) (k : Nat) : List Int := [partF id (d.2.1.getD k (dflt .str)) (d.2.2.getD k (dflt (.int .i64)))]
noncomputable def docDigF (id : Int) (d : Doc) : Int := if docF d = true then digestF id ([d.1] ++ (List.range d.2.1.length).flatMap (docG id d)) else -1
theorem docDig0 {id : Int} {d : Doc} (h : (!(docF d)) = true) : (-1 : Int) = docDigF id d := by
  unfold docDigF; rw [if_neg (by intro e; rw [e] at h; cases h)]
theorem docDig1 {id : Int} {d : Doc} {acc : List Int} {i : Int} (h : (!(docF d)) = false) (hI : gsInv (docG id d) [d.1] d.2.1 acc i) (hl : ¬ i < d.2.1.length) : digestF id acc = docDigF id d := by
  unfold docDigF; rw [if_pos (notF h), gsEnd hI hl]
theorem docP_of {d : Doc} (h : (!(docF d)) = false) : docP d := boolC_iff.1 (notF h)
theorem docN {d : Doc} (h : docP d) : d.2.1.length ≤ 6 := by
  have h1 := h.2.1
  unfold inRangeF at h1
  have := of_decide_eq_true (andT h1).2
  omega
theorem doc40 {d : Doc} (h : docP d) {i : Int} {acc : List Int} {g : Nat → List Int} {z : List Int} (hI : gsInv g z d.2.1 acc i) (hl : i < d.2.1.length) : (d.2.1.getD i.toNat (dflt .str)).length ≤ 40 := by
  obtain ⟨k, hk, e⟩ := hI.1
  have := h.2.2.2.1 i.toNat (by omega)
  omega
theorem docX {d : Doc} (h : docP d) {i : Int} {acc : List Int} {g : Nat → List Int} {z : List Int} (hI : gsInv g z d.2.1 acc i) (hl : i < d.2.1.length) : inRange i d.2.2.length := by
  rw [h.2.2.1]; exact gsRange hI hl
noncomputable def piecesG (id : Int) (l : List Piece) (k : Nat) : List Int := [digestF id ([(l.getD k (dflt TPiece)).1, (l.getD k (dflt TPiece)).2.2] ++ (l.getD k (dflt TPiece)).2.1)]
noncomputable def piecesF (id : Int) (l : List Piece) : Int := digestF id ([2] ++ (List.range l.length).flatMap (piecesG id l))
abbrev TStep : Ty := .pair TI .bool
def stepG (r : Renewal) (k : Nat) : List Int := [(r.2.2.2.1.getD k (dflt TStep)).1, if (r.2.2.2.1.getD k (dflt TStep)).2 = true then 1 else 0]
def stmpG (r : Renewal) (k : Nat) : List Int := stampIntsF (r.2.2.2.2.getD k (dflt TStamp)) ++ [(r.2.2.2.2.getD k (dflt TStamp)).2.2.2.2]
def renMid (r : Renewal) : List Int := ([4, r.1, r.2.1, r.2.2.1] ++ (List.range r.2.2.2.1.length).flatMap (stepG r)) ++ [(r.2.2.2.2.length : Int)]
noncomputable def renDigF (id : Int) (r : Renewal) : Int := digestF id (renMid r ++ (List.range r.2.2.2.2.length).flatMap (stmpG r))
noncomputable def renG (id : Int) (x : Item) (k : Nat) : List Int := [renDigF id (x.2.2.2.2.2.getD k (dflt TRen))]
noncomputable def itemHd (id : Int) (x : Item) : List Int := [5, x.1, x.2.1, docDigF id x.2.2.1, piecesF id x.2.2.2.2.1]
noncomputable def itemDigF (id : Int) (x : Item) : Int := digestF id (itemHd id x ++ (List.range x.2.2.2.2.2.length).flatMap (renG id x))
theorem stepYes {r : Renewal} {acc : List Int} {k : Nat} (h : (r.2.2.2.1.getD k (dflt TStep)).2 = true) : (acc ++ [(r.2.2.2.1.getD k (dflt TStep)).1]) ++ [1] = acc ++ stepG r k := by
  unfold stepG; rw [if_pos h, List.append_assoc]; rfl
theorem stepNo {r : Renewal} {acc : List Int} {k : Nat} (h : (r.2.2.2.1.getD k (dflt TStep)).2 = false) : (acc ++ [(r.2.2.2.1.getD k (dflt TStep)).1]) ++ [0] = acc ++ stepG r k := by
  unfold stepG; rw [if_neg (by rw [h]; decide), List.append_assoc]; rfl
theorem stepYesI {r : Renewal} {acc : List Int} {k : Nat} (h : (r.2.2.2.1.getD k (dflt TStep)).2 = true) : acc ++ [(r.2.2.2.1.getD k (dflt TStep)).1, 1] = acc ++ stepG r k := by
  unfold stepG; rw [if_pos h]
theorem stepNoI {r : Renewal} {acc : List Int} {k : Nat} (h : (r.2.2.2.1.getD k (dflt TStep)).2 = false) : acc ++ [(r.2.2.2.1.getD k (dflt TStep)).1, 0] = acc ++ stepG r k := by
  unfold stepG; rw [if_neg (by rw [h]; decide)]
theorem stmpEq {r : Renewal} {acc : List Int} {k : Nat} : (acc ++ stampIntsF (r.2.2.2.2.getD k (dflt TStamp))) ++ [(r.2.2.2.2.getD k (dflt TStamp)).2.2.2.2] = acc ++ stmpG r k := by
  unfold stmpG; rw [List.append_assoc]
theorem gsStart2 {α : Type} {g : Nat → List Int} {z acc : List Int} {L : List α} (e : acc = z) : gsInv g z L acc 0 := by rw [e]; exact gsStart
theorem renMidEq {r : Renewal} {acc : List Int} {i : Int} (h : gsInv (stepG r) [4, r.1, r.2.1, r.2.2.1] r.2.2.2.1 acc i) (hl : ¬ i < r.2.2.2.1.length) : acc ++ [(r.2.2.2.2.length : Int)] = renMid r := by
  unfold renMid; rw [← gsEnd h hl]
theorem midLen {r : Renewal} (h : r.2.2.2.1.length ≤ 1048576) : (renMid r).length ≤ 2097157 := by
  unfold renMid
  rw [List.length_append, List.length_append]
  have h1 := flatLen (g := stepG r) (c := 2) (fun _ => Nat.le_refl _) r.2.2.2.1.length
  simp only [List.length_cons, List.length_nil]
  omega
end Fw
