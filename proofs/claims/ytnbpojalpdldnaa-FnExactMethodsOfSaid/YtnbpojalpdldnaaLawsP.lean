/- Plain laws of gathering by a test; pieces of evidence and what they tell. Conditions: none. -/
import Derived.Test.YtnbpojalpdldnaaLawsN
import Derived.Test.YtnbpojalpdldnaaLawsM
namespace Fw
open Go
set_option linter.unusedSimpArgs false
set_option linter.unusedVariables false
/-- what the elements give, of those that give something -/
def pickF {α β : Type} (f : α → β × Bool) (L : List α) : List β := L.filterMap (fun x => if (f x).2 = true then some (f x).1 else none)
def pkInv {α β : Type} (f : α → β × Bool) (L : List α) (acc : List β) (i : Int) : Prop := upInv L i ∧ acc = pickF f (L.take i.toNat)
theorem pkStart {α β : Type} {f : α → β × Bool} {L : List α} : pkInv f L [] 0 := ⟨upStart, by simp [pickF]⟩
theorem pkRange {α β : Type} {f : α → β × Bool} {L : List α} {acc : List β} {i : Int} (h : pkInv f L acc i) (hl : i < L.length) : inRange i L.length := upRange h.1 hl
theorem pick_len {α β : Type} (f : α → β × Bool) (L : List α) : (pickF f L).length ≤ L.length := List.length_filterMap_le _ _
theorem pkLen {α β : Type} {f : α → β × Bool} {L : List α} {acc : List β} {i : Int} (h : pkInv f L acc i) (hs : L.length ≤ 1048576) : acc.length + 1 ≤ maxApp := by
  have := pick_len f (L.take i.toNat)
  rw [← h.2, List.length_take] at this
  unfold maxApp; omega
theorem pick_app {α β : Type} (f : α → β × Bool) (L : List α) (x : α) : pickF f (L ++ [x]) = pickF f L ++ (if (f x).2 = true then [(f x).1] else []) := by
  unfold pickF
  rw [List.filterMap_append]
  congr 1
  split
  · rename_i h; simp [h]
  · rename_i h; simp [h]
theorem pkStep {α β : Type} {f : α → β × Bool} {L : List α} {acc acc' : List β} {d : α} {i : Int} (h : pkInv f L acc i) (hl : i < L.length) (hb : L.length ≤ bigLen)
    (e : acc' = acc ++ (if (f (L.getD i.toNat d)).2 = true then [(f (L.getD i.toNat d)).1] else [])) :
    pkInv f L acc' (IntKind.i64.wrap (i + 1)) ∧ (L.length - (IntKind.i64.wrap (i + 1))).toNat < (L.length - i).toNat := by
  obtain ⟨u1, u2, u3⟩ := upStep h.1 hl hb
  obtain ⟨k, hk, e1⟩ := h.1
  refine ⟨⟨u1, ?_⟩, u3⟩
  have e2 : (IntKind.i64.wrap (i + 1)).toNat = i.toNat + 1 := by rw [u2]; omega
  have hi : i.toNat < L.length := by omega
  rw [e2, take_succD hi d, pick_app, e, h.2]
theorem pkYes {α β : Type} {f : α → β × Bool} {L : List α} {acc : List β} {d : α} {i : Int} (h : pkInv f L acc i) (hl : i < L.length) (hb : L.length ≤ bigLen) (g : (f (L.getD i.toNat d)).2 = true) :
    pkInv f L (acc ++ [(f (L.getD i.toNat d)).1]) (IntKind.i64.wrap (i + 1)) ∧ (L.length - (IntKind.i64.wrap (i + 1))).toNat < (L.length - i).toNat :=
  pkStep (d := d) h hl hb (by rw [if_pos g])
theorem pkNo {α β : Type} {f : α → β × Bool} {L : List α} {acc : List β} {d : α} {i : Int} (h : pkInv f L acc i) (hl : i < L.length) (hb : L.length ≤ bigLen) (g : (f (L.getD i.toNat d)).2 = false) :
    pkInv f L acc (IntKind.i64.wrap (i + 1)) ∧ (L.length - (IntKind.i64.wrap (i + 1))).toNat < (L.length - i).toNat :=
  pkStep (d := d) h hl hb (by rw [if_neg (by rw [g]; decide), List.append_nil])
theorem pkEnd {α β : Type} {f : α → β × Bool} {L : List α} {acc : List β} {i : Int} (h : pkInv f L acc i) (hl : ¬ i < L.length) : acc = pickF f L := by
  obtain ⟨k, hk, e1⟩ := h.1
  rw [h.2, List.take_of_length_le (by omega)]
theorem pickBig {α β : Type} {f : α → β × Bool} {L : List α} (h : L.length ≤ 1048576) : (pickF f L).length ≤ 1000000000000 := by
  have := pick_len f L; omega

theorem kindK {p : Piece} {k : Int} (h : (kindF p != k) = false) (hk : k ≠ 0) {n : Nat} (hn : List.getD [7, 5, 5, 9, 6] (IntKind.i64.wrap (k - 101)).toNat (dflt TI) = (n : Int)) : List.length p.2.1 = n := by
  have h1 := bneI h
  unfold kindF at h1
  split at h1
  · exact (hk h1.symm).elim
  · rename_i hh
    have hh : pick2 (kb1 p) true (kb2 p) = false := by simpa using hh
    have e := bneI (orF hh).2
    unfold tblP at e
    rw [h1, hn] at e
    omega
theorem nIdx {l : List Int} {n : Nat} (h : List.length l = n) (j : Nat) (hj : j < n) : inRange (j : Int) l.length :=
  upRange (a := l) ⟨j, by omega, rfl⟩ (by omega)
abbrev Mandate := Int × Int × Int × Int × Int × Int
abbrev Status := Int × Int × Int × Int × Int
def pmBad (p : Piece) : Bool := pick2 (kindF p != 105) true (nth p 5 != p.1)
def pieceMandF (p : Piece) : Mandate × Bool := if pmBad p = true then ((0, 0, 0, 0, 0, 0), false) else ((nth p 1, nth p 2, nth p 3, nth p 4, nth p 5, p.2.2), true)
theorem pm0 {p : Piece} (h : pmBad p = true) : pieceMandF p = ((0, 0, 0, 0, 0, 0), false) := by unfold pieceMandF; rw [if_pos h]
theorem pm1 {p : Piece} (h : pmBad p = false) : pieceMandF p = ((nth p 1, nth p 2, nth p 3, nth p 4, nth p 5, p.2.2), true) := by unfold pieceMandF; rw [if_neg (by rw [h]; decide)]
theorem pmN {p : Piece} (h : (kindF p != 105) = false) : List.length p.2.1 = 6 := kindK h (by decide) rfl
def psBad (p : Piece) : Bool := pick2 (kindF p != 102) true (nth p 4 != p.1)
def pieceStatF (p : Piece) : Status × Bool := if psBad p = true then ((0, 0, 0, 0, 0), false) else ((nth p 1, nth p 2, nth p 3, nth p 4, p.2.2), true)
theorem ps0 {p : Piece} (h : psBad p = true) : pieceStatF p = ((0, 0, 0, 0, 0), false) := by unfold pieceStatF; rw [if_pos h]
theorem ps1 {p : Piece} (h : psBad p = false) : pieceStatF p = ((nth p 1, nth p 2, nth p 3, nth p 4, p.2.2), true) := by unfold pieceStatF; rw [if_neg (by rw [h]; decide)]
theorem psN {p : Piece} (h : (kindF p != 102) = false) : List.length p.2.1 = 5 := kindK h (by decide) rfl
def mandatesF (l : List Piece) : List Mandate := pickF pieceMandF l
/-- of a piece: the answer about this certificate -/
def statFor (c : Cert) (p : Piece) : Status × Bool := ((pieceStatF p).1, pick2 (pick2 (pieceStatF p).2 ((pieceStatF p).1.1 == c.1) false) ((pieceStatF p).1.2.2.2.1 == c.2.2.2.2.2.1) false)
def statusesF (l : List Piece) (c : Cert) : List Status := pickF (statFor c) l
theorem mandatesBig {l : List Piece} (h : l.length ≤ 1048576) : (mandatesF l).length ≤ 1000000000000 := pickBig h
theorem statusesBig {l : List Piece} {c : Cert} (h : l.length ≤ 1048576) : (statusesF l c).length ≤ 1000000000000 := pickBig h
/-! two rows side by side -/
theorem pkYesE {α β : Type} {f : α → β × Bool} {L : List α} {acc acc' : List β} {d : α} {i : Int} (h : pkInv f L acc i) (hl : i < L.length) (hb : L.length ≤ bigLen) (g : (f (L.getD i.toNat d)).2 = true)
    (e : acc' = acc ++ [(f (L.getD i.toNat d)).1]) : pkInv f L acc' (IntKind.i64.wrap (i + 1)) ∧ (L.length - (IntKind.i64.wrap (i + 1))).toNat < (L.length - i).toNat := by
  rw [e]; exact pkYes h hl hb g
theorem zGet {a b : List Int} {i : Int} (h : 0 ≤ i) (hl : i < ((a.zip b).length : Int)) : (a.zip b).getD i.toNat (0, 0) = (a.getD i.toNat (dflt TI), b.getD i.toNat (dflt TI)) := by
  rw [List.length_zip] at hl
  have h1 : i.toNat < a.length := by omega
  have h2 : i.toNat < b.length := by omega
  have h3 : i.toNat < (a.zip b).length := by rw [List.length_zip]; omega
  rw [List.getD_eq_getElem?_getD, List.getD_eq_getElem?_getD, List.getD_eq_getElem?_getD, List.getElem?_eq_getElem h3, List.getElem?_eq_getElem h1, List.getElem?_eq_getElem h2, List.getElem_zip]
  rfl
theorem pkPos {α β : Type} {f : α → β × Bool} {L : List α} {acc : List β} {i : Int} (h : pkInv f L acc i) : 0 ≤ i := by obtain ⟨k, _, e⟩ := h.1; omega
theorem zipLt {a b : List Int} {i : Int} (h1 : i < (a.length : Int)) (h2 : i < (b.length : Int)) : i < ((a.zip b).length : Int) := by rw [List.length_zip]; omega
theorem zipGe {a b : List Int} {i : Int} (h : ¬ (i < (a.length : Int) ∧ i < (b.length : Int))) : ¬ i < ((a.zip b).length : Int) := by rw [List.length_zip]; omega
theorem andLt {i m n : Int} (h : pick2 (decide (i < m)) (decide (i < n)) false = true) : i < m ∧ i < n := by
  unfold pick2 at h
  cases h1 : decide (i < m) <;> rw [h1] at h
  · cases h
  · exact ⟨of_decide_eq_true h1, of_decide_eq_true h⟩
theorem andGe {i m n : Int} (h : pick2 (decide (i < m)) (decide (i < n)) false = false) : ¬ (i < m ∧ i < n) := by
  rintro ⟨h1, h2⟩
  unfold pick2 at h
  rw [decide_eq_true h1, decide_eq_true h2] at h
  cases h
theorem zipL {a b : List Int} {i : Int} (h : i < ((a.zip b).length : Int)) : i < (a.length : Int) := by rw [List.length_zip] at h; omega
theorem zipR {a b : List Int} {i : Int} (h : i < ((a.zip b).length : Int)) : i < (b.length : Int) := by rw [List.length_zip] at h; omega
noncomputable def stF (keys : List Key) (l : List Authority) (seq dg : Int) (p : Int × Int) : Stamp × Bool := makeStampF keys l (p.1, seq, p.2, dg, 0)
noncomputable def stampAllF (keys : List Key) (l : List Authority) (ids : List Int) (seq : Int) (times : List Int) (dg : Int) : List Stamp := pickF (stF keys l seq dg) (ids.zip times)
theorem stampAllBig {keys : List Key} {l : List Authority} {ids times : List Int} {seq dg : Int} (h : ids.length ≤ 1048576) : (stampAllF keys l ids seq times dg).length ≤ 1000000000000 :=
  pickBig (by rw [List.length_zip]; omega)
def aliveF (l : List Method) (n t : Int) : Bool := pick2 (pick2 (decide (methI l n ≥ 0)) (decide ((methAt l n).2.1 ≤ t)) false) (decide (t < (methAt l n).2.2.2)) false
theorem geNot {x : Int} (h : decide (x ≥ 0) = true) : ¬ x < 0 := by have := of_decide_eq_true h; omega
def paT (f : Frame) (a : Authority) : Bool :=
  pick2 (pick2 (pick2 (decide (keyI f.1 a.2.1 ≥ 0)) (decide ((keyAt f.1 a.2.1).2.2.2.1 ≤ f.2.2.2.2)) false) (aliveF f.2.2.1 (keyAt f.1 a.2.1).2.2.1 f.2.2.2.2) false) (decide (mEnds f.2.2.1 (keyAt f.1 a.2.1).2.2.1 > f.2.2.2.2)) false
def paF (f : Frame) (a : Authority) : Int × Bool := (a.1, paT f a)
theorem paNo {f : Frame} {a : Authority} (h : keyI f.1 a.2.1 < 0) : (paF f a).2 = false := by
  show paT f a = false
  unfold paT
  rw [decide_eq_false (by omega : ¬ keyI f.1 a.2.1 ≥ 0)]
  simp [pick2]
theorem paRest {f : Frame} {a : Authority} (h : ¬ keyI f.1 a.2.1 < 0) :
    (paF f a).2 = pick2 (pick2 (decide ((keyAt f.1 a.2.1).2.2.2.1 ≤ f.2.2.2.2)) (aliveF f.2.2.1 (keyAt f.1 a.2.1).2.2.1 f.2.2.2.2) false) (decide (mEnds f.2.2.1 (keyAt f.1 a.2.1).2.2.1 > f.2.2.2.2)) false := by
  show paT f a = _
  unfold paT
  rw [decide_eq_true (by omega : keyI f.1 a.2.1 ≥ 0)]
  rfl
def planF (f : Frame) : List Int := pickF (paF f) f.2.1
theorem planBig {f : Frame} (h : f.2.1.length ≤ 1048576) : (planF f).length ≤ 1000000000000 := pickBig h
end Fw
