/- Plain laws of documents, strands, items and archives being well formed. Conditions: none. -/
import Derived.Test.YtnbpojalpdldnaaLawsG
import Derived.Test.YtnbpojalpdldnaaLawsE
namespace Fw
open Go
noncomputable def boolC (P : Prop) : Bool := @decide P (Classical.propDecidable _)
theorem boolC_iff {P : Prop} : boolC P = true ↔ P := by unfold boolC; simp
theorem boolC_yes {P : Prop} (h : P) : true = boolC P := (boolC_iff.2 h).symm
theorem boolC_no {P : Prop} (h : P → False) : false = boolC P := by
  cases he : boolC P with
  | false => rfl
  | true => exact (h (boolC_iff.1 he)).elim
theorem boolC_by {P : Prop} {b : Bool} (h1 : b = true → P) (h2 : P → b = true) : b = boolC P := by
  cases hb : b with
  | true => exact boolC_yes (h1 hb)
  | false => exact boolC_no fun e => by rw [h2 e] at hb; cases hb
/-- so far each place is as wanted -/
def kInv {α : Type} (P : Nat → Prop) (L : List α) (i : Int) : Prop := upInv L i ∧ ∀ k, k < i.toNat → P k
theorem kStart {α : Type} {P : Nat → Prop} {L : List α} : kInv P L 0 := ⟨upStart, fun k hk => by simp at hk⟩
theorem kStep {α : Type} {P : Nat → Prop} {L : List α} {i : Int} (h : kInv P L i) (hl : i < L.length) (hb : L.length ≤ bigLen) (hP : P i.toNat) :
    kInv P L (IntKind.i64.wrap (i + 1)) ∧ (L.length - (IntKind.i64.wrap (i + 1))).toNat < (L.length - i).toNat := by
  obtain ⟨u1, u2, u3⟩ := upStep h.1 hl hb
  refine ⟨⟨u1, fun k hk => ?_⟩, u3⟩
  obtain ⟨n, hn, e⟩ := h.1
  rw [u2] at hk
  by_cases hk2 : k < i.toNat
  · exact h.2 k hk2
  · have : k = i.toNat := by omega
    rw [this]; exact hP
theorem kEnd {α : Type} {P : Nat → Prop} {L : List α} {i : Int} (h : kInv P L i) (hl : ¬ i < L.length) : ∀ k, k < L.length → P k := by
  intro k hk
  exact h.2 k (by omega)
theorem kLt {α : Type} {P : Nat → Prop} {L : List α} {i : Int} (h : kInv P L i) (hl : i < L.length) : i.toNat < L.length := by
  obtain ⟨n, hn, e⟩ := h.1; omega
theorem kRange {α : Type} {P : Nat → Prop} {L : List α} {i : Int} (h : kInv P L i) (hl : i < L.length) : inRange i L.length := upRange h.1 hl
theorem lenBeq {m n : Nat} (h : m = n) : ((m : Int) == (n : Int)) = true := by rw [h]; simp
theorem lenNe {m n : Nat} (h : m = n) (h2 : ((m : Int) != (n : Int)) = true) : False := by rw [h] at h2; simp at h2
theorem lenBeqI {m n : Nat} (h : ((m : Int) == (n : Int)) = true) : m = n := by have := beqI2 h; omega

abbrev Doc := Int × List (List UInt8) × List Int
abbrev Piece := Int × List Int × Int
abbrev Renewal := Int × Int × Int × List (Int × Bool) × List Stamp
abbrev Strand := List Piece × List Renewal
abbrev Sig := Int × Int × Int × Int × Int × Int × Int × Int × Int
abbrev Item := Int × Int × Doc × Sig × Strand
abbrev Archive := Int × List Item
abbrev TPiece : Ty := .pair TI (.pair (.slice TI) TI)
abbrev TRen : Ty := .pair TI (.pair TI (.pair TI (.pair (.slice (.pair TI .bool)) (.slice TStamp))))

def docP (a : Doc) : Prop := inRangeF a.1 0 999 = true ∧ inRangeF (List.length a.2.1 : Int) 1 6 = true ∧ List.length a.2.2 = List.length a.2.1 ∧
  (∀ k, k < List.length a.2.1 → (List.length (List.getD a.2.1 k (dflt .str)) : Int) ≤ 40) ∧ (∀ k, k < List.length a.2.2 → inRangeF (List.getD a.2.2 k (dflt (.int .i64))) 1 1000000000000 = true)
noncomputable def docF (a : Doc) : Bool := boolC (docP a)

noncomputable def findPieceF (s : Strand) (p : Piece) : Int := findI (fun x => eqC x p) s.1
noncomputable def hasF (l : List Piece) (p : Piece) : Bool := boolC (∃ x ∈ l, x = p)
def pieceAt (s : Strand) (k : Nat) : Piece := List.getD s.1 k (dflt TPiece)
def renAt (s : Strand) (k : Nat) : Renewal := List.getD s.2 k (dflt TRen)
def newP (s : Strand) (k : Nat) : Prop := ∀ j, j < k → pieceAt s j ≠ pieceAt s k
def renP (s : Strand) (k : Nat) : Prop := inRangeF (renAt s k).1 1 (List.length s.1 : Int) = true ∧ (0 < k → (renAt s (k - 1)).1 ≤ (renAt s k).1)
def strandP (s : Strand) : Prop := inRangeF (List.length s.1 : Int) 1 12 = true ∧ (List.length s.2 : Int) ≤ 8 ∧ (∀ k, k < List.length s.1 → newP s k) ∧ (∀ k, k < List.length s.2 → renP s k)
noncomputable def strandF (s : Strand) : Bool := boolC (strandP s)
theorem findLt {s : Strand} {k : Nat} (hk : k < s.1.length) : findPieceF s (pieceAt s k) < (k : Int) ↔ ¬ newP s k := by
  unfold findPieceF findI newP
  have hp : ∀ j (hj : j < s.1.length), pieceAt s j = s.1[j] := fun j hj => by unfold pieceAt; rw [List.getD_eq_getElem?_getD, List.getElem?_eq_getElem hj]; rfl
  split
  · rename_i m hm
    obtain ⟨h1, h2, h3⟩ := List.findIdx?_eq_some_iff_getElem.1 hm
    have h2 := eqC_iff.1 h2
    constructor
    · intro hlt hn
      exact hn m (by omega) (by rw [hp m h1]; exact h2)
    · intro hn
      by_cases hlt : (m : Int) < k
      · exact hlt
      · exfalso; apply hn
        intro j hj e
        have := h3 j (by omega)
        rw [← hp j (by omega), e, eqC_self] at this
        exact absurd rfl this
  · rename_i hm
    have := List.findIdx?_eq_none_iff.1 hm (pieceAt s k) (by rw [hp k hk]; exact List.getElem_mem hk)
    rw [eqC_self] at this; cases this
theorem hasTake {s : Strand} {k : Nat} (hk : k < s.1.length) : hasF (s.1.take k) (pieceAt s k) = true ↔ ¬ newP s k := by
  unfold hasF newP
  rw [boolC_iff]
  have hp : ∀ j (hj : j < s.1.length), pieceAt s j = s.1[j] := fun j hj => by unfold pieceAt; rw [List.getD_eq_getElem?_getD, List.getElem?_eq_getElem hj]; rfl
  constructor
  · rintro ⟨x, hx, e⟩ hn
    obtain ⟨j, hj, e2⟩ := List.mem_take_iff_getElem.1 hx
    exact hn j (by omega) (by rw [hp j (by omega), e2, e])
  · intro hn
    apply Classical.byContradiction
    intro hc
    apply hn
    intro j hj e
    exact hc ⟨s.1[j], List.mem_take_iff_getElem.2 ⟨j, by omega, rfl⟩, by rw [← e, hp j (by omega)]⟩
/-- one place before -/
theorem backW {α : Type} {L : List α} {i : Int} (h : upInv L i) (hb : L.length ≤ bigLen) (h0 : i > 0) : IntKind.i64.wrap (i - 1) = i - 1 := by
  obtain ⟨k, hk, rfl⟩ := h
  unfold bigLen at hb
  exact w64 (by omega) (by omega)
theorem backRange {α : Type} {P : Nat → Prop} {L : List α} {i : Int} (h : kInv P L i) (hl : i < L.length) (hb : L.length ≤ bigLen) (h0 : i > 0) : inRange (IntKind.i64.wrap (i - 1)) L.length := by
  rw [backW h.1 hb h0]
  exact upRange (i := i - 1) ⟨(i - 1).toNat, by omega, by omega⟩ (by omega)
theorem hasYes {l : List Piece} {p d : Piece} {i : Int} (h : fInv (fun x => eqC x p) l i) (hl : i < l.length) (he : (fun x => eqC x p) (l.getD i.toNat d) = true) : true = hasF l p :=
  boolC_yes ⟨l.getD i.toNat d, upElem h.1 hl, eqC_iff.1 he⟩
theorem hasNo {l : List Piece} {p : Piece} {i : Int} (h : fInv (fun x => eqC x p) l i) (hl : ¬ i < l.length) : false = hasF l p := by
  refine boolC_no ?_
  rintro ⟨x, hx, e⟩
  have := List.find?_eq_none.1 (fFindEnd h hl) x hx
  exact this (eqC_iff.2 e)
theorem newBad {s : Strand} {P : Nat → Prop} {i : Int} (h : kInv P s.1 i) (hl : i < s.1.length) (he : findPieceF s (pieceAt s i.toNat) < i) : ¬ newP s i.toNat := by
  obtain ⟨k, hk, e⟩ := h.1
  have h1 : i.toNat = k := by omega
  rw [h1] at he ⊢
  exact (findLt (by omega)).1 (by omega)
theorem newGood {s : Strand} {P : Nat → Prop} {i : Int} (h : kInv P s.1 i) (hl : i < s.1.length) (he : ¬ findPieceF s (pieceAt s i.toNat) < i) : newP s i.toNat := by
  obtain ⟨k, hk, e⟩ := h.1
  have h1 : i.toNat = k := by omega
  rw [h1] at he ⊢
  exact Classical.byContradiction fun hc => he (by have := (findLt (by omega)).2 hc; omega)
theorem headCond {α : Type} {P : Nat → Prop} {L : List α} {i : Int} (h : kInv P L i) (hl : i < L.length) : conj [(0 : Int) ≤ 0, (0 : Int) ≤ i, i ≤ (L.length : Int)] := by
  obtain ⟨k, hk, e⟩ := h.1
  exact ⟨Int.le_refl _, (show (0 : Int) ≤ i from by omega), (show i ≤ (L.length : Int) from by omega)⟩
theorem hasBad {s : Strand} {P : Nat → Prop} {i : Int} (h : kInv P s.1 i) (hl : i < s.1.length) (he : hasF (subL s.1 0 i) (pieceAt s i.toNat) = true) : ¬ newP s i.toNat :=
  (hasTake (kLt h hl)).1 he
theorem hasGood {s : Strand} {P : Nat → Prop} {i : Int} (h : kInv P s.1 i) (hl : i < s.1.length) (he : hasF (subL s.1 0 i) (pieceAt s i.toNat) = false) : newP s i.toNat :=
  Classical.byContradiction fun hc => by
    have e : hasF (subL s.1 0 i) (pieceAt s i.toNat) = true := (hasTake (kLt h hl)).2 hc
    rw [he] at e; cases e
def renBadF (s : Strand) (i : Int) : Bool := pick2 (!(inRangeF (renAt s i.toNat).1 1 (List.length s.1 : Int))) true (pick2 (decide (i > 0)) (decide ((renAt s (IntKind.i64.wrap (i - 1)).toNat).1 > (renAt s i.toNat).1)) false)
theorem renIff {s : Strand} {P : Nat → Prop} {i : Int} (h : kInv P s.2 i) (_ : i < s.2.length) (hb : s.2.length ≤ bigLen) : renBadF s i = false ↔ renP s i.toNat := by
  unfold renBadF renP
  by_cases h0 : i > 0
  · rw [backW h.1 hb h0]
    have e : (i - 1).toNat = i.toNat - 1 := by omega
    have e2 : decide (i > 0) = true := by simpa using h0
    rw [e, e2, pick2_or, pick2_and]
    simp only [Bool.or_eq_false_iff, Bool.true_and, Bool.not_eq_false', decide_eq_false_iff_not]
    constructor
    · rintro ⟨h1, h2⟩; exact ⟨h1, fun _ => by omega⟩
    · rintro ⟨h1, h2⟩; exact ⟨h1, by have := h2 (by omega); omega⟩
  · have e2 : decide (i > 0) = false := by simpa using h0
    rw [e2, pick2_or, pick2_and]
    simp only [Bool.or_eq_false_iff, Bool.false_and, Bool.not_eq_false', and_true]
    constructor
    · intro h1; exact ⟨h1, fun _ => by omega⟩
    · rintro ⟨h1, h2⟩; exact h1
theorem renGood {s : Strand} {P : Nat → Prop} {i : Int} (h : kInv P s.2 i) (hl : i < s.2.length) (hb : s.2.length ≤ bigLen) (he : renBadF s i = false) : renP s i.toNat := (renIff h hl hb).1 he
theorem renBad {s : Strand} {P : Nat → Prop} {i : Int} (h : kInv P s.2 i) (hl : i < s.2.length) (hb : s.2.length ≤ bigLen) (he : renBadF s i = true) (hr : renP s i.toNat) : False := by
  rw [(renIff h hl hb).2 hr] at he; cases he
def sigIntsF (s : Sig) : List Int := [104, s.1, s.2.1, s.2.2.1, s.2.2.2.1, s.2.2.2.2.1, s.2.2.2.2.2.1, s.2.2.2.2.2.2.1, s.2.2.2.2.2.2.2.1]
def signPieceF (s : Sig) : Piece := (s.1, sigIntsF s, s.2.2.2.2.2.2.2.2)
noncomputable def itemF (x : Item) : Bool :=
  pick2 (pick2 (pick2 (pick2 (inRangeF x.1 1 999) (isTimeF x.2.1) false) (docF x.2.2.1) false) (strandF x.2.2.2.2) false) (eqC (pieceAt x.2.2.2.2 0) (signPieceF x.2.2.2.1)) false
theorem strand0 {s : Strand} {b : Bool} (h : pick2 b (strandF s) false = true) : inRange 0 s.1.length := by
  have h1 : strandP s := boolC_iff.1 (andT h).2
  have h2 := h1.1
  unfold inRangeF at h2
  have h3 := of_decide_eq_true (andT h2).1
  exact upRange (a := s.1) ⟨0, Nat.zero_le _, rfl⟩ (by omega)
end Fw
