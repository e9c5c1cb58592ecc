/- Plain laws of gathering what can be trusted, and of what a signature came after. Conditions: none. -/
import Derived.Test.YtadkcilmknpkhaaGreatP2
namespace Fw
open Go
/-! the rows of pieces, one strand after the other -/
def uoInv (f : Frame) (e : Evidence) (docs : List (List Int)) (out : List Piece) (i : Int) : Prop := foInv (strG (usG f e docs)) [] e.1 out i
def uiInv (f : Frame) (e : Evidence) (docs : List (List Int)) (i : Int) (out : List Piece) (k : Int) : Prop :=
  foInv (usG f e docs) ((e.1.take i.toNat).foldl (strG (usG f e docs)) []) (e.1.getD i.toNat (dflt (.pair (.slice TPiece) (.slice TRen)))).1 out k
theorem uoStart {f : Frame} {e : Evidence} {docs : List (List Int)} : uoInv f e docs [] 0 := foStart
theorem uoRange {f : Frame} {e : Evidence} {docs : List (List Int)} {out : List Piece} {i : Int} (h : uoInv f e docs out i) (hl : i < e.1.length) : inRange i e.1.length := foRange h hl
theorem uiStart {f : Frame} {e : Evidence} {docs : List (List Int)} {out : List Piece} {i : Int} (h : uoInv f e docs out i) : uiInv f e docs i out 0 := by
  unfold uiInv
  rw [← h.2]
  exact foStart
theorem uiRange {f : Frame} {e : Evidence} {docs : List (List Int)} {out : List Piece} {i k : Int} (h : uiInv f e docs i out k) (hl : k < (e.1.getD i.toNat (dflt (.pair (.slice TPiece) (.slice TRen)))).1.length) :
    inRange k (e.1.getD i.toNat (dflt (.pair (.slice TPiece) (.slice TRen)))).1.length := foRange h hl
theorem uiAsc {f : Frame} {e : Evidence} {docs : List (List Int)} {out : List Piece} {i k : Int} (h : uiInv f e docs i out k) : AscP out := by
  rw [h.2]
  exact ascG (ascS List.Pairwise.nil)
theorem pieces_app (a b : List Strand) : pieces (a ++ b) = pieces a + pieces b := cellsL_append _ a b
theorem uiLen {f : Frame} {e : Evidence} {docs : List (List Int)} {out : List Piece} {i k : Int} (ho : inRange i e.1.length) (h : uiInv f e docs i out k)
    (hc : ((cellsC (.slice (.pair (.slice TPiece) (.slice TRen))) e.1 : Nat) : Int) ≤ 2000000000) : out.length ≤ 2000000000 := by
  have h0 := piecesCells e.1
  obtain ⟨o1, o2⟩ := ho
  have hi : i.toNat < e.1.length := by omega
  have h1 : out.length ≤ ((e.1.take i.toNat).foldl (strG (usG f e docs)) []).length + ((e.1.getD i.toNat (dflt (.pair (.slice TPiece) (.slice TRen)))).1.take k.toNat).length := by
    rw [h.2]; exact lenG
  have h2 : ((e.1.take i.toNat).foldl (strG (usG f e docs)) []).length ≤ ([] : List Piece).length + pieces (e.1.take i.toNat) := lenS
  have h3 : pieces e.1 = pieces (e.1.take (i.toNat + 1)) + pieces (e.1.drop (i.toNat + 1)) := by rw [← pieces_app, List.take_append_drop]
  have h4 : pieces (e.1.take (i.toNat + 1)) = pieces (e.1.take i.toNat) + (e.1.getD i.toNat (dflt (.pair (.slice TPiece) (.slice TRen)))).1.length := by
    rw [take_succD hi (dflt (.pair (.slice TPiece) (.slice TRen))), pieces_app]
    rfl
  rw [List.length_take] at h1
  simp only [List.length_nil] at h2
  omega
theorem uiStep {f : Frame} {e : Evidence} {docs : List (List Int)} {out out' : List Piece} {i k : Int} (h : uiInv f e docs i out k) (hl : k < (e.1.getD i.toNat (dflt (.pair (.slice TPiece) (.slice TRen)))).1.length)
    (hb : (e.1.getD i.toNat (dflt (.pair (.slice TPiece) (.slice TRen)))).1.length ≤ bigLen) (g : out' = usG f e docs out ((e.1.getD i.toNat (dflt (.pair (.slice TPiece) (.slice TRen)))).1.getD k.toNat (dflt TPiece))) :
    uiInv f e docs i out' (IntKind.i64.wrap (k + 1)) ∧ (((e.1.getD i.toNat (dflt (.pair (.slice TPiece) (.slice TRen)))).1.length : Int) - IntKind.i64.wrap (k + 1)).toNat < (((e.1.getD i.toNat (dflt (.pair (.slice TPiece) (.slice TRen)))).1.length : Int) - k).toNat := by
  rw [g]
  exact foStep (d := dflt TPiece) h hl hb
theorem uoStep {f : Frame} {e : Evidence} {docs : List (List Int)} {out0 out : List Piece} {i k : Int} (h : uoInv f e docs out0 i) (hl : i < e.1.length) (hb : e.1.length ≤ bigLen)
    (hi : uiInv f e docs i out k) (hk : ¬ k < (e.1.getD i.toNat (dflt (.pair (.slice TPiece) (.slice TRen)))).1.length) :
    uoInv f e docs out (IntKind.i64.wrap (i + 1)) ∧ (e.1.length - (IntKind.i64.wrap (i + 1))).toNat < (e.1.length - i).toNat := by
  have e1 := foEnd hi hk
  have s := foStep (d := dflt (.pair (.slice TPiece) (.slice TRen))) h hl hb
  refine ⟨?_, s.2⟩
  have e2 : out = strG (usG f e docs) out0 (e.1.getD i.toNat (dflt (.pair (.slice TPiece) (.slice TRen)))) := by
    rw [e1, h.2]; rfl
  rw [e2]
  exact s.1
theorem uoEnd {f : Frame} {e : Evidence} {docs : List (List Int)} {out : List Piece} {i : Int} (h : uoInv f e docs out i) (hl : ¬ i < e.1.length) : out = usablePiecesF f e docs := foEnd h hl
theorem usStrand {e : Evidence} (hs : Sm big20 (.slice (.pair (.slice TPiece) (.slice TRen))) e.1) {i : Int} (hi : inRange i e.1.length) :
    Sm big20 (.slice TPiece) (e.1.getD i.toNat (dflt (.pair (.slice TPiece) (.slice TRen)))).1 ∧ ∀ r ∈ (e.1.getD i.toNat (dflt (.pair (.slice TPiece) (.slice TRen)))).2, Sm big20 TRen r := by
  have := hs.2 _ (getD_mem hi (dflt (.pair (.slice TPiece) (.slice TRen))))
  exact ⟨this.1, this.2.2⟩
theorem usPieceLen {f : Frame} {e : Evidence} {docs : List (List Int)} (hc : ((cellsC (.slice (.pair (.slice TPiece) (.slice TRen))) e.1 : Nat) : Int) ≤ 2000000000) : (usablePiecesF f e docs).length ≤ 2000000000 := by
  have h0 := piecesCells e.1
  have h1 : (usablePiecesF f e docs).length ≤ ([] : List Piece).length + pieces e.1 := lenS
  simp only [List.length_nil] at h1
  omega
/-! counting while it comes before, with a wider bound -/
section
variable {α : Type} {p : α → Bool} {l : List α} {i : Int} {d x : α}
theorem tkStepW (h : tkInv p l i) (hs : l.length ≤ 2000000000) (g : pick2 (decide (i < (l.length : Int))) (p (l.getD i.toNat d)) false = true) :
    tkInv p l (IntKind.i64.wrap (i + 1)) ∧ ((l.length : Int) - IntKind.i64.wrap (i + 1)).toNat < ((l.length : Int) - i).toNat := by
  obtain ⟨h1, h2, h3⟩ := h
  have g1 := of_decide_eq_true (andT g).1
  have g2 := (andT g).2
  rw [w64 (by omega) (by omega)]
  refine ⟨⟨by omega, by omega, fun y hy => ?_⟩, by omega⟩
  rw [show (i + 1).toNat = i.toNat + 1 by omega, take_succD (by omega) d] at hy
  rcases List.mem_append.1 hy with hy | hy
  · exact h3 y hy
  · rw [List.mem_singleton.1 hy]; exact g2
end
/-! what the pieces that can be trusted hold -/
/-! the times a signature came after -/
def mkG (l : List Stamp) (k : Nat) : List Int := [(l.getD k (dflt TStamp)).2.2.2.2]
def stampPieceF (key : Int) (s : Stamp) : Piece := (key, stampIntsF s, s.2.2.2.2)
def afHas (f : Frame) (s : Stamp) : Piece := stampPieceF (stampKeyF f.2.1 s) s
noncomputable def afP (f : Frame) (us : List Piece) (s : Stamp) : Bool := hasF us (afHas f s)
noncomputable def bornF (f : Frame) (x : Sig) : Int := if keyI f.1 x.1 < 0 then 0 else (keyAt f.1 x.1).2.2.2.1
end Fw
namespace Fw
open Go
theorem foStepE {α β : Type} {f : β → α → β} {z : β} {a : List α} {acc acc' : β} {d : α} {i : Int} (h : foInv f z a acc i) (hl : i < a.length) (hb : a.length ≤ bigLen) (e : acc' = f acc (a.getD i.toNat d)) :
    foInv f z a acc' (IntKind.i64.wrap (i + 1)) ∧ (a.length - (IntKind.i64.wrap (i + 1))).toNat < (a.length - i).toNat := by
  rw [e]; exact foStep h hl hb
theorem fkEndS {f : Frame} {s : Strand} {docs : List Int} {j : Int} (h : fkInv f s docs j) (hb : s.2.length ≤ bigLen)
    (g : pick2 (decide (j > 0)) (keptF f s docs (IntKind.i64.wrap (j - 1))) false = false) : j = firstKeptF f s docs := by
  by_cases h0 : j > 0
  · rw [decide_eq_true h0] at g
    exact fkStop h h0 hb g
  · exact fkZero h h0
end Fw
namespace Fw
open Go
def lsS (n : Int) (a : Int) (x : Status) : Int := if x.1 = n ∧ 0 ≤ x.2.2.1 ∧ (a < 0 ∨ x.2.2.1 < a) then x.2.2.1 else a
def msS (n : Int) (a : Int) (x : Status) : Int := if x.1 = n ∧ 0 ≤ x.2.2.1 then max a x.2.2.1 else a
def gsS (n : Int) (a : Int) (x : Status) : Int := if x.1 = n ∧ x.2.2.1 < 0 then max a x.2.1 else a
def leastF (l : List Status) (n : Int) : Int := l.foldl (lsS n) (-1)
def mostF (l : List Status) (n : Int) : Int := l.foldl (msS n) (-1)
def goodF (l : List Status) (n : Int) : Int := l.foldl (gsS n) (-1)
theorem lsN1 {n a : Int} {x : Status} (h : (x.1 != n) = true) : a = lsS n a x := by unfold lsS; rw [if_neg (fun q => bneT h q.1)]
theorem msN1 {n a : Int} {x : Status} (h : (x.1 != n) = true) : a = msS n a x := by unfold msS; rw [if_neg (fun q => bneT h q.1)]
theorem gsN1 {n a : Int} {x : Status} (h : (x.1 != n) = true) : a = gsS n a x := by unfold gsS; rw [if_neg (fun q => bneT h q.1)]
theorem lsN2 {n a : Int} {x : Status} (h : x.2.2.1 < 0) : a = lsS n a x := by unfold lsS; rw [if_neg (fun q => by omega)]
theorem msN2 {n a : Int} {x : Status} (h : x.2.2.1 < 0) : a = msS n a x := by unfold msS; rw [if_neg (fun q => by omega)]
theorem gsY {n a : Int} {x : Status} (h1 : (x.1 != n) = false) (h : x.2.2.1 < 0) : max a x.2.1 = gsS n a x := by unfold gsS; rw [if_pos ⟨bneI h1, h⟩]
theorem gsN2 {n a : Int} {x : Status} (h : ¬ x.2.2.1 < 0) : a = gsS n a x := by unfold gsS; rw [if_neg (fun q => h q.2)]
theorem msY {n a : Int} {x : Status} (h1 : (x.1 != n) = false) (h : ¬ x.2.2.1 < 0) : max a x.2.2.1 = msS n a x := by unfold msS; rw [if_pos ⟨bneI h1, by omega⟩]
theorem lsY {n a : Int} {x : Status} (h1 : (x.1 != n) = false) (h : ¬ x.2.2.1 < 0) (g : pick2 (decide (a < 0)) true (decide (x.2.2.1 < a)) = true) : x.2.2.1 = lsS n a x := by
  unfold lsS
  rw [if_pos]
  refine ⟨bneI h1, by omega, ?_⟩
  rw [pick2_or, Bool.or_eq_true, decide_eq_true_eq, decide_eq_true_eq] at g
  exact g
theorem lsN3 {n a : Int} {x : Status} (g : pick2 (decide (a < 0)) true (decide (x.2.2.1 < a)) = false) : a = lsS n a x := by
  unfold lsS
  rw [if_neg]
  rintro ⟨_, _, h⟩
  have g1 := of_decide_eq_false (orF g).1
  have g2 := of_decide_eq_false (orF g).2
  rcases h with h | h
  · exact g1 h
  · exact g2 h
def goodUntilF (l : List Status) (n : Int) : Int := if leastF l n ≥ 0 then IntKind.i64.wrap (leastF l n - 1) else goodF l n
def badFromF (l : List Status) (n : Int) : Int := if mostF l n < 0 then 10001 else max (mostF l n) (IntKind.i64.wrap (goodF l n + 1))
def isAgreedF (l : List Status) (n : Int) : Bool := pick2 (badFromF l n == 10001) true (badFromF l n == IntKind.i64.wrap (goodUntilF l n + 1))
theorem gu1 {l : List Status} {n : Int} (h : leastF l n ≥ 0) : IntKind.i64.wrap (leastF l n - 1) = goodUntilF l n := by unfold goodUntilF; rw [if_pos h]
theorem gu0 {l : List Status} {n : Int} (h : ¬ leastF l n ≥ 0) : goodF l n = goodUntilF l n := by unfold goodUntilF; rw [if_neg h]
theorem bf0 {l : List Status} {n : Int} (h : mostF l n < 0) : (10001 : Int) = badFromF l n := by unfold badFromF; rw [if_pos h]
theorem bf1 {l : List Status} {n : Int} (h : ¬ mostF l n < 0) : max (mostF l n) (IntKind.i64.wrap (goodF l n + 1)) = badFromF l n := by unfold badFromF; rw [if_neg h]
/-! what a signature came after -/
/-- the specification's loop: all stamps so far are rising, have a span and are among the pieces -/
def l23S (f : Frame) (us : List Piece) (l : List Stamp) (k : Nat) : Prop := riseP l k ∧ afP f us (l.getD k (dflt TStamp)) = true ∧ rsP f.2.1 (l.getD k (dflt TStamp))
def l23Inv (f : Frame) (us : List Piece) (l : List Stamp) (acc : List Span) (i : Int) : Prop := rsInv f.2.1 l acc i ∧ ∀ k, k < i.toNat → l23S f us l k
theorem l23Start {f : Frame} {us : List Piece} {l : List Stamp} : l23Inv f us l [] 0 := ⟨rsStart, fun k hk => by simp at hk⟩
theorem l23Step {f : Frame} {us : List Piece} {l : List Stamp} {acc : List Span} {i : Int} (h : l23Inv f us l acc i) (hl : i < l.length) (hb : l.length ≤ bigLen) (hP : l23S f us l i.toNat) :
    l23Inv f us l (acc ++ [(stampSpanF f.2.1 (l.getD i.toNat (dflt TStamp))).1]) (IntKind.i64.wrap (i + 1)) ∧ (l.length - (IntKind.i64.wrap (i + 1))).toNat < (l.length - i).toNat := by
  have s := rsStep (d := dflt TStamp) h.1 hl hb hP.2.2
  obtain ⟨u1, u2, u3⟩ := upStep h.1.1 hl hb
  refine ⟨⟨s.1, fun k hk => ?_⟩, s.2⟩
  obtain ⟨n, hn, e⟩ := h.1.1
  rw [u2] at hk
  by_cases hk2 : k < i.toNat
  · exact h.2 k hk2
  · have : k = i.toNat := by omega
    rw [this]; exact hP
/-- what stops the specification's loop -/
noncomputable def l23Bad (f : Frame) (us : List Piece) (l : List Stamp) (i : Int) : Bool :=
  pick2 (pick2 (!(stampSpanF f.2.1 (l.getD i.toNat (dflt TStamp))).2) true (pick2 (decide (i > 0)) (decide ((l.getD (IntKind.i64.wrap (i - 1)).toNat (dflt TStamp)).1 ≥ (l.getD i.toNat (dflt TStamp)).1)) false)) true (!(afP f us (l.getD i.toNat (dflt TStamp))))
theorem l23_iff {f : Frame} {us : List Piece} {l : List Stamp} {i : Int} (h0 : 0 ≤ i) (hl : i < l.length) (hb : l.length ≤ bigLen) : l23Bad f us l i = false ↔ l23S f us l i.toNat := by
  unfold l23Bad l23S rsP
  simp only [pick2_or, pick2_and, Bool.or_eq_false_iff, Bool.not_eq_false', Bool.and_eq_false_iff, decide_eq_false_iff_not]
  have key : (¬ i > 0 ∨ ¬ (l.getD (IntKind.i64.wrap (i - 1)).toNat (dflt TStamp)).1 ≥ (l.getD i.toNat (dflt TStamp)).1) ↔ riseP l i.toNat := by
    unfold riseP
    unfold bigLen at hb
    rw [w64 (by omega) (by omega), show (i - 1).toNat = i.toNat - 1 by omega]
    constructor
    · rintro (h | h) hh
      · omega
      · omega
    · intro h
      by_cases hi : i > 0
      · right; have := h (by omega); omega
      · left; exact hi
  rw [key]
  constructor
  · rintro ⟨⟨h1, h2⟩, h3⟩; exact ⟨h2, h3, h1⟩
  · rintro ⟨h2, h3, h1⟩; exact ⟨⟨h1, h2⟩, h3⟩
noncomputable def l23F (f : Frame) (us : List Piece) (l : List Stamp) : Int × Bool :=
  if boolC (∀ k, k < l.length → l23S f us l k) = true then ((rsF f.2.1 l f.2.2.2.1).1.1, (rsF f.2.1 l f.2.2.2.1).2) else (0, false)
theorem l23Stop {f : Frame} {us : List Piece} {l : List Stamp} {acc : List Span} {i : Int} (h : l23Inv f us l acc i) (hl : i < l.length) (hb : l.length ≤ bigLen) (g : l23Bad f us l i = true) : (0, false) = l23F f us l := by
  have h0 : 0 ≤ i := by obtain ⟨n, hn, e⟩ := h.1.1; omega
  unfold l23F
  rw [if_neg]
  intro e
  have := boolC_iff.1 e i.toNat (by omega)
  rw [(l23_iff h0 hl hb).2 this] at g
  cases g
theorem l23End {f : Frame} {us : List Piece} {l : List Stamp} {acc : List Span} {i : Int} (h : l23Inv f us l acc i) (hl : ¬ i < l.length) : ((agreedF acc f.2.2.2.1).1.1, (agreedF acc f.2.2.2.1).2) = l23F f us l := by
  unfold l23F
  obtain ⟨n, hn, e⟩ := h.1.1
  rw [if_pos (boolC_iff.2 fun k hk => h.2 k (by omega)), ← rsEnd h.1 hl]
theorem l23_ok {f : Frame} {us : List Piece} {l : List Stamp} : ((l23F f us l).2 = true ↔ ((∀ k, k < l.length → riseP l k) ∧ (∀ s ∈ l, afP f us s = true) ∧ (rsF f.2.1 l f.2.2.2.1).2 = true)) ∧ ((l23F f us l).2 = true → (l23F f us l).1 = (rsF f.2.1 l f.2.2.2.1).1.1) := by
  have all : ∀ P : Stamp → Prop, (∀ k, k < l.length → P (l.getD k (dflt TStamp))) ↔ ∀ s ∈ l, P s := by
    intro P
    constructor
    · intro h s hs
      obtain ⟨k, hk, e⟩ := List.getElem_of_mem hs
      have := h k hk
      rw [List.getD_eq_getElem?_getD, List.getElem?_eq_getElem hk] at this
      rw [← e]; exact this
    · intro h k hk
      have : l.getD k (dflt TStamp) ∈ l := by
        rw [List.getD_eq_getElem?_getD, List.getElem?_eq_getElem hk]; exact List.getElem_mem hk
      exact h _ this
  unfold l23F
  by_cases h : ∀ k, k < l.length → l23S f us l k
  · rw [if_pos (boolC_iff.2 h)]
    refine ⟨⟨fun e => ⟨fun k hk => (h k hk).1, (all _).1 fun k hk => (h k hk).2.1, e⟩, fun e => e.2.2⟩, fun _ => rfl⟩
  · rw [if_neg (fun e => h (boolC_iff.1 e))]
    refine ⟨⟨fun e => (by cases e), fun e => (h fun k hk => ?_).elim⟩, fun e => (by cases e)⟩
    refine ⟨e.1 k hk, (all (fun s => afP f us s = true)).2 e.2.1 k hk, ?_⟩
    have e3 := e.2.2
    unfold rsF at e3
    split at e3
    · rename_i hc
      exact (all (rsP f.2.1)).2 (boolC_iff.1 hc) k hk
    · cases e3
end Fw
namespace Fw
open Go
theorem insConds2W {α : Type} {p : α → Bool} {l : List α} {i : Int} {Q : Prop} (h : tkInv p l i) (hs : l.length ≤ 2000000000) (hQ : Q) :
    conj [(0 : Int) ≤ 0, (0 : Int) ≤ i, i ≤ (l.length : Int), (subL l 0 i).length ≤ maxApp, Q, (subL l 0 i).length + 0 + 1 ≤ maxApp, 0 ≤ i, i ≤ (l.length : Int), (l.length : Int) ≤ (l.length : Int), (subL l 0 i).length ≤ i.toNat, (subL l 0 i).length + (0 + 1) + (l.length - i.toNat) ≤ maxApp] := by
  have e := sub0_len h
  obtain ⟨h1, h2, _⟩ := h
  rw [e]
  unfold maxApp
  refine ⟨Int.le_refl _, h1, h2, by omega, hQ, by omega, h1, h2, Int.le_refl _, Nat.le_refl _, ?_⟩
  show i.toNat + (0 + 1) + (l.length - i.toNat) ≤ 4294967296
  omega
theorem evdCells {e : Evidence} (h : ((cellsC (.pair (.slice (.pair (.slice TPiece) (.slice TRen))) (.slice (.slice TStamp))) e : Nat) : Int) ≤ 2000000000) : ((cellsC (.slice (.pair (.slice TPiece) (.slice TRen))) e.1 : Nat) : Int) ≤ 2000000000 := by
  have : cellsC (.pair (.slice (.pair (.slice TPiece) (.slice TRen))) (.slice (.slice TStamp))) e = cellsC (.slice (.pair (.slice TPiece) (.slice TRen))) e.1 + cellsC (.slice (.slice TStamp)) e.2 := rfl
  omega
theorem putEq {p : Piece} {l : List Piece} {i : Int} (h : tkInv (fun y => pbF y p) l i) (hk : i.toNat = (l.takeWhile (fun y => pbF y p)).length) :
    l.take (subL l 0 i).length ++ ([] ++ [p]) ++ l.drop i.toNat = putP p l := insP_eq (by rw [sub0_len h]; exact hk) hk
end Fw
namespace Fw
open Go
noncomputable def adF (d : Doc) (s : Strand) : List Int × Bool := (docDigsF s d, true)
noncomputable def allDigsF (e : Evidence) (d : Doc) : List (List Int) := pickF (adF d) e.1
noncomputable def stampsDgF (m : Int) (l : List Stamp) : Int := if (l.length : Int) = 0 then 0 else max 1 (digestF m ([] ++ (List.range l.length).flatMap (mkG l)))
theorem sd0 {m : Int} {l : List Stamp} (h : (l.length : Int) = 0) : (0 : Int) = stampsDgF m l := by unfold stampsDgF; rw [if_pos h]
theorem sd1 {m : Int} {l : List Stamp} (h : ¬ (l.length : Int) = 0) : max 1 (digestF m ([] ++ (List.range l.length).flatMap (mkG l))) = stampsDgF m l := by unfold stampsDgF; rw [if_neg h]
theorem pkLenW {α β : Type} {f : α → β × Bool} {L : List α} {acc : List β} {i : Int} (h : pkInv f L acc i) (hs : L.length ≤ 2000000000) : acc.length + 1 ≤ maxApp := by
  have := pick_len f (L.take i.toNat)
  rw [← h.2, List.length_take] at this
  unfold maxApp; omega
noncomputable def frG (f : Frame) (us : List Piece) (x : Sig) (t : Int) (l : List Stamp) : Int :=
  if x.2.2.2.2.2.2.2.1 ≠ 0 ∧ stampsDgF x.2.2.1 l = x.2.2.2.2.2.2.2.1 ∧ (l23F f us l).2 = true then max t (l23F f us l).1 else t
noncomputable def freshG (f : Frame) (e : Evidence) (us : List Piece) (x : Sig) : Int := e.2.foldl (frG f us x) (bornF f x)
theorem frZero {f : Frame} {us : List Piece} {x : Sig} (h : x.2.2.2.2.2.2.2.1 = 0) : ∀ (l : List (List Stamp)) (t : Int), l.foldl (frG f us x) t = t
  | [], _ => rfl
  | a :: r, t => by
    have : frG f us x t a = t := by unfold frG; rw [if_neg (fun hh => hh.1 h)]
    rw [List.foldl_cons, this]
    exact frZero h r t
theorem born1 {f : Frame} {x : Sig} (h : keyI f.1 x.1 ≥ 0) : (keyAt f.1 x.1).2.2.2.1 = bornF f x := by unfold bornF; rw [if_neg (by omega)]
theorem born0 {f : Frame} {x : Sig} (h : ¬ keyI f.1 x.1 ≥ 0) : (0 : Int) = bornF f x := by unfold bornF; rw [if_pos (by omega)]
theorem frStart {f : Frame} {e : Evidence} {us : List Piece} {x : Sig} {t : Int} (h : t = bornF f x) : foInv (frG f us x) (bornF f x) e.2 t 0 := by rw [h]; exact foStart
theorem frEnd {f : Frame} {e : Evidence} {us : List Piece} {x : Sig} {t i : Int} (h : foInv (frG f us x) (bornF f x) e.2 t i)
    (g : pick2 (decide (i < (e.2.length : Int))) (x.2.2.2.2.2.2.2.1 != 0) false = false) : t = freshG f e us x := by
  by_cases hl : i < (e.2.length : Int)
  · rw [decide_eq_true hl] at g
    have g2 : (x.2.2.2.2.2.2.2.1 != 0) = false := g
    have hz := bneI g2
    rw [h.2, frZero hz]
    unfold freshG
    rw [frZero hz]
  · exact foEnd h hl
theorem frNo1 {f : Frame} {us : List Piece} {x : Sig} {t : Int} {l : List Stamp} (h : (stampsDgF x.2.2.1 l != x.2.2.2.2.2.2.2.1) = true) : t = frG f us x t l := by
  unfold frG; rw [if_neg (fun hh => bneT h hh.2.1)]
theorem frNo2 {f : Frame} {us : List Piece} {x : Sig} {t : Int} {l : List Stamp} (h : (l23F f us l).2 = false) : t = frG f us x t l := by
  unfold frG; rw [if_neg (fun hh => by rw [hh.2.2] at h; cases h)]
theorem frYes {f : Frame} {us : List Piece} {x : Sig} {t : Int} {l : List Stamp} (h0 : (x.2.2.2.2.2.2.2.1 != 0) = true) (h1 : (stampsDgF x.2.2.1 l != x.2.2.2.2.2.2.2.1) = false) (h : (l23F f us l).2 = true) :
    max t (l23F f us l).1 = frG f us x t l := by
  unfold frG; rw [if_pos ⟨bneT h0, bneI h1, h⟩]
theorem frSkip {f : Frame} {us : List Piece} {x : Sig} {t : Int} {l : List Stamp} (h : pick2 (pick2 (x.2.2.2.2.2.2.2.1 == 0) true (!(riseF l))) true (stampsDgF x.2.2.1 l != x.2.2.2.2.2.2.2.1) = true) : t = frG f us x t l := by
  unfold frG
  rw [if_neg]
  rintro ⟨h0, h1, h2⟩
  have h3 := (l23_ok.1.1 h2).1
  have h4 : riseF l = true := boolC_iff.2 h3
  rw [h4, h1, beq_eq_false_iff_ne.2 h0] at h
  simp [pick2] at h
/-- whether all stamps so far are among the pieces -/
def hbInv (f : Frame) (us : List Piece) (l : List Stamp) (b : Bool) (k : Int) : Prop := upInv l k ∧ b = boolC (∀ s ∈ l.take k.toNat, afP f us s = true)
theorem hbStart {f : Frame} {us : List Piece} {l : List Stamp} : hbInv f us l true 0 := ⟨upStart, boolC_yes fun s hs => by simp at hs⟩
theorem hbRange {f : Frame} {us : List Piece} {l : List Stamp} {b : Bool} {k : Int} (h : hbInv f us l b k) (hl : k < l.length) : inRange k l.length := upRange h.1 hl
theorem hbStep {f : Frame} {us : List Piece} {l : List Stamp} {b b' : Bool} {k : Int} (h : hbInv f us l b k) (hl : k < l.length) (hb : l.length ≤ bigLen) (e : b' = pick2 b (afP f us (l.getD k.toNat (dflt TStamp))) false) :
    hbInv f us l b' (IntKind.i64.wrap (k + 1)) ∧ (l.length - (IntKind.i64.wrap (k + 1))).toNat < (l.length - k).toNat := by
  obtain ⟨u1, u2, u3⟩ := upStep h.1 hl hb
  refine ⟨⟨u1, ?_⟩, u3⟩
  rw [u2, take_snoc (d := dflt TStamp) h.1 hl]
  refine boolC_by (fun hb' => ?_) (fun hall => ?_)
  · rw [e] at hb'
    obtain ⟨q1, q2⟩ := andT hb'
    have q3 := boolC_iff.1 (h.2.symm.trans q1)
    intro s hs
    rcases List.mem_append.1 hs with hs | hs
    · exact q3 s hs
    · rw [List.mem_singleton.1 hs]; exact q2
  · rw [e]
    refine yesAnd ?_ (hall _ (List.mem_append.2 (.inr (List.mem_singleton.2 rfl))))
    rw [h.2]
    exact boolC_iff.2 fun s hs => hall s (List.mem_append.2 (.inl hs))
theorem hbEnd {f : Frame} {us : List Piece} {l : List Stamp} {b : Bool} {k : Int} (h : hbInv f us l b k) (hl : ¬ k < l.length) : b = true ↔ ∀ s ∈ l, afP f us s = true := by
  obtain ⟨h1, h2⟩ := h
  rw [up_end h1 hl, List.take_length] at h2
  rw [h2]
  exact boolC_iff
theorem frMax {f : Frame} {us : List Piece} {x : Sig} {t : Int} {l : List Stamp} {b : Bool} (g : pick2 (pick2 (x.2.2.2.2.2.2.2.1 == 0) true (!(riseF l))) true (stampsDgF x.2.2.1 l != x.2.2.2.2.2.2.2.1) = false)
    (hb : b = true ↔ ∀ s ∈ l, afP f us s = true) (h : pick2 b (rsF f.2.1 l f.2.2.2.1).2 false = true) : max t (rsF f.2.1 l f.2.2.2.1).1.1 = frG f us x t l := by
  obtain ⟨g1, g2⟩ := orF g
  obtain ⟨g3, g4⟩ := orF g1
  obtain ⟨q1, q2⟩ := andT h
  have hk : (l23F f us l).2 = true := l23_ok.1.2 ⟨boolC_iff.1 (notF g4), hb.1 q1, q2⟩
  have hv := l23_ok.2 hk
  unfold frG
  rw [if_pos ⟨bneI' g3, bneI g2, hk⟩, hv]
theorem frKeep {f : Frame} {us : List Piece} {x : Sig} {t : Int} {l : List Stamp} {b : Bool} (hb : b = true ↔ ∀ s ∈ l, afP f us s = true) (h : pick2 b (rsF f.2.1 l f.2.2.2.1).2 false = false) : t = frG f us x t l := by
  unfold frG
  rw [if_neg]
  rintro ⟨_, _, h2⟩
  obtain ⟨_, h4, h5⟩ := l23_ok.1.1 h2
  rw [hb.2 h4, h5] at h
  cases h
noncomputable def consF (f : Frame) (e : Evidence) (d : Doc) (x : Sig) : Bool :=
  pick2 (pick2 (certForF f.1 (usablePiecesF f e (allDigsF e d)) x).2
    (isAgreedF (statusesF (usablePiecesF f e (allDigsF e d)) (certForF f.1 (usablePiecesF f e (allDigsF e d)) x).1) (certForF f.1 (usablePiecesF f e (allDigsF e d)) x).1.1) false)
    (decide (freshG f e (usablePiecesF f e (allDigsF e d)) x ≤ evBoundF f e (allDigsF e d) (signPieceF x))) false
end Fw
namespace Fw
open Go
theorem fo2 {α β γ : Type} {f : β → α → β} {g : γ → α → γ} {z : β} {w : γ} {a : List α} {x x' : β} {y y' : γ} {d : α} {i : Int} (h : foInv f z a x i ∧ foInv g w a y i) (hl : i < a.length) (hb : a.length ≤ bigLen)
    (e1 : x' = f x (a.getD i.toNat d)) (e2 : y' = g y (a.getD i.toNat d)) : (foInv f z a x' (IntKind.i64.wrap (i + 1)) ∧ foInv g w a y' (IntKind.i64.wrap (i + 1))) ∧ (a.length - (IntKind.i64.wrap (i + 1))).toNat < (a.length - i).toNat := by
  have s1 := foStepE (d := d) h.1 hl hb e1
  have s2 := foStepE (d := d) h.2 hl hb e2
  exact ⟨⟨s1.1, s2.1⟩, s1.2⟩
theorem fo3 {α β γ δ : Type} {f : β → α → β} {g : γ → α → γ} {k : δ → α → δ} {z : β} {w : γ} {v : δ} {a : List α} {x x' : β} {y y' : γ} {u u' : δ} {d : α} {i : Int} (h : foInv f z a x i ∧ foInv g w a y i ∧ foInv k v a u i) (hl : i < a.length) (hb : a.length ≤ bigLen)
    (e1 : x' = f x (a.getD i.toNat d)) (e2 : y' = g y (a.getD i.toNat d)) (e3 : u' = k u (a.getD i.toNat d)) :
    (foInv f z a x' (IntKind.i64.wrap (i + 1)) ∧ foInv g w a y' (IntKind.i64.wrap (i + 1)) ∧ foInv k v a u' (IntKind.i64.wrap (i + 1))) ∧ (a.length - (IntKind.i64.wrap (i + 1))).toNat < (a.length - i).toNat := by
  have s1 := foStepE (d := d) h.1 hl hb e1
  have s2 := foStepE (d := d) h.2.1 hl hb e2
  have s3 := foStepE (d := d) h.2.2 hl hb e3
  exact ⟨⟨s1.1, s2.1, s3.1⟩, s1.2⟩
theorem guA {l : List Status} {n a : Int} (e : a = leastF l n) (h : decide (a ≥ 0) = true) : IntKind.i64.wrap (a - 1) = goodUntilF l n := by subst e; exact gu1 (of_decide_eq_true h)
theorem guB {l : List Status} {n a c : Int} (e : a = leastF l n) (e2 : c = goodF l n) (h : decide (a ≥ 0) = false) : c = goodUntilF l n := by subst e; subst e2; exact gu0 (of_decide_eq_false h)
theorem bfA {l : List Status} {n m : Int} (e : m = mostF l n) (h : decide (m < 0) = true) : (10001 : Int) = badFromF l n := by subst e; exact bf0 (of_decide_eq_true h)
theorem bfB {l : List Status} {n m c : Int} (e : m = mostF l n) (e2 : c = goodF l n) (h : decide (m < 0) = false) : max m (IntKind.i64.wrap (c + 1)) = badFromF l n := by subst e; subst e2; exact bf1 (of_decide_eq_false h)
end Fw
