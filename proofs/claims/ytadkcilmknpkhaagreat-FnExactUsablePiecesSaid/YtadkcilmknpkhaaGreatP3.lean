/- Plain laws of pieces being right, of their order, and of the pieces that can be trusted. Conditions: none. -/
import Derived.Test.YtadkcilmknpkhaaGreatP2
namespace Fw
open Go
/-! the order of pieces -/
def ltL : List Int → List Int → Bool
  | [], [] => false
  | [], _ :: _ => true
  | _ :: _, [] => false
  | x :: xs, y :: ys => if x = y then ltL xs ys else decide (x < y)
theorem ltL_irr : ∀ a, ltL a a = false
  | [] => rfl
  | x :: xs => by rw [ltL, if_pos rfl]; exact ltL_irr xs
theorem ltL_tri : ∀ a b, ltL a b = false → a ≠ b → ltL b a = true
  | [], [], _, h => (h rfl).elim
  | [], _ :: _, h, _ => by cases h
  | _ :: _, [], _, _ => rfl
  | x :: xs, y :: ys, h, hn => by
    rw [ltL] at h ⊢
    by_cases e : x = y
    · subst e
      rw [if_pos rfl] at h ⊢
      exact ltL_tri xs ys h fun e2 => hn (by rw [e2])
    · rw [if_neg e] at h
      rw [if_neg (Ne.symm e)]
      have := of_decide_eq_false h
      exact decide_eq_true (by omega)
theorem ltL_trans : ∀ a b c, ltL a b = true → ltL b c = true → ltL a c = true
  | [], [], _, h, _ => by cases h
  | [], _ :: _, [], _, h => by cases h
  | [], _ :: _, _ :: _, _, _ => rfl
  | _ :: _, [], _, h, _ => by cases h
  | _ :: _, _ :: _, [], _, h => by cases h
  | x :: xs, y :: ys, z :: zs, h1, h2 => by
    rw [ltL] at h1 h2 ⊢
    by_cases e1 : x = y
    · subst e1
      rw [if_pos rfl] at h1
      by_cases e2 : x = z
      · rw [if_pos e2] at h2 ⊢
        exact ltL_trans xs ys zs h1 h2
      · rw [if_neg e2] at h2 ⊢
        exact h2
    · rw [if_neg e1] at h1
      have g1 := of_decide_eq_true h1
      by_cases e2 : y = z
      · subst e2
        rw [if_neg e1]; exact h1
      · rw [if_neg e2] at h2
        have g2 := of_decide_eq_true h2
        rw [if_neg (by omega)]
        exact decide_eq_true (by omega)
def pbF (a b : Piece) : Bool := if a.2.1 = b.2.1 then (if a.1 = b.1 then decide (a.2.2 < b.2.2) else decide (a.1 < b.1)) else ltL a.2.1 b.2.1
theorem pb_irr (a : Piece) : pbF a a = false := by unfold pbF; rw [if_pos rfl, if_pos rfl]; exact decide_eq_false (by omega)
theorem pb_tri {a b : Piece} (h : pbF a b = false) (hn : a ≠ b) : pbF b a = true := by
  unfold pbF at h ⊢
  by_cases e1 : a.2.1 = b.2.1
  · rw [if_pos e1] at h
    rw [if_pos e1.symm]
    by_cases e2 : a.1 = b.1
    · rw [if_pos e2] at h
      rw [if_pos e2.symm]
      have g := of_decide_eq_false h
      by_cases e3 : a.2.2 = b.2.2
      · exact (hn (Prod.ext e2 (Prod.ext e1 e3))).elim
      · exact decide_eq_true (by omega)
    · rw [if_neg e2] at h
      rw [if_neg (Ne.symm e2)]
      have g := of_decide_eq_false h
      exact decide_eq_true (by omega)
  · rw [if_neg e1] at h
    rw [if_neg (Ne.symm e1)]
    exact ltL_tri _ _ h e1
theorem pb_trans {a b c : Piece} (h1 : pbF a b = true) (h2 : pbF b c = true) : pbF a c = true := by
  unfold pbF at h1 h2 ⊢
  by_cases e1 : a.2.1 = b.2.1
  · rw [if_pos e1] at h1
    by_cases e2 : b.2.1 = c.2.1
    · rw [if_pos e2] at h2
      rw [if_pos (e1.trans e2)]
      by_cases f1 : a.1 = b.1
      · rw [if_pos f1] at h1
        by_cases f2 : b.1 = c.1
        · rw [if_pos f2] at h2
          rw [if_pos (f1.trans f2)]
          have := of_decide_eq_true h1
          have := of_decide_eq_true h2
          exact decide_eq_true (by omega)
        · rw [if_neg f2] at h2
          have := of_decide_eq_true h2
          rw [if_neg (by omega)]
          exact decide_eq_true (by omega)
      · rw [if_neg f1] at h1
        have := of_decide_eq_true h1
        by_cases f2 : b.1 = c.1
        · rw [if_neg (by omega)]
          exact decide_eq_true (by omega)
        · rw [if_neg f2] at h2
          have := of_decide_eq_true h2
          rw [if_neg (by omega)]
          exact decide_eq_true (by omega)
    · rw [if_neg e2] at h2
      rw [e1, if_neg e2]
      exact h2
  · rw [if_neg e1] at h1
    by_cases e2 : b.2.1 = c.2.1
    · rw [← e2, if_neg e1]; exact h1
    · rw [if_neg e2] at h2
      have h3 := ltL_trans _ _ _ h1 h2
      by_cases e3 : a.2.1 = c.2.1
      · rw [e3, ltL_irr] at h3; cases h3
      · rw [if_neg e3]; exact h3
/-- equal so far -/
def pbInv (a b : Piece) (i : Int) : Prop := 0 ≤ i ∧ i ≤ a.2.1.length ∧ i ≤ b.2.1.length ∧ a.2.1.take i.toNat = b.2.1.take i.toNat ∧ ltL a.2.1 b.2.1 = ltL (a.2.1.drop i.toNat) (b.2.1.drop i.toNat)
theorem pbStart {a b : Piece} : pbInv a b 0 := ⟨by omega, by omega, by omega, by simp, rfl⟩
theorem pbRangeA {a b : Piece} {i : Int} (h : pbInv a b i) (hl : i < a.2.1.length) : inRange i a.2.1.length := ⟨h.1, hl⟩
theorem pbRangeB {a b : Piece} {i : Int} (h : pbInv a b i) (hl : i < b.2.1.length) : inRange i b.2.1.length := ⟨h.1, hl⟩
theorem dropD {l : List Int} {i : Int} (h0 : 0 ≤ i) (hl : i < (l.length : Int)) : l.drop i.toNat = l.getD i.toNat (dflt TI) :: l.drop (i.toNat + 1) := by
  have h : i.toNat < l.length := by omega
  rw [List.drop_eq_getElem_cons h, List.getD_eq_getElem?_getD, List.getElem?_eq_getElem h]; rfl
theorem pbStep {a b : Piece} {i : Int} (h : pbInv a b i) (hl : i < a.2.1.length) (hm : i < b.2.1.length) (hb : a.2.1.length ≤ bigLen) (e : a.2.1.getD i.toNat (dflt TI) = b.2.1.getD i.toNat (dflt TI)) :
    pbInv a b (IntKind.i64.wrap (i + 1)) ∧ ((a.2.1.length : Int) - IntKind.i64.wrap (i + 1)).toNat < ((a.2.1.length : Int) - i).toNat := by
  obtain ⟨h0, h1, h2, h3, h4⟩ := h
  rw [w64 (by omega) (by unfold bigLen at hb; omega)]
  have e1 : (i + 1).toNat = i.toNat + 1 := by omega
  refine ⟨⟨by omega, by omega, by omega, ?_, ?_⟩, by omega⟩
  · rw [e1, take_succD (by omega) (dflt TI), take_succD (by omega) (dflt TI), h3, e]
  · rw [h4, dropD h0 hl, dropD h0 hm, e1, ltL, if_pos e]
theorem pbHit {a b : Piece} {i : Int} (h : pbInv a b i) (hl : i < a.2.1.length) (hm : i < b.2.1.length) (e : a.2.1.getD i.toNat (dflt TI) ≠ b.2.1.getD i.toNat (dflt TI)) :
    decide (a.2.1.getD i.toNat (dflt TI) < b.2.1.getD i.toNat (dflt TI)) = pbF a b := by
  obtain ⟨h0, h1, h2, h3, h4⟩ := h
  unfold pbF
  rw [if_neg (fun he => e (by rw [he])), h4, dropD h0 hl, dropD h0 hm, ltL, if_neg e]
theorem pbLen {a b : Piece} {i : Int} (h : pbInv a b i) (hl : ¬ (i < a.2.1.length ∧ i < b.2.1.length)) (e : ((a.2.1.length : Int) != (b.2.1.length : Int)) = true) :
    decide ((a.2.1.length : Int) < (b.2.1.length : Int)) = pbF a b := by
  obtain ⟨h0, h1, h2, h3, h4⟩ := h
  have en := bneT e
  unfold pbF
  rw [if_neg (fun he => en (by rw [he])), h4]
  by_cases g : (a.2.1.length : Int) < b.2.1.length
  · rw [decide_eq_true g, List.drop_eq_nil_of_le (by omega), dropD h0 (by omega)]; rfl
  · rw [decide_eq_false g, List.drop_eq_nil_of_le (as := b.2.1) (by omega), dropD h0 (by omega)]; rfl
theorem pbSame {a b : Piece} {i : Int} (h : pbInv a b i) (hl : ¬ (i < a.2.1.length ∧ i < b.2.1.length)) (e : ((a.2.1.length : Int) != (b.2.1.length : Int)) = false) : a.2.1 = b.2.1 := by
  obtain ⟨h0, h1, h2, h3, h4⟩ := h
  have en := bneI e
  rw [List.take_of_length_le (by omega), List.take_of_length_le (by omega)] at h3
  exact h3
theorem pbKey {a b : Piece} {i : Int} (h : pbInv a b i) (hl : ¬ (i < a.2.1.length ∧ i < b.2.1.length)) (e : ((a.2.1.length : Int) != (b.2.1.length : Int)) = false) (g : (a.1 != b.1) = true) : decide (a.1 < b.1) = pbF a b := by
  unfold pbF; rw [if_pos (pbSame h hl e), if_neg (bneT g)]
theorem pbMark {a b : Piece} {i : Int} (h : pbInv a b i) (hl : ¬ (i < a.2.1.length ∧ i < b.2.1.length)) (e : ((a.2.1.length : Int) != (b.2.1.length : Int)) = false) (g : (a.1 != b.1) = false) : decide (a.2.2 < b.2.2) = pbF a b := by
  unfold pbF; rw [if_pos (pbSame h hl e), if_pos (bneI g)]
/-! pieces in their order -/
def AscP (l : List Piece) : Prop := l.Pairwise (fun a b => pbF a b = true)
def putP (p : Piece) (l : List Piece) : List Piece := insP (fun y => pbF y p) p l
open Classical in
noncomputable def usPut (p : Piece) (l : List Piece) : List Piece := if p ∈ l then l else putP p l
theorem twP {p : Piece} {l : List Piece} : ∀ y ∈ l.takeWhile (fun y => pbF y p), pbF y p = true := by
  induction l with
  | nil => intro y hy; simp at hy
  | cons a r ih =>
    intro y hy
    rw [List.takeWhile_cons] at hy
    cases h : pbF a p with
    | true =>
      rw [h] at hy
      rcases List.mem_cons.1 hy with e | e
      · rw [e]; exact h
      · exact ih y e
    | false => rw [h] at hy; simp at hy
theorem dwP {p : Piece} : ∀ {l : List Piece}, AscP l → p ∉ l → ∀ y ∈ l.dropWhile (fun y => pbF y p), pbF p y = true
  | [], _, _, y, hy => by simp at hy
  | a :: r, h, hn, y, hy => by
    obtain ⟨h1, h2⟩ := List.pairwise_cons.1 h
    rw [List.dropWhile_cons] at hy
    cases hc : pbF a p with
    | true =>
      rw [hc] at hy
      exact dwP h2 (fun e => hn (List.mem_cons_of_mem _ e)) y hy
    | false =>
      rw [hc] at hy
      have ha : pbF p a = true := pb_tri hc fun e => hn (by rw [e]; exact List.mem_cons_self)
      rcases List.mem_cons.1 hy with e | e
      · rw [e]; exact ha
      · exact pb_trans ha (h1 y e)
theorem ascPut {p : Piece} {l : List Piece} (h : AscP l) (hn : p ∉ l) : AscP (putP p l) := by
  have e := List.takeWhile_append_dropWhile (p := fun y => pbF y p) (l := l)
  have h' := h
  rw [← e] at h'
  obtain ⟨a1, a2, a3⟩ := List.pairwise_append.1 h'
  unfold putP insP
  refine List.pairwise_append.2 ⟨a1, List.pairwise_cons.2 ⟨dwP h hn, a2⟩, fun x hx y hy => ?_⟩
  rcases List.mem_cons.1 hy with e2 | e2
  · rw [e2]; exact twP x hx
  · exact a3 x hx y e2
theorem ascUs {p : Piece} {l : List Piece} (h : AscP l) : AscP (usPut p l) := by
  unfold usPut
  split
  · exact h
  · rename_i hn; exact ascPut h hn
/-- in an ordered row, what is there stands behind what is before it -/
theorem atP {p : Piece} : ∀ {l : List Piece}, AscP l → p ∈ l → (l.takeWhile (fun y => pbF y p)).length < l.length ∧ l.getD (l.takeWhile (fun y => pbF y p)).length (dflt TPiece) = p
  | [], _, h => by cases h
  | a :: r, h, hm => by
    obtain ⟨h1, h2⟩ := List.pairwise_cons.1 h
    rcases List.mem_cons.1 hm with e | e
    · subst e
      rw [List.takeWhile_cons, pb_irr]
      exact ⟨by simp, rfl⟩
    · rw [List.takeWhile_cons, h1 p e]
      obtain ⟨g1, g2⟩ := atP h2 e
      refine ⟨?_, ?_⟩
      · show (a :: r.takeWhile _).length < _
        simp only [List.length_cons]
        omega
      · show List.getD (a :: r) (a :: r.takeWhile _).length _ = p
        rw [List.length_cons]
        exact g2
theorem putYes {p : Piece} {l : List Piece} {k : Int} (h0 : 0 ≤ k) (g : pick2 (decide (k < (l.length : Int))) (eqC (l.getD k.toNat (dflt TPiece)) p) false = true) : l = usPut p l := by
  have g1 := of_decide_eq_true (andT g).1
  have g2 := eqC_iff.1 (andT g).2
  unfold usPut
  rw [if_pos]
  rw [← g2]
  exact getD_mem ⟨h0, g1⟩ _
theorem putNo {p : Piece} {l : List Piece} {k : Int} (ha : AscP l) (hk : k.toNat = (l.takeWhile (fun y => pbF y p)).length) (h0 : 0 ≤ k) (g : pick2 (decide (k < (l.length : Int))) (eqC (l.getD k.toNat (dflt TPiece)) p) false = false) : usPut p l = putP p l := by
  unfold usPut
  rw [if_neg]
  intro hm
  obtain ⟨g1, g2⟩ := atP ha hm
  rw [← hk] at g1 g2
  rw [decide_eq_true (show k < (l.length : Int) by omega), eqC_iff.2 g2] at g
  cases g
theorem putHas {p : Piece} {l : List Piece} (h : hasF l p = true) : usPut p l = l := by
  obtain ⟨x, hx, e⟩ := boolC_iff.1 h
  unfold usPut
  rw [if_pos (by rw [← e]; exact hx)]
theorem putHasNo {p : Piece} {l : List Piece} (h : hasF l p = false) : usPut p l = putP p l := by
  unfold usPut
  rw [if_neg]
  intro hm
  have : hasF l p = true := boolC_iff.2 ⟨p, hm, rfl⟩
  rw [this] at h; cases h
theorem usPut_len (p : Piece) (l : List Piece) : (usPut p l).length ≤ l.length + 1 := by
  unfold usPut
  split
  · omega
  · have : (putP p l).length = l.length + 1 := insP_len
    omega
/-! pieces being right -/
def pstBad (p : Piece) : Bool := kindF p != 103
def pieceStampF (p : Piece) : Stamp × Bool := if pstBad p = true then ((0, 0, 0, 0, 0), false) else ((nth p 1, nth p 2, nth p 3, nth p 4, p.2.2), true)
theorem pst0 {p : Piece} (h : pstBad p = true) : pieceStampF p = ((0, 0, 0, 0, 0), false) := by unfold pieceStampF; rw [if_pos h]
theorem pst1 {p : Piece} (h : pstBad p = false) : pieceStampF p = ((nth p 1, nth p 2, nth p 3, nth p 4, p.2.2), true) := by unfold pieceStampF; rw [if_neg (by rw [h]; decide)]
theorem pstN {p : Piece} (h : (kindF p != 103) = false) : List.length p.2.1 = 5 := kindK h (by decide) rfl
def psgBad (p : Piece) : Bool := pick2 (kindF p != 104) true (nth p 1 != p.1)
def pieceSignF (p : Piece) : Sig × Bool := if psgBad p = true then ((0, 0, 0, 0, 0, 0, 0, 0, 0), false) else ((nth p 1, nth p 2, nth p 3, nth p 4, nth p 5, nth p 6, nth p 7, nth p 8, p.2.2), true)
theorem psg0 {p : Piece} (h : psgBad p = true) : pieceSignF p = ((0, 0, 0, 0, 0, 0, 0, 0, 0), false) := by unfold pieceSignF; rw [if_pos h]
theorem psg1 {p : Piece} (h : psgBad p = false) : pieceSignF p = ((nth p 1, nth p 2, nth p 3, nth p 4, nth p 5, nth p 6, nth p 7, nth p 8, p.2.2), true) := by unfold pieceSignF; rw [if_neg (by rw [h]; decide)]
theorem psgN {p : Piece} (h : (kindF p != 104) = false) : List.length p.2.1 = 9 := kindK h (by decide) rfl
def shapeF (p : Piece) : Bool := pick2 (pick2 (pick2 (pick2 (pieceCertF p).2 true (pieceStatF p).2) true (pieceStampF p).2) true (pieceSignF p).2) true (pieceMandF p).2
theorem certK {p : Piece} (h : kindF p ≠ 101) : (pieceCertF p).2 = false := by
  rw [pc0]; show pcBad p = true
  unfold pcBad; rw [bne_iff_ne.2 h]; rfl
theorem statK {p : Piece} (h : kindF p ≠ 102) : (pieceStatF p).2 = false := by
  rw [ps0]; show psBad p = true
  unfold psBad; rw [bne_iff_ne.2 h]; rfl
theorem stampK {p : Piece} (h : kindF p ≠ 103) : (pieceStampF p).2 = false := by
  rw [pst0]; show pstBad p = true
  unfold pstBad; exact bne_iff_ne.2 h
theorem signK {p : Piece} (h : kindF p ≠ 104) : (pieceSignF p).2 = false := by
  rw [psg0]; show psgBad p = true
  unfold psgBad; rw [bne_iff_ne.2 h]; rfl
theorem mandK {p : Piece} (h : kindF p ≠ 105) : (pieceMandF p).2 = false := by
  rw [pm0]; show pmBad p = true
  unfold pmBad; rw [bne_iff_ne.2 h]; rfl
theorem sh101 {p : Piece} (h : kindF p = 101) : shapeF p = (pieceCertF p).2 := by
  unfold shapeF; rw [statK (by omega), stampK (by omega), signK (by omega), mandK (by omega)]; cases (pieceCertF p).2 <;> rfl
theorem sh102 {p : Piece} (h : kindF p = 102) : shapeF p = (pieceStatF p).2 := by
  unfold shapeF; rw [certK (by omega), stampK (by omega), signK (by omega), mandK (by omega)]; cases (pieceStatF p).2 <;> rfl
theorem sh103 {p : Piece} (h : kindF p = 103) : shapeF p = (pieceStampF p).2 := by
  unfold shapeF; rw [certK (by omega), statK (by omega), signK (by omega), mandK (by omega)]; cases (pieceStampF p).2 <;> rfl
theorem sh104 {p : Piece} (h : kindF p = 104) : shapeF p = (pieceSignF p).2 := by
  unfold shapeF; rw [certK (by omega), statK (by omega), stampK (by omega), mandK (by omega)]; cases (pieceSignF p).2 <;> rfl
theorem sh105 {p : Piece} (h : kindF p = 105) : shapeF p = (pieceMandF p).2 := by
  unfold shapeF; rw [certK (by omega), statK (by omega), stampK (by omega), signK (by omega)]; cases (pieceMandF p).2 <;> rfl
theorem shNo {p : Piece} (h1 : kindF p ≠ 101) (h2 : kindF p ≠ 102) (h3 : kindF p ≠ 103) (h4 : kindF p ≠ 104) (h5 : kindF p ≠ 105) : shapeF p = false := by
  unfold shapeF; rw [certK h1, statK h2, stampK h3, signK h4, mandK h5]; rfl
theorem shapeSmall {p : Piece} (h : shapeF p = true) : smallL p.2.1 := by
  have k : ∀ (k : Int) (n : Nat), kindF p = k → k ≠ 0 → List.getD [7, 5, 5, 9, 6] (IntKind.i64.wrap (k - 101)).toNat (dflt TI) = (n : Int) → n ≤ 9 → smallL p.2.1 := by
    intro k n hk h0 ht hn
    exact smallLit (kindK (bne_eq_false_iff_eq.2 hk) h0 ht) (by omega)
  by_cases h1 : kindF p = 101
  · exact k 101 7 h1 (by decide) rfl (by decide)
  by_cases h2 : kindF p = 102
  · exact k 102 5 h2 (by decide) rfl (by decide)
  by_cases h3 : kindF p = 103
  · exact k 103 5 h3 (by decide) rfl (by decide)
  by_cases h4 : kindF p = 104
  · exact k 104 9 h4 (by decide) rfl (by decide)
  by_cases h5 : kindF p = 105
  · exact k 105 6 h5 (by decide) rfl (by decide)
  rw [shNo h1 h2 h3 h4 h5] at h; cases h
def checkPieceF (keys : List Key) (p : Piece) : Bool := pick2 (shapeF p) (checkMarkF keys p.1 p.2.1 p.2.2) false
theorem checkPieceKey {keys : List Key} {p : Piece} (h : checkPieceF keys p = true) : ¬ keyI keys p.1 < 0 := by
  have h1 := (andT h).2
  unfold checkMarkF at h1
  have := of_decide_eq_true (andT h1).1
  omega
/-! the pieces that can be trusted -/
def brkKeyF (f : Frame) (n : Int) : Int := if keyI f.1 n < 0 then 0 else breakF f.2.2.1 (keyAt f.1 n).2.2.1
theorem bk0 {f : Frame} {n : Int} (h : keyI f.1 n < 0) : (0 : Int) = brkKeyF f n := by unfold brkKeyF; rw [if_pos h]
theorem bk1 {f : Frame} {n : Int} (h : ¬ keyI f.1 n < 0) : breakF f.2.2.1 (keyAt f.1 n).2.2.1 = brkKeyF f n := by unfold brkKeyF; rw [if_neg h]
noncomputable def usableF (f : Frame) (e : Evidence) (docs : List (List Int)) (p : Piece) : Bool := pick2 (checkPieceF f.1 p) (decide (evBoundF f e docs p < brkKeyF f p.1)) false
theorem usS {f : Frame} {e : Evidence} {docs : List (List Int)} {p : Piece} :
    pick2 (pick2 (decide (keyI f.1 p.1 ≥ 0)) (checkPieceF f.1 p) false) (decide (evBoundF f e docs p < breakF f.2.2.1 (keyAt f.1 p.1).2.2.1)) false = usableF f e docs p := by
  unfold usableF
  cases hc : checkPieceF f.1 p with
  | false => cases decide (keyI f.1 p.1 ≥ 0) <;> rfl
  | true =>
    have hk := checkPieceKey hc
    rw [decide_eq_true (show keyI f.1 p.1 ≥ 0 by omega), ← bk1 hk]
    rfl
noncomputable def usG (f : Frame) (e : Evidence) (docs : List (List Int)) (out : List Piece) (p : Piece) : List Piece := if usableF f e docs p = true then usPut p out else out
theorem usSkip {f : Frame} {e : Evidence} {docs : List (List Int)} {out : List Piece} {p : Piece}
    (h : pick2 (pick2 (hasF out p) true (!(checkPieceF f.1 p))) true (decide (evBoundF f e docs p ≥ brkKeyF f p.1)) = true) : out = usG f e docs out p := by
  unfold usG
  split
  · rename_i hu
    rw [putHas]
    have h1 := (andT hu).1
    have h2 := of_decide_eq_true (andT hu).2
    rw [h1, decide_eq_false (by omega : ¬ evBoundF f e docs p ≥ brkKeyF f p.1)] at h
    cases hh : hasF out p with
    | true => rfl
    | false => rw [hh] at h; cases h
  · rfl
theorem usTake {f : Frame} {e : Evidence} {docs : List (List Int)} {out : List Piece} {p : Piece}
    (h : pick2 (pick2 (hasF out p) true (!(checkPieceF f.1 p))) true (decide (evBoundF f e docs p ≥ brkKeyF f p.1)) = false) : putP p out = usG f e docs out p := by
  have h1 := orF h
  have h2 := orF h1.1
  have h3 := of_decide_eq_false h1.2
  have hu : usableF f e docs p = true := yesAnd (notF h2.2) (decide_eq_true (by omega))
  unfold usG
  rw [if_pos hu, putHasNo h2.1]
theorem usYes {f : Frame} {e : Evidence} {docs : List (List Int)} {out : List Piece} {p : Piece} (h : usableF f e docs p = true) : usPut p out = usG f e docs out p := by unfold usG; rw [if_pos h]
theorem usNo {f : Frame} {e : Evidence} {docs : List (List Int)} {out : List Piece} {p : Piece} (h : usableF f e docs p = false) : out = usG f e docs out p := by unfold usG; rw [if_neg (by rw [h]; decide)]
def strG {β : Type} (g : β → Piece → β) (out : β) (s : Strand) : β := s.1.foldl g out
noncomputable def usablePiecesF (f : Frame) (e : Evidence) (docs : List (List Int)) : List Piece := e.1.foldl (strG (usG f e docs)) []
theorem ascG {f : Frame} {e : Evidence} {docs : List (List Int)} : ∀ {l : List Piece} {out : List Piece}, AscP out → AscP (l.foldl (usG f e docs) out)
  | [], _, h => h
  | p :: r, out, h => by
    rw [List.foldl_cons]
    refine ascG ?_
    unfold usG
    split
    · exact ascUs h
    · exact h
theorem ascS {f : Frame} {e : Evidence} {docs : List (List Int)} : ∀ {l : List Strand} {out : List Piece}, AscP out → AscP (l.foldl (strG (usG f e docs)) out)
  | [], _, h => h
  | s :: r, out, h => by rw [List.foldl_cons]; exact ascS (ascG h)
theorem lenG {f : Frame} {e : Evidence} {docs : List (List Int)} : ∀ {l : List Piece} {out : List Piece}, (l.foldl (usG f e docs) out).length ≤ out.length + l.length
  | [], _ => by simp
  | p :: r, out => by
    rw [List.foldl_cons, List.length_cons]
    have h1 := lenG (f := f) (e := e) (docs := docs) (l := r) (out := usG f e docs out p)
    have h2 : (usG f e docs out p).length ≤ out.length + 1 := by
      unfold usG
      split
      · exact usPut_len _ _
      · omega
    omega
def pieces (l : List Strand) : Nat := cellsL (fun s => s.1.length) l
theorem lenS {f : Frame} {e : Evidence} {docs : List (List Int)} : ∀ {l : List Strand} {out : List Piece}, (l.foldl (strG (usG f e docs)) out).length ≤ out.length + pieces l
  | [], _ => by simp [pieces, cellsL]
  | s :: r, out => by
    rw [List.foldl_cons]
    have h1 := lenS (f := f) (e := e) (docs := docs) (l := r) (out := strG (usG f e docs) out s)
    have h2 : (strG (usG f e docs) out s).length ≤ out.length + s.1.length := lenG
    have h3 : pieces (s :: r) = s.1.length + pieces r := rfl
    omega
theorem piecesCells : ∀ l : List Strand, pieces l ≤ cellsC (.slice (.pair (.slice TPiece) (.slice TRen))) l
  | [] => Nat.zero_le _
  | s :: r => by
    have h1 := piecesCells r
    have h2 : pieces (s :: r) = s.1.length + pieces r := rfl
    have h3 : cellsC (.slice (.pair (.slice TPiece) (.slice TRen))) (s :: r) = (cellsC (.slice TPiece) s.1 + cellsC (.slice TRen) s.2) + cellsC (.slice (.pair (.slice TPiece) (.slice TRen))) r := rfl
    have h4 : ∀ m : List Piece, m.length ≤ cellsC (.slice TPiece) m := by
      intro m
      induction m with
      | nil => exact Nat.zero_le _
      | cons p t ih =>
        have : cellsC (.slice TPiece) (p :: t) = (1 + (cellsL (cellsC TI) p.2.1 + 1)) + cellsC (.slice TPiece) t := rfl
        rw [List.length_cons, this]; omega
    have := h4 s.1
    omega
end Fw
namespace Fw
open Go
/-! the rows of pieces, one strand after the other -/
def uoInv (f : Frame) (e : Evidence) (docs : List (List Int)) (out : List Piece) (i : Int) : Prop := foInv (strG (usG f e docs)) [] e.1 out i
def uiInv (f : Frame) (e : Evidence) (docs : List (List Int)) (i : Int) (out : List Piece) (k : Int) : Prop :=
  foInv (usG f e docs) ((e.1.take i.toNat).foldl (strG (usG f e docs)) []) (e.1.getD i.toNat (dflt (.pair (.slice TPiece) (.slice TRen)))).1 out k
theorem uoStart {f : Frame} {e : Evidence} {docs : List (List Int)} : uoInv f e docs [] 0 := foStart
theorem uoRange {f : Frame} {e : Evidence} {docs : List (List Int)} {out : List Piece} {i : Int} (h : uoInv f e docs out i) (hl : i < e.1.length) : inRange i e.1.length := foRange h hl
theorem uiStart {f : Frame} {e : Evidence} {docs : List (List Int)} {out : List Piece} {i : Int} (h : uoInv f e docs out i) : uiInv f e docs i out 0 := by
  unfold uiInv
  rw [← h.2]
  exact foStart
theorem uiRange {f : Frame} {e : Evidence} {docs : List (List Int)} {out : List Piece} {i k : Int} (h : uiInv f e docs i out k) (hl : k < (e.1.getD i.toNat (dflt (.pair (.slice TPiece) (.slice TRen)))).1.length) :
    inRange k (e.1.getD i.toNat (dflt (.pair (.slice TPiece) (.slice TRen)))).1.length := foRange h hl
theorem uiAsc {f : Frame} {e : Evidence} {docs : List (List Int)} {out : List Piece} {i k : Int} (h : uiInv f e docs i out k) : AscP out := by
  rw [h.2]
  exact ascG (ascS List.Pairwise.nil)
theorem pieces_app (a b : List Strand) : pieces (a ++ b) = pieces a + pieces b := cellsL_append _ a b
theorem uiLen {f : Frame} {e : Evidence} {docs : List (List Int)} {out : List Piece} {i k : Int} (ho : inRange i e.1.length) (h : uiInv f e docs i out k)
    (hc : ((cellsC (.slice (.pair (.slice TPiece) (.slice TRen))) e.1 : Nat) : Int) ≤ 2000000000) : out.length ≤ 2000000000 := by
  have h0 := piecesCells e.1
  obtain ⟨o1, o2⟩ := ho
  have hi : i.toNat < e.1.length := by omega
  have h1 : out.length ≤ ((e.1.take i.toNat).foldl (strG (usG f e docs)) []).length + ((e.1.getD i.toNat (dflt (.pair (.slice TPiece) (.slice TRen)))).1.take k.toNat).length := by
    rw [h.2]; exact lenG
  have h2 : ((e.1.take i.toNat).foldl (strG (usG f e docs)) []).length ≤ ([] : List Piece).length + pieces (e.1.take i.toNat) := lenS
  have h3 : pieces e.1 = pieces (e.1.take (i.toNat + 1)) + pieces (e.1.drop (i.toNat + 1)) := by rw [← pieces_app, List.take_append_drop]
  have h4 : pieces (e.1.take (i.toNat + 1)) = pieces (e.1.take i.toNat) + (e.1.getD i.toNat (dflt (.pair (.slice TPiece) (.slice TRen)))).1.length := by
    rw [take_succD hi (dflt (.pair (.slice TPiece) (.slice TRen))), pieces_app]
    rfl
  rw [List.length_take] at h1
  simp only [List.length_nil] at h2
  omega
theorem uiStep {f : Frame} {e : Evidence} {docs : List (List Int)} {out out' : List Piece} {i k : Int} (h : uiInv f e docs i out k) (hl : k < (e.1.getD i.toNat (dflt (.pair (.slice TPiece) (.slice TRen)))).1.length)
    (hb : (e.1.getD i.toNat (dflt (.pair (.slice TPiece) (.slice TRen)))).1.length ≤ bigLen) (g : out' = usG f e docs out ((e.1.getD i.toNat (dflt (.pair (.slice TPiece) (.slice TRen)))).1.getD k.toNat (dflt TPiece))) :
    uiInv f e docs i out' (IntKind.i64.wrap (k + 1)) ∧ (((e.1.getD i.toNat (dflt (.pair (.slice TPiece) (.slice TRen)))).1.length : Int) - IntKind.i64.wrap (k + 1)).toNat < (((e.1.getD i.toNat (dflt (.pair (.slice TPiece) (.slice TRen)))).1.length : Int) - k).toNat := by
  rw [g]
  exact foStep (d := dflt TPiece) h hl hb
theorem uoStep {f : Frame} {e : Evidence} {docs : List (List Int)} {out0 out : List Piece} {i k : Int} (h : uoInv f e docs out0 i) (hl : i < e.1.length) (hb : e.1.length ≤ bigLen)
    (hi : uiInv f e docs i out k) (hk : ¬ k < (e.1.getD i.toNat (dflt (.pair (.slice TPiece) (.slice TRen)))).1.length) :
    uoInv f e docs out (IntKind.i64.wrap (i + 1)) ∧ (e.1.length - (IntKind.i64.wrap (i + 1))).toNat < (e.1.length - i).toNat := by
  have e1 := foEnd hi hk
  have s := foStep (d := dflt (.pair (.slice TPiece) (.slice TRen))) h hl hb
  refine ⟨?_, s.2⟩
  have e2 : out = strG (usG f e docs) out0 (e.1.getD i.toNat (dflt (.pair (.slice TPiece) (.slice TRen)))) := by
    rw [e1, h.2]; rfl
  rw [e2]
  exact s.1
theorem uoEnd {f : Frame} {e : Evidence} {docs : List (List Int)} {out : List Piece} {i : Int} (h : uoInv f e docs out i) (hl : ¬ i < e.1.length) : out = usablePiecesF f e docs := foEnd h hl
theorem usStrand {e : Evidence} (hs : Sm big20 (.slice (.pair (.slice TPiece) (.slice TRen))) e.1) {i : Int} (hi : inRange i e.1.length) :
    Sm big20 (.slice TPiece) (e.1.getD i.toNat (dflt (.pair (.slice TPiece) (.slice TRen)))).1 ∧ ∀ r ∈ (e.1.getD i.toNat (dflt (.pair (.slice TPiece) (.slice TRen)))).2, Sm big20 TRen r := by
  have := hs.2 _ (getD_mem hi (dflt (.pair (.slice TPiece) (.slice TRen))))
  exact ⟨this.1, this.2.2⟩
/-! counting while it comes before, with a wider bound -/
section
variable {α : Type} {p : α → Bool} {l : List α} {i : Int} {d x : α}
theorem tkStepW (h : tkInv p l i) (hs : l.length ≤ 2000000000) (g : pick2 (decide (i < (l.length : Int))) (p (l.getD i.toNat d)) false = true) :
    tkInv p l (IntKind.i64.wrap (i + 1)) ∧ ((l.length : Int) - IntKind.i64.wrap (i + 1)).toNat < ((l.length : Int) - i).toNat := by
  obtain ⟨h1, h2, h3⟩ := h
  have g1 := of_decide_eq_true (andT g).1
  have g2 := (andT g).2
  rw [w64 (by omega) (by omega)]
  refine ⟨⟨by omega, by omega, fun y hy => ?_⟩, by omega⟩
  rw [show (i + 1).toNat = i.toNat + 1 by omega, take_succD (by omega) d] at hy
  rcases List.mem_append.1 hy with hy | hy
  · exact h3 y hy
  · rw [List.mem_singleton.1 hy]; exact g2
end
/-! what the pieces that can be trusted hold -/
/-! the times a signature came after -/
end Fw
namespace Fw
open Go
theorem foStepE {α β : Type} {f : β → α → β} {z : β} {a : List α} {acc acc' : β} {d : α} {i : Int} (h : foInv f z a acc i) (hl : i < a.length) (hb : a.length ≤ bigLen) (e : acc' = f acc (a.getD i.toNat d)) :
    foInv f z a acc' (IntKind.i64.wrap (i + 1)) ∧ (a.length - (IntKind.i64.wrap (i + 1))).toNat < (a.length - i).toNat := by
  rw [e]; exact foStep h hl hb
theorem fkEndS {f : Frame} {s : Strand} {docs : List Int} {j : Int} (h : fkInv f s docs j) (hb : s.2.length ≤ bigLen)
    (g : pick2 (decide (j > 0)) (keptF f s docs (IntKind.i64.wrap (j - 1))) false = false) : j = firstKeptF f s docs := by
  by_cases h0 : j > 0
  · rw [decide_eq_true h0] at g
    exact fkStop h h0 hb g
  · exact fkZero h h0
end Fw
namespace Fw
open Go
/-! what a signature came after -/
end Fw
namespace Fw
open Go
theorem insConds2W {α : Type} {p : α → Bool} {l : List α} {i : Int} {Q : Prop} (h : tkInv p l i) (hs : l.length ≤ 2000000000) (hQ : Q) :
    conj [(0 : Int) ≤ 0, (0 : Int) ≤ i, i ≤ (l.length : Int), (subL l 0 i).length ≤ maxApp, Q, (subL l 0 i).length + 0 + 1 ≤ maxApp, 0 ≤ i, i ≤ (l.length : Int), (l.length : Int) ≤ (l.length : Int), (subL l 0 i).length ≤ i.toNat, (subL l 0 i).length + (0 + 1) + (l.length - i.toNat) ≤ maxApp] := by
  have e := sub0_len h
  obtain ⟨h1, h2, _⟩ := h
  rw [e]
  unfold maxApp
  refine ⟨Int.le_refl _, h1, h2, by omega, hQ, by omega, h1, h2, Int.le_refl _, Nat.le_refl _, ?_⟩
  show i.toNat + (0 + 1) + (l.length - i.toNat) ≤ 4294967296
  omega
theorem ccG {f : Frame} {e : Evidence} {docs : List (List Int)} : ∀ {l : List Piece} {out : List Piece}, cellsL (cellsC TPiece) (l.foldl (usG f e docs) out) ≤ cellsL (cellsC TPiece) out + cellsL (cellsC TPiece) l
  | [], _ => by simp [cellsL]
  | p :: r, out => by
    rw [List.foldl_cons]
    have h1 := ccG (f := f) (e := e) (docs := docs) (l := r) (out := usG f e docs out p)
    have h2 : cellsL (cellsC TPiece) (usG f e docs out p) ≤ cellsL (cellsC TPiece) out + cellsC TPiece p := by
      unfold usG
      split
      · unfold usPut
        split
        · omega
        · have : cellsL (cellsC TPiece) (putP p out) = cellsL (cellsC TPiece) out + cellsC TPiece p := cellsL_insP (cellsC TPiece) _ p out
          omega
      · omega
    have h3 : cellsL (cellsC TPiece) (p :: r) = cellsC TPiece p + cellsL (cellsC TPiece) r := rfl
    omega
theorem ccS {f : Frame} {e : Evidence} {docs : List (List Int)} : ∀ {l : List Strand} {out : List Piece},
    cellsL (cellsC TPiece) (l.foldl (strG (usG f e docs)) out) ≤ cellsL (cellsC TPiece) out + cellsC (.slice (.pair (.slice TPiece) (.slice TRen))) l
  | [], _ => by simp
  | s :: r, out => by
    rw [List.foldl_cons]
    have h1 := ccS (f := f) (e := e) (docs := docs) (l := r) (out := strG (usG f e docs) out s)
    have h2 : cellsL (cellsC TPiece) (strG (usG f e docs) out s) ≤ cellsL (cellsC TPiece) out + cellsL (cellsC TPiece) s.1 := ccG
    have h3 : cellsC (.slice (.pair (.slice TPiece) (.slice TRen))) (s :: r) = (cellsL (cellsC TPiece) s.1 + cellsC (.slice TRen) s.2) + cellsC (.slice (.pair (.slice TPiece) (.slice TRen))) r := rfl
    omega
theorem evdCells {e : Evidence} (h : ((cellsC (.pair (.slice (.pair (.slice TPiece) (.slice TRen))) (.slice (.slice TStamp))) e : Nat) : Int) ≤ 2000000000) : ((cellsC (.slice (.pair (.slice TPiece) (.slice TRen))) e.1 : Nat) : Int) ≤ 2000000000 := by
  have : cellsC (.pair (.slice (.pair (.slice TPiece) (.slice TRen))) (.slice (.slice TStamp))) e = cellsC (.slice (.pair (.slice TPiece) (.slice TRen))) e.1 + cellsC (.slice (.slice TStamp)) e.2 := rfl
  omega
theorem usCells {f : Frame} {e : Evidence} {docs : List (List Int)} (h : ((cellsC (.pair (.slice (.pair (.slice TPiece) (.slice TRen))) (.slice (.slice TStamp))) e : Nat) : Int) ≤ 2000000000) :
    ((cellsC (.slice TPiece) (usablePiecesF f e docs) : Nat) : Int) ≤ 10000000000000000 := by
  have h1 := evdCells h
  have h2 : cellsL (cellsC TPiece) (usablePiecesF f e docs) ≤ cellsL (cellsC TPiece) [] + cellsC (.slice (.pair (.slice TPiece) (.slice TRen))) e.1 := ccS
  have h3 : cellsL (cellsC TPiece) ([] : List Piece) = 0 := rfl
  show ((cellsL (cellsC TPiece) (usablePiecesF f e docs) : Nat) : Int) ≤ _
  omega
theorem putEq {p : Piece} {l : List Piece} {i : Int} (h : tkInv (fun y => pbF y p) l i) (hk : i.toNat = (l.takeWhile (fun y => pbF y p)).length) :
    l.take (subL l 0 i).length ++ ([] ++ [p]) ++ l.drop i.toNat = putP p l := insP_eq (by rw [sub0_len h]; exact hk) hk
end Fw
