/- Plain laws of certificates. Conditions: none. -/
import Derived.Test.YtlfmjohahkeejaaGreatP2
namespace Fw
open Go
def hdP (p : Piece) : Int := List.getD p.2.1 0 (dflt TI)
def tblP (p : Piece) : Int := List.getD [7, 5, 5, 9, 6] (IntKind.i64.wrap (hdP p - 101)).toNat (dflt TI)
def kb1 (p : Piece) : Bool := pick2 ((List.length p.2.1 : Int) == 0) true (!(inRangeF (hdP p) 101 105))
def kb2 (p : Piece) : Bool := ((List.length p.2.1 : Int) != tblP p)
def kindF (p : Piece) : Int := if pick2 (kb1 p) true (kb2 p) = true then 0 else hdP p
theorem kLen {l : List Int} (h : ((List.length l : Int) == 0) = false) : inRange 0 l.length := by
  have h1 : ¬ ((List.length l : Int) = 0) := by simpa using h
  exact upRange (a := l) ⟨0, Nat.zero_le _, rfl⟩ (by omega)
theorem kLen1 {p : Piece} (h : kb1 p = false) : inRange 0 p.2.1.length := kLen (orF h).1
theorem kHd {p : Piece} (h : kb1 p = false) : 101 ≤ hdP p ∧ hdP p ≤ 105 := by
  have h2 := notF (orF h).2
  unfold inRangeF at h2
  exact ⟨of_decide_eq_true (andT h2).1, of_decide_eq_true (andT h2).2⟩
theorem kIdx {p : Piece} (h : kb1 p = false) : inRange (IntKind.i64.wrap (hdP p - 101)) 5 := by
  have := kHd h
  rw [w64 (by omega) (by omega)]
  exact upRange (a := [0, 0, 0, 0, 0]) ⟨(hdP p - 101).toNat, by simp; omega, by omega⟩ (by simp; omega)
theorem kind0 {p : Piece} (h : kb1 p = true) : (0 : Int) = kindF p := by
  unfold kindF; rw [if_pos (by rw [h]; rfl)]
theorem kind1 {p : Piece} (h : kb2 p = true) : (0 : Int) = kindF p := by
  unfold kindF; rw [if_pos (by rw [h, pick2_or, Bool.or_true])]
theorem kind2 {p : Piece} (h : kb1 p = false) (h2 : kb2 p = false) : hdP p = kindF p := by
  unfold kindF; rw [if_neg (by rw [h, h2]; decide)]
theorem kindI {p : Piece} (h : pick2 (kb1 p) true (kb2 p) = true) : (0 : Int) = kindF p := by
  unfold kindF; rw [if_pos h]
/-- a piece that is a certificate's has seven numbers -/
theorem kind7 {p : Piece} (h : (kindF p != 101) = false) : List.length p.2.1 = 7 := by
  have h1 := bneI h
  unfold kindF at h1
  split at h1
  · cases h1
  · rename_i hh
    have hh : pick2 (kb1 p) true (kb2 p) = false := by simpa using hh
    have e := bneI (orF hh).2
    unfold tblP at e
    rw [h1] at e
    have e2 : (IntKind.i64.wrap (101 - 101)).toNat = 0 := by decide
    rw [e2] at e
    have e3 : (List.length p.2.1 : Int) = 7 := e
    omega
theorem seven {l : List Int} (h : List.length l = 7) (j : Nat) (hj : j < 7) : inRange (j : Int) l.length :=
  upRange (a := l) ⟨j, by omega, rfl⟩ (by omega)
abbrev Cert := Int × Int × Int × Int × Int × Int × Int
def nth (p : Piece) (j : Nat) : Int := List.getD p.2.1 j (dflt TI)
def pcBad (p : Piece) : Bool := pick2 (kindF p != 101) true (nth p 6 != p.1)
def pieceCertF (p : Piece) : Cert × Bool := if pcBad p = true then ((0, 0, 0, 0, 0, 0, 0), false) else ((nth p 1, nth p 2, nth p 3, nth p 4, nth p 5, nth p 6, p.2.2), true)
theorem pc0 {p : Piece} (h : pcBad p = true) : pieceCertF p = ((0, 0, 0, 0, 0, 0, 0), false) := by unfold pieceCertF; rw [if_pos h]
theorem pc1 {p : Piece} (h : pcBad p = false) : pieceCertF p = ((nth p 1, nth p 2, nth p 3, nth p 4, nth p 5, nth p 6, p.2.2), true) := by unfold pieceCertF; rw [if_neg (by rw [h]; decide)]
theorem pc7 {p : Piece} (h : pcBad p = false) : List.length p.2.1 = 7 := kind7 (orF h).1
def certSpanF (c : Cert) : Int × Int := (c.2.2.2.1, c.2.2.2.2.1)
def certIntsF (c : Cert) : List Int := [101, c.1, c.2.1, c.2.2.1, c.2.2.2.1, c.2.2.2.2.1, c.2.2.2.2.2.1]
def isCertF (c : Cert) : Bool :=
  pick2 (pick2 (pick2 (pick2 (pick2 (inRangeF c.1 1 999) (inRangeF c.2.1 1 99) false) (inRangeF c.2.2.2.2.2.1 1 99) false) (c.2.1 != c.2.2.2.2.2.1) false) (inRangeF c.2.2.1 0 99) false) (isSpanF (certSpanF c)) false
def ownerF (keys : List Key) (n : Int) : Int := if keyI keys n < 0 then -1 else (keyAt keys n).2.1
theorem owner0 {keys : List Key} {n : Int} (h : keyI keys n < 0) : (-1 : Int) = ownerF keys n := by unfold ownerF; rw [if_pos h]
theorem owner1 {keys : List Key} {n : Int} (h : ¬ keyI keys n < 0) : (keyAt keys n).2.1 = ownerF keys n := by unfold ownerF; rw [if_neg h]
def checkCertF (keys : List Key) (c : Cert) : Bool :=
  pick2 (pick2 (isCertF c) (checkMarkF keys c.2.2.2.2.2.1 (certIntsF c) c.2.2.2.2.2.2) false) (ownerF keys c.2.1 == c.2.2.1) false
theorem checkCertI (keys : List Key) (c : Cert) : pick2 (pick2 (isCertF c) (checkMarkF keys c.2.2.2.2.2.1 (certIntsF c) c.2.2.2.2.2.2) false) (c.2.2.1 == ownerF keys c.2.1) false = checkCertF keys c := by
  unfold checkCertF
  have : (c.2.2.1 == ownerF keys c.2.1) = (ownerF keys c.2.1 == c.2.2.1) := by rw [Bool.eq_iff_iff]; simp; exact eq_comm
  rw [this]
def cfTest (keys : List Key) (g : Sig) (p : Piece) : Bool :=
  pick2 (pick2 (pick2 (pieceCertF p).2 (checkCertF keys (pieceCertF p).1) false) ((pieceCertF p).1.1 == g.2.1) false) ((pieceCertF p).1.2.1 == g.1) false
def cfStep (keys : List Key) (g : Sig) (acc : Cert × Int) (p : Piece) : Cert × Int := if cfTest keys g p = true then ((pieceCertF p).1, IntKind.i64.wrap (acc.2 + 1)) else acc
def cfAll (keys : List Key) (l : List Piece) (g : Sig) : Cert × Int := l.foldl (cfStep keys g) ((0, 0, 0, 0, 0, 0, 0), 0)
def certForF (keys : List Key) (l : List Piece) (g : Sig) : Cert × Bool := if ((cfAll keys l g).2 != 1) = true then ((0, 0, 0, 0, 0, 0, 0), false) else ((cfAll keys l g).1, true)
theorem cfYes {keys : List Key} {g : Sig} {acc : Cert × Int} {p : Piece} (h : cfTest keys g p = true) : cfStep keys g acc p = ((pieceCertF p).1, IntKind.i64.wrap (acc.2 + 1)) := by unfold cfStep; rw [if_pos h]
theorem cfNo {keys : List Key} {g : Sig} {acc : Cert × Int} {p : Piece} (h : cfTest keys g p = false) : cfStep keys g acc p = acc := by unfold cfStep; rw [if_neg (by rw [h]; decide)]
def cfInv (keys : List Key) (g : Sig) (l : List Piece) (c : Cert) (n : Int) (i : Int) : Prop := foInv (cfStep keys g) ((0, 0, 0, 0, 0, 0, 0), 0) l (c, n) i
theorem cfStart {keys : List Key} {g : Sig} {l : List Piece} : cfInv keys g l (0, 0, 0, 0, 0, 0, 0) 0 0 := foStart
theorem cfRange {keys : List Key} {g : Sig} {l : List Piece} {c : Cert} {n i : Int} (h : cfInv keys g l c n i) (hl : i < l.length) : inRange i l.length := foRange h hl
theorem cfGo1 {keys : List Key} {g : Sig} {l : List Piece} {c : Cert} {n i : Int} {d : Piece} (h : cfInv keys g l c n i) (hl : i < l.length) (hb : l.length ≤ bigLen) (ht : cfTest keys g (l.getD i.toNat d) = true) :
    cfInv keys g l (pieceCertF (l.getD i.toNat d)).1 (IntKind.i64.wrap (n + 1)) (IntKind.i64.wrap (i + 1)) ∧ (l.length - (IntKind.i64.wrap (i + 1))).toNat < (l.length - i).toNat := by
  have := foStep (d := d) h hl hb
  rw [cfYes ht] at this; exact this
theorem cfGo0 {keys : List Key} {g : Sig} {l : List Piece} {c : Cert} {n i : Int} {d : Piece} (h : cfInv keys g l c n i) (hl : i < l.length) (hb : l.length ≤ bigLen) (ht : cfTest keys g (l.getD i.toNat d) = false) :
    cfInv keys g l c n (IntKind.i64.wrap (i + 1)) ∧ (l.length - (IntKind.i64.wrap (i + 1))).toNat < (l.length - i).toNat := by
  have := foStep (d := d) h hl hb
  rw [cfNo ht] at this; exact this
theorem cfEnd0 {keys : List Key} {g : Sig} {l : List Piece} {c : Cert} {n i : Int} (h : cfInv keys g l c n i) (hl : ¬ i < l.length) (hn : (n != 1) = true) : certForF keys l g = ((0, 0, 0, 0, 0, 0, 0), false) := by
  have e : (c, n) = cfAll keys l g := foEnd h hl
  unfold certForF; rw [← e, if_pos hn]
theorem cfEnd1 {keys : List Key} {g : Sig} {l : List Piece} {c : Cert} {n i : Int} (h : cfInv keys g l c n i) (hl : ¬ i < l.length) (hn : (n != 1) = false) : certForF keys l g = (c, true) := by
  have e : (c, n) = cfAll keys l g := foEnd h hl
  unfold certForF; rw [← e, if_neg (by rw [hn]; decide)]
end Fw
namespace Fw
open Go
/-- from the left, ending early with e at the first bad one -/
def efF {α β : Type} (bad : α → Bool) (g : β → α → β) (e : β) : List α → β → β
  | [], m => m
  | x :: t, m => if bad x = true then e else efF bad g e t (g m x)
def efInv {α β : Type} (bad : α → Bool) (g : β → α → β) (e z : β) (L : List α) (m : β) (i : Int) : Prop := upInv L i ∧ efF bad g e L z = efF bad g e (L.drop i.toNat) m
theorem efStart {α β : Type} {bad : α → Bool} {g : β → α → β} {e z : β} {L : List α} : efInv bad g e z L z 0 := ⟨upStart, rfl⟩
theorem efRange {α β : Type} {bad : α → Bool} {g : β → α → β} {e z m : β} {L : List α} {i : Int} (h : efInv bad g e z L m i) (hl : i < L.length) : inRange i L.length := upRange h.1 hl
theorem efCons {α β : Type} {bad : α → Bool} {g : β → α → β} {e z m : β} {L : List α} {d : α} {i : Int} (h : efInv bad g e z L m i) (hl : i < L.length) :
    efF bad g e L z = if bad (L.getD i.toNat d) = true then e else efF bad g e (L.drop (i.toNat + 1)) (g m (L.getD i.toNat d)) := by
  obtain ⟨⟨k, hk, rfl⟩, h2⟩ := h
  have h1 : ((k : Int)).toNat = k := by omega
  rw [h1] at h2 ⊢
  have hk' : k < L.length := by omega
  rw [h2, List.drop_eq_getElem_cons hk']
  have : L.getD k d = L[k] := by rw [List.getD_eq_getElem?_getD, List.getElem?_eq_getElem hk']; rfl
  rw [this, efF]
theorem efStop {α β : Type} {bad : α → Bool} {g : β → α → β} {e z m : β} {L : List α} {d : α} {i : Int} (h : efInv bad g e z L m i) (hl : i < L.length) (hb : bad (L.getD i.toNat d) = true) : e = efF bad g e L z := by
  rw [efCons (d := d) h hl, if_pos hb]
theorem efStep {α β : Type} {bad : α → Bool} {g : β → α → β} {e z m : β} {L : List α} {d : α} {i : Int} (h : efInv bad g e z L m i) (hl : i < L.length) (hb : L.length ≤ bigLen) (hx : bad (L.getD i.toNat d) = false) :
    efInv bad g e z L (g m (L.getD i.toNat d)) (IntKind.i64.wrap (i + 1)) ∧ (L.length - (IntKind.i64.wrap (i + 1))).toNat < (L.length - i).toNat := by
  obtain ⟨u1, u2, u3⟩ := upStep h.1 hl hb
  obtain ⟨k, hk, e1⟩ := h.1
  refine ⟨⟨u1, ?_⟩, u3⟩
  have e2 : (IntKind.i64.wrap (i + 1)).toNat = i.toNat + 1 := by rw [u2]; omega
  rw [e2, efCons (d := d) h hl, if_neg (by rw [hx]; decide)]
theorem efEnd {α β : Type} {bad : α → Bool} {g : β → α → β} {e z m : β} {L : List α} {i : Int} (h : efInv bad g e z L m i) (hl : ¬ i < L.length) : m = efF bad g e L z := by
  obtain ⟨k, hk, e1⟩ := h.1
  rw [h.2, List.drop_eq_nil_of_le (by omega)]; rfl
abbrev Method := Int × Int × Int × Int
abbrev TMethod : Ty := .pair TI (.pair TI (.pair TI TI))
abbrev Frame := List Key × List Authority × List Method × Int × Int
def methI (l : List Method) (n : Int) : Int := findI (fun (x : Method) => x.1 == n) l
def methAt (l : List Method) (n : Int) : Method := l.getD (methI l n).toNat (dflt TMethod)
def mEnds (l : List Method) (n : Int) : Int := if methI l n < 0 then 0 else (methAt l n).2.2.1
theorem mEnds0 {l : List Method} {n : Int} (h : methI l n < 0) : (0 : Int) = mEnds l n := by unfold mEnds; rw [if_pos h]
theorem mEnds1 {l : List Method} {n : Int} (h : ¬ methI l n < 0) : (methAt l n).2.2.1 = mEnds l n := by unfold mEnds; rw [if_neg h]
def stampKeyF (l : List Authority) (s : Stamp) : Int := if authI l s.1 < 0 then 0 else (authAt l s.1).2.1
theorem stampKey0 {l : List Authority} {s : Stamp} (h : authI l s.1 < 0) : (0 : Int) = stampKeyF l s := by unfold stampKeyF; rw [if_pos h]
theorem stampKey1 {l : List Authority} {s : Stamp} (h : ¬ authI l s.1 < 0) : (authAt l s.1).2.1 = stampKeyF l s := by unfold stampKeyF; rw [if_neg h]
def enBad (f : Frame) (s : Stamp) : Bool := decide (keyI f.1 (stampKeyF f.2.1 s) < 0)
def enG (f : Frame) (m : Int) (s : Stamp) : Int := min m (mEnds f.2.2.1 (keyAt f.1 (stampKeyF f.2.1 s)).2.2.1)
def endsOfF (f : Frame) (r : Renewal) : Int := efF (enBad f) (enG f) 0 r.2.2.2.2 (mEnds f.2.2.1 r.2.1)
end Fw
namespace Fw
open Go
set_option linter.unusedSimpArgs false
set_option linter.unusedVariables false
/-- what the elements give, of those that give something -/
def pickF {α β : Type} (f : α → β × Bool) (L : List α) : List β := L.filterMap (fun x => if (f x).2 = true then some (f x).1 else none)
def pkInv {α β : Type} (f : α → β × Bool) (L : List α) (acc : List β) (i : Int) : Prop := upInv L i ∧ acc = pickF f (L.take i.toNat)
theorem pkStart {α β : Type} {f : α → β × Bool} {L : List α} : pkInv f L [] 0 := ⟨upStart, by simp [pickF]⟩
theorem pkRange {α β : Type} {f : α → β × Bool} {L : List α} {acc : List β} {i : Int} (h : pkInv f L acc i) (hl : i < L.length) : inRange i L.length := upRange h.1 hl
theorem pick_len {α β : Type} (f : α → β × Bool) (L : List α) : (pickF f L).length ≤ L.length := List.length_filterMap_le _ _
theorem pkLen {α β : Type} {f : α → β × Bool} {L : List α} {acc : List β} {i : Int} (h : pkInv f L acc i) (hs : L.length ≤ 1048576) : acc.length + 1 ≤ maxApp := by
  have := pick_len f (L.take i.toNat)
  rw [← h.2, List.length_take] at this
  unfold maxApp; omega
theorem pick_app {α β : Type} (f : α → β × Bool) (L : List α) (x : α) : pickF f (L ++ [x]) = pickF f L ++ (if (f x).2 = true then [(f x).1] else []) := by
  unfold pickF
  rw [List.filterMap_append]
  congr 1
  split
  · rename_i h; simp [h]
  · rename_i h; simp [h]
theorem pkStep {α β : Type} {f : α → β × Bool} {L : List α} {acc acc' : List β} {d : α} {i : Int} (h : pkInv f L acc i) (hl : i < L.length) (hb : L.length ≤ bigLen)
    (e : acc' = acc ++ (if (f (L.getD i.toNat d)).2 = true then [(f (L.getD i.toNat d)).1] else [])) :
    pkInv f L acc' (IntKind.i64.wrap (i + 1)) ∧ (L.length - (IntKind.i64.wrap (i + 1))).toNat < (L.length - i).toNat := by
  obtain ⟨u1, u2, u3⟩ := upStep h.1 hl hb
  obtain ⟨k, hk, e1⟩ := h.1
  refine ⟨⟨u1, ?_⟩, u3⟩
  have e2 : (IntKind.i64.wrap (i + 1)).toNat = i.toNat + 1 := by rw [u2]; omega
  have hi : i.toNat < L.length := by omega
  rw [e2, take_succD hi d, pick_app, e, h.2]
theorem pkYes {α β : Type} {f : α → β × Bool} {L : List α} {acc : List β} {d : α} {i : Int} (h : pkInv f L acc i) (hl : i < L.length) (hb : L.length ≤ bigLen) (g : (f (L.getD i.toNat d)).2 = true) :
    pkInv f L (acc ++ [(f (L.getD i.toNat d)).1]) (IntKind.i64.wrap (i + 1)) ∧ (L.length - (IntKind.i64.wrap (i + 1))).toNat < (L.length - i).toNat :=
  pkStep (d := d) h hl hb (by rw [if_pos g])
theorem pkNo {α β : Type} {f : α → β × Bool} {L : List α} {acc : List β} {d : α} {i : Int} (h : pkInv f L acc i) (hl : i < L.length) (hb : L.length ≤ bigLen) (g : (f (L.getD i.toNat d)).2 = false) :
    pkInv f L acc (IntKind.i64.wrap (i + 1)) ∧ (L.length - (IntKind.i64.wrap (i + 1))).toNat < (L.length - i).toNat :=
  pkStep (d := d) h hl hb (by rw [if_neg (by rw [g]; decide), List.append_nil])
theorem pkEnd {α β : Type} {f : α → β × Bool} {L : List α} {acc : List β} {i : Int} (h : pkInv f L acc i) (hl : ¬ i < L.length) : acc = pickF f L := by
  obtain ⟨k, hk, e1⟩ := h.1
  rw [h.2, List.take_of_length_le (by omega)]
theorem pickBig {α β : Type} {f : α → β × Bool} {L : List α} (h : L.length ≤ 1048576) : (pickF f L).length ≤ 1000000000000 := by
  have := pick_len f L; omega

theorem kindK {p : Piece} {k : Int} (h : (kindF p != k) = false) (hk : k ≠ 0) {n : Nat} (hn : List.getD [7, 5, 5, 9, 6] (IntKind.i64.wrap (k - 101)).toNat (dflt TI) = (n : Int)) : List.length p.2.1 = n := by
  have h1 := bneI h
  unfold kindF at h1
  split at h1
  · exact (hk h1.symm).elim
  · rename_i hh
    have hh : pick2 (kb1 p) true (kb2 p) = false := by simpa using hh
    have e := bneI (orF hh).2
    unfold tblP at e
    rw [h1, hn] at e
    omega
theorem nIdx {l : List Int} {n : Nat} (h : List.length l = n) (j : Nat) (hj : j < n) : inRange (j : Int) l.length :=
  upRange (a := l) ⟨j, by omega, rfl⟩ (by omega)
abbrev Mandate := Int × Int × Int × Int × Int × Int
abbrev Status := Int × Int × Int × Int × Int
def pmBad (p : Piece) : Bool := pick2 (kindF p != 105) true (nth p 5 != p.1)
def pieceMandF (p : Piece) : Mandate × Bool := if pmBad p = true then ((0, 0, 0, 0, 0, 0), false) else ((nth p 1, nth p 2, nth p 3, nth p 4, nth p 5, p.2.2), true)
theorem pm0 {p : Piece} (h : pmBad p = true) : pieceMandF p = ((0, 0, 0, 0, 0, 0), false) := by unfold pieceMandF; rw [if_pos h]
theorem pm1 {p : Piece} (h : pmBad p = false) : pieceMandF p = ((nth p 1, nth p 2, nth p 3, nth p 4, nth p 5, p.2.2), true) := by unfold pieceMandF; rw [if_neg (by rw [h]; decide)]
theorem pmN {p : Piece} (h : (kindF p != 105) = false) : List.length p.2.1 = 6 := kindK h (by decide) rfl
def psBad (p : Piece) : Bool := pick2 (kindF p != 102) true (nth p 4 != p.1)
def pieceStatF (p : Piece) : Status × Bool := if psBad p = true then ((0, 0, 0, 0, 0), false) else ((nth p 1, nth p 2, nth p 3, nth p 4, p.2.2), true)
theorem ps0 {p : Piece} (h : psBad p = true) : pieceStatF p = ((0, 0, 0, 0, 0), false) := by unfold pieceStatF; rw [if_pos h]
theorem ps1 {p : Piece} (h : psBad p = false) : pieceStatF p = ((nth p 1, nth p 2, nth p 3, nth p 4, p.2.2), true) := by unfold pieceStatF; rw [if_neg (by rw [h]; decide)]
theorem psN {p : Piece} (h : (kindF p != 102) = false) : List.length p.2.1 = 5 := kindK h (by decide) rfl
def mandatesF (l : List Piece) : List Mandate := pickF pieceMandF l
/-- of a piece: the answer about this certificate -/
def statFor (c : Cert) (p : Piece) : Status × Bool := ((pieceStatF p).1, pick2 (pick2 (pieceStatF p).2 ((pieceStatF p).1.1 == c.1) false) ((pieceStatF p).1.2.2.2.1 == c.2.2.2.2.2.1) false)
def statusesF (l : List Piece) (c : Cert) : List Status := pickF (statFor c) l
theorem mandatesBig {l : List Piece} (h : l.length ≤ 1048576) : (mandatesF l).length ≤ 1000000000000 := pickBig h
theorem statusesBig {l : List Piece} {c : Cert} (h : l.length ≤ 1048576) : (statusesF l c).length ≤ 1000000000000 := pickBig h
/-! two rows side by side -/
theorem pkYesE {α β : Type} {f : α → β × Bool} {L : List α} {acc acc' : List β} {d : α} {i : Int} (h : pkInv f L acc i) (hl : i < L.length) (hb : L.length ≤ bigLen) (g : (f (L.getD i.toNat d)).2 = true)
    (e : acc' = acc ++ [(f (L.getD i.toNat d)).1]) : pkInv f L acc' (IntKind.i64.wrap (i + 1)) ∧ (L.length - (IntKind.i64.wrap (i + 1))).toNat < (L.length - i).toNat := by
  rw [e]; exact pkYes h hl hb g
theorem zGet {a b : List Int} {i : Int} (h : 0 ≤ i) (hl : i < ((a.zip b).length : Int)) : (a.zip b).getD i.toNat (0, 0) = (a.getD i.toNat (dflt TI), b.getD i.toNat (dflt TI)) := by
  rw [List.length_zip] at hl
  have h1 : i.toNat < a.length := by omega
  have h2 : i.toNat < b.length := by omega
  have h3 : i.toNat < (a.zip b).length := by rw [List.length_zip]; omega
  rw [List.getD_eq_getElem?_getD, List.getD_eq_getElem?_getD, List.getD_eq_getElem?_getD, List.getElem?_eq_getElem h3, List.getElem?_eq_getElem h1, List.getElem?_eq_getElem h2, List.getElem_zip]
  rfl
theorem pkPos {α β : Type} {f : α → β × Bool} {L : List α} {acc : List β} {i : Int} (h : pkInv f L acc i) : 0 ≤ i := by obtain ⟨k, _, e⟩ := h.1; omega
theorem zipLt {a b : List Int} {i : Int} (h1 : i < (a.length : Int)) (h2 : i < (b.length : Int)) : i < ((a.zip b).length : Int) := by rw [List.length_zip]; omega
theorem zipGe {a b : List Int} {i : Int} (h : ¬ (i < (a.length : Int) ∧ i < (b.length : Int))) : ¬ i < ((a.zip b).length : Int) := by rw [List.length_zip]; omega
theorem andLt {i m n : Int} (h : pick2 (decide (i < m)) (decide (i < n)) false = true) : i < m ∧ i < n := by
  unfold pick2 at h
  cases h1 : decide (i < m) <;> rw [h1] at h
  · cases h
  · exact ⟨of_decide_eq_true h1, of_decide_eq_true h⟩
theorem andGe {i m n : Int} (h : pick2 (decide (i < m)) (decide (i < n)) false = false) : ¬ (i < m ∧ i < n) := by
  rintro ⟨h1, h2⟩
  unfold pick2 at h
  rw [decide_eq_true h1, decide_eq_true h2] at h
  cases h
theorem zipL {a b : List Int} {i : Int} (h : i < ((a.zip b).length : Int)) : i < (a.length : Int) := by rw [List.length_zip] at h; omega
theorem zipR {a b : List Int} {i : Int} (h : i < ((a.zip b).length : Int)) : i < (b.length : Int) := by rw [List.length_zip] at h; omega
noncomputable def stF (keys : List Key) (l : List Authority) (seq dg : Int) (p : Int × Int) : Stamp × Bool := makeStampF keys l (p.1, seq, p.2, dg, 0)
noncomputable def stampAllF (keys : List Key) (l : List Authority) (ids : List Int) (seq : Int) (times : List Int) (dg : Int) : List Stamp := pickF (stF keys l seq dg) (ids.zip times)
theorem stampAllBig {keys : List Key} {l : List Authority} {ids times : List Int} {seq dg : Int} (h : ids.length ≤ 1048576) : (stampAllF keys l ids seq times dg).length ≤ 1000000000000 :=
  pickBig (by rw [List.length_zip]; omega)
def aliveF (l : List Method) (n t : Int) : Bool := pick2 (pick2 (decide (methI l n ≥ 0)) (decide ((methAt l n).2.1 ≤ t)) false) (decide (t < (methAt l n).2.2.2)) false
theorem geNot {x : Int} (h : decide (x ≥ 0) = true) : ¬ x < 0 := by have := of_decide_eq_true h; omega
def paT (f : Frame) (a : Authority) : Bool :=
  pick2 (pick2 (pick2 (decide (keyI f.1 a.2.1 ≥ 0)) (decide ((keyAt f.1 a.2.1).2.2.2.1 ≤ f.2.2.2.2)) false) (aliveF f.2.2.1 (keyAt f.1 a.2.1).2.2.1 f.2.2.2.2) false) (decide (mEnds f.2.2.1 (keyAt f.1 a.2.1).2.2.1 > f.2.2.2.2)) false
def paF (f : Frame) (a : Authority) : Int × Bool := (a.1, paT f a)
theorem paNo {f : Frame} {a : Authority} (h : keyI f.1 a.2.1 < 0) : (paF f a).2 = false := by
  show paT f a = false
  unfold paT
  rw [decide_eq_false (by omega : ¬ keyI f.1 a.2.1 ≥ 0)]
  simp [pick2]
theorem paRest {f : Frame} {a : Authority} (h : ¬ keyI f.1 a.2.1 < 0) :
    (paF f a).2 = pick2 (pick2 (decide ((keyAt f.1 a.2.1).2.2.2.1 ≤ f.2.2.2.2)) (aliveF f.2.2.1 (keyAt f.1 a.2.1).2.2.1 f.2.2.2.2) false) (decide (mEnds f.2.2.1 (keyAt f.1 a.2.1).2.2.1 > f.2.2.2.2)) false := by
  show paT f a = _
  unfold paT
  rw [decide_eq_true (by omega : keyI f.1 a.2.1 ≥ 0)]
  rfl
def planF (f : Frame) : List Int := pickF (paF f) f.2.1
theorem planBig {f : Frame} (h : f.2.1.length ≤ 1048576) : (planF f).length ≤ 1000000000000 := pickBig h
end Fw
namespace Fw
open Go
noncomputable def pairDF (m a b : Int) : Int := digestF m [1, a, b]
noncomputable def upF (m : Int) : List Int → List Int
  | [] => []
  | [a] => [a]
  | a :: b :: r => pairDF m a b :: upF m r
theorem upF_len (m : Int) : ∀ l : List Int, (upF m l).length ≤ l.length ∧ (2 ≤ l.length → (upF m l).length < l.length) ∧ (1 ≤ l.length → 1 ≤ (upF m l).length)
  | [] => by simp [upF]
  | [a] => by simp [upF]
  | a :: b :: r => by
    have := upF_len m r
    simp only [upF, List.length_cons]
    omega
noncomputable def rootL (m : Int) (l : List Int) : List Int := if _h : 2 ≤ l.length then rootL m (upF m l) else l
termination_by l.length
decreasing_by exact (upF_len m l).2.1 _h
theorem rootL_up {m : Int} {l : List Int} (h : 2 ≤ l.length) : rootL m l = rootL m (upF m l) := by rw [rootL, dif_pos h]
theorem rootL_end {m : Int} {l : List Int} (h : ¬ 2 ≤ l.length) : rootL m l = l := by rw [rootL, dif_neg h]
noncomputable def treeF (m : Int) (l : List Int) : Int := if inRangeF (l.length : Int) 1 16 = true then (rootL m l).getD 0 (dflt TI) else -1
theorem tree0 {m : Int} {l : List Int} (h : (!(inRangeF (l.length : Int) 1 16)) = true) : (-1 : Int) = treeF m l := by
  unfold treeF; rw [if_neg]
  intro e; rw [e] at h; cases h
def trInv (m : Int) (l0 l : List Int) : Prop := rootL m l = rootL m l0 ∧ 1 ≤ l.length ∧ l.length ≤ 16
theorem rg {x a b : Int} (h : (!(inRangeF x a b)) = false) : a ≤ x ∧ x ≤ b := by
  unfold inRangeF pick2 at h
  cases h1 : decide (a ≤ x) <;> rw [h1] at h
  · cases h
  · cases h2 : decide (x ≤ b) <;> rw [h2] at h
    · cases h
    · exact ⟨of_decide_eq_true h1, of_decide_eq_true h2⟩
theorem trStart {m : Int} {l : List Int} (h : 1 ≤ (l.length : Int) ∧ (l.length : Int) ≤ 16) : trInv m l l := ⟨rfl, by omega, by omega⟩
theorem trStep {m : Int} {l0 l : List Int} (h : trInv m l0 l) (g : (l.length : Int) > 1) : trInv m l0 (upF m l) ∧ (upF m l).length < l.length := by
  have hl := upF_len m l
  have h2 : 2 ≤ l.length := by omega
  exact ⟨⟨by rw [← rootL_up h2]; exact h.1, hl.2.2 h.2.1, by have := hl.1; have := h.2.2; omega⟩, hl.2.1 h2⟩
theorem trEnd {m : Int} {l0 l : List Int} (h : trInv m l0 l) (g : ¬ (l.length : Int) > 1) (hr : (!(inRangeF (l0.length : Int) 1 16)) = false) : l.getD 0 (dflt TI) = treeF m l0 := by
  unfold treeF
  rw [if_pos (by simpa using hr), ← h.1, rootL_end (by omega)]
theorem trIdx {m : Int} {l0 l : List Int} (h : trInv m l0 l) : inRange 0 l.length := ⟨by omega, by have := h.2.1; omega⟩
theorem trSmall {m : Int} {l0 l : List Int} (h : trInv m l0 l) : l.length ≤ 1048576 := by have := h.2.2; omega
/-- two at a time -/
def liInv (m : Int) (l out : List Int) (i : Int) : Prop := 0 ≤ i ∧ upF m l = out ++ upF m (l.drop i.toNat) ∧ (out.length : Int) ≤ i
theorem liStart {m : Int} {l : List Int} : liInv m l [] 0 := ⟨by omega, by simp, by simp⟩
theorem liRange {m : Int} {l out : List Int} {i : Int} (h : liInv m l out i) (hl : i < (l.length : Int)) : inRange i l.length := ⟨h.1, hl⟩
theorem liRange1 {m : Int} {l out : List Int} {i : Int} (h : liInv m l out i) (g : IntKind.i64.wrap (i + 1) < (l.length : Int)) (hs : l.length ≤ 1048576) (hl : i < (l.length : Int)) : inRange (IntKind.i64.wrap (i + 1)) l.length := by
  refine ⟨?_, g⟩
  rw [w64 (by have := h.1; omega) (by omega)]
  have := h.1; omega
theorem liLen {m : Int} {l out : List Int} {i : Int} (h : liInv m l out i) (hs : l.length ≤ 1048576) (hl : i < (l.length : Int)) : out.length + 1 ≤ maxApp := by
  have := h.2.2; unfold maxApp; omega
theorem li2 {m : Int} {l out : List Int} {i : Int} (h : liInv m l out i) (hl : i < (l.length : Int)) (hs : l.length ≤ 1048576) (g : IntKind.i64.wrap (i + 1) < (l.length : Int)) :
    liInv m l (out ++ [pairDF m (l.getD i.toNat (dflt TI)) (l.getD (IntKind.i64.wrap (i + 1)).toNat (dflt TI))]) (IntKind.i64.wrap (i + 2)) ∧ ((l.length : Int) - IntKind.i64.wrap (i + 2)).toNat < ((l.length : Int) - i).toNat := by
  obtain ⟨h0, h1, h2⟩ := h
  rw [w64 (x := i + 1) (by omega) (by omega)] at g ⊢
  rw [w64 (x := i + 2) (by omega) (by omega)]
  have a1 : i.toNat < l.length := by omega
  have a2 : i.toNat + 1 < l.length := by omega
  have e1 : (i + 1).toNat = i.toNat + 1 := by omega
  have e2 : (i + 2).toNat = i.toNat + 2 := by omega
  refine ⟨⟨by omega, ?_, by simp only [List.length_append, List.length_singleton]; omega⟩, by omega⟩
  rw [h1, e1, e2, List.drop_eq_getElem_cons a1, List.drop_eq_getElem_cons a2]
  have g1 : l.getD i.toNat (dflt TI) = l[i.toNat] := by rw [List.getD_eq_getElem?_getD, List.getElem?_eq_getElem a1]; rfl
  have g2 : l.getD (i.toNat + 1) (dflt TI) = l[i.toNat + 1] := by rw [List.getD_eq_getElem?_getD, List.getElem?_eq_getElem a2]; rfl
  rw [g1, g2, upF, List.append_assoc]; rfl
theorem li1 {m : Int} {l out : List Int} {i : Int} (h : liInv m l out i) (hl : i < (l.length : Int)) (hs : l.length ≤ 1048576) (g : ¬ IntKind.i64.wrap (i + 1) < (l.length : Int)) :
    liInv m l (out ++ [l.getD i.toNat (dflt TI)]) (IntKind.i64.wrap (i + 2)) ∧ ((l.length : Int) - IntKind.i64.wrap (i + 2)).toNat < ((l.length : Int) - i).toNat := by
  obtain ⟨h0, h1, h2⟩ := h
  rw [w64 (x := i + 1) (by omega) (by omega)] at g
  rw [w64 (x := i + 2) (by omega) (by omega)]
  have a1 : i.toNat < l.length := by omega
  refine ⟨⟨by omega, ?_, by simp only [List.length_append, List.length_singleton]; omega⟩, by omega⟩
  have g1 : l.getD i.toNat (dflt TI) = l[i.toNat] := by rw [List.getD_eq_getElem?_getD, List.getElem?_eq_getElem a1]; rfl
  rw [h1, List.drop_eq_getElem_cons a1, List.drop_eq_nil_of_le (by omega), List.drop_eq_nil_of_le (by omega), g1]
  simp [upF]
theorem liEnd {m : Int} {l out : List Int} {i : Int} (h : liInv m l out i) (hl : ¬ i < (l.length : Int)) : out = upF m l := by
  rw [h.2.1, List.drop_eq_nil_of_le (by omega)]; simp [upF]
/-- items' digests -/
noncomputable def idF (m : Int) (x : Item) : Int × Bool := (itemDigF m x, true)
noncomputable def digItemsF (m : Int) (l : List Item) : Int := treeF m (pickF (idF m) l)
abbrev Parcel := Int × Int × List Item × Int
noncomputable def checkParcelF (p : Parcel) (m : Int) : Bool :=
  efF (fun x => !(itemF x)) (fun (b : Bool) _ => b) false p.2.2.1 (pick2 (inRangeF (p.2.2.1.length : Int) 1 8) (p.2.2.2 == digItemsF m p.2.2.1) false)
end Fw
namespace Fw
open Go
/-- copied so far -/
def cpInv {α : Type} (L : List α) (acc : List α) (i : Int) : Prop := upInv L i ∧ acc = L.take i.toNat
theorem cpStart {α : Type} {L : List α} : cpInv L [] 0 := ⟨upStart, by simp⟩
theorem cpRange {α : Type} {L acc : List α} {i : Int} (h : cpInv L acc i) (hl : i < L.length) : inRange i L.length := upRange h.1 hl
theorem cpStep {α : Type} {L acc acc' : List α} {d : α} {i : Int} (h : cpInv L acc i) (hl : i < L.length) (hb : L.length ≤ bigLen) (e : acc' = acc ++ [L.getD i.toNat d]) :
    cpInv L acc' (IntKind.i64.wrap (i + 1)) ∧ (L.length - (IntKind.i64.wrap (i + 1))).toNat < (L.length - i).toNat := by
  obtain ⟨u1, u2, u3⟩ := upStep h.1 hl hb
  obtain ⟨k, hk, e1⟩ := h.1
  refine ⟨⟨u1, ?_⟩, u3⟩
  have e2 : (IntKind.i64.wrap (i + 1)).toNat = i.toNat + 1 := by rw [u2]; omega
  rw [e2, take_succD (by omega) d, e, h.2]
theorem cpEnd {α : Type} {L acc : List α} {i : Int} (h : cpInv L acc i) (hl : ¬ i < L.length) : acc = L := by
  obtain ⟨k, hk, e1⟩ := h.1
  rw [h.2, List.take_of_length_le (by omega)]
theorem cpLen {α : Type} {L acc : List α} {i : Int} (h : cpInv L acc i) (_ : i < L.length) (hs : L.length ≤ big20) : acc.length + 1 ≤ maxApp := by
  rw [h.2, List.length_take]
  unfold big20 at hs; unfold maxApp; omega
theorem appOk {α : Type} {l : List α} (h : l.length ≤ big20) : 0 + l.length ≤ maxApp := by
  unfold big20 at h; unfold maxApp; omega
end Fw
namespace Fw
open Go
/-! leaves of an archive's tree -/
noncomputable def leafOfF (m doc : Int) (l : List Piece) (b : Int) : Int := digestF m [3, doc, piecesF m l, b]
noncomputable def beforeF (m : Int) (ch : List Renewal) (k : Int) : Int := if k > 0 then renDigF m (ch.getD (IntKind.i64.wrap (k - 1)).toNat (dflt TRen)) else 0
noncomputable def leafForF (x : Item) (m : Int) : Int := leafOfF m (docDigF m x.2.2.1) x.2.2.2.2.1 (beforeF m x.2.2.2.2.2 (x.2.2.2.2.2.length : Int))
def chAt (s : Strand) (k : Int) : Renewal := s.2.getD k.toNat (dflt TRen)
def leafAtBad (s : Strand) (docs : List Int) (k : Int) : Bool :=
  pick2 (pick2 (!(inRangeF k 0 (IntKind.i64.wrap ((s.2.length : Int) - 1)))) true ((docs.length : Int) != (s.2.length : Int))) true (!(inRangeF (chAt s k).1 0 (s.1.length : Int)))
noncomputable def leafAtF (s : Strand) (docs : List Int) (k : Int) : Int :=
  if leafAtBad s docs k = true then -1 else leafOfF (chAt s k).2.1 (docs.getD k.toNat (dflt TI)) (subL s.1 0 (chAt s k).1) (beforeF (chAt s k).2.1 s.2 k)
theorem la0 {s : Strand} {docs : List Int} {k : Int} (h : leafAtBad s docs k = true) : (-1 : Int) = leafAtF s docs k := by unfold leafAtF; rw [if_pos h]
theorem la1 {s : Strand} {docs : List Int} {k : Int} (h : leafAtBad s docs k = false) (g : k > 0) :
    leafOfF (chAt s k).2.1 (docs.getD k.toNat (dflt TI)) (subL s.1 0 (chAt s k).1) (renDigF (chAt s k).2.1 (s.2.getD (IntKind.i64.wrap (k - 1)).toNat (dflt TRen))) = leafAtF s docs k := by
  unfold leafAtF beforeF; rw [if_neg (by rw [h]; decide), if_pos g]
theorem la2 {s : Strand} {docs : List Int} {k : Int} (h : leafAtBad s docs k = false) (g : ¬ k > 0) :
    leafOfF (chAt s k).2.1 (docs.getD k.toNat (dflt TI)) (subL s.1 0 (chAt s k).1) 0 = leafAtF s docs k := by
  unfold leafAtF beforeF; rw [if_neg (by rw [h]; decide), if_neg g]
theorem laIdx {k : Int} {n : Nat} (h : (!(inRangeF k 0 (IntKind.i64.wrap ((n : Int) - 1)))) = false) (hb : n ≤ bigLen) : inRange k n := by
  have := rg h
  unfold bigLen at hb
  rw [w64 (by omega) (by omega)] at this
  exact ⟨this.1, by omega⟩
theorem prevIdx {k : Int} {n : Nat} (h : inRange k n) (g : k > 0) (hb : n ≤ bigLen) : inRange (IntKind.i64.wrap (k - 1)) n := by
  obtain ⟨h1, h2⟩ := h
  unfold bigLen at hb
  rw [w64 (by omega) (by omega)]
  exact ⟨by omega, by omega⟩
theorem lastIdx {n : Nat} (g : (n : Int) > 0) (hb : n ≤ bigLen) : inRange (IntKind.i64.wrap ((n : Int) - 1)) n := by
  unfold bigLen at hb
  rw [w64 (by omega) (by omega)]
  exact ⟨by omega, by omega⟩
theorem getD_mem {α : Type} {l : List α} {k : Int} (h : inRange k l.length) (d : α) : l.getD k.toNat d ∈ l := by
  obtain ⟨h1, h2⟩ := h
  rw [List.getD_eq_getElem?_getD, List.getElem?_eq_getElem (by omega)]
  exact List.getElem_mem _
theorem subL_sm {l : List Piece} {a b : Int} (h : Sm big20 (.slice TPiece) l) : Sm big20 (.slice TPiece) (subL l a b) := by
  refine ⟨?_, fun x hx => h.2 x (List.mem_of_mem_take (List.mem_of_mem_drop hx))⟩
  have := h.1
  unfold subL
  rw [List.length_drop, List.length_take]; omega
theorem lf1 {x : Item} {m : Int} (g : (x.2.2.2.2.2.length : Int) > 0) :
    leafOfF m (docDigF m x.2.2.1) x.2.2.2.2.1 (renDigF m (x.2.2.2.2.2.getD (IntKind.i64.wrap ((x.2.2.2.2.2.length : Int) - 1)).toNat (dflt TRen))) = leafForF x m := by
  unfold leafForF beforeF; rw [if_pos g]
theorem lf2 {x : Item} {m : Int} (g : ¬ (x.2.2.2.2.2.length : Int) > 0) : leafOfF m (docDigF m x.2.2.1) x.2.2.2.2.1 0 = leafForF x m := by
  unfold leafForF beforeF; rw [if_neg g]
noncomputable def ddF (d : Doc) (r : Renewal) : Int × Bool := (docDigF r.2.1 d, true)
noncomputable def docDigsF (s : Strand) (d : Doc) : List Int := pickF (ddF d) s.2
theorem pick_true {α β : Type} (g : α → β) (L : List α) : pickF (fun x => (g x, true)) L = L.map g := by
  unfold pickF
  induction L with
  | nil => rfl
  | cons x r ih => simp
theorem pkLen2 {α β : Type} {f : α → β × Bool} {L : List α} {acc : List β} {i : Int} (h : pkInv f L acc i) (hs : L.length ≤ 2000000) : acc.length + 1 ≤ maxApp := by
  have := pick_len f (L.take i.toNat)
  rw [← h.2, List.length_take] at this
  unfold maxApp; omega
/-- a strand with a renewal that covers all its pieces -/
def withNew (s : Strand) (m : Int) : Strand := (s.1, s.2 ++ [((s.1.length : Int), m, 0, [], [])])
theorem leafEq (x : Item) (m : Int) (h : x.2.2.2.2.2.length ≤ 1048576) :
    leafAtF (withNew x.2.2.2.2 m) (docDigsF (withNew x.2.2.2.2 m) x.2.2.1) (IntKind.i64.wrap (((withNew x.2.2.2.2 m).2.length : Int) - 1)) = leafForF x m := by
  have hlen : (withNew x.2.2.2.2 m).2.length = x.2.2.2.2.2.length + 1 := by unfold withNew; simp
  have hk : IntKind.i64.wrap (((withNew x.2.2.2.2 m).2.length : Int) - 1) = (x.2.2.2.2.2.length : Int) := by
    rw [hlen, w64 (by omega) (by omega)]; omega
  have hdocs : docDigsF (withNew x.2.2.2.2 m) x.2.2.1 = (withNew x.2.2.2.2 m).2.map (fun r => docDigF r.2.1 x.2.2.1) := pick_true _ _
  have hlast : chAt (withNew x.2.2.2.2 m) (x.2.2.2.2.2.length : Int) = ((x.2.2.2.2.1.length : Int), m, 0, [], []) := by
    unfold chAt withNew
    rw [List.getD_eq_getElem?_getD]
    simp
  have hd : (docDigsF (withNew x.2.2.2.2 m) x.2.2.1).getD (x.2.2.2.2.2.length) (dflt TI) = docDigF m x.2.2.1 := by
    rw [hdocs, List.getD_eq_getElem?_getD]
    unfold withNew
    simp
  have hr : ∀ n : Nat, inRangeF (n : Int) 0 (n : Int) = true := fun n => by
    unfold inRangeF pick2
    rw [decide_eq_true (by omega : (0 : Int) ≤ n), decide_eq_true (Int.le_refl _)]; rfl
  have hbad : leafAtBad (withNew x.2.2.2.2 m) (docDigsF (withNew x.2.2.2.2 m) x.2.2.1) (x.2.2.2.2.2.length : Int) = false := by
    unfold leafAtBad
    rw [hk, hr, hlast]
    have e1 : ((docDigsF (withNew x.2.2.2.2 m) x.2.2.1).length : Int) = ((withNew x.2.2.2.2 m).2.length : Int) := by rw [hdocs, List.length_map]
    have e2 : (withNew x.2.2.2.2 m).1.length = x.2.2.2.2.1.length := rfl
    rw [e1, e2, hr]
    simp [pick2]
  rw [hk]
  unfold leafAtF
  rw [if_neg (by rw [hbad]; decide), hlast]
  have hs : subL (withNew x.2.2.2.2 m).1 0 (x.2.2.2.2.1.length : Int) = x.2.2.2.2.1 := by
    unfold subL withNew
    simp
  have hb : beforeF m (withNew x.2.2.2.2 m).2 (x.2.2.2.2.2.length : Int) = beforeF m x.2.2.2.2.2 (x.2.2.2.2.2.length : Int) := by
    unfold beforeF
    split
    · rename_i g
      congr 1
      rw [w64 (by omega) (by omega)]
      unfold withNew
      rw [List.getD_eq_getElem?_getD, List.getD_eq_getElem?_getD, List.getElem?_append_left (by omega)]
    · rfl
  show leafOfF m ((docDigsF (withNew x.2.2.2.2 m) x.2.2.1).getD (x.2.2.2.2.2.length : Int).toNat (dflt TI)) (subL (withNew x.2.2.2.2 m).1 0 (x.2.2.2.2.1.length : Int)) (beforeF m (withNew x.2.2.2.2 m).2 (x.2.2.2.2.2.length : Int)) = leafForF x m
  have e3 : ((x.2.2.2.2.2.length : Nat) : Int).toNat = x.2.2.2.2.2.length := by omega
  rw [e3, hd, hs, hb]
  rfl
noncomputable def lvF (m : Int) (x : Item) : Int × Bool := (leafForF x m, true)
noncomputable def leavesF (a : Archive) (m : Int) : List Int := pickF (lvF m) a.2
noncomputable def rootForF (a : Archive) (m : Int) : Int := treeF m (leavesF a m)
theorem leavesBig {a : Archive} {m : Int} (h : a.2.length ≤ 1048576) : (leavesF a m).length ≤ 1000000000000 := pickBig h
theorem newApp {s : Strand} (h : s.2.length ≤ big20) : s.2.length + 1 ≤ maxApp := by unfold big20 at h; unfold maxApp; omega
theorem newLen {s : Strand} {m : Int} (h : s.2.length ≤ big20) : (withNew s m).2.length ≤ 2000000 := by unfold withNew; unfold big20 at h; simp; omega
theorem newSm {s : Strand} {m : Int} (h : Sm big20 (.slice TPiece) s.1 ∧ (s.2.length ≤ big20 ∧ ∀ r ∈ s.2, Sm big20 TRen r)) : Sm big20 (.slice TPiece) (withNew s m).1 ∧ ∀ r ∈ (withNew s m).2, Sm big20 TRen r := by
  refine ⟨h.1, fun r hr => ?_⟩
  unfold withNew at hr
  rcases List.mem_append.1 hr with hr | hr
  · exact h.2.2 r hr
  · rw [List.mem_singleton.1 hr]
    exact ⟨trivial, trivial, trivial, ⟨Nat.zero_le _, fun x hx => by simp at hx⟩, ⟨Nat.zero_le _, fun x hx => by simp at hx⟩⟩
theorem pkYesV {α β : Type} {f : α → β × Bool} {L : List α} {acc : List β} {d : α} {i : Int} {v : β} (h : pkInv f L acc i) (hl : i < L.length) (hb : L.length ≤ bigLen) (g : (f (L.getD i.toNat d)).2 = true)
    (e : v = (f (L.getD i.toNat d)).1) : pkInv f L (acc ++ [v]) (IntKind.i64.wrap (i + 1)) ∧ (L.length - (IntKind.i64.wrap (i + 1))).toNat < (L.length - i).toNat := by
  rw [e]; exact pkYes h hl hb g
end Fw
namespace Fw
open Go
/-! evidence of an item; what is kept; parcels; a piece more -/
def itemEvF (x : Item) : List Strand × List (List Stamp) := ([x.2.2.2.2], [])
def fgF (now : Int) (x : Item) : Item × Bool := (x, decide (x.2.1 ≥ now))
def forgetF (a : Archive) (now : Int) : Archive × Int := ((a.1, pickF (fgF now) a.2), (a.2.length : Int) - ((pickF (fgF now) a.2).length : Int))
def fgInv (a : Archive) (now : Int) (o : Archive) (i : Int) : Prop := o.1 = a.1 ∧ pkInv (fgF now) a.2 o.2 i
theorem fgEnd {a o : Archive} {now i : Int} (h : fgInv a now o i) (hl : ¬ i < a.2.length) : o = (a.1, pickF (fgF now) a.2) := Prod.ext h.1 (pkEnd h.2 hl)
theorem fgNum {a o : Archive} {now i : Int} (h : fgInv a now o i) (hl : ¬ i < a.2.length) (hs : a.2.length ≤ 1048576) : IntKind.i64.wrap ((a.2.length : Int) - (o.2.length : Int)) = (forgetF a now).2 := by
  have e := pkEnd h.2 hl
  have := pick_len (fgF now) a.2
  rw [e]
  show IntKind.i64.wrap _ = (a.2.length : Int) - ((pickF (fgF now) a.2).length : Int)
  rw [w64 (by omega) (by omega)]
theorem fgCnt {a o : Archive} {now i n : Int} (h : fgInv a now o i) (hn : n = i - o.2.length) (hl : ¬ i < a.2.length) : n = (forgetF a now).2 := by
  have e := pkEnd h.2 hl
  obtain ⟨k, hk, e1⟩ := h.2.1
  show n = (a.2.length : Int) - ((pickF (fgF now) a.2).length : Int)
  rw [hn, ← e]; omega
theorem cellsL_pick {α : Type} {c : α → Nat} {f : α → α × Bool} (hf : ∀ x, (f x).1 = x) : ∀ L : List α, cellsL c (pickF f L) ≤ cellsL c L
  | [] => Nat.le_refl _
  | x :: r => by
    have ih := cellsL_pick (c := c) hf r
    have e : pickF f (x :: r) = pickF f [x] ++ pickF f r := by unfold pickF; rw [← List.filterMap_append]; rfl
    have e1 : pickF f [x] = (if (f x).2 = true then [(f x).1] else []) := by have := pick_app f [] x; simpa [pickF] using this
    rw [e, e1, cellsL_append]
    have e2 : cellsL c (x :: r) = c x + cellsL c r := rfl
    split
    · have : cellsL c [(f x).1] = c x := by rw [hf]; simp [cellsL]
      omega
    · have : cellsL c ([] : List α) = 0 := rfl
      omega
end Fw
namespace Fw
open Go
def itAt (a : Archive) (n : Int) : Int := findI (fun (x : Item) => x.1 == n) a.2
abbrev TDoc : Ty := .pair TI (.pair (.slice .str) (.slice TI))
noncomputable def addPieceF (s : Strand) (p : Piece) : Strand × Bool := if strandF (s.1 ++ [p], s.2) = true then ((s.1 ++ [p], s.2), true) else (s, false)
theorem ap0 {s : Strand} {p : Piece} (h : (!(strandF (s.1 ++ [p], s.2))) = true) : addPieceF s p = (s, false) := by
  unfold addPieceF; rw [if_neg (by intro e; rw [e] at h; cases h)]
theorem ap1 {s : Strand} {p : Piece} (h : (!(strandF (s.1 ++ [p], s.2))) = false) : addPieceF s p = ((s.1 ++ [p], s.2), true) := by
  unfold addPieceF; rw [if_pos (by simpa using h)]
theorem apLen {l : List Piece} (h : l.length ≤ big20) : l.length + 1 ≤ maxApp := by unfold big20 at h; unfold maxApp; omega
end Fw
namespace Fw
open Go
abbrev TSign : Ty := .pair TI (.pair TI (.pair TI (.pair TI (.pair TI (.pair TI (.pair TI (.pair TI TI)))))))
abbrev TItem : Ty := .pair TI (.pair TI (.pair TDoc (.pair TSign (.pair (.slice TPiece) (.slice TRen)))))
def itGet (a : Archive) (n : Int) : Item := a.2.getD (itAt a n).toNat (dflt TItem)
def mpBad (a : Archive) (n : Int) : Bool := decide (itAt a n < 0)
noncomputable def makeParcelF (a : Archive) (to : Int) (ids : List Int) (m : Int) : Parcel × Bool :=
  if ids.any (mpBad a) = true ∨ ids = [] then ((0, 0, [], 0), false) else ((a.1, to, ids.map (itGet a), digItemsF m (ids.map (itGet a))), true)
def mpInv (a : Archive) (to : Int) (ids : List Int) (p : Parcel) (i : Int) : Prop :=
  upInv ids i ∧ p = (a.1, to, (ids.take i.toNat).map (itGet a), 0) ∧ (ids.take i.toNat).any (mpBad a) = false
theorem mpStart {a : Archive} {to : Int} {ids : List Int} : mpInv a to ids (a.1, to, [], 0) 0 := ⟨upStart, by simp, by simp⟩
theorem mpRange {a : Archive} {to : Int} {ids : List Int} {p : Parcel} {i : Int} (h : mpInv a to ids p i) (hl : i < ids.length) : inRange i ids.length := upRange h.1 hl
theorem mpStep {a : Archive} {to : Int} {ids : List Int} {p p' : Parcel} {i : Int} (h : mpInv a to ids p i) (hl : i < ids.length) (hb : ids.length ≤ bigLen) (g : ¬ itAt a (ids.getD i.toNat (dflt TI)) < 0)
    (e : p' = (p.1, p.2.1, p.2.2.1 ++ [itGet a (ids.getD i.toNat (dflt TI))], p.2.2.2)) :
    mpInv a to ids p' (IntKind.i64.wrap (i + 1)) ∧ (ids.length - (IntKind.i64.wrap (i + 1))).toNat < (ids.length - i).toNat := by
  obtain ⟨u1, u2, u3⟩ := upStep h.1 hl hb
  obtain ⟨k, hk, e1⟩ := h.1
  obtain ⟨_, h2, h3⟩ := h
  have e2 : (IntKind.i64.wrap (i + 1)).toNat = i.toNat + 1 := by rw [u2]; omega
  refine ⟨⟨u1, ?_, ?_⟩, u3⟩
  · rw [e2, take_succD (by omega) (dflt TI), List.map_append, e, h2]; rfl
  · rw [e2, take_succD (by omega) (dflt TI), List.any_append, h3]
    simp only [List.any_cons, List.any_nil, Bool.or_false, Bool.false_or]
    exact decide_eq_false g
theorem mpStop {a : Archive} {to m : Int} {ids : List Int} {p : Parcel} {i : Int} (h : mpInv a to ids p i) (hl : i < ids.length) (g : itAt a (ids.getD i.toNat (dflt TI)) < 0) : makeParcelF a to ids m = ((0, 0, [], 0), false) := by
  obtain ⟨k, hk, e1⟩ := h.1
  unfold makeParcelF
  rw [if_pos]
  left
  rw [List.any_eq_true]
  refine ⟨ids.getD i.toNat (dflt TI), ?_, decide_eq_true g⟩
  rw [List.getD_eq_getElem?_getD, List.getElem?_eq_getElem (by omega)]
  exact List.getElem_mem _
theorem mpNone {a : Archive} {to m : Int} {ids : List Int} (h : ((ids.length : Int) == 0) = true) : makeParcelF a to ids m = ((0, 0, [], 0), false) := by
  have : ids = [] := List.length_eq_zero_iff.1 (by have := beq_iff_eq.1 h; omega)
  unfold makeParcelF
  rw [if_pos (.inr this)]
theorem mpDone {a : Archive} {to m : Int} {ids : List Int} {p : Parcel} {i : Int} (h : mpInv a to ids p i) (hl : ¬ i < ids.length) (g : ((ids.length : Int) == 0) = false) :
    makeParcelF a to ids m = ((p.1, p.2.1, p.2.2.1, digItemsF m p.2.2.1), true) := by
  obtain ⟨k, hk, e1⟩ := h.1
  obtain ⟨_, h2, h3⟩ := h
  have hk' : i.toNat = ids.length := by omega
  rw [hk', List.take_length] at h2 h3
  unfold makeParcelF
  rw [if_neg, h2]
  rintro (q | q)
  · rw [h3] at q; cases q
  · subst q; simp at g
theorem mpLen {a : Archive} {to : Int} {ids : List Int} {p : Parcel} {i : Int} (h : mpInv a to ids p i) (hs : ids.length ≤ 1048576) : p.2.2.1.length + 1 ≤ maxApp := by
  rw [h.2.1]
  show ((ids.take i.toNat).map (itGet a)).length + 1 ≤ maxApp
  rw [List.length_map, List.length_take]
  unfold maxApp; omega
theorem itMem {a : Archive} {n : Int} (g : ¬ itAt a n < 0) (_ : a.2.length ≤ bigLen) : itGet a n ∈ a.2 := by
  have := findRange (p := fun (x : Item) => x.1 == n) (l := a.2) g
  exact getD_mem this _
theorem mpSm {a : Archive} {to : Int} {ids : List Int} {p : Parcel} {i : Int} (h : mpInv a to ids p i) (hs : ids.length ≤ 1048576) (ha : ∀ x ∈ a.2, Sm big20 TItem x) : Sm big20 (.slice TItem) p.2.2.1 := by
  rw [h.2.1]
  refine ⟨?_, fun x hx => ?_⟩
  · show ((ids.take i.toNat).map (itGet a)).length ≤ big20
    rw [List.length_map, List.length_take]; unfold big20; omega
  · obtain ⟨n, hn, rfl⟩ := List.mem_map.1 hx
    have hb := List.any_eq_false.1 h.2.2 n hn
    have g : ¬ itAt a n < 0 := fun e => hb (decide_eq_true e)
    have := findRange (p := fun (x : Item) => x.1 == n) (l := a.2) g
    exact ha _ (getD_mem this _)
/-! how many cells -/
theorem cellsL_map {c : Item → Nat} {w : Nat} {a : Archive} {ids : List Int} (h : ∀ n ∈ ids, c (itGet a n) ≤ w) : cellsL c (ids.map (itGet a)) ≤ w * ids.length := by
  induction ids with
  | nil => simp [cellsL]
  | cons n r ih =>
    have h1 := h n (by simp)
    have h2 := ih (fun m hm => h m (by simp [hm]))
    show c (itGet a n) + cellsL c (r.map (itGet a)) ≤ w * (r.length + 1)
    rw [Nat.mul_add]; omega
end Fw
namespace Fw
open Go
theorem ne_self2CI {α : Type} {x : α} {y : Int} (h : pick2 (!(eqC x x)) true (y != y) = true) : False := by rw [eqC_self] at h; simp [pick2] at h
theorem orNe2I {α : Type} {x : α} {y K : Int} (hk : 0 ≤ K) (h : pick2 (pick2 (decide (K < 0)) true (!(eqC x x))) true (y != y) = true) : False := by
  rw [decide_eq_false (by omega : ¬ K < 0), eqC_self] at h; simp [pick2] at h
theorem orNe2B {α : Type} {x : α} {y : Bool} {K : Int} (hk : 0 ≤ K) (h : pick2 (pick2 (decide (K < 0)) true (!(eqC x x))) true (y != y) = true) : False := by
  rw [decide_eq_false (by omega : ¬ K < 0), eqC_self] at h; simp [pick2] at h
def setStrand (x : Item) (s : Strand) : Item := (x.1, x.2.1, x.2.2.1, x.2.2.2.1, s)
noncomputable def addToItemF (a : Archive) (n : Int) (p : Piece) : Archive × Bool :=
  if itAt a n < 0 then (a, false) else ((a.1, a.2.set (itAt a n).toNat (setStrand (itGet a n) (addPieceF (itGet a n).2.2.2.2 p).1)), (addPieceF (itGet a n).2.2.2.2 p).2)
theorem ati0 {a : Archive} {n : Int} {p : Piece} (h : itAt a n < 0) : addToItemF a n p = (a, false) := by unfold addToItemF; rw [if_pos h]
theorem ati1 {a : Archive} {n : Int} {p : Piece} (h : ¬ itAt a n < 0) :
    addToItemF a n p = ((a.1, a.2.set (itAt a n).toNat (setStrand (itGet a n) (addPieceF (itGet a n).2.2.2.2 p).1)), (addPieceF (itGet a n).2.2.2.2 p).2) := by unfold addToItemF; rw [if_neg h]
theorem cellsL_set {α : Type} (c : α → Nat) (y : α) : ∀ (l : List α) (i : Nat), cellsL c (l.set i y) ≤ cellsL c l + c y
  | [], i => by simp [cellsL]
  | x :: r, 0 => by show c y + cellsL c r ≤ c x + cellsL c r + c y; omega
  | x :: r, i + 1 => by
    have := cellsL_set c y r i
    show c x + cellsL c (r.set i y) ≤ c x + cellsL c r + c y; omega
theorem cellsL_mem {α : Type} (c : α → Nat) (x : α) : ∀ (l : List α), x ∈ l → c x ≤ cellsL c l
  | y :: r, h => by
    show c x ≤ c y + cellsL c r
    rcases List.mem_cons.1 h with h | h
    · rw [h]; omega
    · have := cellsL_mem c x r h; omega
end Fw
namespace Fw
open Go
theorem appMore {α : Type} {l : List α} (h : l.length ≤ 4000000) : 0 + l.length ≤ maxApp := by unfold maxApp; omega
abbrev TStrand : Ty := .pair (.slice TPiece) (.slice TRen)
theorem evCells {x : Item} (h : ((cellsC TItem x : Nat) : Int) ≤ 2000000000) : ((cellsV (.pair (.slice TStrand) (.slice (.slice TStamp))) (itemEvF x) : Nat) : Int) ≤ 10000000000000000 := by
  have e1 : cellsC TItem x = 1 + (1 + (cellsC TDoc x.2.2.1 + (cellsC TSign x.2.2.2.1 + cellsC TStrand x.2.2.2.2))) := rfl
  have e2 : cellsV (.pair (.slice TStrand) (.slice (.slice TStamp))) (itemEvF x) = (cellsC TStrand x.2.2.2.2 + 0) + 0 := rfl
  rw [e2]; omega
end Fw
namespace Fw
open Go
def ltB (x y : Int) : Bool := decide (y < x)
def insK (l : List Int) (x : Int) : Nat := (l.takeWhile (ltB x)).length
def insPut (l : List Int) (x : Int) : List Int := l.take (insK l x) ++ [x] ++ l.drop (insK l x)
def insF (l : List Int) (x : Int) : List Int := if insK l x < l.length ∧ l.getD (insK l x) (dflt TI) = x then l else insPut l x
def insS (l : List Int) (x : Int) : List Int := if x ∈ l then l else insPut l x
/-- counted so far -/
def ikInv (l : List Int) (x i : Int) : Prop := 0 ≤ i ∧ i ≤ l.length ∧ ∀ y ∈ l.take i.toNat, ltB x y = true
theorem ikStart {l : List Int} {x : Int} : ikInv l x 0 := ⟨by omega, by omega, by simp⟩
theorem ikRange {l : List Int} {x i : Int} (h : ikInv l x i) (hl : i < (l.length : Int)) : inRange i l.length := ⟨h.1, hl⟩
theorem ikStep {l : List Int} {x i : Int} (h : ikInv l x i) (hs : l.length ≤ 2000000) (g : pick2 (decide (i < (l.length : Int))) (decide (l.getD i.toNat (dflt TI) < x)) false = true) :
    ikInv l x (IntKind.i64.wrap (i + 1)) ∧ ((l.length : Int) - IntKind.i64.wrap (i + 1)).toNat < ((l.length : Int) - i).toNat := by
  obtain ⟨h1, h2, h3⟩ := h
  have g1 := of_decide_eq_true (andT g).1
  have g2 := of_decide_eq_true (andT g).2
  rw [w64 (by omega) (by omega)]
  refine ⟨⟨by omega, by omega, fun y hy => ?_⟩, by omega⟩
  rw [show (i + 1).toNat = i.toNat + 1 by omega, take_succD (by omega) (dflt TI)] at hy
  rcases List.mem_append.1 hy with hy | hy
  · exact h3 y hy
  · rw [List.mem_singleton.1 hy]; exact decide_eq_true g2
theorem ikEnd {l : List Int} {x i : Int} (h : ikInv l x i) (g : pick2 (decide (i < (l.length : Int))) (decide (l.getD i.toNat (dflt TI) < x)) false = false) : i.toNat = insK l x := by
  obtain ⟨h1, h2, h3⟩ := h
  have e : l.takeWhile (ltB x) = l.take i.toNat := by
    have e1 : l = l.take i.toNat ++ l.drop i.toNat := (List.take_append_drop _ _).symm
    rw [e1, List.takeWhile_append_of_pos h3]
    have e2 : (l.drop i.toNat).takeWhile (ltB x) = [] := by
      by_cases hl : i.toNat < l.length
      · rw [List.drop_eq_getElem_cons hl]
        have g' : ltB x l[i.toNat] = false := by
          have : l.getD i.toNat (dflt TI) = l[i.toNat] := by rw [List.getD_eq_getElem?_getD, List.getElem?_eq_getElem hl]; rfl
          rw [this] at g
          rw [decide_eq_true (by omega : i < (l.length : Int))] at g
          exact g
        rw [List.takeWhile_cons, g']; rfl
      · rw [List.drop_eq_nil_of_le (by omega)]; rfl
    rw [e2, List.append_nil, ← e1]
  unfold insK
  rw [e, List.length_take]; omega
theorem insYes {l : List Int} {x i : Int} (h : ikInv l x i) (e : i.toNat = insK l x) (g : pick2 (decide (i < (l.length : Int))) (l.getD i.toNat (dflt TI) == x) false = true) : l = insF l x := by
  have g1 := of_decide_eq_true (andT g).1
  have g2 := beq_iff_eq.1 (andT g).2
  unfold insF
  rw [← e, if_pos ⟨by have := h.1; omega, g2⟩]
theorem insNo {l : List Int} {x i : Int} (h : ikInv l x i) (e : i.toNat = insK l x) (g : pick2 (decide (i < (l.length : Int))) (l.getD i.toNat (dflt TI) == x) false = false) :
    (subL l 0 i ++ [x]) ++ subL l i (l.length : Int) = insF l x := by
  unfold insF
  rw [if_neg]
  · unfold insPut subL
    rw [← e]
    simp
  · rintro ⟨g1, g2⟩
    rw [← e] at g1 g2
    have h1 := h.1
    rw [g2, decide_eq_true (by omega : i < (l.length : Int))] at g
    simp [pick2] at g
theorem insPut_len (l : List Int) (x : Int) : (insPut l x).length = l.length + 1 := by
  unfold insPut; simp only [List.length_append, List.length_take, List.length_drop, List.length_singleton]; omega
theorem insF_len (l : List Int) (x : Int) : (insF l x).length ≤ l.length + 1 := by
  unfold insF; split
  · omega
  · rw [insPut_len]; omega
/-! in order -/
def Asc (l : List Int) : Prop := l.Pairwise (· < ·)
theorem asc_tw {l : List Int} (h : Asc l) (x : Int) : ∀ y ∈ l.drop (insK l x), x ≤ y := by
  induction l with
  | nil => intro y hy; simp at hy
  | cons a r ih =>
    intro y hy
    obtain ⟨h1, h2⟩ := List.pairwise_cons.1 h
    unfold insK at hy
    rw [List.takeWhile_cons] at hy
    split at hy
    · exact ih h2 y (by unfold insK; simpa using hy)
    · rename_i hn
      have ha : x ≤ a := by
        have : ¬ a < x := fun e => hn (decide_eq_true e)
        omega
      rcases List.mem_cons.1 (by simpa using hy) with rfl | hm
      · exact ha
      · have := h1 y hm; omega
theorem tw_all {p : Int → Bool} : ∀ (l : List Int), ∀ y ∈ l.takeWhile p, p y = true
  | [], y, h => by simp at h
  | a :: r, y, h => by
    rw [List.takeWhile_cons] at h
    split at h
    · rename_i ha
      rcases List.mem_cons.1 h with rfl | h
      · exact ha
      · exact tw_all r y h
    · simp at h
theorem tw_lt (l : List Int) (x : Int) : ∀ y ∈ l.take (insK l x), y < x := by
  intro y hy
  have e : l.take (insK l x) = l.takeWhile (ltB x) := by
    unfold insK
    have := List.takeWhile_append_dropWhile (p := ltB x) (l := l)
    calc l.take (l.takeWhile (ltB x)).length = (l.takeWhile (ltB x) ++ l.dropWhile (ltB x)).take (l.takeWhile (ltB x)).length := by rw [this]
      _ = l.takeWhile (ltB x) := List.take_left
  rw [e] at hy
  exact of_decide_eq_true (tw_all l y hy)
theorem insSF {l : List Int} (h : Asc l) (x : Int) : insS l x = insF l x := by
  have hlt := tw_lt l x
  have hge := asc_tw h x
  unfold insS insF
  by_cases hm : x ∈ l
  · rw [if_pos hm]
    have hd : x ∈ l.drop (insK l x) := by
      have : x ∈ l.take (insK l x) ++ l.drop (insK l x) := by rw [List.take_append_drop]; exact hm
      rcases List.mem_append.1 this with h' | h'
      · have := hlt x h'; omega
      · exact h'
    have hk : insK l x < l.length := by
      rcases Nat.lt_or_ge (insK l x) l.length with h' | h'
      · exact h'
      · rw [List.drop_eq_nil_of_le h'] at hd; simp at hd
    have key : l.getD (insK l x) (dflt TI) = x := by
      have hx : l.getD (insK l x) (dflt TI) = l[insK l x] := by rw [List.getD_eq_getElem?_getD, List.getElem?_eq_getElem hk]; rfl
      rw [hx]
      rw [List.drop_eq_getElem_cons hk] at hd hge
      have h1 := hge (l[insK l x]) List.mem_cons_self
      rcases List.mem_cons.1 hd with h' | h'
      · exact h'.symm
      · have hp : Asc (l.drop (insK l x)) := h.sublist (List.drop_sublist _ _)
        rw [List.drop_eq_getElem_cons hk] at hp
        have := (List.pairwise_cons.1 hp).1 x h'
        omega
    rw [if_pos ⟨hk, key⟩]
  · rw [if_neg hm, if_neg]
    rintro ⟨h1, h2⟩
    apply hm
    rw [List.getD_eq_getElem?_getD, List.getElem?_eq_getElem h1] at h2
    have h2 : l[insK l x] = x := h2
    rw [← h2]; exact List.getElem_mem _
theorem insS_asc {l : List Int} (h : Asc l) (x : Int) : Asc (insS l x) := by
  have hlt := tw_lt l x
  have hge := asc_tw h x
  unfold insS
  split
  · exact h
  · rename_i hm
    unfold insPut
    have hsplit := List.take_append_drop (insK l x) l
    have h' : Asc (l.take (insK l x) ++ l.drop (insK l x)) := by rw [hsplit]; exact h
    obtain ⟨p1, p2, p3⟩ := List.pairwise_append.1 h'
    rw [List.append_assoc]
    refine List.pairwise_append.2 ⟨p1, List.pairwise_cons.2 ⟨fun y hy => ?_, p2⟩, fun a ha b hb => ?_⟩
    · have := hge y hy
      have hne : y ≠ x := fun e => hm (by rw [← e]; exact List.mem_of_mem_drop hy)
      omega
    · rcases List.mem_cons.1 hb with rfl | hb
      · exact hlt a ha
      · exact p3 a ha b hb
theorem insS_fold : ∀ (xs l : List Int), Asc l → xs.foldl insS l = xs.foldl insF l
  | [], _, _ => rfl
  | x :: r, l, h => by
    show r.foldl insS (insS l x) = r.foldl insF (insF l x)
    rw [insS_fold r (insS l x) (insS_asc h x), insSF h x]
def methodsF (x : Item) : List Int := x.2.2.2.2.2.foldl (fun l r => insF l r.2.1) [x.2.2.2.1.2.2.1]
theorem methodsS (x : Item) : (x.2.2.2.1.2.2.1 :: x.2.2.2.2.2.map (fun r => r.2.1)).foldl insS [] = methodsF x := by
  rw [insS_fold _ [] List.Pairwise.nil]
  show (x.2.2.2.2.2.map (fun r => r.2.1)).foldl insF (insF [] x.2.2.2.1.2.2.1) = _
  rw [List.foldl_map]
  rfl
end Fw
namespace Fw
open Go
theorem insConds {l : List Int} {x i : Int} (h : ikInv l x i) (hs : l.length ≤ 2000000) :
    (0 : Int) ≤ 0 ∧ 0 ≤ i ∧ i ≤ (l.length : Int) ∧ (subL l 0 i).length ≤ 4000000 ∧ (subL l 0 i).length + 1 ≤ maxApp ∧ 0 ≤ i ∧ i ≤ (l.length : Int) ∧ (l.length : Int) ≤ (l.length : Int) ∧ (subL l 0 i ++ [x]).length + (subL l i (l.length : Int)).length ≤ maxApp := by
  obtain ⟨h1, h2, _⟩ := h
  have e1 : (subL l 0 i).length ≤ 2000000 := by unfold subL; rw [List.length_drop, List.length_take]; omega
  have e2 : (subL l i (l.length : Int)).length ≤ 2000000 := by unfold subL; rw [List.length_drop, List.length_take]; omega
  refine ⟨Int.le_refl _, h1, h2, by omega, by unfold maxApp; omega, h1, h2, Int.le_refl _, ?_⟩
  rw [List.length_append, List.length_singleton]; unfold maxApp; omega
def moInv (x : Item) (acc : List Int) (i : Int) : Prop := foInv (fun l (r : Renewal) => insF l r.2.1) [x.2.2.2.1.2.2.1] x.2.2.2.2.2 acc i ∧ (acc.length : Int) ≤ i + 1
theorem moStart {x : Item} : moInv x [x.2.2.2.1.2.2.1] 0 := ⟨foStart, by simp⟩
theorem moRange {x : Item} {acc : List Int} {i : Int} (h : moInv x acc i) (hl : i < (x.2.2.2.2.2.length : Int)) : inRange i x.2.2.2.2.2.length := foRange h.1 hl
theorem moLen {x : Item} {acc : List Int} {i : Int} (h : moInv x acc i) (hs : x.2.2.2.2.2.length ≤ 1048576) (hl : i < (x.2.2.2.2.2.length : Int)) : acc.length ≤ 2000000 := by
  have := h.2; omega
theorem moStep {x : Item} {acc : List Int} {i : Int} (h : moInv x acc i) (hl : i < (x.2.2.2.2.2.length : Int)) (hb : x.2.2.2.2.2.length ≤ bigLen) :
    moInv x (insF acc (x.2.2.2.2.2.getD i.toNat (dflt TRen)).2.1) (IntKind.i64.wrap (i + 1)) ∧ ((x.2.2.2.2.2.length : Int) - IntKind.i64.wrap (i + 1)).toNat < ((x.2.2.2.2.2.length : Int) - i).toNat := by
  have e := foStep (d := dflt TRen) h.1 hl hb
  refine ⟨⟨e.1, ?_⟩, e.2⟩
  have h1 := insF_len acc (x.2.2.2.2.2.getD i.toNat (dflt TRen)).2.1
  have h2 := h.2
  have h3 : 0 ≤ i := (foRange h.1 hl).1
  unfold bigLen at hb
  rw [w64 (by omega) (by omega)]; omega
theorem moEnd {x : Item} {acc : List Int} {i : Int} (h : moInv x acc i) (hl : ¬ i < (x.2.2.2.2.2.length : Int)) : acc = methodsF x := foEnd h.1 hl
theorem foldIns_len : ∀ (r : List Renewal) (l : List Int), (r.foldl (fun l (r : Renewal) => insF l r.2.1) l).length ≤ l.length + r.length
  | [], l => by simp
  | a :: r, l => by
    have h1 := foldIns_len r (insF l a.2.1)
    have h2 := insF_len l a.2.1
    simp only [List.foldl_cons, List.length_cons]
    omega
theorem methodsBig {x : Item} (h : Sm big20 TItem x) : (methodsF x).length ≤ 1000000000000 := by
  have h1 := foldIns_len x.2.2.2.2.2 [x.2.2.2.1.2.2.1]
  have h2 : x.2.2.2.2.2.length ≤ 1048576 := h.2.2.2.2.2.1
  unfold methodsF
  simp only [List.length_singleton] at h1
  omega
end Fw
namespace Fw
open Go
def hasNF (l : List Int) (x : Int) : Bool := decide (x ∈ l)
theorem getD_memN {l : List Int} {k : Nat} (h : k < l.length) : l.getD k (dflt TI) ∈ l := by
  rw [List.getD_eq_getElem?_getD, List.getElem?_eq_getElem h]; exact List.getElem_mem _
theorem hasNYes {l : List Int} {x i : Int} (h : fInv (fun y => y == x) l i) (hl : i < l.length) (g : (l.getD i.toNat (dflt TI) == x) = true) : true = hasNF l x := by
  have h0 := (fRange h hl).1
  have e := beq_iff_eq.1 g
  unfold hasNF
  rw [decide_eq_true]
  rw [← e]; exact getD_memN (by omega)
theorem hasNNo {l : List Int} {x i : Int} (h : fInv (fun y => y == x) l i) (hl : ¬ i < l.length) : false = hasNF l x := by
  have e := fEnd h hl
  unfold findI at e
  unfold hasNF
  symm
  rw [decide_eq_false_iff_not]
  intro hm
  cases hf : l.findIdx? (fun y => y == x) with
  | some k => rw [hf] at e; simp at e
  | none =>
    have := List.findIdx?_eq_none_iff.1 hf x hm
    simp at this
def mlInv (x : Item) (l : List Int) (i : Int) : Prop := upInv x.2.2.2.2.2 i ∧ l = x.2.2.2.1.2.2.1 :: (x.2.2.2.2.2.take i.toNat).map (fun r => r.2.1)
theorem mlStart {x : Item} : mlInv x [x.2.2.2.1.2.2.1] 0 := ⟨upStart, by simp⟩
theorem mlStep {x : Item} {l : List Int} {i : Int} (h : mlInv x l i) (hl : i < (x.2.2.2.2.2.length : Int)) (hb : x.2.2.2.2.2.length ≤ bigLen) :
    mlInv x (l ++ [(x.2.2.2.2.2.getD i.toNat (dflt TRen)).2.1]) (IntKind.i64.wrap (i + 1)) ∧ ((x.2.2.2.2.2.length : Int) - IntKind.i64.wrap (i + 1)).toNat < ((x.2.2.2.2.2.length : Int) - i).toNat := by
  obtain ⟨u1, u2, u3⟩ := upStep h.1 hl hb
  obtain ⟨k, hk, e1⟩ := h.1
  refine ⟨⟨u1, ?_⟩, u3⟩
  have e2 : (IntKind.i64.wrap (i + 1)).toNat = i.toNat + 1 := by rw [u2]; omega
  rw [e2, take_succD (by omega) (dflt TRen), List.map_append, h.2]; rfl
theorem mlLen {x : Item} {l : List Int} {i : Int} (h : mlInv x l i) (hs : x.2.2.2.2.2.length ≤ 1048576) : l.length ≤ 1048577 := by
  rw [h.2, List.length_cons, List.length_map, List.length_take]; omega
theorem mlApp {x : Item} {l : List Int} {i : Int} (h : mlInv x l i) (hs : x.2.2.2.2.2.length ≤ 1048576) : l.length + 1 ≤ maxApp := by
  have := mlLen h hs; unfold maxApp; omega
theorem mlEnd {x : Item} {l : List Int} {i : Int} (h : mlInv x l i) (hl : ¬ i < (x.2.2.2.2.2.length : Int)) : l.foldl insS [] = methodsF x := by
  obtain ⟨k, hk, e1⟩ := h.1
  rw [h.2, List.take_of_length_le (by omega)]; exact methodsS x
def msInv (l out : List Int) (i : Int) : Prop := foInv insS [] l out i ∧ (out.length : Int) ≤ i
theorem msStart {l : List Int} : msInv l [] 0 := ⟨foStart, by simp⟩
theorem insS_len (l : List Int) (x : Int) : (insS l x).length ≤ l.length + 1 := by
  unfold insS; split
  · omega
  · rw [insPut_len]; omega
theorem msStep {l out out' : List Int} {i : Int} (h : msInv l out i) (hl : i < (l.length : Int)) (hb : l.length ≤ 1048577) (e : out' = insS out (l.getD i.toNat (dflt TI))) :
    msInv l out' (IntKind.i64.wrap (i + 1)) ∧ ((l.length : Int) - IntKind.i64.wrap (i + 1)).toNat < ((l.length : Int) - i).toNat := by
  have q := foStep (d := dflt TI) h.1 hl (by unfold bigLen; omega)
  refine ⟨⟨by rw [e]; exact q.1, ?_⟩, q.2⟩
  have h1 := insS_len out (l.getD i.toNat (dflt TI))
  have h2 := h.2
  have h3 : 0 ≤ i := (foRange h.1 hl).1
  rw [e, w64 (by omega) (by omega)]; omega
theorem msHas {out : List Int} {x : Int} (g : hasNF out x = true) : out = insS out x := by unfold insS; rw [if_pos (of_decide_eq_true g)]
theorem msNew {out : List Int} {x k : Int} (g : hasNF out x = false) (h : ikInv out x k) (t : pick2 (decide (k < (out.length : Int))) (decide (out.getD k.toNat (dflt TI) < x)) false = false) :
    (([] ++ subL out 0 k) ++ [x]) ++ subL out k (out.length : Int) = insS out x := by
  have hk := ikEnd h t
  unfold insS
  rw [if_neg (of_decide_eq_false g)]
  unfold insPut subL
  rw [← hk]
  simp
theorem msOut {l out : List Int} {i : Int} (h : msInv l out i) (hl : i < (l.length : Int)) (hb : l.length ≤ 1048577) : out.length ≤ 2000000 := by have := h.2; omega
theorem msConds {l out : List Int} {x k i : Int} (h : ikInv out x k) (hs : out.length ≤ 2000000) (hr : inRange i l.length) :
    (0 : Int) ≤ 0 ∧ 0 ≤ k ∧ k ≤ (out.length : Int) ∧ 0 + (subL out 0 k).length ≤ maxApp ∧ inRange i l.length ∧ ([] ++ subL out 0 k).length + 1 ≤ maxApp ∧ 0 ≤ k ∧ k ≤ (out.length : Int) ∧ (out.length : Int) ≤ (out.length : Int) ∧
      (([] ++ subL out 0 k) ++ [x]).length + (subL out k (out.length : Int)).length ≤ maxApp := by
  obtain ⟨a1, a2, a3, a4, a5, a6, a7, a8, a9⟩ := insConds h hs
  refine ⟨a1, a2, a3, by omega, hr, by rw [List.nil_append]; exact a5, a6, a7, a8, by rw [List.nil_append]; exact a9⟩
end Fw
namespace Fw
open Go
theorem fgStart {a : Archive} {now : Int} : fgInv a now (a.1, []) 0 := ⟨rfl, pkStart⟩
theorem fgRange {a o : Archive} {now i : Int} (h : fgInv a now o i) (hl : i < a.2.length) : inRange i a.2.length := pkRange h.2 hl
theorem fgYes {a o : Archive} {now i : Int} (h : fgInv a now o i) (hl : i < a.2.length) (hb : a.2.length ≤ bigLen) (g : (fgF now (a.2.getD i.toNat (dflt TItem))).2 = true) :
    fgInv a now (o.1, o.2 ++ [a.2.getD i.toNat (dflt TItem)]) (IntKind.i64.wrap (i + 1)) ∧ ((a.2.length : Int) - IntKind.i64.wrap (i + 1)).toNat < ((a.2.length : Int) - i).toNat := by
  have e := pkYes (d := dflt TItem) h.2 hl hb g
  exact ⟨⟨h.1, e.1⟩, e.2⟩
theorem fgNo {a o : Archive} {now i : Int} (h : fgInv a now o i) (hl : i < a.2.length) (hb : a.2.length ≤ bigLen) (g : (fgF now (a.2.getD i.toNat (dflt TItem))).2 = false) :
    fgInv a now o (IntKind.i64.wrap (i + 1)) ∧ ((a.2.length : Int) - IntKind.i64.wrap (i + 1)).toNat < ((a.2.length : Int) - i).toNat := by
  have e := pkNo (d := dflt TItem) h.2 hl hb g
  exact ⟨⟨h.1, e.1⟩, e.2⟩
theorem fgUp {i : Int} {n : Nat} (h0 : 0 ≤ i) (hl : i < (n : Int)) (hb : n ≤ bigLen) : IntKind.i64.wrap (i + 1) = i + 1 := by
  unfold bigLen at hb; exact w64 (by omega) (by omega)
theorem fgYesS {a o : Archive} {now i n : Int} (h : fgInv a now o i ∧ n = i - (o.2.length : Int)) (hl : i < a.2.length) (hb : a.2.length ≤ bigLen) (g : (fgF now (a.2.getD i.toNat (dflt TItem))).2 = true) :
    (fgInv a now (o.1, o.2 ++ [a.2.getD i.toNat (dflt TItem)]) (IntKind.i64.wrap (i + 1)) ∧ n = IntKind.i64.wrap (i + 1) - ((o.2 ++ [a.2.getD i.toNat (dflt TItem)]).length : Int)) ∧
      ((a.2.length : Int) - IntKind.i64.wrap (i + 1)).toNat < ((a.2.length : Int) - i).toNat := by
  have e := fgYes h.1 hl hb g
  refine ⟨⟨e.1, ?_⟩, e.2⟩
  rw [fgUp (fgRange h.1 hl).1 hl hb, List.length_append, List.length_singleton, h.2]; omega
theorem fgNoS {a o : Archive} {now i n : Int} (h : fgInv a now o i ∧ n = i - (o.2.length : Int)) (hl : i < a.2.length) (hb : a.2.length ≤ bigLen) (g : (fgF now (a.2.getD i.toNat (dflt TItem))).2 = false) :
    (fgInv a now o (IntKind.i64.wrap (i + 1)) ∧ IntKind.i64.wrap (n + 1) = IntKind.i64.wrap (i + 1) - (o.2.length : Int)) ∧
      ((a.2.length : Int) - IntKind.i64.wrap (i + 1)).toNat < ((a.2.length : Int) - i).toNat := by
  have e := fgNo h.1 hl hb g
  refine ⟨⟨e.1, ?_⟩, e.2⟩
  have hp := pick_len (fgF now) (a.2.take i.toNat)
  rw [← h.1.2.2, List.length_take] at hp
  have h0 := (fgRange h.1 hl).1
  rw [fgUp h0 hl hb, h.2]
  unfold bigLen at hb
  rw [w64 (by omega) (by omega)]; omega
theorem fgLen {a o : Archive} {now i : Int} (h : fgInv a now o i) (hs : a.2.length ≤ 1048576) : o.2.length + 1 ≤ maxApp := pkLen h.2 hs
theorem fgCells {a : Archive} {now : Int} (h : ((cellsC (.pair TI (.slice TItem)) a : Nat) : Int) ≤ 2000000000) : ((cellsV (.pair TI (.slice TItem)) (forgetF a now).1 : Nat) : Int) ≤ 10000000000000000 := by
  have e1 : cellsC (.pair TI (.slice TItem)) a = 1 + cellsL (cellsC TItem) a.2 := rfl
  have e2 : cellsV (.pair TI (.slice TItem)) (forgetF a now).1 = 0 + cellsL (cellsC TItem) (pickF (fgF now) a.2) := rfl
  have e3 := cellsL_pick (c := cellsC TItem) (f := fgF now) (fun _ => rfl) a.2
  rw [e2]; omega
end Fw
namespace Fw
open Go
theorem cellsL_getD {α : Type} (c : α → Nat) (d : α) : ∀ (l : List α) (i : Nat), c (l.getD i d) ≤ cellsL c l + c d
  | [], i => by simp [cellsL]
  | x :: r, 0 => by show c x ≤ c x + cellsL c r + c d; omega
  | x :: r, i + 1 => by
    have := cellsL_getD c d r i
    show c (r.getD i d) ≤ c x + cellsL c r + c d; omega
theorem cells_item (x : Item) : cellsC TItem x = 1 + (1 + (cellsC TDoc x.2.2.1 + (cellsC TSign x.2.2.2.1 + (cellsL (cellsC TPiece) x.2.2.2.2.1 + cellsL (cellsC TRen) x.2.2.2.2.2)))) := rfl
theorem atiCells {a : Archive} {n : Int} {p : Piece} (h : ((cellsC (.pair TI (.slice TItem)) a : Nat) : Int) ≤ 2000000000) (hp : ((cellsC TPiece p : Nat) : Int) ≤ 2000000000) :
    ((cellsV (.pair TI (.slice TItem)) (addToItemF a n p).1 : Nat) : Int) ≤ 10000000000000000 := by
  have e1 : cellsC (.pair TI (.slice TItem)) a = 1 + cellsL (cellsC TItem) a.2 := rfl
  have e2 : ∀ b : Archive, cellsV (.pair TI (.slice TItem)) b = 0 + cellsL (cellsC TItem) b.2 := fun _ => rfl
  rw [e2]
  unfold addToItemF
  split
  · show ((0 + cellsL (cellsC TItem) a.2 : Nat) : Int) ≤ _; omega
  · have k1 := cellsL_set (cellsC TItem) (setStrand (itGet a n) (addPieceF (itGet a n).2.2.2.2 p).1) a.2 (itAt a n).toNat
    have k2 : cellsC TItem (itGet a n) ≤ cellsL (cellsC TItem) a.2 + cellsC TItem (dflt TItem) := cellsL_getD _ _ _ _
    have k3 : cellsC TItem (dflt TItem) ≤ 100 := by decide
    have k4 : cellsC TItem (setStrand (itGet a n) (addPieceF (itGet a n).2.2.2.2 p).1) ≤ cellsC TItem (itGet a n) + cellsC TPiece p := by
      rw [cells_item, cells_item]
      unfold addPieceF
      split
      · show 1 + (1 + (cellsC TDoc (itGet a n).2.2.1 + (cellsC TSign (itGet a n).2.2.2.1 + (cellsL (cellsC TPiece) ((itGet a n).2.2.2.2.1 ++ [p]) + cellsL (cellsC TRen) (itGet a n).2.2.2.2.2)))) ≤ _
        rw [cellsL_append]
        have : cellsL (cellsC TPiece) [p] = cellsC TPiece p + 0 := rfl
        omega
      · exact Nat.le_add_right _ _
    show ((0 + cellsL (cellsC TItem) (a.2.set (itAt a n).toNat (setStrand (itGet a n) (addPieceF (itGet a n).2.2.2.2 p).1)) : Nat) : Int) ≤ _
    omega
end Fw
namespace Fw
open Go
def tkInv {α : Type} (p : α → Bool) (l : List α) (i : Int) : Prop := 0 ≤ i ∧ i ≤ l.length ∧ ∀ y ∈ l.take i.toNat, p y = true
section
variable {α : Type} {p : α → Bool} {l : List α} {i : Int} {d x : α}
theorem tkStart : tkInv p l 0 := ⟨by omega, by omega, by simp⟩
theorem tkRange (h : tkInv p l i) (hl : i < (l.length : Int)) : inRange i l.length := ⟨h.1, hl⟩
theorem tkStep (h : tkInv p l i) (hs : l.length ≤ 4000000) (g : pick2 (decide (i < (l.length : Int))) (p (l.getD i.toNat d)) false = true) :
    tkInv p l (IntKind.i64.wrap (i + 1)) ∧ ((l.length : Int) - IntKind.i64.wrap (i + 1)).toNat < ((l.length : Int) - i).toNat := by
  obtain ⟨h1, h2, h3⟩ := h
  have g1 := of_decide_eq_true (andT g).1
  have g2 := (andT g).2
  rw [w64 (by omega) (by omega)]
  refine ⟨⟨by omega, by omega, fun y hy => ?_⟩, by omega⟩
  have e : (i + 1).toNat = i.toNat + 1 := by omega
  rw [e, List.take_succ_eq_append_getElem (by omega)] at hy
  rcases List.mem_append.1 hy with hy | hy
  · exact h3 y hy
  · rw [List.mem_singleton.1 hy]
    rw [List.getD_eq_getElem?_getD, List.getElem?_eq_getElem (by omega)] at g2
    exact g2
theorem tkEnd (h : tkInv p l i) (g : pick2 (decide (i < (l.length : Int))) (p (l.getD i.toNat d)) false = false) : i.toNat = (l.takeWhile p).length := by
  obtain ⟨h1, h2, h3⟩ := h
  have e : l.takeWhile p = l.take i.toNat := by
    have e1 : l = l.take i.toNat ++ l.drop i.toNat := (List.take_append_drop _ _).symm
    rw [e1, List.takeWhile_append_of_pos h3]
    have e2 : (l.drop i.toNat).takeWhile p = [] := by
      by_cases hl : i.toNat < l.length
      · rw [List.drop_eq_getElem_cons hl, List.takeWhile_cons_of_neg]
        have hd : decide (i < (l.length : Int)) = true := decide_eq_true (by omega)
        rw [hd] at g
        have g : p (l.getD i.toNat d) = false := g
        rw [List.getD_eq_getElem?_getD, List.getElem?_eq_getElem hl] at g
        simp only [Option.getD_some] at g
        rw [g]; simp
      · rw [List.drop_eq_nil_of_le (by omega)]; rfl
    rw [e2, List.append_nil, ← e1]
  rw [e, List.length_take]; omega
def insP (p : α → Bool) (x : α) (l : List α) : List α := l.takeWhile p ++ x :: l.dropWhile p
theorem tw_take : l.take (l.takeWhile p).length = l.takeWhile p := by
  have e := List.takeWhile_append_dropWhile (p := p) (l := l)
  have : (l.takeWhile p ++ l.dropWhile p).take (l.takeWhile p).length = l.takeWhile p := List.take_left
  rwa [e] at this
theorem tw_drop : l.drop (l.takeWhile p).length = l.dropWhile p := by
  have e := List.takeWhile_append_dropWhile (p := p) (l := l)
  have : (l.takeWhile p ++ l.dropWhile p).drop (l.takeWhile p).length = l.dropWhile p := List.drop_left
  rwa [e] at this
theorem tw_le : (l.takeWhile p).length ≤ l.length := by
  have e := congrArg List.length (List.takeWhile_append_dropWhile (p := p) (l := l))
  rw [List.length_append] at e; omega
theorem insP_len : (insP p x l).length = l.length + 1 := by
  have e := congrArg List.length (List.takeWhile_append_dropWhile (p := p) (l := l))
  rw [List.length_append] at e
  unfold insP; rw [List.length_append, List.length_cons]; omega
theorem insP_eq {m k : Nat} (hm : m = (l.takeWhile p).length) (hk : k = (l.takeWhile p).length) : l.take m ++ ([] ++ [x]) ++ l.drop k = insP p x l := by
  subst hm; subst hk
  rw [tw_take, tw_drop]; simp [insP]
theorem insP_mem {y : α} (h : y ∈ insP p x l) : y = x ∨ y ∈ l := by
  unfold insP at h
  rcases List.mem_append.1 h with h | h
  · exact .inr (List.takeWhile_subset p h)
  · rcases List.mem_cons.1 h with h | h
    · exact .inl h
    · exact .inr ((List.dropWhile_suffix p).subset h)
theorem sub0_len (h : tkInv p l i) : (subL l 0 i).length = i.toNat := by
  unfold subL; rw [List.length_drop, List.length_take]; have := h.2.1; have := h.1; simp; omega
/-- the conditions of the four appends -/
theorem insConds2 {Q : Prop} (h : tkInv p l i) (hs : l.length ≤ 4000000) (hQ : Q) :
    conj [(0 : Int) ≤ 0, (0 : Int) ≤ i, i ≤ (l.length : Int), (subL l 0 i).length ≤ maxApp, Q, (subL l 0 i).length + 0 + 1 ≤ maxApp, 0 ≤ i, i ≤ (l.length : Int), (l.length : Int) ≤ (l.length : Int), (subL l 0 i).length ≤ i.toNat, (subL l 0 i).length + (0 + 1) + (l.length - i.toNat) ≤ maxApp] := by
  have e := sub0_len h
  obtain ⟨h1, h2, _⟩ := h
  rw [e]
  unfold maxApp
  refine ⟨Int.le_refl _, h1, h2, by omega, hQ, by omega, h1, h2, Int.le_refl _, Nat.le_refl _, ?_⟩
  show i.toNat + (0 + 1) + (l.length - i.toNat) ≤ 4294967296
  omega
end
/-- before what is greater -/
def insI (x : Item) (l : List Item) : List Item := insP (fun y => decide (y.1 < x.1)) x l
def spF (x : Item) (acc : List Item × Bool) (y : Item) : List Item × Bool := if acc.2 = false ∧ x.1 < y.1 then (acc.1 ++ [x] ++ [y], true) else (acc.1 ++ [y], acc.2)
theorem sp_done (x : Item) : ∀ (l acc : List Item), l.foldl (spF x) (acc, true) = (acc ++ l, true)
  | [], acc => by simp
  | y :: l, acc => by
    show l.foldl (spF x) (spF x (acc, true) y) = _
    have : spF x (acc, true) y = (acc ++ [y], true) := by simp [spF]
    rw [this, sp_done x l]; simp
theorem sp_run (x : Item) : ∀ (l acc : List Item), (∀ y ∈ l, y.1 ≠ x.1) →
    ((l.foldl (spF x) (acc, false)).2 = true ∧ (l.foldl (spF x) (acc, false)).1 = acc ++ insI x l) ∨ ((l.foldl (spF x) (acc, false)).2 = false ∧ (l.foldl (spF x) (acc, false)).1 ++ [x] = acc ++ insI x l)
  | [], acc, _ => .inr ⟨rfl, by simp [insI, insP]⟩
  | y :: l, acc, h => by
    show ((l.foldl (spF x) (spF x (acc, false) y)).2 = true ∧ _) ∨ ((l.foldl (spF x) (spF x (acc, false) y)).2 = false ∧ _)
    by_cases hc : x.1 < y.1
    · have e : spF x (acc, false) y = (acc ++ [x] ++ [y], true) := by simp [spF, hc]
      left
      rw [List.foldl_cons, e, sp_done]
      refine ⟨rfl, ?_⟩
      have : ¬ y.1 < x.1 := by omega
      simp [insI, insP, this]
    · have e : spF x (acc, false) y = (acc ++ [y], false) := by simp [spF, hc]
      have hlt : y.1 < x.1 := by have := h y (by simp); omega
      have hi : insI x (y :: l) = y :: insI x l := by simp [insI, insP, hlt]
      rw [List.foldl_cons, e, hi]
      rcases sp_run x l (acc ++ [y]) (fun z hz => h z (by simp [hz])) with ⟨h1, h2⟩ | ⟨h1, h2⟩
      · exact .inl ⟨h1, by rw [h2]; simp⟩
      · exact .inr ⟨h1, by rw [h2]; simp⟩
theorem sp_len (x : Item) : ∀ (l : List Item) (acc : List Item × Bool), (l.foldl (spF x) acc).1.length ≤ acc.1.length + l.length + (if acc.2 = true then 0 else 1)
  | [], acc => by simp
  | y :: l, acc => by
    have ih := sp_len x l (spF x acc y)
    show (l.foldl (spF x) (spF x acc y)).1.length ≤ _
    obtain ⟨al, ab⟩ := acc
    cases ab with
    | true =>
      have e : spF x (al, true) y = (al ++ [y], true) := by simp [spF]
      rw [e] at ih ⊢
      simp at ih ⊢; omega
    | false =>
      by_cases hc : x.1 < y.1
      · have e : spF x (al, false) y = (al ++ [x] ++ [y], true) := by simp [spF, hc]
        rw [e] at ih ⊢
        simp at ih ⊢; omega
      · have e : spF x (al, false) y = (al ++ [y], false) := by simp [spF, hc]
        rw [e] at ih ⊢
        simp at ih ⊢; omega
theorem findI_none {α : Type} {p : α → Bool} {l : List α} (h : ¬ findI p l ≥ 0) : ∀ y ∈ l, p y = false := by
  unfold findI at h
  split at h
  · rename_i k hk; exact (h (by omega)).elim
  · rename_i hk; rw [List.findIdx?_eq_none_iff] at hk; exact hk
noncomputable def addItemF (a : Archive) (x : Item) : Archive × Bool :=
  if (archF a = true ∧ ¬ itAt a x.1 ≥ 0) ∧ archF (a.1, insI x a.2) = true then ((a.1, insI x a.2), true) else (a, false)
theorem aiGo {a : Archive} {x : Item} (h : pick2 (decide (itAt a x.1 ≥ 0)) true (!(archF a)) = false) : archF a = true ∧ ¬ itAt a x.1 ≥ 0 := by
  have := orF h
  exact ⟨notF this.2, of_decide_eq_false this.1⟩
theorem aiGoS {a : Archive} {x : Item} (h : pick2 (!(archF a)) true (decide (itAt a x.1 ≥ 0)) = false) : archF a = true ∧ ¬ itAt a x.1 ≥ 0 := by
  have := orF h
  exact ⟨notF this.1, of_decide_eq_false this.2⟩
theorem ai0 {a : Archive} {x : Item} (h : pick2 (decide (itAt a x.1 ≥ 0)) true (!(archF a)) = true) : addItemF a x = (a, false) := by
  unfold addItemF
  rw [if_neg]
  rintro ⟨⟨h1, h2⟩, _⟩
  rw [decide_eq_false h2, h1] at h; cases h
theorem ai0s {a : Archive} {x : Item} (h : pick2 (!(archF a)) true (decide (itAt a x.1 ≥ 0)) = true) : addItemF a x = (a, false) := by
  unfold addItemF
  rw [if_neg]
  rintro ⟨⟨h1, h2⟩, _⟩
  rw [decide_eq_false h2, h1] at h; cases h
theorem ai1 {a : Archive} {x : Item} (h : (!(archF (a.1, insI x a.2))) = true) : addItemF a x = (a, false) := by
  unfold addItemF
  rw [if_neg]
  rintro ⟨_, h3⟩
  rw [h3] at h; cases h
theorem ai2 {a : Archive} {x : Item} (g : archF a = true ∧ ¬ itAt a x.1 ≥ 0) (h : (!(archF (a.1, insI x a.2))) = false) : addItemF a x = ((a.1, insI x a.2), true) := by
  unfold addItemF
  rw [if_pos ⟨g, notF h⟩]
/-- the reference's way -/
def aiInv (a : Archive) (x : Item) (o : Archive) (b : Bool) (i : Int) : Prop := o.1 = a.1 ∧ foInv (spF x) ([], false) a.2 (o.2, b) i
theorem aiStart {a : Archive} {x : Item} : aiInv a x (a.1, []) false 0 := ⟨rfl, foStart⟩
theorem aiLen {a o : Archive} {x : Item} {b : Bool} {i : Int} (h : aiInv a x o b i) (_ : i ≤ (a.2.length : Int)) (hs : a.2.length ≤ 1048576) : o.2.length ≤ 1048577 := by
  have e : o.2 = ((a.2.take i.toNat).foldl (spF x) ([], false)).1 := congrArg Prod.fst h.2.2
  have := sp_len x (a.2.take i.toNat) ([], false)
  rw [e]
  simp only [List.length_take, List.length_nil] at this
  have h2 : (if (false : Bool) = true then 0 else 1) = 1 := rfl
  rw [h2] at this
  omega
theorem aiNo {a o o' : Archive} {x : Item} {b b' : Bool} {i : Int} (h : aiInv a x o b i) (hl : i < (a.2.length : Int)) (hb : a.2.length ≤ bigLen) (g : pick2 (!b) (decide (x.1 < (a.2.getD i.toNat (dflt TItem)).1)) false = false)
    (e : o' = (o.1, o.2 ++ [a.2.getD i.toNat (dflt TItem)])) (eb : b' = b) :
    aiInv a x o' b' (IntKind.i64.wrap (i + 1)) ∧ ((a.2.length : Int) - IntKind.i64.wrap (i + 1)).toNat < ((a.2.length : Int) - i).toNat := by
  have s := foStep (d := dflt TItem) h.2 hl hb
  have e2 : spF x (o.2, b) (a.2.getD i.toNat (dflt TItem)) = (o.2 ++ [a.2.getD i.toNat (dflt TItem)], b) := by
    unfold spF
    rw [if_neg]
    rintro ⟨h1, h2⟩
    have h1 : b = false := h1
    rw [h1, decide_eq_true h2] at g; cases g
  subst e; subst eb
  rw [e2] at s
  exact ⟨⟨h.1, s.1⟩, s.2⟩
theorem aiYes {a o o' : Archive} {x : Item} {b b' : Bool} {i : Int} (h : aiInv a x o b i) (hl : i < (a.2.length : Int)) (hb : a.2.length ≤ bigLen) (g : pick2 (!b) (decide (x.1 < (a.2.getD i.toNat (dflt TItem)).1)) false = true)
    (e : o' = (o.1, o.2 ++ [x] ++ [a.2.getD i.toNat (dflt TItem)])) (eb : b' = true) :
    aiInv a x o' b' (IntKind.i64.wrap (i + 1)) ∧ ((a.2.length : Int) - IntKind.i64.wrap (i + 1)).toNat < ((a.2.length : Int) - i).toNat := by
  have s := foStep (d := dflt TItem) h.2 hl hb
  have e2 : spF x (o.2, b) (a.2.getD i.toNat (dflt TItem)) = (o.2 ++ [x] ++ [a.2.getD i.toNat (dflt TItem)], true) := by
    unfold spF
    rw [if_pos ⟨by have := (andT g).1; simpa using this, of_decide_eq_true (andT g).2⟩]
  subst e; subst eb
  rw [e2] at s
  exact ⟨⟨h.1, s.1⟩, s.2⟩
theorem aiEnd {a o : Archive} {x : Item} {b : Bool} {i : Int} (h : aiInv a x o b i) (hl : ¬ i < (a.2.length : Int)) (g : archF a = true ∧ ¬ itAt a x.1 ≥ 0) :
    (b = true → o = (a.1, insI x a.2)) ∧ (b = false → (o.1, o.2 ++ [x]) = (a.1, insI x a.2)) := by
  have e := foEnd h.2 hl
  have hne : ∀ y ∈ a.2, y.1 ≠ x.1 := fun y hy he => by
    have := findI_none g.2 y hy
    simp [he] at this
  have r := sp_run x a.2 [] hne
  rw [← e] at r
  simp only [List.nil_append] at r
  rcases r with ⟨r1, r2⟩ | ⟨r1, r2⟩
  · have r1 : b = true := r1
    exact ⟨fun _ => Prod.ext h.1 r2, fun hb => by rw [r1] at hb; exact absurd hb (by decide)⟩
  · have r1 : b = false := r1
    exact ⟨fun hb => by rw [r1] at hb; exact absurd hb (by decide), fun _ => Prod.ext h.1 r2⟩
theorem cellsL_insP {α : Type} (c : α → Nat) (p : α → Bool) (x : α) (l : List α) : cellsL c (insP p x l) = cellsL c l + c x := by
  have e : cellsL c l = cellsL c (l.takeWhile p) + cellsL c (l.dropWhile p) := by rw [← cellsL_append, List.takeWhile_append_dropWhile]
  unfold insP
  rw [cellsL_append, e]
  show cellsL c (l.takeWhile p) + (c x + cellsL c (l.dropWhile p)) = _
  omega
theorem aiCells {a : Archive} {x : Item} (h : ((cellsC (.pair TI (.slice TItem)) a : Nat) : Int) ≤ 2000000000) (hx : ((cellsC TItem x : Nat) : Int) ≤ 2000000000) :
    ((cellsV (.pair TI (.slice TItem)) (addItemF a x).1 : Nat) : Int) ≤ 10000000000000000 := by
  have e1 : cellsC (.pair TI (.slice TItem)) a = 1 + cellsL (cellsC TItem) a.2 := rfl
  have e2 : ∀ b : Archive, cellsV (.pair TI (.slice TItem)) b = 0 + cellsL (cellsC TItem) b.2 := fun _ => rfl
  rw [e2]
  unfold addItemF
  split
  · show ((0 + cellsL (cellsC TItem) (insI x a.2) : Nat) : Int) ≤ _
    unfold insI
    rw [cellsL_insP]; omega
  · show ((0 + cellsL (cellsC TItem) a.2 : Nat) : Int) ≤ _; omega
/-- one is left out -/
noncomputable def dropItemF (a : Archive) (n : Int) : Archive × Bool :=
  if itAt a n < 0 then (a, false) else ((a.1, a.2.take (itAt a n).toNat ++ a.2.drop ((itAt a n).toNat + 1)), true)
theorem di0 {a : Archive} {n : Int} (h : itAt a n < 0) : dropItemF a n = (a, false) := by unfold dropItemF; rw [if_pos h]
theorem di1 {a : Archive} {n : Int} (h : ¬ itAt a n < 0) : dropItemF a n = ((a.1, a.2.take (itAt a n).toNat ++ a.2.drop ((itAt a n).toNat + 1)), true) := by unfold dropItemF; rw [if_neg h]
theorem itLt {a : Archive} {n : Int} (h : ¬ itAt a n < 0) : itAt a n < (a.2.length : Int) := (findRange h).2
theorem diSub {a : Archive} {n : Int} (h : ¬ itAt a n < 0) : (subL a.2 0 (itAt a n)).length = (itAt a n).toNat := by
  have := itLt h
  unfold subL; rw [List.length_drop, List.length_take]; simp; omega
theorem diW {a : Archive} {n : Int} (h : ¬ itAt a n < 0) (hb : a.2.length ≤ bigLen) : (IntKind.i64.wrap (itAt a n + 1)).toNat = (itAt a n).toNat + 1 ∧ IntKind.i64.wrap (itAt a n + 1) = itAt a n + 1 := by
  have := itLt h
  have e : IntKind.i64.wrap (itAt a n + 1) = itAt a n + 1 := w64 (by omega) (by unfold bigLen at hb; omega)
  exact ⟨by rw [e]; omega, e⟩
theorem diConds {a : Archive} {n : Int} (h : ¬ itAt a n < 0) (hs : a.2.length ≤ 1048576) (hb : a.2.length ≤ bigLen) :
    conj [(0 : Int) ≤ 0, (0 : Int) ≤ itAt a n, itAt a n ≤ (a.2.length : Int), 0 ≤ IntKind.i64.wrap (itAt a n + 1), IntKind.i64.wrap (itAt a n + 1) ≤ (a.2.length : Int), (a.2.length : Int) ≤ (a.2.length : Int),
      (subL a.2 0 (itAt a n)).length ≤ (IntKind.i64.wrap (itAt a n + 1)).toNat, (subL a.2 0 (itAt a n)).length + (a.2.length - (IntKind.i64.wrap (itAt a n + 1)).toNat) ≤ maxApp] := by
  have h1 := itLt h
  obtain ⟨h2, h3⟩ := diW h hb
  rw [diSub h, h2, h3]
  unfold maxApp
  refine ⟨Int.le_refl _, by omega, by omega, by omega, by omega, Int.le_refl _, by omega, ?_⟩
  show (itAt a n).toNat + (a.2.length - ((itAt a n).toNat + 1)) ≤ 4294967296
  omega
theorem di1i {a : Archive} {n : Int} (h : ¬ itAt a n < 0) (hb : a.2.length ≤ bigLen) : dropItemF a n = ((a.1, a.2.take (subL a.2 0 (itAt a n)).length ++ a.2.drop (IntKind.i64.wrap (itAt a n + 1)).toNat), true) := by
  rw [diSub h, (diW h hb).1]; exact di1 h
/-- the reference's way -/
def diInv (a : Archive) (k : Nat) (o : Archive) (i : Int) : Prop := o.1 = a.1 ∧ upInv a.2 i ∧ o.2 = (a.2.take i.toNat).take k ++ (a.2.take i.toNat).drop (k + 1)
theorem diStart {a : Archive} {k : Nat} : diInv a k (a.1, []) 0 := ⟨rfl, upStart, by simp⟩
theorem diLen {a o : Archive} {k : Nat} {i : Int} (h : diInv a k o i) (hs : a.2.length ≤ 1048576) : o.2.length + 1 ≤ maxApp := by
  rw [h.2.2]
  simp only [List.length_append, List.length_take, List.length_drop]
  unfold maxApp; omega
theorem diYes {a o o' : Archive} {k : Nat} {i : Int} (h : diInv a k o i) (hl : i < (a.2.length : Int)) (hb : a.2.length ≤ bigLen) (hk : i.toNat ≠ k) (e : o' = (o.1, o.2 ++ [a.2.getD i.toNat (dflt TItem)])) :
    diInv a k o' (IntKind.i64.wrap (i + 1)) ∧ ((a.2.length : Int) - IntKind.i64.wrap (i + 1)).toNat < ((a.2.length : Int) - i).toNat := by
  obtain ⟨h1, h2, h3⟩ := h
  obtain ⟨u1, u2, u3⟩ := upStep h2 hl hb
  refine ⟨⟨by rw [e]; exact h1, u1, ?_⟩, u3⟩
  obtain ⟨m, hm, hi⟩ := h2
  have e0 : (IntKind.i64.wrap (i + 1)).toNat = i.toNat + 1 := by rw [u2]; omega
  have hlen : (a.2.take i.toNat).length = i.toNat := by rw [List.length_take]; omega
  rw [e, e0, take_succD (by omega) (dflt TItem)]
  show o.2 ++ _ = _
  rw [h3, List.take_append, List.drop_append, hlen]
  by_cases hlt : i.toNat < k
  · have e1 : (a.2.take i.toNat).drop (k + 1) = [] := List.drop_eq_nil_of_le (by omega)
    have e2 : ([a.2.getD i.toNat (dflt TItem)]).take (k - i.toNat) = [a.2.getD i.toNat (dflt TItem)] := List.take_of_length_le (by simp; omega)
    have e3 : ([a.2.getD i.toNat (dflt TItem)]).drop (k + 1 - i.toNat) = [] := List.drop_eq_nil_of_le (by simp; omega)
    rw [e1, e2, e3]; simp
  · have e2 : k - i.toNat = 0 := by omega
    have e3 : k + 1 - i.toNat = 0 := by omega
    rw [e2, e3]; simp
theorem diNo {a o : Archive} {k : Nat} {i : Int} (h : diInv a k o i) (hl : i < (a.2.length : Int)) (hb : a.2.length ≤ bigLen) (hk : i.toNat = k) :
    diInv a k o (IntKind.i64.wrap (i + 1)) ∧ ((a.2.length : Int) - IntKind.i64.wrap (i + 1)).toNat < ((a.2.length : Int) - i).toNat := by
  obtain ⟨h1, h2, h3⟩ := h
  obtain ⟨u1, u2, u3⟩ := upStep h2 hl hb
  refine ⟨⟨h1, u1, ?_⟩, u3⟩
  obtain ⟨m, hm, hi⟩ := h2
  have e0 : (IntKind.i64.wrap (i + 1)).toNat = i.toNat + 1 := by rw [u2]; omega
  have hlen : (a.2.take i.toNat).length = i.toNat := by rw [List.length_take]; omega
  rw [e0, take_succD (by omega) (dflt TItem), h3, List.take_append, List.drop_append, hlen]
  have e1 : (a.2.take i.toNat).drop (k + 1) = [] := List.drop_eq_nil_of_le (by omega)
  have e2 : k - i.toNat = 0 := by omega
  have e3 : ([a.2.getD i.toNat (dflt TItem)]).drop (k + 1 - i.toNat) = [] := List.drop_eq_nil_of_le (by simp; omega)
  rw [e1, e2, e3]; simp
theorem diEnd {a o : Archive} {n i : Int} (h : diInv a (itAt a n).toNat o i) (hl : ¬ i < (a.2.length : Int)) (g : ¬ itAt a n < 0) : dropItemF a n = (o, true) := by
  obtain ⟨h1, h2, h3⟩ := h
  rw [up_end h2 hl, List.take_length] at h3
  rw [di1 g]
  exact Prod.ext (Prod.ext h1.symm h3.symm) rfl
theorem diCells {a : Archive} {n : Int} (h : ((cellsC (.pair TI (.slice TItem)) a : Nat) : Int) ≤ 2000000000) : ((cellsV (.pair TI (.slice TItem)) (dropItemF a n).1 : Nat) : Int) ≤ 10000000000000000 := by
  have e1 : cellsC (.pair TI (.slice TItem)) a = 1 + cellsL (cellsC TItem) a.2 := rfl
  have e2 : ∀ b : Archive, cellsV (.pair TI (.slice TItem)) b = 0 + cellsL (cellsC TItem) b.2 := fun _ => rfl
  have e3 : ∀ k m : Nat, k ≤ m → cellsL (cellsC TItem) (a.2.take k ++ a.2.drop m) ≤ cellsL (cellsC TItem) a.2 := fun k m hkm => by
    have q : cellsL (cellsC TItem) a.2 = cellsL (cellsC TItem) (a.2.take k) + cellsL (cellsC TItem) (a.2.drop k) := by rw [← cellsL_append, List.take_append_drop]
    have q2 : cellsL (cellsC TItem) (a.2.drop k) = cellsL (cellsC TItem) ((a.2.drop k).take (m - k)) + cellsL (cellsC TItem) ((a.2.drop k).drop (m - k)) := by rw [← cellsL_append, List.take_append_drop]
    rw [List.drop_drop, Nat.add_sub_cancel' hkm] at q2
    rw [cellsL_append]; omega
  rw [e2]
  unfold dropItemF
  split
  · show ((0 + cellsL (cellsC TItem) a.2 : Nat) : Int) ≤ _; omega
  · have := e3 (itAt a n).toNat ((itAt a n).toNat + 1) (by omega)
    show ((0 + cellsL (cellsC TItem) (a.2.take (itAt a n).toNat ++ a.2.drop ((itAt a n).toNat + 1)) : Nat) : Int) ≤ _
    omega
theorem upLe {α : Type} {a : List α} {i : Int} (h : upInv a i) : i ≤ (a.length : Int) := by obtain ⟨k, hk, rfl⟩ := h; omega
theorem aiApp {α : Type} {l : List α} (h : l.length ≤ 1048577) : l.length + 1 ≤ maxApp := by unfold maxApp; omega
theorem aiApp2 {α : Type} {x : α} {l : List α} (h : l.length ≤ 1048577) : (l ++ [x]).length + 1 ≤ maxApp := by unfold maxApp; simp; omega
theorem diNe {α : Type} {l : List α} {i j : Int} (h : upInv l i) (g : ¬ j < 0) (h2 : (i != j) = true) : i.toNat ≠ j.toNat := by
  obtain ⟨k, hk, rfl⟩ := h
  have : (k : Int) ≠ j := by simpa using h2
  omega
theorem diEq {i j : Int} (h2 : (i != j) = false) : i.toNat = j.toNat := by
  have : i = j := by simpa using h2
  rw [this]
end Fw
namespace Fw
open Go
theorem mpCells {a : Archive} {to m : Int} {ids : List Int} (h : ((cellsC (.pair TI (.slice TItem)) a : Nat) : Int) ≤ 2000000000) (hs : ids.length ≤ 1048576) :
    ((cellsV (.pair TI (.pair TI (.pair (.slice TItem) TI))) (makeParcelF a to ids m).1 : Nat) : Int) ≤ 10000000000000000 := by
  have e1 : cellsC (.pair TI (.slice TItem)) a = 1 + cellsL (cellsC TItem) a.2 := rfl
  have e2 : ∀ p : Parcel, cellsV (.pair TI (.pair TI (.pair (.slice TItem) TI))) p = 0 + (0 + (cellsL (cellsC TItem) p.2.2.1 + 0)) := fun _ => rfl
  rw [e2]
  unfold makeParcelF
  split
  · show ((0 + (0 + (0 + 0)) : Nat) : Int) ≤ _; omega
  · have k2 : ∀ n ∈ ids, cellsC TItem (itGet a n) ≤ cellsL (cellsC TItem) a.2 + 100 := fun n _ => by
      have q : cellsC TItem (itGet a n) ≤ cellsL (cellsC TItem) a.2 + cellsC TItem (dflt TItem) := cellsL_getD _ _ _ _
      have k3 : cellsC TItem (dflt TItem) ≤ 100 := by decide
      omega
    have k := cellsL_map k2
    show ((0 + (0 + (cellsL (cellsC TItem) (ids.map (itGet a)) + 0)) : Nat) : Int) ≤ _
    have k4 : (cellsL (cellsC TItem) a.2 + 100) * ids.length ≤ 2000000100 * 1048576 := Nat.mul_le_mul (by omega) hs
    omega
end Fw
