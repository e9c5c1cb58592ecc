/- Plain laws of certificates. Conditions: none. -/
import Derived.Test.YtnbpojalpdldnaaLawsI
namespace Fw
open Go
def hdP (p : Piece) : Int := List.getD p.2.1 0 (dflt TI)
def tblP (p : Piece) : Int := List.getD [7, 5, 5, 9, 6] (IntKind.i64.wrap (hdP p - 101)).toNat (dflt TI)
def kb1 (p : Piece) : Bool := pick2 ((List.length p.2.1 : Int) == 0) true (!(inRangeF (hdP p) 101 105))
def kb2 (p : Piece) : Bool := ((List.length p.2.1 : Int) != tblP p)
def kindF (p : Piece) : Int := if pick2 (kb1 p) true (kb2 p) = true then 0 else hdP p
theorem kLen {l : List Int} (h : ((List.length l : Int) == 0) = false) : inRange 0 l.length := by
  have h1 : ¬ ((List.length l : Int) = 0) := by simpa using h
  exact upRange (a := l) ⟨0, Nat.zero_le _, rfl⟩ (by omega)
theorem kLen1 {p : Piece} (h : kb1 p = false) : inRange 0 p.2.1.length := kLen (orF h).1
theorem kHd {p : Piece} (h : kb1 p = false) : 101 ≤ hdP p ∧ hdP p ≤ 105 := by
  have h2 := notF (orF h).2
  unfold inRangeF at h2
  exact ⟨of_decide_eq_true (andT h2).1, of_decide_eq_true (andT h2).2⟩
theorem kIdx {p : Piece} (h : kb1 p = false) : inRange (IntKind.i64.wrap (hdP p - 101)) 5 := by
  have := kHd h
  rw [w64 (by omega) (by omega)]
  exact upRange (a := [0, 0, 0, 0, 0]) ⟨(hdP p - 101).toNat, by simp; omega, by omega⟩ (by simp; omega)
theorem kind0 {p : Piece} (h : kb1 p = true) : (0 : Int) = kindF p := by
  unfold kindF; rw [if_pos (by rw [h]; rfl)]
theorem kind1 {p : Piece} (h : kb2 p = true) : (0 : Int) = kindF p := by
  unfold kindF; rw [if_pos (by rw [h, pick2_or, Bool.or_true])]
theorem kind2 {p : Piece} (h : kb1 p = false) (h2 : kb2 p = false) : hdP p = kindF p := by
  unfold kindF; rw [if_neg (by rw [h, h2]; decide)]
theorem kindI {p : Piece} (h : pick2 (kb1 p) true (kb2 p) = true) : (0 : Int) = kindF p := by
  unfold kindF; rw [if_pos h]
/-- a piece that is a certificate's has seven numbers -/
theorem kind7 {p : Piece} (h : (kindF p != 101) = false) : List.length p.2.1 = 7 := by
  have h1 := bneI h
  unfold kindF at h1
  split at h1
  · cases h1
  · rename_i hh
    have hh : pick2 (kb1 p) true (kb2 p) = false := by simpa using hh
    have e := bneI (orF hh).2
    unfold tblP at e
    rw [h1] at e
    have e2 : (IntKind.i64.wrap (101 - 101)).toNat = 0 := by decide
    rw [e2] at e
    have e3 : (List.length p.2.1 : Int) = 7 := e
    omega
theorem seven {l : List Int} (h : List.length l = 7) (j : Nat) (hj : j < 7) : inRange (j : Int) l.length :=
  upRange (a := l) ⟨j, by omega, rfl⟩ (by omega)
abbrev Cert := Int × Int × Int × Int × Int × Int × Int
def nth (p : Piece) (j : Nat) : Int := List.getD p.2.1 j (dflt TI)
def pcBad (p : Piece) : Bool := pick2 (kindF p != 101) true (nth p 6 != p.1)
def pieceCertF (p : Piece) : Cert × Bool := if pcBad p = true then ((0, 0, 0, 0, 0, 0, 0), false) else ((nth p 1, nth p 2, nth p 3, nth p 4, nth p 5, nth p 6, p.2.2), true)
theorem pc0 {p : Piece} (h : pcBad p = true) : pieceCertF p = ((0, 0, 0, 0, 0, 0, 0), false) := by unfold pieceCertF; rw [if_pos h]
theorem pc1 {p : Piece} (h : pcBad p = false) : pieceCertF p = ((nth p 1, nth p 2, nth p 3, nth p 4, nth p 5, nth p 6, p.2.2), true) := by unfold pieceCertF; rw [if_neg (by rw [h]; decide)]
theorem pc7 {p : Piece} (h : pcBad p = false) : List.length p.2.1 = 7 := kind7 (orF h).1
def certSpanF (c : Cert) : Int × Int := (c.2.2.2.1, c.2.2.2.2.1)
def certIntsF (c : Cert) : List Int := [101, c.1, c.2.1, c.2.2.1, c.2.2.2.1, c.2.2.2.2.1, c.2.2.2.2.2.1]
def isCertF (c : Cert) : Bool :=
  pick2 (pick2 (pick2 (pick2 (pick2 (inRangeF c.1 1 999) (inRangeF c.2.1 1 99) false) (inRangeF c.2.2.2.2.2.1 1 99) false) (c.2.1 != c.2.2.2.2.2.1) false) (inRangeF c.2.2.1 0 99) false) (isSpanF (certSpanF c)) false
def ownerF (keys : List Key) (n : Int) : Int := if keyI keys n < 0 then -1 else (keyAt keys n).2.1
theorem owner0 {keys : List Key} {n : Int} (h : keyI keys n < 0) : (-1 : Int) = ownerF keys n := by unfold ownerF; rw [if_pos h]
theorem owner1 {keys : List Key} {n : Int} (h : ¬ keyI keys n < 0) : (keyAt keys n).2.1 = ownerF keys n := by unfold ownerF; rw [if_neg h]
def checkCertF (keys : List Key) (c : Cert) : Bool :=
  pick2 (pick2 (isCertF c) (checkMarkF keys c.2.2.2.2.2.1 (certIntsF c) c.2.2.2.2.2.2) false) (ownerF keys c.2.1 == c.2.2.1) false
theorem checkCertI (keys : List Key) (c : Cert) : pick2 (pick2 (isCertF c) (checkMarkF keys c.2.2.2.2.2.1 (certIntsF c) c.2.2.2.2.2.2) false) (c.2.2.1 == ownerF keys c.2.1) false = checkCertF keys c := by
  unfold checkCertF
  have : (c.2.2.1 == ownerF keys c.2.1) = (ownerF keys c.2.1 == c.2.2.1) := by rw [Bool.eq_iff_iff]; simp; exact eq_comm
  rw [this]
def cfTest (keys : List Key) (g : Sig) (p : Piece) : Bool :=
  pick2 (pick2 (pick2 (pieceCertF p).2 (checkCertF keys (pieceCertF p).1) false) ((pieceCertF p).1.1 == g.2.1) false) ((pieceCertF p).1.2.1 == g.1) false
def cfStep (keys : List Key) (g : Sig) (acc : Cert × Int) (p : Piece) : Cert × Int := if cfTest keys g p = true then ((pieceCertF p).1, IntKind.i64.wrap (acc.2 + 1)) else acc
def cfAll (keys : List Key) (l : List Piece) (g : Sig) : Cert × Int := l.foldl (cfStep keys g) ((0, 0, 0, 0, 0, 0, 0), 0)
def certForF (keys : List Key) (l : List Piece) (g : Sig) : Cert × Bool := if ((cfAll keys l g).2 != 1) = true then ((0, 0, 0, 0, 0, 0, 0), false) else ((cfAll keys l g).1, true)
theorem cfYes {keys : List Key} {g : Sig} {acc : Cert × Int} {p : Piece} (h : cfTest keys g p = true) : cfStep keys g acc p = ((pieceCertF p).1, IntKind.i64.wrap (acc.2 + 1)) := by unfold cfStep; rw [if_pos h]
theorem cfNo {keys : List Key} {g : Sig} {acc : Cert × Int} {p : Piece} (h : cfTest keys g p = false) : cfStep keys g acc p = acc := by unfold cfStep; rw [if_neg (by rw [h]; decide)]
def cfInv (keys : List Key) (g : Sig) (l : List Piece) (c : Cert) (n : Int) (i : Int) : Prop := foInv (cfStep keys g) ((0, 0, 0, 0, 0, 0, 0), 0) l (c, n) i
theorem cfStart {keys : List Key} {g : Sig} {l : List Piece} : cfInv keys g l (0, 0, 0, 0, 0, 0, 0) 0 0 := foStart
theorem cfRange {keys : List Key} {g : Sig} {l : List Piece} {c : Cert} {n i : Int} (h : cfInv keys g l c n i) (hl : i < l.length) : inRange i l.length := foRange h hl
theorem cfGo1 {keys : List Key} {g : Sig} {l : List Piece} {c : Cert} {n i : Int} {d : Piece} (h : cfInv keys g l c n i) (hl : i < l.length) (hb : l.length ≤ bigLen) (ht : cfTest keys g (l.getD i.toNat d) = true) :
    cfInv keys g l (pieceCertF (l.getD i.toNat d)).1 (IntKind.i64.wrap (n + 1)) (IntKind.i64.wrap (i + 1)) ∧ (l.length - (IntKind.i64.wrap (i + 1))).toNat < (l.length - i).toNat := by
  have := foStep (d := d) h hl hb
  rw [cfYes ht] at this; exact this
theorem cfGo0 {keys : List Key} {g : Sig} {l : List Piece} {c : Cert} {n i : Int} {d : Piece} (h : cfInv keys g l c n i) (hl : i < l.length) (hb : l.length ≤ bigLen) (ht : cfTest keys g (l.getD i.toNat d) = false) :
    cfInv keys g l c n (IntKind.i64.wrap (i + 1)) ∧ (l.length - (IntKind.i64.wrap (i + 1))).toNat < (l.length - i).toNat := by
  have := foStep (d := d) h hl hb
  rw [cfNo ht] at this; exact this
theorem cfEnd0 {keys : List Key} {g : Sig} {l : List Piece} {c : Cert} {n i : Int} (h : cfInv keys g l c n i) (hl : ¬ i < l.length) (hn : (n != 1) = true) : certForF keys l g = ((0, 0, 0, 0, 0, 0, 0), false) := by
  have e : (c, n) = cfAll keys l g := foEnd h hl
  unfold certForF; rw [← e, if_pos hn]
theorem cfEnd1 {keys : List Key} {g : Sig} {l : List Piece} {c : Cert} {n i : Int} (h : cfInv keys g l c n i) (hl : ¬ i < l.length) (hn : (n != 1) = false) : certForF keys l g = (c, true) := by
  have e : (c, n) = cfAll keys l g := foEnd h hl
  unfold certForF; rw [← e, if_neg (by rw [hn]; decide)]
end Fw
