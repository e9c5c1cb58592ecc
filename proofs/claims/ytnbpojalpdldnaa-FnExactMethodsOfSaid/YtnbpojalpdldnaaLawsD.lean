/- Plain laws of marks and stamps. Conditions: none. -/
import Derived.Test.YtnbpojalpdldnaaLawsC
namespace Fw
open Go
theorem pick2_or (c b : Bool) : pick2 c true b = (c || b) := by cases c <;> rfl
theorem pick2_and (c a : Bool) : pick2 c a false = (c && a) := by cases c <;> rfl
theorem ne_self2IB {x : Int} {y : Bool} (h : pick2 (x != x) true (y != y) = true) : False := by cases y <;> simp [pick2] at h
abbrev Key := Int × Int × Int × Int × Int
abbrev Stamp := Int × Int × Int × Int × Int
abbrev Authority := Int × Int × Int
abbrev TStamp : Ty := .pair TI (.pair TI (.pair TI (.pair TI TI)))
def zeroK5 : Key := (0, 0, 0, 0, 0)
def findBy {α : Type} (g : α → Int) (l : List α) (n : Int) : Int := findI (fun x => g x == n) l
theorem findRange {α : Type} {p : α → Bool} {l : List α} (h : ¬ findI p l < 0) : inRange (findI p l) l.length := by
  rcases findI_lt (p := p) l with h' | h'
  · omega
  · exact h'
def smallL (l : List Int) : Prop := l.length ≤ 1000000000
theorem smallLit {l : List Int} {n : Nat} (h : l.length = n) (hn : n ≤ 1000000000) : smallL l := by unfold smallL; omega
def markWithF (k : Key) (l : List Int) : Int := keyedF k.2.2.2.2 ([k.2.2.1] ++ l)
def keyI (keys : List Key) (n : Int) : Int := findI (fun (x : Key) => x.1 == n) keys
def keyAt (keys : List Key) (n : Int) : Key := keys.getD (keyI keys n).toNat (dflt (.pair TI (.pair TI (.pair TI (.pair TI TI)))))
def markByF (keys : List Key) (n : Int) (l : List Int) : Int × Bool := if keyI keys n < 0 then (0, false) else (markWithF (keyAt keys n) l, true)
theorem markBy_no {keys : List Key} {n : Int} {l : List Int} (h : keyI keys n < 0) : markByF keys n l = (0, false) := if_pos h
theorem markBy_yes {keys : List Key} {n : Int} {l : List Int} (h : ¬ keyI keys n < 0) : markByF keys n l = (markWithF (keyAt keys n) l, true) := if_neg h
def checkMarkF (keys : List Key) (n : Int) (l : List Int) (m : Int) : Bool := pick2 (decide (keyI keys n ≥ 0)) (markWithF (keyAt keys n) l == m) false
theorem checkMark_by (keys : List Key) (n : Int) (l : List Int) (m : Int) : pick2 (markByF keys n l).2 ((markByF keys n l).1 == m) false = checkMarkF keys n l m := by
  unfold checkMarkF
  by_cases h : keyI keys n < 0
  · rw [markBy_no h]
    have : decide (keyI keys n ≥ 0) = false := by simp; omega
    simp only [this, pick2_and, Bool.false_and]
  · rw [markBy_yes h]
    have : decide (keyI keys n ≥ 0) = true := by simp; omega
    simp only [this, pick2_and, Bool.true_and]
def stampIntsF (s : Stamp) : List Int := [103, s.1, s.2.1, s.2.2.1, s.2.2.2.1]
def authI (l : List Authority) (n : Int) : Int := findI (fun (x : Authority) => x.1 == n) l
def authAt (l : List Authority) (n : Int) : Authority := l.getD (authI l n).toNat (dflt (.pair TI (.pair TI TI)))
def stampBad (l : List Authority) (s : Stamp) : Bool := pick2 (pick2 (decide (authI l s.1 < 0)) true (decide (s.2.1 < 0))) true (!(isTimeF s.2.2.1))
def makeStampF (keys : List Key) (l : List Authority) (s : Stamp) : Stamp × Bool :=
  if stampBad l s = true then ((0, 0, 0, 0, 0), false)
  else if keyI keys (authAt l s.1).2.1 < 0 then ((0, 0, 0, 0, 0), false)
  else ((s.1, s.2.1, s.2.2.1, s.2.2.2.1, markWithF (keyAt keys (authAt l s.1).2.1) (stampIntsF s)), true)
theorem ms_1 {keys : List Key} {l : List Authority} {s : Stamp} (h : stampBad l s = true) : makeStampF keys l s = ((0, 0, 0, 0, 0), false) := if_pos h
theorem ms_2 {keys : List Key} {l : List Authority} {s : Stamp} (h : stampBad l s = false) (h2 : keyI keys (authAt l s.1).2.1 < 0) : makeStampF keys l s = ((0, 0, 0, 0, 0), false) := by
  unfold makeStampF; rw [if_neg (by rw [h]; decide), if_pos h2]
theorem ms_3 {keys : List Key} {l : List Authority} {s : Stamp} (h : stampBad l s = false) (h2 : ¬ keyI keys (authAt l s.1).2.1 < 0) :
    makeStampF keys l s = ((s.1, s.2.1, s.2.2.1, s.2.2.2.1, markWithF (keyAt keys (authAt l s.1).2.1) (stampIntsF s)), true) := by
  unfold makeStampF; rw [if_neg (by rw [h]; decide), if_neg h2]
theorem mb_ok {keys : List Key} {n : Int} {l : List Int} (h : (!(markByF keys n l).2) = false) : ¬ keyI keys n < 0 := by
  intro h2; rw [markBy_no h2] at h; cases h
theorem mb_no {keys : List Key} {n : Int} {l : List Int} (h : (!(markByF keys n l).2) = true) : keyI keys n < 0 := by
  by_cases h2 : keyI keys n < 0
  · exact h2
  · rw [markBy_yes h2] at h; cases h
theorem bad_idx {l : List Authority} {s : Stamp} (h : stampBad l s = false) : inRange (authI l s.1) l.length := by
  refine findRange fun h2 => ?_
  unfold stampBad authI at h
  simp only [pick2_or, Bool.or_eq_false_iff, decide_eq_false_iff_not] at h
  exact h.1.1 h2
def checkStampF (keys : List Key) (l : List Authority) (s : Stamp) : Bool := pick2 (makeStampF keys l s).2 (El.eq TStamp (makeStampF keys l s).1 s) false
def contraryF (keys : List Key) (l : List Authority) (a b : Stamp) : Bool :=
  if (checkStampF keys l a && checkStampF keys l b && a.1 == b.1) = true then
    (a.2.1 == b.2.1 && !(El.eq TStamp a b)) || (decide (a.2.1 < b.2.1) && decide (a.2.2.1 > b.2.2.1)) || (decide (b.2.1 < a.2.1) && decide (b.2.2.1 > a.2.2.1))
  else false
theorem con_s1 {keys : List Key} {l : List Authority} {a b : Stamp} (h : pick2 (pick2 (!(checkStampF keys l a)) true (!(checkStampF keys l b))) true (a.1 != b.1) = true) : false = contraryF keys l a b := by
  unfold contraryF
  rw [if_neg]
  simp only [pick2_or] at h
  cases h1 : checkStampF keys l a <;> cases h2 : checkStampF keys l b <;> simp_all
theorem con_s2 {keys : List Key} {l : List Authority} {a b : Stamp} (h : pick2 (pick2 (!(checkStampF keys l a)) true (!(checkStampF keys l b))) true (a.1 != b.1) = false) :
    pick2 (pick2 (pick2 (a.2.1 == b.2.1) (!(El.eq TStamp a b)) false) true (pick2 (decide (a.2.1 < b.2.1)) (decide (a.2.2.1 > b.2.2.1)) false)) true (pick2 (decide (b.2.1 < a.2.1)) (decide (b.2.2.1 > a.2.2.1)) false) = contraryF keys l a b := by
  unfold contraryF
  rw [if_pos]
  · simp only [pick2_or, pick2_and]
  · simp only [pick2_or] at h
    cases h1 : checkStampF keys l a <;> cases h2 : checkStampF keys l b <;> simp_all
theorem con_i1 {keys : List Key} {l : List Authority} {a b : Stamp} (h : pick2 (pick2 (a.1 != b.1) true (!(checkStampF keys l a))) true (!(checkStampF keys l b)) = true) : false = contraryF keys l a b := by
  unfold contraryF
  rw [if_neg]
  simp only [pick2_or] at h
  cases h1 : checkStampF keys l a <;> cases h2 : checkStampF keys l b <;> simp_all
theorem con_pos {keys : List Key} {l : List Authority} {a b : Stamp} (h : pick2 (pick2 (a.1 != b.1) true (!(checkStampF keys l a))) true (!(checkStampF keys l b)) = false) : (checkStampF keys l a && checkStampF keys l b && a.1 == b.1) = true := by
  simp only [pick2_or] at h
  cases h1 : checkStampF keys l a <;> cases h2 : checkStampF keys l b <;> simp_all
theorem con_i2 {keys : List Key} {l : List Authority} {a b : Stamp} (h : pick2 (pick2 (a.1 != b.1) true (!(checkStampF keys l a))) true (!(checkStampF keys l b)) = false) (h2 : decide (a.2.1 > b.2.1) = true) :
    pick2 (pick2 (b.2.1 == a.2.1) (!(El.eq TStamp b a)) false) true (pick2 (decide (b.2.1 < a.2.1)) (decide (b.2.2.1 > a.2.2.1)) false) = contraryF keys l a b := by
  have hg := of_decide_eq_true h2
  unfold contraryF
  rw [if_pos (con_pos h)]
  have e1 : (b.2.1 == a.2.1) = false := by simp; omega
  have e2 : (a.2.1 == b.2.1) = false := by simp; omega
  have e3 : decide (a.2.1 < b.2.1) = false := by simp; omega
  simp only [pick2_or, pick2_and, e1, e2, e3, Bool.false_and, Bool.false_or]
theorem con_i3 {keys : List Key} {l : List Authority} {a b : Stamp} (h : pick2 (pick2 (a.1 != b.1) true (!(checkStampF keys l a))) true (!(checkStampF keys l b)) = false) (h2 : decide (a.2.1 > b.2.1) = false) :
    pick2 (pick2 (a.2.1 == b.2.1) (!(El.eq TStamp a b)) false) true (pick2 (decide (a.2.1 < b.2.1)) (decide (a.2.2.1 > b.2.2.1)) false) = contraryF keys l a b := by
  have hg := of_decide_eq_false h2
  unfold contraryF
  rw [if_pos (con_pos h)]
  have e3 : decide (b.2.1 < a.2.1) = false := by simp; omega
  simp only [pick2_or, pick2_and, e3, Bool.false_and, Bool.or_false]
def isProofF (keys : List Key) (l : List Authority) (x : Stamp × Stamp) (id : Int) : Bool := contraryF keys l x.1 x.2 && x.1.1 == id
theorem isProof_s (keys : List Key) (l : List Authority) (x : Stamp × Stamp) (id : Int) : pick2 (x.1.1 == id) (contraryF keys l x.1 x.2) false = isProofF keys l x id := by
  unfold isProofF; rw [pick2_and, Bool.and_comm]
theorem isProof_i (keys : List Key) (l : List Authority) (x : Stamp × Stamp) (id : Int) : pick2 (contraryF keys l x.1 x.2) (x.1.1 == id) false = isProofF keys l x id := by
  unfold isProofF; rw [pick2_and]
end Fw
