/- What the functions compute, as plain functions over data. Conditions: none. -/
import Derived.Test.YtnbpojalpdldnaaFwN
import Derived.Test.YtnbpojalpdldnaaFwJ
namespace Fw
open Go
abbrev TI : Ty := .int .i64
def inRangeF (a b c : Int) : Bool := pick2 (decide (b ≤ a)) (decide (a ≤ c)) false
def isTimeF (a : Int) : Bool := inRangeF a 0 10000
def isSpanF (s : Int × Int) : Bool := pick2 (pick2 (isTimeF s.1) (isTimeF s.2) false) (decide (s.1 ≤ s.2)) false
def isInsideF (a b : Int × Int) : Bool := pick2 (pick2 (pick2 (isSpanF a) (isSpanF b) false) (decide (b.1 ≤ a.1)) false) (decide (a.2 ≤ b.2)) false
def isNarrowerF (a b : Int × Int × Int × Int) : Bool := isInsideF a.2.2 b.2.2
def isKept1 (a b : Int × Int × Int × Int) : Bool := pick2 (a.1 == (3 : Int)) true (a.1 == b.1)
def isKept2 (a b : Int × Int × Int × Int) : Bool := pick2 (a.1 == (3 : Int)) true (b.1 == a.1)
def isBetterF (a b : Int × Int × Int × Int) : Bool := pick2 (pick2 (a.1 == (1 : Int)) true (a.1 == (2 : Int))) (b.1 == (3 : Int)) false
theorem ne_selfB {x : Bool} (h : (x != x) = true) : False := by simp at h
theorem kept_ne {a b : Int × Int × Int × Int} (h : (isKept2 a b != isKept1 a b) = true) : False := by
  have : isKept2 a b = isKept1 a b := by
    unfold isKept1 isKept2
    rw [show (b.1 == a.1) = (a.1 == b.1) from by rw [Bool.eq_iff_iff, beq_iff_eq, beq_iff_eq]; exact eq_comm]
  rw [this] at h; simp at h
end Fw
