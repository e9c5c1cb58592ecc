/- Plain laws of comparing part by part. Conditions: none. -/
import Derived.Test.YtnbpojalpdldnaaLawsD
namespace Fw
open Go
theorem orF {a b : Bool} (h : pick2 a true b = false) : a = false ∧ b = false := by rw [pick2_or] at h; simpa using h
theorem andT {a b : Bool} (h : pick2 a b false = true) : a = true ∧ b = true := by rw [pick2_and] at h; simpa using h
theorem notF {a : Bool} (h : (!a) = false) : a = true := by simpa using h
theorem beqI2 {x y : Int} (h : (x == y) = true) : x = y := by simpa using h
theorem beqB2 {x y : Bool} (h : (x == y) = true) : x = y := by simpa using h
theorem beqS2 {x y : List UInt8} (h : (x == y) = true) : x = y := by simpa using h
theorem eqlE {t : Ty} {x y : El t} (h : El.eq t x y = true) (hc : t.cmp = true) : x = y := notE (by rw [h]; rfl) hc
theorem noOr {a b : Bool} (ha : a = true → False) (hb : b = true → False) (h : pick2 a true b = true) : False := by
  rw [pick2_or] at h
  rcases (Bool.or_eq_true _ _).mp h with h | h
  · exact ha h
  · exact hb h
theorem bself {x : Int} (h : (x != x) = true) : False := by simp at h
theorem bselfB {x : Bool} (h : (x != x) = true) : False := by simp at h
theorem bselfS {x : List UInt8} (h : (x != x) = true) : False := by simp at h
theorem eself {t : Ty} {x : El t} (hc : t.cmp = true) (h : (!(El.eq t x x)) = true) : False := by rw [El.eq_self t x hc] at h; cases h
theorem nself {a : Bool} (ha : a = true) (h : (!a) = true) : False := by rw [ha] at h; cases h
theorem yesAnd {a b : Bool} (ha : a = true) (hb : b = true) : pick2 a b false = true := by rw [pick2_and, ha, hb]; rfl
theorem beqSelf {x : Int} : (x == x) = true := by simp
theorem beqSelfB {x : Bool} : (x == x) = true := by simp
theorem beqSelfS {x : List UInt8} : (x == x) = true := by simp
theorem eqC_by {α : Type} {x y : α} {b : Bool} (h1 : b = true → x = y) (h2 : x = y → b = true) : b = eqC x y := by
  cases hb : b with
  | true => exact eqC_yes (h1 hb)
  | false => exact eqC_no fun e => by rw [h2 e] at hb; cases hb
end Fw
