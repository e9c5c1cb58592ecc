/- The tables of a program, checked. Conditions: none. -/
import Derived.Test.YtnbpojalpdldnaaFw19
import Derived.KernelRfl
namespace Fw
open Go

def fldsB (P : Program) : List Go.Field → List (Nat × Ty) → Bool
  | [], [] => true
  | f :: fs, (o, T) :: l => f.offset == o && (tyOf P 12 f.type == some T) && (T.size != 0) && fldsB P fs l
  | _, _ => false
def tysB (P : Program) : List (Nat × Ty) → Bool
  | [] => true
  | (t, T) :: l => (tyOf P 12 t == some T) && tysB P l
def allFldsB (P : Program) : List (Nat × List (Nat × Ty)) → Bool
  | [] => true
  | (t, l) :: r => (match P.underlying t with | some (.struct fs) => fldsB P fs.toList l | _ => false) && allFldsB P r

theorem tysB_ok {P : Program} : ∀ (l : List (Nat × Ty)), tysB P l = true → ∀ t T, look l t = some T → TyR P t T
  | (t', T') :: l, h, t, T, hl => by
    simp only [tysB, Bool.and_eq_true, beq_iff_eq] at h
    unfold look at hl
    split at hl
    · rename_i e
      simp only [Option.some.injEq] at hl
      subst hl; subst e
      exact ⟨12, h.1⟩
    · exact tysB_ok l h.2 t T hl
theorem fldsB_ok {P : Program} : ∀ (fs : List Go.Field) (l : List (Nat × Ty)), fldsB P fs l = true → ∀ (i o : Nat) (T : Ty), l[i]? = some (o, T) →
    ∃ f : Go.Field, fs[i]? = some f ∧ f.offset = o ∧ TyR P f.type T ∧ T.size ≠ 0
  | [], [], _, i, o, T, h => by simp at h
  | f :: fs, (o', T') :: l, h, 0, o, T, hi => by
    simp only [fldsB, Bool.and_eq_true, beq_iff_eq, bne_iff_ne] at h
    simp at hi
    obtain ⟨rfl, rfl⟩ := hi
    exact ⟨f, rfl, h.1.1.1, ⟨12, h.1.1.2⟩, h.1.2⟩
  | f :: fs, (o', T') :: l, h, i + 1, o, T, hi => by
    simp only [fldsB, Bool.and_eq_true, beq_iff_eq] at h
    exact fldsB_ok fs l h.2 i o T (by simpa using hi)
  | [], _ :: _, h, _, _, _, _ => by simp [fldsB] at h
  | _ :: _, [], h, _, _, _, _ => by simp [fldsB] at h
theorem allFldsB_ok {P : Program} : ∀ (l : List (Nat × List (Nat × Ty))), allFldsB P l = true → ∀ t fl, look l t = some fl → FldR P t fl
  | (t', l') :: r, h, t, fl, hl => by
    simp only [allFldsB, Bool.and_eq_true] at h
    unfold look at hl
    split at hl
    · rename_i e
      simp only [Option.some.injEq] at hl
      subst hl; subst e
      have h1 := h.1
      split at h1
      · rename_i fs hu
        refine ⟨fs, hu, fun i o T hi => ?_⟩
        obtain ⟨f, g1, g2⟩ := fldsB_ok fs.toList l' h1 i o T hi
        exact ⟨f, by simpa using g1, g2⟩
      · cases h1
    · exact allFldsB_ok r h.2 t fl hl

def eqsB (P : Program) (tys : List (Nat × Ty)) : List Nat → Bool
  | [] => true
  | t :: r => (match look tys t with | some T => eqB P 8 t T && !(P.eqGuardType P.depth t) | none => true) && eqsB P tys r
theorem eqsB_ok {P : Program} {tys : List (Nat × Ty)} : ∀ (l : List Nat), eqsB P tys l = true → ∀ t T, l.contains t = true → look tys t = some T → EqR P t T
  | [], _, t, T, h, _ => by simp at h
  | t' :: r, h, t, T, hc, hl => by
    simp only [eqsB, Bool.and_eq_true] at h
    by_cases e : t = t'
    · subst e
      have h1 := h.1
      rw [hl] at h1
      simp only [Bool.and_eq_true, Bool.not_eq_true'] at h1
      exact h1
    · refine eqsB_ok r h.2 t T ?_ hl
      simpa [e] using hc
theorem ctxOk {P : Program} {C : Ctx} (h1 : tysB P C.tys = true) (h2 : allFldsB P C.flds = true) (h3 : eqsB P C.tys C.eqs = true) (h4 : ∀ f F, C.fnM f = some F → MeetsM P f F) (h5 : ∀ f F, C.fnT f = some F → MeetsT P f F) : CtxOk P C :=
  ⟨eqsB_ok C.eqs h3, tysB_ok C.tys h1, allFldsB_ok C.flds h2, h4, h5⟩

/-- a contract's table: the functions that may be called, and that they keep it -/
structure Known (P : Program) where
  f : Nat
  F : Fun
  ok : Meets P f F
def fnOf {P : Program} : List (Known P) → Nat → Option Fun
  | [], _ => none
  | k :: r, f => if k.f = f then some k.F else fnOf r f
theorem fnOf_ok {P : Program} : ∀ (l : List (Known P)) (f : Nat) (F : Fun), fnOf l f = some F → Meets P f F
  | k :: r, f, F, h => by
    unfold fnOf at h
    split at h
    · rename_i e
      simp only [Option.some.injEq] at h
      subst h; subst e
      exact k.ok
    · exact fnOf_ok r f F h

structure KnownM (P : Program) where
  f : Nat
  F : MFun
  ok : MeetsM P f F
def fnOfM {P : Program} : List (KnownM P) → Nat → Option MFun
  | [], _ => none
  | k :: r, f => if k.f = f then some k.F else fnOfM r f
theorem fnOfM_ok {P : Program} : ∀ (l : List (KnownM P)) (f : Nat) (F : MFun), fnOfM l f = some F → MeetsM P f F
  | k :: r, f, F, h => by
    unfold fnOfM at h
    split at h
    · rename_i e
      simp only [Option.some.injEq] at h
      subst h; subst e
      exact k.ok
    · exact fnOfM_ok r f F h

structure KnownT (P : Program) where
  f : Nat
  F : TFun
  ok : MeetsT P f F
def fnOfT {P : Program} : List (KnownT P) → Nat → Option TFun
  | [], _ => none
  | k :: r, f => if k.f = f then some k.F else fnOfT r f
theorem fnOfT_ok {P : Program} : ∀ (l : List (KnownT P)) (f : Nat) (F : TFun), fnOfT l f = some F → MeetsT P f F
  | k :: r, f, F, h => by
    unfold fnOfT at h
    split at h
    · rename_i e
      simp only [Option.some.injEq] at h
      subst h; subst e
      exact k.ok
    · exact fnOfT_ok r f F h

end Fw
