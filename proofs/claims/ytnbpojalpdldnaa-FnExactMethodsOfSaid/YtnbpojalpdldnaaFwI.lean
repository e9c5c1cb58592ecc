/- The rule for a region whose order is drawn. Conditions: none. -/
import Derived.Test.YtnbpojalpdldnaaFwH
import Derived.Test.YtnbpojalpdldnaaFw18
namespace Fw
open Go

def okRW (ops : List Oper) (rw : RW) : Bool := edgesOk 0 ops && allOk (masks ops []) 0 rw
def rdF {R : Type} : List Nat → (List Nat → R) → R
  | [], k => k []
  | x :: r, k => rdF r fun r' => k (x :: r')
theorem rdF_eq {R : Type} : ∀ (l : List Nat) (k : List Nat → R), rdF l k = k l
  | [], _ => rfl
  | x :: r, k => by simp only [rdF, rdF_eq r]
/-- the text's run, with what each operation looks at and writes -/
def runD {R : Type} (C : Ctx) (ops : List Oper) : List Oper → Env → (RW → List Prop → Env → Option R) → Option R
  | [], ρ, k => k [] [] ρ
  | o :: r, ρ, k =>
    match step C ops ρ o with
    | some (ws, cs) => putsK ρ ws fun ρ' => rdF (readsOf ops ρ o) fun rd => rdF (ws.map (·.slot)) fun sl => runD C ops r ρ' fun rw cs' ρ2 => appK cs cs' fun cs'' => k ((rd, sl) :: rw) cs'' ρ2
    | none => none
theorem runD_ok {R : Type} {C : Ctx} {ops : List Oper} : ∀ (l : List Oper) (ρ : Env) (k : RW → List Prop → Env → Option R) (r : R), runD C ops l ρ k = some r →
    ∃ T ρ2, trace C ops l ρ = some (T, ρ2) ∧ k (rwOf T) (condsL T) ρ2 = some r
  | [], ρ, k, r, h => ⟨[], ρ, rfl, h⟩
  | o :: l, ρ, k, r, h => by
    simp only [runD] at h
    split at h
    · rename_i ws cs hs
      rw [putsK_eq, rdF_eq, rdF_eq] at h
      obtain ⟨T, ρ2, h1, h2⟩ := runD_ok l _ _ r h
      rw [appK_eq] at h2
      refine ⟨⟨readsOf ops ρ o, ws, cs⟩ :: T, ρ2, ?_, h2⟩
      simp only [trace, hs, putsK_eq, h1]
    · cases h

section
variable {G : Cfg} {ρ : Env} {K : Exit → Env → Prop}
def regD (C : Ctx) (ops : List Oper) (ρ : Env) : Option (RW × List Prop × Env) :=
  if pinB C.pins ops = true then runD C ops ops ρ fun rw cs ρ2 => keepK C.keep C.keep ρ2 (fun ρ' => some (rw, cs, ρ')) else none
theorem Vc.regionD (hm : G.P.follows .mixedOrders = true) (hG : G.Ok) {id : Nat} {ops : Array Oper} {rw : RW} {cs : List Prop} {ρ2 : Env} (h : regD G.C ops.toList ρ = some (rw, cs, ρ2))
    (hok : okRW ops.toList rw = true) (hc : conj cs) (hK : K .normal ρ2) : Vc G (.region id ops true) ρ K := by
  intro a w hd hS
  unfold regD at h
  split at h
  case isFalse => cases h
  rename_i hpin
  obtain ⟨T, ρ', ht, h2⟩ := runD_ok _ _ _ _ h
  rw [keepK_eq] at h2
  simp only [Option.some.injEq, Prod.mk.injEq] at h2
  obtain ⟨rfl, rfl, rfl⟩ := h2
  exact region_any hm hG.ctx hG.fn hG.base ht hok (condsL_of T (conj_mem _ hc)) hS.1 (pinB_ok hpin) fun a' w' hd' hpn hS' => ⟨_, hK, hd'.trans hd, keep_ok _ hS', fun t ht => (hpn t ht).trans (hS.2 t ht)⟩
end
end Fw
