/- Walks of functions of the program: what each computes. Conditions: those that each contract names. -/
import Derived.Test.YtadkcilmknpkhaaGreatW50T
import Derived.Test.YtadkcilmknpkhaaGreatW50s0
namespace Fw
open Go Go.Proofs
set_option linter.unusedSimpArgs false
noncomputable def F20 : Fun := ⟨[.pair Y31 Y44, .pair Y55 Y34, .slice (.slice (.int .i64))], [.own Z26], fun x => (fun (_ : Frame) (e : Evidence) (_ : List (List Int)) => Sm big20 Y55 e.1 ∧ ((cellsC Y55 e.1 : Nat) : Int) ≤ 2000000000) x.1 x.2.1 x.2.2.1, fun x => (usablePiecesF x.1 x.2.1 x.2.2.1, ())⟩
set_option maxRecDepth 100000 in
/-- loop.example.g00597.spec.UsablePieces -/
theorem F20_ok : Meets Tryz.prog 20 F20 := by
  refine meets_of_vc (C := mkCM 48 [6] [0,1,2,3,4,6,7,8,9,10,16,27,43] [⟨55, _, F55_ok⟩] [] [⟨56, _, T56_ok⟩] []) (mkCM_ok _ _ _ _ _ _ _) (fnOf_ok _) Tryz.func20 rfl rfl rfl (by decide) rfl ?_
  rintro ⟨a0, a1, a2, _⟩ hwf hpre ⟨P, C, B, X, w0, M0, pv⟩ hG rfl rfl
  show Vc _ _ [(0, ⟨0, 0, .c Z56 a0⟩), (1, ⟨0, 0, .c Z60 a1⟩), (2, ⟨0, 0, .c Z7 a2⟩)] _
  have hS : Sm big20 Y55 a1.1 := hpre.1
  have hc : ((cellsC Y55 a1.1 : Nat) : Int) ≤ 2000000000 := hpre.2
  have hb : List.length a1.1 ≤ bigLen := hwf.2.1.1.1
  refine Vc.seq ?_
  refine Vc.region hG rfl ?_ ?_
  · trivial
  refine Vc.seq ?_
  refine Vc.region hG rfl ?_ ?_
  · trivial
  refine Vc.seq ?_
  refine Vc.seq ?_
  refine Vc.region hG rfl ?_ ?_
  · trivial
  refine Vc.block ?_
  -- slots [7, 8]; frame [0, 1, 2, 3, 4, 6]
  refine Vc.loopF [(7, false, .own Z26), (8, false, .pure (.int .i64))] [0, 1, 2, 3, 4, 6] (fun v => uoInv a0 a1 a2 v.1 v.2.1) (fun v => ((List.length a1.1 : Int) - v.2.1).toNat) rfl ?_ ?_
  · exact uoStart
  rintro ⟨out, (i : Int), _⟩ hI
  have hI : uoInv a0 a1 a2 out i := hI
  refine Vc.seq ?_
  refine Vc.seq ?_
  refine Vc.region hG rfl ?_ ?_
  · trivial
  refine Vc.cond rfl (fun h0 => ?_) (fun h0 => ?_)
  · skip
    have hl : i < (List.length a1.1 : Int) := of_decide_eq_true h0
    have ri := uoRange hI hl
    have sS := usStrand hS ri
    have hbk : List.length (List.getD a1.1 i.toNat (dflt Y52)).1 ≤ bigLen := Nat.le_trans sS.1.1 (by decide)
    refine Vc.skip ?_
    refine Vc.seq ?_
    refine Vc.block ?_
    refine Vc.seq ?_
    refine Vc.region hG rfl ?_ ?_
    · trivial
    refine Vc.block ?_
    -- slots [7, 9]; frame [0, 1, 2, 3, 4, 6, 8, 16]
    refine Vc.loopF [(7, false, .own Z26), (9, false, .pure (.int .i64))] [0, 1, 2, 3, 4, 6, 8, 16] (fun v => uiInv a0 a1 a2 i v.1 v.2.1) (fun v => ((List.length (List.getD a1.1 i.toNat (dflt Y52)).1 : Int) - v.2.1).toNat) rfl ?_ ?_
    · exact uiStart hI
    rintro ⟨out2, (k : Int), _⟩ hK
    have hK : uiInv a0 a1 a2 i out2 k := hK
    refine Vc.seq ?_
    refine Vc.seq ?_
    refine Vc.region hG rfl ?_ ?_
    · exact ri
    refine Vc.cond rfl (fun h1 => ?_) (fun h1 => ?_)
    · skip
      have hm : k < (List.length (List.getD a1.1 i.toNat (dflt Y52)).1 : Int) := of_decide_eq_true h1
      have rk := uiRange hK hm
      have ho := uiLen ri hK hc
      have hE : Sm big20 Y18 (List.getD (List.getD a1.1 i.toNat (dflt Y52)).1 k.toNat (dflt Y18)) := sS.1.2 _ (getD_mem rk _)
      refine Vc.skip ?_
      refine Vc.seq ?_
      refine Vc.block ?_
      refine Vc.seq ?_
      refine Vc.region hG rfl ?_ ?_
      · exact ⟨ri, rk⟩
      refine Vc.seq ?_
      refine Vc.region hG rfl ?_ ?_
      · exact hS
      refine Vc.cond rfl (fun h2 => ?_) (fun h2 => ?_)
      · skip
        have g2 : usableF a0 a1 a2 (List.getD (List.getD a1.1 i.toNat (dflt Y52)).1 k.toNat (dflt Y18)) = true := h2
        have st := uiStep hK hm hbk (usYes g2)
        refine Vc.region hG rfl ?_ ?_
        · exact ⟨ho, uiAsc hK, hE⟩
        refine Vc.region hG rfl ?_ ?_
        · trivial
        refine ⟨rfl, ?_⟩
        exact st
      · skip
        have g2 : usableF a0 a1 a2 (List.getD (List.getD a1.1 i.toNat (dflt Y52)).1 k.toNat (dflt Y18)) = false := h2
        have st := uiStep hK hm hbk (usNo (out := out2) g2)
        refine Vc.skip ?_
        refine Vc.region hG rfl ?_ ?_
        · trivial
        refine ⟨rfl, ?_⟩
        exact st
    · skip
      have hm : ¬ k < (List.length (List.getD a1.1 i.toNat (dflt Y52)).1 : Int) := of_decide_eq_false h1
      refine Vc.exit ?_
      refine Vc.region hG rfl ?_ ?_
      · trivial
      refine ⟨rfl, ?_⟩
      exact uoStep hI hl hb hK hm
  · skip
    have hl : ¬ i < (List.length a1.1 : Int) := of_decide_eq_false h0
    refine Vc.exit ?_
    refine Vc.seq ?_
    refine Vc.region hG rfl ?_ ?_
    · trivial
    refine Vc.ret ?_
    refine ⟨?_, trivial⟩
    exact uoEnd hI hl
end Fw
