/- Walks of functions of the program: what each computes. Conditions: those that each contract names. -/
import Derived.Test.YtidodegkmafkhaaW25T
namespace Fw
open Go Go.Proofs
set_option linter.unusedSimpArgs false
set_option maxRecDepth 100000
noncomputable def T30 : TFun := ⟨.own Z19, [.slice Y18], .own Z19, fun x xs => (fun (x : List Stamp) (l : List Stamp) => List.length x ≤ 4100000000 ∧ List.length l ≤ 1048576) x xs.1, fun x xs => stAdd x xs.1⟩
theorem T30_ok : MeetsT Try.prog 30 T30 := by
 refine meetsT_of_vc (C := mkCM 42 [4] [0,1,4,5,6,7,11,17,33] [] [] [] []) (mkCM_ok _ _ _ _ _ _ _) (fnOf_ok _) Try.func30 rfl rfl rfl (by decide) rfl rfl rfl rfl ?_ rfl
 rintro a0 ⟨a1, _⟩ hwf0 hwf hpre ⟨P, C, B, X, w0, M0, pv⟩ hG rfl rfl
 show Vc _ _ [(0, ⟨0, 0, .c Z21 a0⟩), (1, ⟨0, 0, .c Z22 a1⟩)] _
 have hx : List.length a0 ≤ 4100000000 := hpre.1
 have hs : List.length a1 ≤ 1048576 := hpre.2
 have hb : List.length a1 ≤ bigLen := by unfold bigLen; omega
 refine Vc.seq (Vc.region hG rfl (by trivial) (Vc.seq (Vc.seq ?_)))
 refine Vc.region hG rfl (by trivial) (Vc.block ?_)
 refine Vc.loopF [(0, false, .own Z19), (5, false, .pure (.int .i64))] [1, 4] (fun v => foInv (newG sEq) a0 a1 v.1 v.2.1) (fun v => ((List.length a1 : Int) - v.2.1).toNat) rfl ?_ ?_
 · exact foStart
 rintro ⟨acc, (i : Int), _⟩ hI
 have hI : foInv (newG sEq) a0 a1 acc i := hI
 have hA := adLen hI hx hs
 refine Vc.seq (Vc.seq (Vc.region hG rfl (by trivial) ?_))
 refine Vc.cond rfl (fun h0 => ?_) (fun h0 => ?_)
 · have hl : i < (List.length a1 : Int) := of_decide_eq_true h0
   refine Vc.skip (Vc.seq (Vc.block (Vc.seq ?_)))
   refine Vc.region hG rfl (by trivial) (Vc.seq (Vc.seq (Vc.region hG rfl (by trivial) ?_)))
   refine Vc.block ?_
   refine Vc.loopF [(6, false, .pure (.bool)), (7, false, .pure (.int .i64))] [0, 1, 4, 5, 11, 33] (fun v => exInv (fun (y : Stamp) => sEq y (List.getD a1 i.toNat (dflt Y18))) acc v.1 v.2.1) (fun v => ((List.length acc : Int) - v.2.1).toNat) rfl ?_ ?_
   · exact exStart
   rintro ⟨b, (k : Int), _⟩ hK
   have hK : exInv (fun (y : Stamp) => sEq y (List.getD a1 i.toNat (dflt Y18))) acc b k := hK
   refine Vc.seq (Vc.seq (Vc.region hG rfl (by trivial) ?_))
   refine Vc.cond rfl (fun h1 => ?_) (fun h1 => ?_)
   · have hm : k < (List.length acc : Int) := of_decide_eq_true h1
     refine Vc.skip (Vc.seq (Vc.block ?_))
     refine Vc.regionD mixed hG rfl (by kernel_rfl) ?_ ?_
     · exact ⟨fun _ => exRange hK hm, fun _ => foRange hI hl⟩
     refine Vc.region hG rfl (by trivial) ?_
     refine ⟨rfl, ?_⟩
     exact exStep (d := dflt Y18) hK hm (adBig hA) rfl
   · have hm : ¬ k < (List.length acc : Int) := of_decide_eq_false h1
     have hE := exEnd hK hm
     refine Vc.exit (Vc.seq (Vc.region hG rfl (by trivial) ?_))
     refine Vc.cond rfl (fun h2 => ?_) (fun h2 => ?_)
     · have st := foStepE (d := dflt Y18) hI hl hb (newY hE h2)
       refine Vc.region hG rfl ?_ ?_
       · exact ⟨foRange hI hl, adApp hA⟩
       refine Vc.region hG rfl (by trivial) ?_
       refine ⟨rfl, ?_⟩
       exact st
     · have st := foStepE (d := dflt Y18) hI hl hb (newN hE h2)
       refine Vc.skip (Vc.region hG rfl (by trivial) ?_)
       refine ⟨rfl, ?_⟩
       exact st
 · have hl : ¬ i < (List.length a1 : Int) := of_decide_eq_false h0
   refine Vc.exit (Vc.seq (Vc.region hG rfl (by trivial) (Vc.ret ?_)))
   refine ⟨?_, trivial⟩
   exact foEnd hI hl
noncomputable def F15 : Fun := ⟨[.pair Y39 Y23], [.own Z19], fun x => (fun (e : Evidence) => Sm big20 Y42 e ∧ ((cellsC Y42 e : Nat) : Int) ≤ 2000000000) x.1, fun x => (stampsOfF x.1, ())⟩
theorem F15_ok : Meets Try.prog 15 F15 := by
 refine meets_of_vc (C := mkCM 53 [2] [0,1,2,3,4,5,6,12,23,42] [] [] [⟨30, _, T30_ok⟩] []) (mkCM_ok _ _ _ _ _ _ _) (fnOf_ok _) Try.func15 rfl rfl rfl (by decide) rfl ?_
 rintro ⟨a0, _⟩ hwf hpre ⟨P, C, B, X, w0, M0, pv⟩ hG rfl rfl
 show Vc _ _ [(0, ⟨0, 0, .c Z43 a0⟩)] _
 have hS : Sm big20 Y39 a0.1 := hpre.1.1
 have hT : Sm big20 (.slice (.slice TStamp)) a0.2 := hpre.1.2
 have hc : ((cellsC TEv a0 : Nat) : Int) ≤ 2000000000 := hpre.2
 have hb : List.length a0.1 ≤ bigLen := hwf.1.1.1
 have hb2 : List.length a0.2 ≤ bigLen := hwf.1.2.1
 refine Vc.seq (Vc.region hG rfl (by trivial) (Vc.seq (Vc.region hG rfl (by trivial) ?_)))
 refine Vc.seq (Vc.seq (Vc.region hG rfl (by trivial) (Vc.block ?_)))
 refine Vc.loopF [(3, false, .own Z19), (4, false, .pure (.int .i64))] [0, 1, 2, 6, 42] (fun v => foInv stStr [] a0.1 v.1 v.2.1) (fun v => ((List.length a0.1 : Int) - v.2.1).toNat) rfl ?_ ?_
 · exact foStart
 rintro ⟨acc, (i : Int), _⟩ hI
 have hI : foInv stStr [] a0.1 acc i := hI
 refine Vc.seq (Vc.seq (Vc.region hG rfl (by trivial) ?_))
 refine Vc.cond rfl (fun h0 => ?_) (fun h0 => ?_)
 · have hl : i < (List.length a0.1 : Int) := of_decide_eq_true h0
   have ri := foRange hI hl
   have sS : Sm big20 Y37 (List.getD a0.1 i.toNat (dflt Y37)) := hS.2 _ (getD_mem ri _)
   have hbk : List.length (List.getD a0.1 i.toNat (dflt Y37)).2 ≤ bigLen := Nat.le_trans sS.2.1 (by decide)
   refine Vc.skip (Vc.seq (Vc.block (Vc.seq ?_)))
   refine Vc.region hG rfl (by trivial) (Vc.block ?_)
   refine Vc.loopF [(3, false, .own Z19), (5, false, .pure (.int .i64))] [0, 1, 2, 4, 6, 12, 42] (fun v => foInv stRen acc (List.getD a0.1 i.toNat (dflt Y37)).2 v.1 v.2.1) (fun v => ((List.length (List.getD a0.1 i.toNat (dflt Y37)).2 : Int) - v.2.1).toNat) rfl ?_ ?_
   · exact foStart
   rintro ⟨ac2, (k : Int), _⟩ hK
   have hK : foInv stRen acc (List.getD a0.1 i.toNat (dflt Y37)).2 ac2 k := hK
   refine Vc.seq (Vc.seq ?_)
   refine Vc.region hG rfl ?_ ?_
   · exact ri
   refine Vc.cond rfl (fun h1 => ?_) (fun h1 => ?_)
   · have hm : k < (List.length (List.getD a0.1 i.toNat (dflt Y37)).2 : Int) := of_decide_eq_true h1
     have rk := foRange hK hm
     have sR : List.length (List.getD (List.getD a0.1 i.toNat (dflt Y37)).2 k.toNat (dflt Y30)).2.2.2.2 ≤ 1048576 := (sS.2.2 _ (getD_mem rk _)).2.2.2.2.1
     refine Vc.skip (Vc.seq (Vc.block ?_))
     refine Vc.region hG rfl ?_ ?_
     · exact ⟨ri, rk, soLen2 hc hI hl hK, sR⟩
     refine Vc.region hG rfl (by trivial) ?_
     refine ⟨rfl, ?_⟩
     exact foStepE (d := dflt Y30) hK hm hbk rfl
   · have hm : ¬ k < (List.length (List.getD a0.1 i.toNat (dflt Y37)).2 : Int) := of_decide_eq_false h1
     refine Vc.exit (Vc.region hG rfl (by trivial) ?_)
     refine ⟨rfl, ?_⟩
     exact foStepE (d := dflt Y37) hI hl hb (foEnd hK hm)
 · have hl : ¬ i < (List.length a0.1 : Int) := of_decide_eq_false h0
   have eI := foEnd hI hl
   refine Vc.exit (Vc.seq (Vc.seq (Vc.region hG rfl (by trivial) ?_)))
   refine Vc.block ?_
   refine Vc.loopF [(3, false, .own Z19), (6, false, .pure (.int .i64))] [0, 1, 2, 4, 5, 12, 23] (fun v => foInv stAdd (List.foldl stStr [] a0.1) a0.2 v.1 v.2.1) (fun v => ((List.length a0.2 : Int) - v.2.1).toNat) rfl ?_ ?_
   · rw [eI]; exact foStart
   rintro ⟨ac3, (j : Int), _⟩ hJ
   have hJ : foInv stAdd (List.foldl stStr [] a0.1) a0.2 ac3 j := hJ
   refine Vc.seq (Vc.seq (Vc.region hG rfl (by trivial) ?_))
   refine Vc.cond rfl (fun h2 => ?_) (fun h2 => ?_)
   · have hj : j < (List.length a0.2 : Int) := of_decide_eq_true h2
     have rj := foRange hJ hj
     have sJ : List.length (List.getD a0.2 j.toNat (dflt (.slice TStamp))) ≤ 1048576 := (hT.2 _ (getD_mem rj _)).1
     refine Vc.skip (Vc.seq (Vc.block ?_))
     refine Vc.region hG rfl ?_ ?_
     · exact ⟨rj, soLen3 hc hJ, sJ⟩
     refine Vc.region hG rfl (by trivial) ?_
     refine ⟨rfl, ?_⟩
     exact foStepE (d := dflt (.slice TStamp)) hJ hj hb2 rfl
   · have hj : ¬ j < (List.length a0.2 : Int) := of_decide_eq_false h2
     refine Vc.exit (Vc.seq (Vc.region hG rfl (by trivial) (Vc.ret ?_)))
     refine ⟨?_, trivial⟩
     exact foEnd hJ hj
end Fw
