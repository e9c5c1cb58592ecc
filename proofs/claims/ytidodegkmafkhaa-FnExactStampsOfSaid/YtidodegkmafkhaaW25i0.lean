/- Walks of functions of the program: what each computes. Conditions: those that each contract names. -/
import Derived.Test.YtidodegkmafkhaaW25T
namespace Fw
open Go Go.Proofs
set_option linter.unusedSimpArgs false
set_option maxRecDepth 100000
noncomputable def K33 : KFun := ⟨.own Z19, [.slice Y18], fun x xs => (fun (x : List Stamp) (l : List Stamp) => List.length x ≤ 4100000000 ∧ List.length l ≤ 1048576) x xs.1, fun x xs => stAdd x xs.1⟩
theorem K33_ok : MeetsK Try.prog 33 K33 := by
 refine meetsK_of_vc (C := mkCM 34 [] [0,1,4,5,7,8,9,10,11,14,15,16,17,28] [] [] [] [1]) (mkCM_ok _ _ _ _ _ _ _) (fnOf_ok _) Try.func33 rfl rfl rfl (by decide) rfl rfl rfl ?_ rfl
 rintro x ⟨a0, _⟩ hwx hwf hpre ⟨P, C, B, X, w0, M0, pv⟩ hG rfl rfl
 show Vc _ _ [(1, ⟨0, 0, .c (.ref Z21) x⟩), (0, ⟨0, 0, .c Z22 a0⟩)] _
 have hx : List.length x ≤ 4100000000 := hpre.1
 have hs : List.length a0 ≤ 1048576 := hpre.2
 have hb : List.length a0 ≤ bigLen := by unfold bigLen; omega
 refine Vc.seq (Vc.region hG rfl (by trivial) (Vc.block ?_))
 refine Vc.loopF [(1, true, .own Z19), (10, false, .pure (.int .i64))] [0, 8, 9] (fun v => foInv (newG sEq) x a0 v.1 v.2.1) (fun v => ((List.length a0 : Int) - v.2.1).toNat) rfl ?_ ?_
 · exact foStart
 rintro ⟨acc, (i : Int), _⟩ hI
 have hI : foInv (newG sEq) x a0 acc i := hI
 have hA := adLen hI hx hs
 refine Vc.seq (Vc.region hG rfl (by trivial) (Vc.seq ?_))
 refine Vc.cond rfl (fun h0 => ?_) (fun h0 => ?_)
 · have hl : i < (List.length a0 : Int) := of_decide_eq_true h0
   refine Vc.skip (Vc.seq (Vc.block (Vc.seq ?_)))
   refine Vc.region hG rfl ?_ ?_
   · exact foRange hI hl
   refine Vc.seq (Vc.region hG rfl (by trivial) (Vc.seq (Vc.seq ?_)))
   refine Vc.region hG rfl (by trivial) (Vc.block ?_)
   refine Vc.loopF [(5, false, .pure (.bool)), (16, false, .pure (.int .i64))] [0, 1, 4, 8, 9, 10, 11, 14, 15, 28] (fun v => exInv (fun (y : Stamp) => sEq y (List.getD a0 i.toNat (dflt Y18))) acc v.1 v.2.1) (fun v => ((List.length acc : Int) - v.2.1).toNat) rfl ?_ ?_
   · exact exStart
   rintro ⟨b, (k : Int), _⟩ hK
   have hK : exInv (fun (y : Stamp) => sEq y (List.getD a0 i.toNat (dflt Y18))) acc b k := hK
   refine Vc.seq (Vc.region hG rfl (by trivial) (Vc.seq ?_))
   refine Vc.cond rfl (fun h1 => ?_) (fun h1 => ?_)
   · have hm : k < (List.length acc : Int) := of_decide_eq_true h1
     refine Vc.skip (Vc.seq (Vc.block (Vc.seq ?_)))
     refine Vc.region hG rfl ?_ ?_
     · exact exRange hK hm
     refine Vc.region hG rfl (by trivial) (Vc.region hG rfl (by trivial) ?_)
     refine ⟨rfl, ?_⟩
     exact exStep (d := dflt Y18) hK hm (adBig hA) rfl
   · have hm : ¬ k < (List.length acc : Int) := of_decide_eq_false h1
     have hE := exEnd hK hm
     refine Vc.exit (Vc.seq (Vc.region hG rfl (by trivial) ?_))
     refine Vc.cond rfl (fun h2 => ?_) (fun h2 => ?_)
     · have st := foStepE (d := dflt Y18) hI hl hb (newY hE h2)
       refine Vc.region hG rfl ?_ ?_
       · exact adApp hA
       refine Vc.region hG rfl (by trivial) ?_
       refine ⟨rfl, ?_⟩
       exact st
     · have st := foStepE (d := dflt Y18) hI hl hb (newN hE h2)
       refine Vc.skip (Vc.region hG rfl (by trivial) ?_)
       refine ⟨rfl, ?_⟩
       exact st
 · have hl : ¬ i < (List.length a0 : Int) := of_decide_eq_false h0
   refine Vc.exit ?_
   refine ⟨?_, trivial⟩
   exact foEnd hI hl
noncomputable def F17 : Fun := ⟨[.pair Y39 Y23], [.own Z19], fun x => (fun (e : Evidence) => Sm big20 Y42 e ∧ ((cellsC Y42 e : Nat) : Int) ≤ 2000000000) x.1, fun x => (stampsOfF x.1, ())⟩
theorem F17_ok : Meets Try.prog 17 F17 := by
 refine meets_of_vc (C := mkCK 44 [2] [0,1,2,3,4,6,8,10,13,14,15,16,20,21,22,23,33,34,35,36] [] [] [] [⟨33, _, K33_ok⟩] []) (mkCK_ok _ _ _ _ _ _ _ _) (fnOf_ok _) Try.func17 rfl rfl rfl (by decide) rfl ?_
 rintro ⟨a0, _⟩ hwf hpre ⟨P, C, B, X, w0, M0, pv⟩ hG rfl rfl
 show Vc _ _ [(0, ⟨0, 0, .c Z43 a0⟩)] _
 have hS : Sm big20 Y39 a0.1 := hpre.1.1
 have hT : Sm big20 (.slice (.slice TStamp)) a0.2 := hpre.1.2
 have hc : ((cellsC TEv a0 : Nat) : Int) ≤ 2000000000 := hpre.2
 have hb : List.length a0.1 ≤ bigLen := hwf.1.1.1
 have hb2 : List.length a0.2 ≤ bigLen := hwf.1.2.1
 refine Vc.seq (Vc.region hG rfl (by trivial) (Vc.seq (Vc.region hG rfl (by trivial) ?_)))
 refine Vc.seq (Vc.region hG rfl (by trivial) (Vc.seq (Vc.seq ?_)))
 refine Vc.region hG rfl (by trivial) (Vc.block ?_)
 refine Vc.loopC 4 33 3 [(3, true, .own Z19), (15, false, .pure (.int .i64))] [0, 1, 2, 10, 13, 14, 33, 34, 35, 36] (fun v => foInv stStr [] a0.1 v.1 v.2.1) (fun v => ((List.length a0.1 : Int) - v.2.1).toNat) rfl rfl (fun _ => rfl) ?_ rfl ?_
 · exact foStart
 rintro ⟨acc, (i : Int), _⟩ hI
 have hI : foInv stStr [] a0.1 acc i := hI
 refine Vc.seq (Vc.region hG rfl (by trivial) (Vc.seq ?_))
 refine Vc.cond rfl (fun h0 => ?_) (fun h0 => ?_)
 · have hl : i < (List.length a0.1 : Int) := of_decide_eq_true h0
   have ri := foRange hI hl
   have sS : Sm big20 Y37 (List.getD a0.1 i.toNat (dflt Y37)) := hS.2 _ (getD_mem ri _)
   have hbk : List.length (List.getD a0.1 i.toNat (dflt Y37)).2 ≤ bigLen := Nat.le_trans sS.2.1 (by decide)
   refine Vc.skip (Vc.seq (Vc.block (Vc.seq ?_)))
   refine Vc.region hG rfl ?_ ?_
   · exact ri
   refine Vc.seq (Vc.region hG rfl (by trivial) (Vc.block ?_))
   refine Vc.loopC 4 33 3 [(3, true, .own Z19), (22, false, .pure (.int .i64))] [0, 1, 2, 6, 10, 13, 14, 15, 16, 20, 21, 33, 34, 35, 36] (fun v => foInv stRen acc (List.getD a0.1 i.toNat (dflt Y37)).2 v.1 v.2.1) (fun v => ((List.length (List.getD a0.1 i.toNat (dflt Y37)).2 : Int) - v.2.1).toNat) rfl rfl (fun _ => rfl) ?_ rfl ?_
   · exact foStart
   rintro ⟨ac2, (k : Int), _⟩ hK
   have hK : foInv stRen acc (List.getD a0.1 i.toNat (dflt Y37)).2 ac2 k := hK
   refine Vc.seq (Vc.region hG rfl (by trivial) (Vc.seq ?_))
   refine Vc.cond rfl (fun h1 => ?_) (fun h1 => ?_)
   · have hm : k < (List.length (List.getD a0.1 i.toNat (dflt Y37)).2 : Int) := of_decide_eq_true h1
     have rk := foRange hK hm
     have sR : List.length (List.getD (List.getD a0.1 i.toNat (dflt Y37)).2 k.toNat (dflt Y30)).2.2.2.2 ≤ 1048576 := (sS.2.2 _ (getD_mem rk _)).2.2.2.2.1
     refine Vc.skip (Vc.seq (Vc.block (Vc.seq ?_)))
     refine Vc.region hG rfl ?_ ?_
     · exact rk
     refine Vc.region hG rfl ?_ ?_
     · exact ⟨soLen2 hc hI hl hK, sR⟩
     refine Vc.region hG rfl (by trivial) ?_
     refine ⟨rfl, rfl, ?_⟩
     exact foStepE (d := dflt Y30) hK hm hbk rfl
   · have hm : ¬ k < (List.length (List.getD a0.1 i.toNat (dflt Y37)).2 : Int) := of_decide_eq_false h1
     refine Vc.exit (Vc.region hG rfl (by trivial) ?_)
     refine ⟨rfl, rfl, ?_⟩
     exact foStepE (d := dflt Y37) hI hl hb (foEnd hK hm)
 · have hl : ¬ i < (List.length a0.1 : Int) := of_decide_eq_false h0
   have eI := foEnd hI hl
   refine Vc.exit (Vc.seq (Vc.seq (Vc.region hG rfl (by trivial) ?_)))
   refine Vc.block ?_
   refine Vc.loopC 4 33 3 [(3, true, .own Z19), (35, false, .pure (.int .i64))] [0, 1, 2, 6, 8, 13, 14, 15, 16, 20, 21, 22, 23, 33, 34] (fun v => foInv stAdd (List.foldl stStr [] a0.1) a0.2 v.1 v.2.1) (fun v => ((List.length a0.2 : Int) - v.2.1).toNat) rfl rfl (fun _ => rfl) ?_ rfl ?_
   · rw [eI]; exact foStart
   rintro ⟨ac3, (j : Int), _⟩ hJ
   have hJ : foInv stAdd (List.foldl stStr [] a0.1) a0.2 ac3 j := hJ
   refine Vc.seq (Vc.region hG rfl (by trivial) (Vc.seq ?_))
   refine Vc.cond rfl (fun h2 => ?_) (fun h2 => ?_)
   · have hj : j < (List.length a0.2 : Int) := of_decide_eq_true h2
     have rj := foRange hJ hj
     have sJ : List.length (List.getD a0.2 j.toNat (dflt (.slice TStamp))) ≤ 1048576 := (hT.2 _ (getD_mem rj _)).1
     refine Vc.skip (Vc.seq (Vc.block (Vc.seq ?_)))
     refine Vc.region hG rfl ?_ ?_
     · exact rj
     refine Vc.region hG rfl ?_ ?_
     · exact ⟨soLen3 hc hJ, sJ⟩
     refine Vc.region hG rfl (by trivial) ?_
     refine ⟨rfl, rfl, ?_⟩
     exact foStepE (d := dflt (.slice TStamp)) hJ hj hb2 rfl
   · have hj : ¬ j < (List.length a0.2 : Int) := of_decide_eq_false h2
     refine Vc.exit (Vc.seq (Vc.region hG rfl (by trivial) (Vc.ret ?_)))
     refine ⟨?_, trivial⟩
     exact foEnd hJ hj
end Fw
