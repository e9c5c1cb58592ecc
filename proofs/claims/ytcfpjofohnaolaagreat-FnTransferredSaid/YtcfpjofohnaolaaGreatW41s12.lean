/- Walks of functions of the program: what each computes. Conditions: those that each contract names. -/
import Derived.Test.YtcfpjofohnaolaaGreatW41T
import Derived.Test.YtcfpjofohnaolaaGreatW41s0
import Derived.Test.YtcfpjofohnaolaaGreatW41s1
import Derived.Test.YtcfpjofohnaolaaGreatW41s10
import Derived.Test.YtcfpjofohnaolaaGreatW41s11
import Derived.Test.YtcfpjofohnaolaaGreatW41s2
import Derived.Test.YtcfpjofohnaolaaGreatW41s6
import Derived.Test.YtcfpjofohnaolaaGreatW41s7
namespace Fw
open Go Go.Proofs
set_option linter.unusedSimpArgs false
set_option maxRecDepth 100000
noncomputable def P24 : PFun := ⟨.pure Y13, [], [.pair (.pure (.int .i64)) Z68], fun x xs => curOk x, fun x xs => (archD x).2, fun x xs => ((archD x).1, ())⟩
theorem P24_ok : MeetsP Tryz.prog 24 P24 := by
 refine meetsP_of_vc (C := mkCP 22 [2] [0,2,3,4,11] [⟨52, _, F52_ok⟩] [] [] [⟨38, _, P38_ok⟩, ⟨53, _, P53_ok⟩] [0]) (mkCP_ok _ _ _ _ _ _ _ _) (fnOf_ok _) Tryz.func24 rfl rfl rfl (by decide) rfl rfl rfl ?_ rfl
 rintro c ⟨_⟩ hwc hwf hpre ⟨P, C, B, X, w0, M0, pv⟩ hG rfl rfl
 show Vc _ _ [(0, ⟨0, 0, .c (.ref Z17) c⟩)] _
 refine Vc.seq (Vc.region hG rfl (by trivial) (Vc.seq ?_))
 refine Vc.region hG rfl ?_ ?_
 · exact hpre
 refine Vc.seq (Vc.seq ?_)
 refine Vc.region hG rfl ?_ ?_
 · exact below_ok hpre
 refine Vc.block ?_
 refine Vc.loopF [(0, true, .pure Y13), (3, true, .pair (.pure (.int .i64)) Z68), (4, false, .pure (.int .i64))] [2] (fun v => dnInv archS ((rc2 c).2, ((rc1 c).1, [])) (rc2 c).1 (v.1, v.2.1) v.2.2.1) (fun v => (v.2.2.1 : Int).toNat) rfl ?_ ?_
 · exact dnStart (rc2_n c)
 rintro ⟨c2, a, (i : Int), _⟩ hI
 have hI : dnInv archS ((rc2 c).2, ((rc1 c).1, [])) (rc2 c).1 (c2, a) i := hI
 obtain ⟨k, hk, hc2, _, hs2⟩ := dnP rcP (rc0_P hpre) archS_P hI
 have hs2 : Sm big20 TArch a := hs2
 have hc2 : curOk c2 := hc2
 refine Vc.seq (Vc.seq (Vc.region hG rfl (by trivial) ?_))
 refine Vc.cond rfl (fun h0 => ?_) (fun h0 => ?_)
 · have hl : i > 0 := of_decide_eq_true h0
   refine Vc.skip (Vc.seq (Vc.block ?_))
   refine Vc.regionL mixed hG rfl (by kernel_rfl) ?_ ?_
   · exact ⟨hc2, hs2, itemD_sm hc2⟩
   refine Vc.region hG rfl (by trivial) ?_
   refine ⟨rfl, ?_⟩
   exact dnStep hI hl
 · have hl : ¬ i > 0 := of_decide_eq_false h0
   have hE := dnEnd hI hl
   refine Vc.exit (Vc.seq (Vc.region hG rfl (by trivial) (Vc.ret ?_)))
   have e := archD_leaf hE
   refine ⟨⟨?_, trivial⟩, ?_, trivial⟩
   · exact (congrArg Prod.snd e).symm
   · exact (congrArg Prod.fst e).symm
noncomputable def P51 : PFun := ⟨.pure Y13, [.pair (.int .i64) Y59], [.own (.pure (.int .i64))], fun x xs => (fun c (a : Archive) => curOk c ∧ List.length a.2 ≤ big20) x xs.1, fun x xs => (idsD x xs.1).2, fun x xs => ((idsD x xs.1).1, ())⟩
theorem P51_ok : MeetsP Tryz.prog 51 P51 := by
 refine meetsP_of_vc (C := mkCP 34 [4] [0,1,3,4,5,6,12,16,27] [] [] [] [⟨25, _, P25_ok⟩, ⟨38, _, P38_ok⟩] [0]) (mkCP_ok _ _ _ _ _ _ _ _) (fnOf_ok _) Tryz.func51 rfl rfl rfl (by decide) rfl rfl rfl ?_ rfl
 rintro c ⟨a1, _⟩ hwc hwf hpre ⟨P, C, B, X, w0, M0, pv⟩ hG rfl rfl
 show Vc _ _ [(0, ⟨0, 0, .c (.ref Z17) c⟩), (1, ⟨0, 0, .c Z62 a1⟩)] _
 have hb : List.length a1.2 ≤ bigLen := Nat.le_trans hpre.2 (by decide)
 refine Vc.seq (Vc.region hG rfl (by trivial) (Vc.seq (Vc.region hG rfl (by trivial) ?_)))
 refine Vc.seq (Vc.seq (Vc.region hG rfl (by trivial) (Vc.block ?_)))
 refine Vc.loopF [(0, true, .pure Y13), (5, false, .own (.pure (.int .i64))), (6, false, .pure (.int .i64))] [1, 3, 4, 27] (fun v => foInv idS (c, []) a1.2 (v.1, v.2.1) v.2.2.1) (fun v => ((List.length a1.2 : Int) - v.2.2.1).toNat) rfl ?_ ?_
 · exact foStart
 rintro ⟨c2, l, (i : Int), _⟩ hI
 have hI : foInv idS (c, []) a1.2 (c2, l) i := hI
 have hP := idInv_P hpre.1 hI hpre.2
 have hc2 : curOk c2 := hP.1
 have hA : List.length l + 1 ≤ maxApp := hP.2
 refine Vc.seq (Vc.seq (Vc.region hG rfl (by trivial) ?_))
 refine Vc.cond rfl (fun h0 => ?_) (fun h0 => ?_)
 · have hl : i < (List.length a1.2 : Int) := of_decide_eq_true h0
   refine Vc.skip (Vc.seq (Vc.block (Vc.seq ?_)))
   refine Vc.region hG rfl ?_ ?_
   · exact hc2
   refine Vc.cond rfl (fun h1 => ?_) (fun h1 => ?_)
   · have st := foStepE (d := dflt Y57) hI hl hb (idYes (x := List.getD a1.2 i.toNat (dflt Y57)) h1)
     refine Vc.region hG rfl ?_ ?_
     · exact ⟨foRange hI hl, hA⟩
     refine Vc.region hG rfl (by trivial) ?_
     refine ⟨rfl, ?_⟩
     exact st
   · have st := foStepE (d := dflt Y57) hI hl hb (idNo (x := List.getD a1.2 i.toNat (dflt Y57)) h1)
     refine Vc.skip (Vc.region hG rfl (by trivial) ?_)
     refine ⟨rfl, ?_⟩
     exact st
 · have hl : ¬ i < (List.length a1.2 : Int) := of_decide_eq_false h0
   have hE := foEnd hI hl
   refine Vc.exit (Vc.seq (Vc.seq ?_))
   refine Vc.region hG rfl ?_ ?_
   · exact hc2
   refine Vc.cond rfl (fun h2 => ?_) (fun h2 => ?_)
   · refine Vc.region hG rfl ?_ ?_
     · exact ⟨once_ok hc2, hA⟩
     refine Vc.seq (Vc.region hG rfl (by trivial) (Vc.ret ?_))
     have e := ids1 hE h2
     refine ⟨⟨?_, trivial⟩, ?_, trivial⟩
     · exact (congrArg Prod.snd e).symm
     · exact (congrArg Prod.fst e).symm
   · refine Vc.skip (Vc.seq (Vc.region hG rfl (by trivial) (Vc.ret ?_)))
     have e := ids0 hE h2
     refine ⟨⟨?_, trivial⟩, ?_, trivial⟩
     · exact (congrArg Prod.snd e).symm
     · exact (congrArg Prod.fst e).symm
noncomputable def F23 : Fun := ⟨[.slice (.int .u8)], [.pure Y60, .pure (.int .i64), .own (.pure (.int .i64)), .pure (.int .i64)], fun _ => True, fun x => ((parcelD x.1).1, (parcelD x.1).2.1, (parcelD x.1).2.2.1, (parcelD x.1).2.2.2, ())⟩
theorem F23_ok : Meets Tryz.prog 23 F23 := by
 refine meets_of_vc (C := mkCP 24 [2, 3, 4, 5, 6] [0,2,3,4,5,6,7,8,9] [⟨22, _, F22_ok⟩] [] [] [⟨24, _, P24_ok⟩, ⟨38, _, P38_ok⟩, ⟨51, _, P51_ok⟩] []) (mkCP_ok _ _ _ _ _ _ _ _) (fnOf_ok _) Tryz.func23 rfl rfl rfl (by decide) rfl ?_
 rintro ⟨a0, _⟩ hwf hpre ⟨P, C, B, X, w0, M0, pv⟩ hG rfl rfl
 show Vc _ _ [(0, ⟨0, 0, .c Z1 a0⟩)] _
 have hb : List.length a0 ≤ bigLen := hwf.1.1
 have hm := mp_ok hb
 have hlen : List.length (mp0 a0).1.2 ≤ big20 := (mp_sm hb).1.2.1
 refine Vc.seq (Vc.region hG rfl (by trivial) (Vc.seq (Vc.region hG rfl (by trivial) ?_)))
 refine Vc.seq ?_
 refine Vc.region hG rfl ?_ ?_
 · exact newCur_ok hb
 refine Vc.seq ?_
 refine Vc.region hG rfl ?_ ?_
 · exact hm.1
 refine Vc.seq ?_
 refine Vc.region hG rfl ?_ ?_
 · exact ⟨hm.2.1, hlen⟩
 refine Vc.seq ?_
 refine Vc.regionD mixed hG rfl (by kernel_rfl) ?_ ?_
 · repeat' (first | exact trivial | exact hm.2.2 | refine And.intro ?_ ?_ | intro _)
 refine Vc.ret ?_
 refine ⟨?_, ?_, ?_, ?_, trivial⟩
 all_goals exact rfl
noncomputable def F6 : Fun := ⟨[.slice (.int .u8)], [.pure Y60, .pair (.pure (.int .i64)) Z68, .own (.pure (.int .i64)), .pure (.int .i64)], fun _ => True, fun x => ((moveD x.1).1, (moveD x.1).2.1, (moveD x.1).2.2.1, (moveD x.1).2.2.2, ())⟩
theorem F6_ok : Meets Tryz.prog 6 F6 := by
 refine meets_of_vc (C := mkCP 30 [2, 3, 4, 5, 6] [0,2,3,4,5,6,7,9,10,11,24] [⟨22, _, F22_ok⟩, ⟨23, _, F23_ok⟩] [] [] [⟨24, _, P24_ok⟩, ⟨25, _, P25_ok⟩] []) (mkCP_ok _ _ _ _ _ _ _ _) (fnOf_ok _) Tryz.func6 rfl rfl rfl (by decide) rfl ?_
 rintro ⟨a0, _⟩ hwf hpre ⟨P, C, B, X, w0, M0, pv⟩ hG rfl rfl
 show Vc _ _ [(0, ⟨0, 0, .c Z1 a0⟩)] _
 have hb : List.length a0 ≤ bigLen := hwf.1.1
 refine Vc.seq (Vc.region hG rfl (by trivial) (Vc.seq (Vc.region hG rfl (by trivial) ?_)))
 refine Vc.seq (Vc.regionT hG rfl (by trivial) (Vc.seq ?_))
 refine Vc.region hG rfl ?_ ?_
 · exact newCur_ok hb
 refine Vc.seq (Vc.seq ?_)
 refine Vc.region hG rfl ?_ ?_
 · exact archD_ok (newCur_ok hb)
 refine Vc.cond rfl (fun h0 => ?_) (fun h0 => ?_)
 · refine Vc.region hG rfl (by trivial) (Vc.seq (Vc.regionD mixed hG rfl (by kernel_rfl) (by trivial) (Vc.ret ?_)))
   have e : moveD a0 = _ := (cT h0)
   refine ⟨?_, ?_, ?_, ?_, trivial⟩
   · exact (congrArg (fun r => r.1) e).symm
   · exact (congrArg (fun r => r.2.1) e).symm
   · exact (congrArg (fun r => r.2.2.1) e).symm
   · exact (congrArg (fun r => r.2.2.2) e).symm
 · refine Vc.skip (Vc.seq (Vc.regionD mixed hG rfl (by kernel_rfl) (by trivial) (Vc.ret ?_)))
   have e : moveD a0 = _ := (cF h0)
   refine ⟨?_, ?_, ?_, ?_, trivial⟩
   · exact (congrArg (fun r => r.1) e).symm
   · exact (congrArg (fun r => r.2.1) e).symm
   · exact (congrArg (fun r => r.2.2.1) e).symm
   · exact (congrArg (fun r => r.2.2.2) e).symm
noncomputable def F92 : Fun := ⟨[.int .i64, .pair (.int .i64) Y56], [.pure (.int .i64)], fun x => (fun (_ : Int) (x : Item) => Sm big20 Y57 x) x.1 x.2.1, fun x => (itemDigF x.1 x.2.1, ())⟩
theorem F92_ok : Meets Tryz.prog 92 F92 := by
 refine meets_of_vc (C := mkC 43 [4] [0,1,3,4,5,6,26] [⟨111, _, F111_ok⟩, ⟨112, _, F112_ok⟩, ⟨113, _, F113_ok⟩, ⟨114, _, F114_ok⟩]) (mkC_ok _ _ _ _) (fnOf_ok _) Tryz.func92 rfl rfl rfl (by decide) rfl ?_
 rintro ⟨(a0 : Int), a1, _⟩ hwf hpre ⟨P, C, B, X, w0, M0, pv⟩ hG rfl rfl
 show Vc _ _ [(0, ⟨0, 0, .c (.pure (.int .i64)) a0⟩), (1, ⟨0, 0, .c Z58 a1⟩)] _
 have hp : Sm big20 Y57 a1 := hpre
 have hP : Sm big20 (.slice TPiece) a1.2.2.2.2.1 := hp.2.2.2.2.1
 have hR : List.length a1.2.2.2.2.2 ≤ big20 ∧ ∀ x ∈ a1.2.2.2.2.2, Sm big20 TRen x := hp.2.2.2.2.2
 have hL : List.length a1.2.2.2.2.2 ≤ 1048576 := hR.1
 have hb : List.length a1.2.2.2.2.2 ≤ bigLen := hwf.2.1.2.2.2.2.2.1
 refine Vc.seq (Vc.region hG rfl (by trivial) (Vc.seq ?_))
 refine Vc.regionD mixed hG rfl (by kernel_rfl) ?_ ?_
 · exact ⟨trivial, hP⟩
 refine Vc.seq (Vc.seq (Vc.region hG rfl (by trivial) (Vc.block ?_)))
 refine Vc.loopF [(5, false, .own (.pure (.int .i64))), (6, false, .pure (.int .i64))] [0, 1, 3, 4] (fun v => gsInv (renG a0 a1) (itemHd a0 a1) a1.2.2.2.2.2 v.1 v.2.1) (fun v => ((List.length a1.2.2.2.2.2 : Int) - v.2.1).toNat) rfl ?_ ?_
 · exact gsStart
 rintro ⟨acc, (i : Int), _⟩ hI
 have hI : gsInv (renG a0 a1) (itemHd a0 a1) a1.2.2.2.2.2 acc i := hI
 have hA : List.length acc ≤ 1048581 := gsLen (c := 1) (m := 1048576) hI (fun _ => Nat.le_refl _) hL (Nat.le_refl _)
 refine Vc.seq (Vc.seq (Vc.region hG rfl (by trivial) ?_))
 refine Vc.cond rfl (fun h0 => ?_) (fun h0 => ?_)
 · have hl : i < (List.length a1.2.2.2.2.2 : Int) := of_decide_eq_true h0
   have hE : Sm big20 TRen (List.getD a1.2.2.2.2.2 i.toNat (dflt TRen)) := hR.2 _ (upElem hI.1 hl)
   refine Vc.skip (Vc.seq (Vc.block ?_))
   refine Vc.region hG rfl ?_ ?_
   · exact ⟨gsRange hI hl, hE, (show List.length acc + 1 ≤ maxApp from by unfold maxApp; omega)⟩
   refine Vc.region hG rfl (by trivial) ?_
   refine ⟨rfl, ?_⟩
   exact gsStep hI hl hb rfl
 · have hl : ¬ i < (List.length a1.2.2.2.2.2 : Int) := of_decide_eq_false h0
   refine Vc.exit (Vc.seq ?_)
   refine Vc.region hG rfl ?_ ?_
   · exact (show List.length acc ≤ 1000000000 from by omega)
   refine Vc.ret ?_
   refine ⟨?_, trivial⟩
   have e := congrArg (digestF a0) (gsEnd hI hl)
   exact e
noncomputable def F68 : Fun := ⟨[.int .i64, .slice Y57], [.pure (.int .i64)], fun x => (fun (_ : Int) (l : List Item) => Sm big20 Y59 l) x.1 x.2.1, fun x => (digItemsF x.1 x.2.1, ())⟩
theorem F68_ok : Meets Tryz.prog 68 F68 := by
 refine meets_of_vc (C := mkC 26 [4] [0,1,4,5,6,11] [⟨92, _, F92_ok⟩, ⟨71, _, F71_ok⟩]) (mkC_ok _ _ _ _) (fnOf_ok _) Tryz.func68 rfl rfl rfl (by decide) rfl ?_
 rintro ⟨(a0 : Int), a1, _⟩ hwf hpre ⟨P, C, B, X, w0, M0, pv⟩ hG rfl rfl
 show Vc _ _ [(0, ⟨0, 0, .c (.pure (.int .i64)) a0⟩), (1, ⟨0, 0, .c (.pure Y59) a1⟩)] _
 have hp : _ ∧ _ := hpre
 have hs : List.length a1 ≤ 1048576 := hp.1
 have hb : List.length a1 ≤ bigLen := hwf.2.1.1
 refine Vc.seq (Vc.region hG rfl (by trivial) (Vc.seq (Vc.region hG rfl (by trivial) ?_)))
 refine Vc.seq (Vc.seq (Vc.region hG rfl (by trivial) (Vc.block ?_)))
 refine Vc.loopF [(5, false, .own (.pure (.int .i64))), (6, false, .pure (.int .i64))] [0, 1, 4] (fun v => pkInv (idF a0) a1 v.1 v.2.1) (fun v => ((List.length a1 : Int) - v.2.1).toNat) rfl ?_ ?_
 · exact pkStart
 rintro ⟨acc, (i : Int), _⟩ hI
 have hI : pkInv (idF a0) a1 acc i := hI
 refine Vc.seq (Vc.seq (Vc.region hG rfl (by trivial) ?_))
 refine Vc.cond rfl (fun h0 => ?_) (fun h0 => ?_)
 · have hl : i < (List.length a1 : Int) := of_decide_eq_true h0
   have hE : Sm big20 Y57 (List.getD a1 i.toNat (dflt Y57)) := hp.2 _ (upElem hI.1 hl)
   refine Vc.skip (Vc.seq (Vc.block ?_))
   refine Vc.region hG rfl ?_ ?_
   · exact ⟨pkRange hI hl, hE, pkLen hI hs⟩
   refine Vc.region hG rfl (by trivial) ?_
   refine ⟨rfl, ?_⟩
   exact pkYes (d := dflt Y57) hI hl hb rfl
 · have hl : ¬ i < (List.length a1 : Int) := of_decide_eq_false h0
   refine Vc.exit (Vc.seq (Vc.region hG rfl (by trivial) (Vc.ret ?_)))
   refine ⟨?_, trivial⟩
   have e := congrArg (treeF a0) (pkEnd hI hl)
   exact e
end Fw
