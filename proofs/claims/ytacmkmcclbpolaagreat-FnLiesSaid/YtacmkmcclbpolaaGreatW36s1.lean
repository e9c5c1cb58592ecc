/- Walks of functions of the program: what each computes. Conditions: those that each contract names. -/
import Derived.Test.YtacmkmcclbpolaaGreatW36T
import Derived.Test.YtacmkmcclbpolaaGreatW36s0
namespace Fw
open Go Go.Proofs
set_option linter.unusedSimpArgs false
set_option maxRecDepth 100000
noncomputable def P251 : PFun := ⟨.pure Y13, [], [.pair (.pure (.int .i64)) Z11], fun x _ => curOk x, fun x _ => (pieceD x).2, fun x _ => ((pieceD x).1, ())⟩
theorem P251_ok : MeetsP Tryz.prog 251 P251 := by
 refine meetsP_of_vc (C := mkCP 42 [2] [0,2,3,4,7,8,16,21,30] [⟨310, _, F310_ok⟩, ⟨309, _, F309_ok⟩, ⟨312, _, F312_ok⟩, ⟨70, _, F70_ok⟩, ⟨268, _, F268_ok⟩, ⟨243, _, F243_ok⟩, ⟨124, _, F124_ok⟩, ⟨246, _, F246_ok⟩] [] [] [⟨67, _, P67_ok⟩, ⟨319, _, P319_ok⟩, ⟨107, _, P107_ok⟩, ⟨308, _, P308_ok⟩, ⟨320, _, P320_ok⟩] [0]) (mkCP_ok _ _ _ _ _ _ _ _) (fnOf_ok _) Tryz.func251 rfl rfl rfl (by decide) rfl rfl rfl ?_ rfl
 rintro c ⟨_⟩ hwc hwf hpre ⟨P, C, B, X, w0, M0, pv⟩ hG rfl rfl
 show Vc _ _ [(0, ⟨0, 0, .c (.ref Z17) c⟩)] _
 refine Vc.seq (Vc.region hG rfl (by trivial) (Vc.seq (Vc.seq ?_)))
 refine Vc.region hG rfl ?_ ?_
 · repeat' (first | exact trivial | exact hpre | exact below_ok hpre | exact certIdx _ | refine And.intro ?_ ?_ | intro _)
 refine Vc.block (Vc.seq (Vc.region hG rfl (by trivial) ?_))
 refine Vc.cond rfl (fun h0 => ?_) (fun h0 => ?_)
 · refine Vc.seq ?_
   refine Vc.region hG rfl ?_ ?_
   · repeat' (first | exact trivial | exact hpre | exact below_ok hpre | exact certIdx _ | refine And.intro ?_ ?_ | intro _)
   refine Vc.ret ?_
   have e : pieceD c = _ := (cT h0)
   refine ⟨⟨?_, trivial⟩, ?_, trivial⟩
   · exact (congrArg Prod.snd e).symm
   · exact (congrArg (fun r => r.1) e).symm
 · refine Vc.seq (Vc.region hG rfl (by trivial) ?_)
   refine Vc.cond rfl (fun h1 => ?_) (fun h1 => ?_)
   · refine Vc.seq ?_
     refine Vc.region hG rfl ?_ ?_
     · repeat' (first | exact trivial | exact hpre | exact below_ok hpre | exact certIdx _ | refine And.intro ?_ ?_ | intro _)
     refine Vc.ret ?_
     have e : pieceD c = _ := ((cF h0).trans (cT h1))
     refine ⟨⟨?_, trivial⟩, ?_, trivial⟩
     · exact (congrArg Prod.snd e).symm
     · exact (congrArg (fun r => r.1) e).symm
   · refine Vc.seq (Vc.region hG rfl (by trivial) ?_)
     refine Vc.cond rfl (fun h2 => ?_) (fun h2 => ?_)
     · refine Vc.seq ?_
       refine Vc.region hG rfl ?_ ?_
       · repeat' (first | exact trivial | exact hpre | exact below_ok hpre | exact certIdx _ | refine And.intro ?_ ?_ | intro _)
       refine Vc.seq ?_
       refine Vc.regionD mixed hG rfl (by kernel_rfl) ?_ ?_
       · repeat' (first | exact trivial | exact hpre | exact below_ok hpre | exact certIdx _ | refine And.intro ?_ ?_ | intro _)
       refine Vc.ret ?_
       have e : pieceD c = _ := ((cF h0).trans ((cF h1).trans (cT h2)))
       refine ⟨⟨?_, trivial⟩, ?_, trivial⟩
       · exact (congrArg Prod.snd e).symm
       · exact (congrArg (fun r => r.1) e).symm
     · refine Vc.seq (Vc.region hG rfl (by trivial) ?_)
       refine Vc.cond rfl (fun h3 => ?_) (fun h3 => ?_)
       · refine Vc.seq ?_
         refine Vc.region hG rfl ?_ ?_
         · repeat' (first | exact trivial | exact hpre | exact below_ok hpre | exact certIdx _ | refine And.intro ?_ ?_ | intro _)
         refine Vc.seq ?_
         refine Vc.region hG rfl ?_ ?_
         · repeat' (first | exact trivial | exact hpre | exact below_ok hpre | exact certIdx _ | refine And.intro ?_ ?_ | intro _)
         refine Vc.ret ?_
         have e : pieceD c = _ := ((cF h0).trans ((cF h1).trans ((cF h2).trans (cT h3))))
         refine ⟨⟨?_, trivial⟩, ?_, trivial⟩
         · exact (congrArg Prod.snd e).symm
         · exact (congrArg (fun r => r.1) e).symm
       · refine Vc.skip (Vc.seq ?_)
         refine Vc.region hG rfl ?_ ?_
         · repeat' (first | exact trivial | exact hpre | exact below_ok hpre | exact certIdx _ | refine And.intro ?_ ?_ | intro _)
         refine Vc.ret ?_
         have e : pieceD c = _ := ((cF h0).trans ((cF h1).trans ((cF h2).trans (cF h3))))
         refine ⟨⟨?_, trivial⟩, ?_, trivial⟩
         · exact (congrArg Prod.snd e).symm
         · exact (congrArg (fun r => r.1) e).symm
noncomputable def P240 : PFun := ⟨.pure Y13, [], [.pair Z25 Z51, .pair (.pure (.int .i64)) Z12, .pure Y41], fun x _ => curOk x, fun x _ => (signedD x).2, fun x _ => ((signedD x).1.1, (signedD x).1.2.1, (signedD x).1.2.2, ())⟩
theorem P240_ok : MeetsP Tryz.prog 240 P240 := by
 refine meetsP_of_vc (C := mkCP 66 [2, 3, 4] [0,2,3,4,5,6,7,8,46,55] [⟨124, _, F124_ok⟩, ⟨310, _, F310_ok⟩, ⟨309, _, F309_ok⟩, ⟨69, _, F69_ok⟩, ⟨311, _, F311_ok⟩, ⟨312, _, F312_ok⟩, ⟨180, _, F180_ok⟩] [] [] [⟨308, _, P308_ok⟩, ⟨108, _, P108_ok⟩, ⟨73, _, P73_ok⟩, ⟨251, _, P251_ok⟩] [0]) (mkCP_ok _ _ _ _ _ _ _ _) (fnOf_ok _) Tryz.func240 rfl rfl rfl (by decide) rfl rfl rfl ?_ rfl
 rintro c ⟨_⟩ hwc hwf hpre ⟨P, C, B, X, w0, M0, pv⟩ hG rfl rfl
 show Vc _ _ [(0, ⟨0, 0, .c (.ref Z17) c⟩)] _
 refine Vc.seq (Vc.region hG rfl (by trivial) (Vc.seq ?_))
 refine Vc.region hG rfl ?_ ?_
 · exact hpre
 refine Vc.seq ?_
 refine Vc.regionD mixed hG rfl (by kernel_rfl) ?_ ?_
 · repeat' (first | exact trivial | exact signD_idx hpre | refine And.intro ?_ ?_ | intro _)
 refine Vc.seq ?_
 refine Vc.regionD mixed hG rfl (by kernel_rfl) ?_ ?_
 · repeat' (first | exact trivial | exact signD_idx hpre | exact signD_ok hpre | exact Nat.succ_pos _ | refine And.intro ?_ ?_ | intro _)
 refine Vc.seq (Vc.seq ?_)
 refine Vc.region hG rfl ?_ ?_
 · exact sg2_ok hpre
 refine Vc.cond rfl (fun h0 => ?_) (fun h0 => ?_)
 · refine Vc.regionL mixed hG rfl (by kernel_rfl) ?_ ?_
   · exact ⟨trivial, sgS_sm c, statPiece_sm _⟩
   refine Vc.seq (Vc.seq ?_)
   refine Vc.region hG rfl ?_ ?_
   · exact sg3_ok hpre
   refine Vc.cond rfl (fun h1 => ?_) (fun h1 => ?_)
   · refine Vc.regionL mixed hG rfl (by kernel_rfl) ?_ ?_
     · first
         | exact ⟨sg4_ok hpre, sgS2_sm c, pieceD_sm _⟩
         | exact ⟨sg4_ok hpre, sgS_sm c, pieceD_sm _⟩
     refine Vc.seq (Vc.regionD mixed hG rfl (by kernel_rfl) (by trivial) (Vc.ret ?_))
     have e : signedD c = _ := ((signed_eq c).trans ((cT h0).trans (cT h1)))
     refine ⟨⟨?_, trivial⟩, ?_, ?_, ?_, trivial⟩
     · exact (congrArg Prod.snd e).symm
     · exact (congrArg (fun r => r.1.1) e).symm
     · exact (congrArg (fun r => r.1.2.1) e).symm
     · exact (congrArg (fun r => r.1.2.2) e).symm
   · refine Vc.skip (Vc.seq (Vc.regionD mixed hG rfl (by kernel_rfl) (by trivial) (Vc.ret ?_)))
     have e : signedD c = _ := ((signed_eq c).trans ((cT h0).trans (cF h1)))
     refine ⟨⟨?_, trivial⟩, ?_, ?_, ?_, trivial⟩
     · exact (congrArg Prod.snd e).symm
     · exact (congrArg (fun r => r.1.1) e).symm
     · exact (congrArg (fun r => r.1.2.1) e).symm
     · exact (congrArg (fun r => r.1.2.2) e).symm
 · refine Vc.skip (Vc.seq (Vc.seq ?_))
   refine Vc.region hG rfl ?_ ?_
   · exact sg3_ok hpre
   refine Vc.cond rfl (fun h2 => ?_) (fun h2 => ?_)
   · refine Vc.regionL mixed hG rfl (by kernel_rfl) ?_ ?_
     · first
         | exact ⟨sg4_ok hpre, sgS2_sm c, pieceD_sm _⟩
         | exact ⟨sg4_ok hpre, sgS_sm c, pieceD_sm _⟩
     refine Vc.seq (Vc.regionD mixed hG rfl (by kernel_rfl) (by trivial) (Vc.ret ?_))
     have e : signedD c = _ := ((signed_eq c).trans ((cF h0).trans (cT h2)))
     refine ⟨⟨?_, trivial⟩, ?_, ?_, ?_, trivial⟩
     · exact (congrArg Prod.snd e).symm
     · exact (congrArg (fun r => r.1.1) e).symm
     · exact (congrArg (fun r => r.1.2.1) e).symm
     · exact (congrArg (fun r => r.1.2.2) e).symm
   · refine Vc.skip (Vc.seq (Vc.regionD mixed hG rfl (by kernel_rfl) (by trivial) (Vc.ret ?_)))
     have e : signedD c = _ := ((signed_eq c).trans ((cF h0).trans (cF h2)))
     refine ⟨⟨?_, trivial⟩, ?_, ?_, ?_, trivial⟩
     · exact (congrArg Prod.snd e).symm
     · exact (congrArg (fun r => r.1.1) e).symm
     · exact (congrArg (fun r => r.1.2.1) e).symm
     · exact (congrArg (fun r => r.1.2.2) e).symm
noncomputable def F241 : Fun := ⟨[.int .i64], [.own Z27], fun _ => True, fun x => (freshD x.1, ())⟩
theorem F241_ok : Meets Tryz.prog 241 F241 := by
 refine meets_of_vc (C := mkC 26 [2] [0,2,3,4,5,9] [⟨69, _, F69_ok⟩, ⟨70, _, F70_ok⟩, ⟨74, _, F74_ok⟩]) (mkC_ok _ _ _ _) (fnOf_ok _) Tryz.func241 rfl rfl rfl (by decide) rfl ?_
 rintro ⟨(a0 : Int), _⟩ hwf hpre ⟨P, C, B, X, w0, M0, pv⟩ hG rfl rfl
 show Vc _ _ [(0, ⟨0, 0, .c (.pure (.int .i64)) a0⟩)] _
 refine Vc.seq (Vc.region hG rfl (by trivial) (Vc.seq (Vc.region hG rfl (by trivial) ?_)))
 refine Vc.seq (Vc.seq (Vc.region hG rfl (by trivial) (Vc.block ?_)))
 refine Vc.loopF [(3, false, .own Z27), (4, false, .pure (.int .i64))] [0, 2] (fun v => fzInv a0 v.1 v.2.1) (fun v => (5 - v.2.1 : Int).toNat) rfl ?_ ?_
 · exact fzStart
 rintro ⟨acc, (id : Int), _⟩ hI
 have hI : fzInv a0 acc id := hI
 refine Vc.seq (Vc.seq (Vc.region hG rfl (by trivial) ?_))
 refine Vc.cond rfl (fun h0 => ?_) (fun h0 => ?_)
 · have hl : id ≤ 4 := of_decide_eq_true h0
   refine Vc.skip (Vc.seq (Vc.block (Vc.seq ?_)))
   refine Vc.region hG rfl (by trivial) ?_
   refine Vc.region hG rfl ?_ ?_
   · exact fzLen hI
   refine Vc.region hG rfl (by trivial) ?_
   refine ⟨rfl, ?_⟩
   exact fzStep hI hl rfl
 · have hl : ¬ id ≤ 4 := of_decide_eq_false h0
   refine Vc.exit (Vc.seq (Vc.region hG rfl (by trivial) (Vc.ret ?_)))
   refine ⟨?_, trivial⟩
   exact fzEnd hI hl
noncomputable def F197 : Fun := ⟨[.int .i64, .slice Y26], [.pure (.int .i64)], fun x => (fun (_ : Int) (l : List Stamp) => List.length l ≤ 1048576) x.1 x.2.1, fun x => (stampsDgF x.1 x.2.1, ())⟩
theorem F197_ok : Meets Tryz.prog 197 F197 := by
 refine meets_of_vc (C := mkC 29 [4] [0,1,4,5,6,9,14] [⟨138, _, F138_ok⟩, ⟨199, _, F199_ok⟩]) (mkC_ok _ _ _ _) (fnOf_ok _) Tryz.func197 rfl rfl rfl (by decide) rfl ?_
 rintro ⟨(a0 : Int), a1, _⟩ hwf hpre ⟨P, C, B, X, w0, M0, pv⟩ hG rfl rfl
 show Vc _ _ [(0, ⟨0, 0, .c (.pure (.int .i64)) a0⟩), (1, ⟨0, 0, .c Z30 a1⟩)] _
 have hs : List.length a1 ≤ 1048576 := hpre
 have hb : List.length a1 ≤ bigLen := hwf.2.1.1
 refine Vc.seq (Vc.region hG rfl (by trivial) (Vc.seq (Vc.seq ?_)))
 refine Vc.region hG rfl (by trivial) ?_
 refine Vc.cond rfl (fun h0 => ?_) (fun h0 => ?_)
 · have g0 : (List.length a1 : Int) = 0 := beqI2 h0
   refine Vc.seq (Vc.region hG rfl (by trivial) (Vc.ret ?_))
   refine ⟨?_, trivial⟩
   exact sd0 g0
 · have g0 : ¬ (List.length a1 : Int) = 0 := bneI' h0
   refine Vc.skip (Vc.seq (Vc.region hG rfl (by trivial) (Vc.seq ?_)))
   refine Vc.seq (Vc.region hG rfl (by trivial) (Vc.block ?_))
   refine Vc.loopF [(5, false, .own (.pure (.int .i64))), (6, false, .pure (.int .i64))] [0, 1, 4, 9] (fun v => gsInv (mkG a1) [] a1 v.1 v.2.1) (fun v => ((List.length a1 : Int) - v.2.1).toNat) rfl ?_ ?_
   · exact gsStart
   rintro ⟨acc, (i : Int), _⟩ hI
   have hI : gsInv (mkG a1) [] a1 acc i := hI
   have hA : List.length acc ≤ 1048576 := gsLen (c := 1) (m := 1048576) hI (fun _ => Nat.le_refl _) hs (by simp)
   refine Vc.seq (Vc.seq (Vc.region hG rfl (by trivial) ?_))
   refine Vc.cond rfl (fun h1 => ?_) (fun h1 => ?_)
   · have hl : i < (List.length a1 : Int) := of_decide_eq_true h1
     refine Vc.skip (Vc.seq (Vc.block ?_))
     refine Vc.region hG rfl ?_ ?_
     · exact ⟨gsRange hI hl, (show List.length acc + 1 ≤ maxApp from by unfold maxApp; omega)⟩
     refine Vc.region hG rfl (by trivial) ?_
     refine ⟨rfl, ?_⟩
     exact gsStep hI hl hb rfl
   · have hl : ¬ i < (List.length a1 : Int) := of_decide_eq_false h1
     refine Vc.exit (Vc.seq ?_)
     refine Vc.region hG rfl ?_ ?_
     · exact ⟨(show List.length acc ≤ 1000000000 from by omega), trivial⟩
     refine Vc.ret ?_
     refine ⟨?_, trivial⟩
     exact (congrArg (fun l => max 1 (digestF a0 l)) (gsEnd hI hl)).trans (sd1 g0)
noncomputable def F245 : Fun := ⟨[.slice Y26, .int .i64], [.pure (.int .i64)], fun _ => True, fun x => (ownerF x.1 x.2.1, ())⟩
theorem F245_ok : Meets Tryz.prog 245 F245 := by
 refine meets_of_vc (C := mkC 16 [4] [0,1,4,5,10] [⟨113, _, F113_ok⟩]) (mkC_ok _ _ _ _) (fnOf_ok _) Tryz.func245 rfl rfl rfl (by decide) rfl ?_
 rintro ⟨a0, (a1 : Int), _⟩ hwf hpre ⟨P, C, B, X, w0, M0, pv⟩ hG rfl rfl
 show Vc _ _ [(0, ⟨0, 0, .c Z30 a0⟩), (1, ⟨0, 0, .c (.pure (.int .i64)) a1⟩)] _
 refine Vc.seq (Vc.region hG rfl (by trivial) (Vc.seq (Vc.region hG rfl (by trivial) ?_)))
 refine Vc.seq (Vc.seq (Vc.region hG rfl (by trivial) ?_))
 refine Vc.cond rfl (fun h0 => ?_) (fun h0 => ?_)
 · have g0 : keyI a0 a1 < 0 := of_decide_eq_true h0
   refine Vc.seq (Vc.region hG rfl (by trivial) (Vc.ret ?_))
   refine ⟨?_, trivial⟩
   exact owner0 g0
 · have g0 : ¬ keyI a0 a1 < 0 := of_decide_eq_false h0
   refine Vc.skip (Vc.seq ?_)
   refine Vc.region hG rfl ?_ ?_
   · exact findRange g0
   refine Vc.ret ?_
   refine ⟨?_, trivial⟩
   exact owner1 g0
noncomputable def F315 : Fun := ⟨[.pair Y20 Y49, .pair (.int .i64) Y43], [.pair Z25 Z51, .pure (.bool)], fun x => (fun (s : Strand) (r : Renewal) => Sm big20 Y52 s ∧ Sm big20 Y46 r) x.1 x.2.1, fun x => ((addRenF x.1 x.2.1).1, (addRenF x.1 x.2.1).2, ())⟩
theorem F315_ok : Meets Tryz.prog 315 F315 := by
 refine meets_of_vc (C := mkC 22 [4, 5] [0,1,2,3,4,5,6,18] [⟨80, _, F80_ok⟩, ⟨121, _, F121_ok⟩, ⟨250, _, F250_ok⟩]) (mkC_ok _ _ _ _) (fnOf_ok _) Tryz.func315 rfl rfl rfl (by decide) rfl ?_
 rintro ⟨a0, a1, _⟩ hwf hpre ⟨P, C, B, X, w0, M0, pv⟩ hG rfl rfl
 show Vc _ _ [(0, ⟨0, 0, .c Z53 a0⟩), (1, ⟨0, 0, .c Z48 a1⟩)] _
 have hp1 : Sm big20 Y52 a0 := hpre.1
 have hp2 : Sm big20 Y46 a1 := hpre.2
 refine Vc.seq (Vc.region hG rfl (by trivial) (Vc.seq ?_))
 refine Vc.region hG rfl ?_ ?_
 · exact hp1
 refine Vc.seq ?_
 refine Vc.regionD mixed hG rfl (by kernel_rfl) ?_ ?_
 · exact ⟨hp2, arLen hp1.2.1⟩
 refine Vc.seq (Vc.seq (Vc.region hG rfl (by trivial) ?_))
 refine Vc.cond rfl (fun h0 => ?_) (fun h0 => ?_)
 · have g0 : (!(strandF (a0.1, a0.2 ++ [a1]))) = true := h0
   refine Vc.seq ?_
   refine Vc.region hG rfl ?_ ?_
   · exact hp1
   refine Vc.ret ?_
   have e := ar0 g0
   refine ⟨?_, ?_, trivial⟩
   · exact (congrArg Prod.fst e).symm
   · exact (congrArg Prod.snd e).symm
 · have g0 : (!(strandF (a0.1, a0.2 ++ [a1]))) = false := h0
   refine Vc.skip (Vc.seq (Vc.region hG rfl (by trivial) (Vc.ret ?_)))
   have e := ar1 g0
   refine ⟨?_, ?_, trivial⟩
   · exact (congrArg Prod.fst e).symm
   · exact (congrArg Prod.snd e).symm
noncomputable def F135 : Fun := ⟨[.pair Y20 Y49, .pair (.int .i64) Y9], [.own (.pure (.int .i64))], fun x => (fun (s : Strand) (_ : Doc) => List.length s.2 ≤ 2000000) x.1 x.2.1, fun x => (docDigsF x.1 x.2.1, ())⟩
theorem F135_ok : Meets Tryz.prog 135 F135 := by
 refine meets_of_vc (C := mkC 27 [4] [0,1,2,3,4,5,6,12] [⟨83, _, F83_ok⟩]) (mkC_ok _ _ _ _) (fnOf_ok _) Tryz.func135 rfl rfl rfl (by decide) rfl ?_
 rintro ⟨a0, a1, _⟩ hwf hpre ⟨P, C, B, X, w0, M0, pv⟩ hG rfl rfl
 show Vc _ _ [(0, ⟨0, 0, .c Z53 a0⟩), (1, ⟨0, 0, .c Z22 a1⟩)] _
 have hs : List.length a0.2 ≤ 2000000 := hpre
 have hb : List.length a0.2 ≤ bigLen := hwf.1.2.1
 refine Vc.seq (Vc.region hG rfl (by trivial) (Vc.seq (Vc.region hG rfl (by trivial) ?_)))
 refine Vc.seq (Vc.seq (Vc.region hG rfl (by trivial) (Vc.block ?_)))
 refine Vc.loopF [(5, false, .own (.pure (.int .i64))), (6, false, .pure (.int .i64))] [0, 1, 2, 3, 4] (fun v => pkInv (ddF a1) a0.2 v.1 v.2.1) (fun v => ((List.length a0.2 : Int) - v.2.1).toNat) rfl ?_ ?_
 · exact pkStart
 rintro ⟨acc, (i : Int), _⟩ hI
 have hI : pkInv (ddF a1) a0.2 acc i := hI
 refine Vc.seq (Vc.seq (Vc.region hG rfl (by trivial) ?_))
 refine Vc.cond rfl (fun h0 => ?_) (fun h0 => ?_)
 · have hl : i < (List.length a0.2 : Int) := of_decide_eq_true h0
   refine Vc.skip (Vc.seq (Vc.block ?_))
   refine Vc.regionD mixed hG rfl (by kernel_rfl) ?_ ?_
   · exact ⟨pkRange hI hl, trivial, pkLen2 hI hs⟩
   refine Vc.region hG rfl (by trivial) ?_
   refine ⟨rfl, ?_⟩
   exact pkYes (d := dflt Y46) hI hl hb rfl
 · have hl : ¬ i < (List.length a0.2 : Int) := of_decide_eq_false h0
   refine Vc.exit (Vc.seq (Vc.region hG rfl (by trivial) (Vc.ret ?_)))
   refine ⟨?_, trivial⟩
   exact pkEnd hI hl
noncomputable def F346 : Fun := ⟨[.int .i64, .pair (.int .i64) Y43], [.pure (.int .i64)], fun x => (fun (_ : Int) (r : Renewal) => Sm big20 TRen r) x.1 x.2.1, fun x => (renDigF x.1 x.2.1, ())⟩
theorem F346_ok : Meets Tryz.prog 346 F346 := by
 refine meets_of_vc (C := mkC 75 [4] [0,1,3,4,5,6,7,19,36,53] [⟨115, _, F115_ok⟩, ⟨138, _, F138_ok⟩]) (mkC_ok _ _ _ _) (fnOf_ok _) Tryz.func346 rfl rfl rfl (by decide) rfl ?_
 rintro ⟨(a0 : Int), a1, _⟩ hwf hpre ⟨P, C, B, X, w0, M0, pv⟩ hG rfl rfl
 show Vc _ _ [(0, ⟨0, 0, .c (.pure (.int .i64)) a0⟩), (1, ⟨0, 0, .c Z48 a1⟩)] _
 have hp : Sm big20 TRen a1 := hpre
 have h3 : List.length a1.2.2.2.1 ≤ 1048576 := hp.2.2.2.1.1
 have h4 : List.length a1.2.2.2.2 ≤ 1048576 := hp.2.2.2.2.1
 have hb0 : List.length a1.2.2.2.1 ≤ bigLen := hwf.2.1.2.2.2.1.1
 have hb1 : List.length a1.2.2.2.2 ≤ bigLen := hwf.2.1.2.2.2.2.1
 refine Vc.seq (Vc.region hG rfl (by trivial) (Vc.seq (Vc.region hG rfl (by trivial) ?_)))
 refine Vc.seq (Vc.seq (Vc.region hG rfl (by trivial) (Vc.block ?_)))
 refine Vc.loopF [(5, false, .own (.pure (.int .i64))), (6, false, .pure (.int .i64))] [0, 1, 3, 4, 7, 53] (fun v => gsInv (stepG a1) [4, a1.1, a1.2.1, a1.2.2.1] a1.2.2.2.1 v.1 v.2.1) (fun v => ((List.length a1.2.2.2.1 : Int) - v.2.1).toNat) rfl ?_ ?_
 · exact gsStart
 rintro ⟨acc, (i : Int), _⟩ hI0
 have hI0 : gsInv (stepG a1) [4, a1.1, a1.2.1, a1.2.2.1] a1.2.2.2.1 acc i := hI0
 have hA : List.length acc ≤ 2097156 := gsLen (c := 2) (m := 1048576) hI0 (fun _ => Nat.le_refl _) h3 (by simp)
 refine Vc.seq (Vc.seq (Vc.region hG rfl (by trivial) ?_))
 refine Vc.cond rfl (fun h0 => ?_) (fun h0 => ?_)
 · have hl0 : i < (List.length a1.2.2.2.1 : Int) := of_decide_eq_true h0
   refine Vc.skip (Vc.seq (Vc.block (Vc.seq ?_)))
   refine Vc.region hG rfl ?_ ?_
   · exact ⟨gsRange hI0 hl0, (show List.length acc + 1 ≤ maxApp from by unfold maxApp; omega)⟩
   refine Vc.seq ?_
   refine Vc.region hG rfl ?_ ?_
   · exact gsRange hI0 hl0
   refine Vc.cond rfl (fun h1 => ?_) (fun h1 => ?_)
   · have g1 : (List.getD a1.2.2.2.1 i.toNat (dflt TStep)).2 = true := h1
     refine Vc.region hG rfl ?_ ?_
     · exact (by show List.length (acc ++ [(List.getD a1.2.2.2.1 i.toNat (dflt TStep)).1]) + 1 ≤ maxApp; rw [List.length_append]; show List.length acc + 1 + 1 ≤ maxApp; unfold maxApp; omega)
     refine Vc.region hG rfl (by trivial) ?_
     refine ⟨rfl, ?_⟩
     first | exact gsStep hI0 hl0 hb0 (stepYes g1) | exact gsStep hI0 hl0 hb0 (stepNo g1)
   · have g1 : (List.getD a1.2.2.2.1 i.toNat (dflt TStep)).2 = false := h1
     refine Vc.region hG rfl ?_ ?_
     · exact (by show List.length (acc ++ [(List.getD a1.2.2.2.1 i.toNat (dflt TStep)).1]) + 1 ≤ maxApp; rw [List.length_append]; show List.length acc + 1 + 1 ≤ maxApp; unfold maxApp; omega)
     refine Vc.region hG rfl (by trivial) ?_
     refine ⟨rfl, ?_⟩
     first | exact gsStep hI0 hl0 hb0 (stepYes g1) | exact gsStep hI0 hl0 hb0 (stepNo g1)
 · have hl0 : ¬ i < (List.length a1.2.2.2.1 : Int) := of_decide_eq_false h0
   refine Vc.exit (Vc.seq ?_)
   refine Vc.region hG rfl ?_ ?_
   · exact (show List.length acc + 1 ≤ maxApp from by unfold maxApp; omega)
   refine Vc.seq (Vc.seq (Vc.region hG rfl (by trivial) (Vc.block ?_)))
   refine Vc.loopF [(5, false, .own (.pure (.int .i64))), (7, false, .pure (.int .i64))] [0, 1, 3, 4, 6, 19, 36] (fun v => gsInv (stmpG a1) (renMid a1) a1.2.2.2.2 v.1 v.2.1) (fun v => ((List.length a1.2.2.2.2 : Int) - v.2.1).toNat) rfl ?_ ?_
   · exact gsStart2 (renMidEq hI0 hl0)
   rintro ⟨acc2, (i : Int), _⟩ hI1
   have hI1 : gsInv (stmpG a1) (renMid a1) a1.2.2.2.2 acc2 i := hI1
   have hA2 : List.length acc2 ≤ 8388613 := gsLen (c := 6) (m := 1048576) hI1 (fun _ => Nat.le_refl _) h4 (by have := midLen h3; omega)
   refine Vc.seq (Vc.seq (Vc.region hG rfl (by trivial) ?_))
   refine Vc.cond rfl (fun h2 => ?_) (fun h2 => ?_)
   · have hl1 : i < (List.length a1.2.2.2.2 : Int) := of_decide_eq_true h2
     refine Vc.skip (Vc.seq (Vc.block ?_))
     refine Vc.regionD mixed hG rfl (by kernel_rfl) ?_ ?_
     · exact ⟨gsRange hI1 hl1, trivial, (show List.length acc2 + 5 ≤ maxApp from by unfold maxApp; omega), gsRange hI1 hl1, (by show List.length (acc2 ++ stampIntsF (List.getD a1.2.2.2.2 i.toNat (dflt TStamp))) + 1 ≤ maxApp; rw [List.length_append]; show List.length acc2 + 5 + 1 ≤ maxApp; unfold maxApp; omega)⟩
     refine Vc.region hG rfl (by trivial) ?_
     refine ⟨rfl, ?_⟩
     exact gsStep hI1 hl1 hb1 stmpEq
   · have hl1 : ¬ i < (List.length a1.2.2.2.2 : Int) := of_decide_eq_false h2
     refine Vc.exit (Vc.seq ?_)
     refine Vc.region hG rfl ?_ ?_
     · exact (show List.length acc2 ≤ 1000000000 from by omega)
     refine Vc.ret ?_
     refine ⟨?_, trivial⟩
     have e := congrArg (digestF a0) (gsEnd hI1 hl1)
     exact e
noncomputable def F362 : Fun := ⟨[.int .i64, .slice Y15], [.pure (.int .i64)], fun x => (fun (_ : Int) (l : List Piece) => Sm big20 (.slice TPiece) l) x.1 x.2.1, fun x => (piecesF x.1 x.2.1, ())⟩
theorem F362_ok : Meets Tryz.prog 362 F362 := by
 refine meets_of_vc (C := mkC 39 [4] [0,1,4,5,6,11] [⟨138, _, F138_ok⟩]) (mkC_ok _ _ _ _) (fnOf_ok _) Tryz.func362 rfl rfl rfl (by decide) rfl ?_
 rintro ⟨(a0 : Int), a1, _⟩ hwf hpre ⟨P, C, B, X, w0, M0, pv⟩ hG rfl rfl
 show Vc _ _ [(0, ⟨0, 0, .c (.pure (.int .i64)) a0⟩), (1, ⟨0, 0, .c Z23 a1⟩)] _
 have hp : List.length a1 ≤ big20 ∧ ∀ x ∈ a1, Sm big20 TPiece x := hpre
 have hL : List.length a1 ≤ 1048576 := hp.1
 have hb : List.length a1 ≤ bigLen := hwf.2.1.1
 refine Vc.seq (Vc.region hG rfl (by trivial) (Vc.seq (Vc.region hG rfl (by trivial) ?_)))
 refine Vc.seq (Vc.seq (Vc.region hG rfl (by trivial) (Vc.block ?_)))
 refine Vc.loopF [(5, false, .own (.pure (.int .i64))), (6, false, .pure (.int .i64))] [0, 1, 4] (fun v => gsInv (piecesG a0 a1) [2] a1 v.1 v.2.1) (fun v => ((List.length a1 : Int) - v.2.1).toNat) rfl ?_ ?_
 · exact gsStart
 rintro ⟨acc, (i : Int), _⟩ hI
 have hI : gsInv (piecesG a0 a1) [2] a1 acc i := hI
 have hA : List.length acc ≤ 1048577 := gsLen (c := 1) (m := 1048576) hI (fun _ => Nat.le_refl _) hL (by simp)
 refine Vc.seq (Vc.seq (Vc.region hG rfl (by trivial) ?_))
 refine Vc.cond rfl (fun h0 => ?_) (fun h0 => ?_)
 · have hl : i < (List.length a1 : Int) := of_decide_eq_true h0
   have hE : List.length (List.getD a1 i.toNat (dflt TPiece)).2.1 ≤ 1048576 := (hp.2 _ (upElem hI.1 hl)).2.1.1
   refine Vc.skip (Vc.seq (Vc.block ?_))
   refine Vc.regionD mixed hG rfl (by kernel_rfl) ?_ ?_
   · exact ⟨gsRange hI hl, gsRange hI hl, gsRange hI hl, (show 2 + List.length (List.getD a1 i.toNat (dflt TPiece)).2.1 ≤ maxApp from by unfold maxApp; omega), (show List.length (List.getD a1 i.toNat (dflt TPiece)).2.1 + 2 ≤ 1000000000 from by omega), (show List.length acc + 1 ≤ maxApp from by unfold maxApp; omega)⟩
   refine Vc.region hG rfl (by trivial) ?_
   refine ⟨rfl, ?_⟩
   exact gsStep hI hl hb rfl
 · have hl : ¬ i < (List.length a1 : Int) := of_decide_eq_false h0
   refine Vc.exit (Vc.seq ?_)
   refine Vc.region hG rfl ?_ ?_
   · exact (show List.length acc ≤ 1000000000 from by omega)
   refine Vc.ret ?_
   refine ⟨?_, trivial⟩
   have e := congrArg (digestF a0) (gsEnd hI hl)
   exact e
noncomputable def F347 : Fun := ⟨[.int .i64, .int .i64, .slice Y15, .int .i64], [.pure (.int .i64)], fun x => (fun (_ _ : Int) (l : List Piece) (_ : Int) => Sm big20 (.slice TPiece) l) x.1 x.2.1 x.2.2.1 x.2.2.2.1, fun x => (leafOfF x.1 x.2.1 x.2.2.1 x.2.2.2.1, ())⟩
theorem F347_ok : Meets Tryz.prog 347 F347 := by
 refine meets_of_vc (C := mkC 17 [8] [0,1,2,3,8] [⟨362, _, F362_ok⟩, ⟨138, _, F138_ok⟩]) (mkC_ok _ _ _ _) (fnOf_ok _) Tryz.func347 rfl rfl rfl (by decide) rfl ?_
 rintro ⟨(a0 : Int), (a1 : Int), a2, (a3 : Int), _⟩ hwf hpre ⟨P, C, B, X, w0, M0, pv⟩ hG rfl rfl
 show Vc _ _ [(0, ⟨0, 0, .c (.pure (.int .i64)) a0⟩), (1, ⟨0, 0, .c (.pure (.int .i64)) a1⟩), (2, ⟨0, 0, .c Z23 a2⟩), (3, ⟨0, 0, .c (.pure (.int .i64)) a3⟩)] _
 have hp : Sm big20 (.slice TPiece) a2 := hpre
 refine Vc.seq (Vc.region hG rfl (by trivial) (Vc.seq ?_))
 refine Vc.region hG rfl ?_ ?_
 · exact ⟨hp, smallLit (n := 4) rfl (by decide)⟩
 refine Vc.ret ?_
 refine ⟨?_, trivial⟩
 all_goals exact rfl
noncomputable def F316 : Fun := ⟨[.pair Y20 Y49, .slice (.int .i64), .int .i64], [.pure (.int .i64)], fun x => (fun (s : Strand) (_ : List Int) (_ : Int) => Sm big20 (.slice TPiece) s.1 ∧ ∀ r ∈ s.2, Sm big20 TRen r) x.1 x.2.1 x.2.2.1, fun x => (leafAtF x.1 x.2.1 x.2.2.1, ())⟩
theorem F316_ok : Meets Tryz.prog 316 F316 := by
 refine meets_of_vc (C := mkC 69 [6] [0,1,2,3,6,7,8,36,44] [⟨172, _, F172_ok⟩, ⟨346, _, F346_ok⟩, ⟨347, _, F347_ok⟩]) (mkC_ok _ _ _ _) (fnOf_ok _) Tryz.func316 rfl rfl rfl (by decide) rfl ?_
 rintro ⟨a0, a1, (a2 : Int), _⟩ hwf hpre ⟨P, C, B, X, w0, M0, pv⟩ hG rfl rfl
 show Vc _ _ [(0, ⟨0, 0, .c Z53 a0⟩), (1, ⟨0, 0, .c Z3 a1⟩), (2, ⟨0, 0, .c (.pure (.int .i64)) a2⟩)] _
 have hP : Sm big20 (.slice TPiece) a0.1 := hpre.1
 have hR : ∀ r ∈ a0.2, Sm big20 TRen r := hpre.2
 have hb : List.length a0.2 ≤ bigLen := hwf.1.2.1
 refine Vc.seq (Vc.region hG rfl (by trivial) (Vc.seq (Vc.seq ?_)))
 refine Vc.regionD mixed hG rfl (by kernel_rfl) ?_ ?_
 · exact ⟨trivial, fun h => laIdx (orF h).1 hb, fun _ => trivial⟩
 refine Vc.cond rfl (fun h0 => ?_) (fun h0 => ?_)
 · have g0 : leafAtBad a0 a1 a2 = true := h0
   refine Vc.seq (Vc.region hG rfl (by trivial) (Vc.ret ?_))
   refine ⟨?_, trivial⟩
   exact la0 g0
 · have g0 : leafAtBad a0 a1 a2 = false := h0
   have k1 := laIdx (orF (orF g0).1).1 hb
   have k2 : (List.length a1 : Int) = (List.length a0.2 : Int) := bneI (orF (orF g0).1).2
   have k3 := rg (orF g0).2
   have k4 : inRange a2 (List.length a1) := ⟨k1.1, by have := k1.2; omega⟩
   refine Vc.skip (Vc.seq ?_)
   refine Vc.region hG rfl ?_ ?_
   · exact k1
   refine Vc.seq (Vc.region hG rfl (by trivial) (Vc.seq (Vc.seq ?_)))
   refine Vc.region hG rfl (by trivial) ?_
   refine Vc.cond rfl (fun h1 => ?_) (fun h1 => ?_)
   · have g1 : a2 > 0 := of_decide_eq_true h1
     refine Vc.region hG rfl ?_ ?_
     · exact ⟨prevIdx k1 g1 hb, hR _ (getD_mem (prevIdx k1 g1 hb) (dflt TRen))⟩
     refine Vc.seq ?_
     refine Vc.regionD mixed hG rfl (by kernel_rfl) ?_ ?_
     · exact ⟨k4, k1, Int.le_refl _, k3.1, k3.2, subL_sm hP⟩
     refine Vc.ret ?_
     refine ⟨?_, trivial⟩
     exact la1 g0 g1
   · have g1 : ¬ a2 > 0 := of_decide_eq_false h1
     refine Vc.skip (Vc.seq ?_)
     refine Vc.regionD mixed hG rfl (by kernel_rfl) ?_ ?_
     · exact ⟨k4, k1, Int.le_refl _, k3.1, k3.2, subL_sm hP⟩
     refine Vc.ret ?_
     refine ⟨?_, trivial⟩
     exact la2 g0 g1
noncomputable def P318 : PFun := ⟨.pure Y13, [.int .i64], [.own (.pure (.int .i64))], fun x xs => (fun c (m : Int) => curOk c ∧ 0 < m ∧ m ≤ 1000) x xs.1, fun x xs => (leavesD x xs.1).2, fun x xs => ((leavesD x xs.1).1, ())⟩
theorem P318_ok : MeetsP Tryz.prog 318 P318 := by
 refine meetsP_of_vc (C := mkCP 21 [4] [0,1,4,5,6,12] [] [] [] [⟨67, _, P67_ok⟩] [0]) (mkCP_ok _ _ _ _ _ _ _ _) (fnOf_ok _) Tryz.func318 rfl rfl rfl (by decide) rfl rfl rfl ?_ rfl
 rintro c ⟨(a1 : Int), _⟩ hwc hwf hpre ⟨P, C, B, X, w0, M0, pv⟩ hG rfl rfl
 show Vc _ _ [(0, ⟨0, 0, .c (.ref Z17) c⟩), (1, ⟨0, 0, .c (.pure (.int .i64)) a1⟩)] _
 refine Vc.seq (Vc.region hG rfl (by trivial) (Vc.seq (Vc.region hG rfl (by trivial) ?_)))
 refine Vc.seq (Vc.seq ?_)
 refine Vc.region hG rfl ?_ ?_
 · exact hpre.1
 refine Vc.block ?_
 refine Vc.loopF [(0, true, .pure Y13), (5, false, .own (.pure (.int .i64))), (6, false, .pure (.int .i64))] [1, 4] (fun v => dnInv leafS ((belowF c a1).2, []) (belowF c a1).1 (v.1, v.2.1) v.2.2.1) (fun v => (v.2.2.1 : Int).toNat) rfl ?_ ?_
 · exact dnStart (belN hpre.2.1 (Int.le_trans hpre.2.2 (by decide)))
 rintro ⟨c2, acc, (i : Int), _⟩ hI
 have hI : dnInv leafS ((belowF c a1).2, []) (belowF c a1).1 (c2, acc) i := hI
 obtain ⟨k, hk, hc2, hlen⟩ := dnP leafP ⟨below_ok hpre.1, rfl⟩ leafS_P hI
 have hlen : List.length acc = k := hlen
 have hc2 : curOk c2 := hc2
 have hn := (belN (c := c) hpre.2.1 (Int.le_trans hpre.2.2 (by decide))).2
 refine Vc.seq (Vc.seq (Vc.region hG rfl (by trivial) ?_))
 refine Vc.cond rfl (fun h0 => ?_) (fun h0 => ?_)
 · have hl : i > 0 := of_decide_eq_true h0
   refine Vc.skip (Vc.seq (Vc.block ?_))
   refine Vc.region hG rfl ?_ ?_
   · exact ⟨hc2, dnApp hlen hk hn⟩
   refine Vc.region hG rfl (by trivial) ?_
   refine ⟨rfl, ?_⟩
   exact dnStep hI hl
 · have hl : ¬ i > 0 := of_decide_eq_false h0
   have hE := dnEnd hI hl
   refine Vc.exit (Vc.seq (Vc.region hG rfl (by trivial) (Vc.ret ?_)))
   have e := leaves_leaf hE
   refine ⟨⟨?_, trivial⟩, ?_, trivial⟩
   · exact (congrArg Prod.snd e).symm
   · exact (congrArg Prod.fst e).symm
noncomputable def F371 : Fun := ⟨[.int .i64, .int .i64, .int .i64], [.pure (.int .i64)], fun _ => True, fun x => (pairDF x.1 x.2.1 x.2.2.1, ())⟩
theorem F371_ok : Meets Tryz.prog 371 F371 := by
 refine meets_of_vc (C := mkC 12 [6] [0,1,2,6] [⟨138, _, F138_ok⟩]) (mkC_ok _ _ _ _) (fnOf_ok _) Tryz.func371 rfl rfl rfl (by decide) rfl ?_
 rintro ⟨(a0 : Int), (a1 : Int), (a2 : Int), _⟩ hwf hpre ⟨P, C, B, X, w0, M0, pv⟩ hG rfl rfl
 show Vc _ _ [(0, ⟨0, 0, .c (.pure (.int .i64)) a0⟩), (1, ⟨0, 0, .c (.pure (.int .i64)) a1⟩), (2, ⟨0, 0, .c (.pure (.int .i64)) a2⟩)] _
 refine Vc.seq (Vc.region hG rfl (by trivial) (Vc.seq ?_))
 refine Vc.region hG rfl ?_ ?_
 · exact smallLit (n := 3) rfl (by decide)
 refine Vc.ret ?_
 refine ⟨?_, trivial⟩
 all_goals exact rfl
noncomputable def F363 : Fun := ⟨[.int .i64, .slice (.int .i64)], [.own (.pure (.int .i64))], fun x => (fun (_ : Int) (l : List Int) => List.length l ≤ 1048576) x.1 x.2.1, fun x => (upF x.1 x.2.1, ())⟩
theorem F363_ok : Meets Tryz.prog 363 F363 := by
 refine meets_of_vc (C := mkC 41 [4] [0,1,4,5,6,11,18] [⟨371, _, F371_ok⟩]) (mkC_ok _ _ _ _) (fnOf_ok _) Tryz.func363 rfl rfl rfl (by decide) rfl ?_
 rintro ⟨(a0 : Int), a1, _⟩ hwf hpre ⟨P, C, B, X, w0, M0, pv⟩ hG rfl rfl
 show Vc _ _ [(0, ⟨0, 0, .c (.pure (.int .i64)) a0⟩), (1, ⟨0, 0, .c Z3 a1⟩)] _
 have hs : List.length a1 ≤ 1048576 := hpre
 refine Vc.seq (Vc.region hG rfl (by trivial) (Vc.seq (Vc.region hG rfl (by trivial) ?_)))
 refine Vc.seq (Vc.seq (Vc.region hG rfl (by trivial) (Vc.block ?_)))
 refine Vc.loopF [(5, false, .own (.pure (.int .i64))), (6, false, .pure (.int .i64))] [0, 1, 4] (fun v => liInv a0 a1 v.1 v.2.1) (fun v => ((List.length a1 : Int) - v.2.1).toNat) rfl ?_ ?_
 · exact liStart
 rintro ⟨out, (i : Int), _⟩ hI
 have hI : liInv a0 a1 out i := hI
 refine Vc.seq (Vc.seq (Vc.region hG rfl (by trivial) ?_))
 refine Vc.cond rfl (fun h0 => ?_) (fun h0 => ?_)
 · have hl : i < (List.length a1 : Int) := of_decide_eq_true h0
   refine Vc.skip (Vc.seq (Vc.block (Vc.seq ?_)))
   refine Vc.region hG rfl (by trivial) ?_
   refine Vc.cond rfl (fun h1 => ?_) (fun h1 => ?_)
   · have g1 : IntKind.i64.wrap (i + 1) < (List.length a1 : Int) := of_decide_eq_true h1
     refine Vc.regionD mixed hG rfl (by kernel_rfl) ?_ ?_
     · exact ⟨liRange hI hl, liRange1 hI g1 hs hl, trivial, liLen hI hs hl⟩
     refine Vc.region hG rfl (by trivial) ?_
     refine ⟨rfl, ?_⟩
     first
       | exact li2 hI hl hs g1
       | exact li1 hI hl hs g1
   · have g1 : ¬ IntKind.i64.wrap (i + 1) < (List.length a1 : Int) := of_decide_eq_false h1
     refine Vc.region hG rfl ?_ ?_
     · exact ⟨liRange hI hl, liLen hI hs hl⟩
     refine Vc.region hG rfl (by trivial) ?_
     refine ⟨rfl, ?_⟩
     first
       | exact li2 hI hl hs g1
       | exact li1 hI hl hs g1
 · have hl : ¬ i < (List.length a1 : Int) := of_decide_eq_false h0
   refine Vc.exit (Vc.seq (Vc.region hG rfl (by trivial) (Vc.ret ?_)))
   refine ⟨?_, trivial⟩
   exact liEnd hI hl
noncomputable def F348 : Fun := ⟨[.int .i64, .slice (.int .i64)], [.pure (.int .i64)], fun _ => True, fun x => (treeF x.1 x.2.1, ())⟩
theorem F348_ok : Meets Tryz.prog 348 F348 := by
 refine meets_of_vc (C := mkC 22 [4] [0,1,4,5,9,15] [⟨172, _, F172_ok⟩, ⟨363, _, F363_ok⟩]) (mkC_ok _ _ _ _) (fnOf_ok _) Tryz.func348 rfl rfl rfl (by decide) rfl ?_
 rintro ⟨(a0 : Int), a1, _⟩ hwf hpre ⟨P, C, B, X, w0, M0, pv⟩ hG rfl rfl
 show Vc _ _ [(0, ⟨0, 0, .c (.pure (.int .i64)) a0⟩), (1, ⟨0, 0, .c Z3 a1⟩)] _
 refine Vc.seq (Vc.region hG rfl (by trivial) (Vc.seq (Vc.seq ?_)))
 refine Vc.region hG rfl (by trivial) ?_
 refine Vc.cond rfl (fun h0 => ?_) (fun h0 => ?_)
 · have g0 : (!(inRangeF (List.length a1 : Int) 1 16)) = true := h0
   refine Vc.seq (Vc.region hG rfl (by trivial) (Vc.ret ?_))
   refine ⟨?_, trivial⟩
   exact tree0 g0
 · have g0 : (!(inRangeF (List.length a1 : Int) 1 16)) = false := h0
   have gr := rg g0
   refine Vc.skip (Vc.seq ?_)
   refine Vc.region hG rfl ?_ ?_
   · show 0 + List.length a1 ≤ maxApp
     unfold maxApp
     omega
   refine Vc.seq (Vc.block ?_)
   refine Vc.loopF [(5, false, .own (.pure (.int .i64)))] [0, 1, 4, 9] (fun v => trInv a0 a1 v.1) (fun v => List.length v.1) rfl ?_ ?_
   · exact trStart gr
   rintro ⟨l, _⟩ hI
   have hI : trInv a0 a1 l := hI
   refine Vc.seq (Vc.seq (Vc.region hG rfl (by trivial) ?_))
   refine Vc.cond rfl (fun h1 => ?_) (fun h1 => ?_)
   · have g1 : (List.length l : Int) > 1 := of_decide_eq_true h1
     refine Vc.skip (Vc.block ?_)
     refine Vc.region hG rfl ?_ ?_
     · exact trSmall hI
     refine ⟨rfl, ?_⟩
     exact trStep hI g1
   · have g1 : ¬ (List.length l : Int) > 1 := of_decide_eq_false h1
     refine Vc.exit (Vc.seq ?_)
     refine Vc.region hG rfl ?_ ?_
     · exact trIdx hI
     refine Vc.ret ?_
     refine ⟨?_, trivial⟩
     exact trEnd hI g1 g0
noncomputable def F349 : Fun := ⟨[.int .i64, .slice (.int .i64), .int .i64], [.own Z5], fun _ => True, fun x => (pathF x.1 x.2.1 x.2.2.1, ())⟩
theorem F349_ok : Meets Tryz.prog 349 F349 := by
 refine meets_of_vc (C := mkC 60 [6] [0,1,2,6,7,8,20,27,30,44] [⟨172, _, F172_ok⟩, ⟨363, _, F363_ok⟩]) (mkC_ok _ _ _ _) (fnOf_ok _) Tryz.func349 rfl rfl rfl (by decide) rfl ?_
 rintro ⟨(a0 : Int), a1, (a2 : Int), _⟩ hwf hpre ⟨P, C, B, X, w0, M0, pv⟩ hG rfl rfl
 show Vc _ _ [(0, ⟨0, 0, .c (.pure (.int .i64)) a0⟩), (1, ⟨0, 0, .c Z3 a1⟩), (2, ⟨0, 0, .c (.pure (.int .i64)) a2⟩)] _
 have hb : List.length a1 ≤ bigLen := hwf.2.1.1
 refine Vc.seq (Vc.region hG rfl (by trivial) (Vc.seq (Vc.region hG rfl (by trivial) ?_)))
 refine Vc.seq (Vc.seq ?_)
 refine Vc.region hG rfl ?_ ?_
 · repeat' (first | exact trivial | refine And.intro ?_ ?_ | intro _)
 refine Vc.cond rfl (fun h0 => ?_) (fun h0 => ?_)
 · have g0 := pt0s (m := a0) (i := a2) (l := a1) hb h0
   refine Vc.seq (Vc.region hG rfl (by trivial) (Vc.ret ?_))
   refine ⟨?_, trivial⟩
   exact g0
 · have g0 := ptGos (i := a2) (l := a1) hb h0
   refine Vc.skip (Vc.seq ?_)
   refine Vc.region hG rfl ?_ ?_
   · show 0 + List.length a1 ≤ maxApp
     unfold maxApp
     have := g0.2.2
     omega
   refine Vc.seq (Vc.block ?_)
   refine Vc.loopF [(2, false, .pure (.int .i64)), (7, false, .own Z5), (8, false, .own (.pure (.int .i64)))] [0, 1, 6, 20] (fun v => ptInv a0 a1 a2 v.2.2.1 v.1 v.2.1) (fun v => List.length v.2.2.1) rfl ?_ ?_
   · exact ptStart g0
   rintro ⟨(i : Int), out, l, _⟩ hI
   have hI : ptInv a0 a1 a2 l i out := hI
   refine Vc.seq (Vc.seq (Vc.region hG rfl (by trivial) ?_))
   refine Vc.cond rfl (fun h1 => ?_) (fun h1 => ?_)
   · have g1 : (List.length l : Int) > 1 := of_decide_eq_true h1
     refine Vc.skip (Vc.block (Vc.seq (Vc.seq ?_)))
     refine Vc.region hG rfl ?_ ?_
     · show (2 : Int) ≠ 0
       decide
     refine Vc.cond rfl (fun h2 => ?_) (fun h2 => ?_)
     · have g2 : (i.tmod 2 == 1) = true := h2
       have r1 := (ptOdd hI.2.1 hI.2.2.1 hI.2.2.2.1 g2).2
       have st := ptA hI g1 g2
       refine Vc.region hG rfl ?_ ?_
       · exact ⟨r1, ptLen hI⟩
       refine Vc.seq ?_
       refine Vc.region hG rfl ?_ ?_
       · exact ptSm hI
       refine Vc.region hG rfl ?_ ?_
       · show (2 : Int) ≠ 0
         decide
       refine ⟨rfl, ?_⟩
       exact st
     · have g2 : (i.tmod 2 == 1) = false := h2
       refine Vc.seq (Vc.region hG rfl (by trivial) ?_)
       refine Vc.cond rfl (fun h3 => ?_) (fun h3 => ?_)
       · have g3 : IntKind.i64.wrap (i + 1) < (List.length l : Int) := of_decide_eq_true h3
         have r2 := (ptEven hI.2.1 hI.2.2.1 hI.2.2.2.1 g2 g3).2
         have st := ptB hI g1 g2 g3
         refine Vc.region hG rfl ?_ ?_
         · exact ⟨r2, ptLen hI⟩
         refine Vc.seq ?_
         refine Vc.region hG rfl ?_ ?_
         · exact ptSm hI
         refine Vc.region hG rfl ?_ ?_
         · show (2 : Int) ≠ 0
           decide
         refine ⟨rfl, ?_⟩
         exact st
       · have g3 : ¬ IntKind.i64.wrap (i + 1) < (List.length l : Int) := of_decide_eq_false h3
         have st := ptC hI g1 g2 g3
         refine Vc.skip (Vc.seq ?_)
         refine Vc.region hG rfl ?_ ?_
         · exact ptSm hI
         refine Vc.region hG rfl ?_ ?_
         · show (2 : Int) ≠ 0
           decide
         refine ⟨rfl, ?_⟩
         exact st
   · have g1 : ¬ (List.length l : Int) > 1 := of_decide_eq_false h1
     refine Vc.exit (Vc.seq (Vc.region hG rfl (by trivial) (Vc.ret ?_)))
     refine ⟨?_, trivial⟩
     exact ptEnd hI g1 g0
noncomputable def F317 : Fun := ⟨[.slice Y26, .slice Y10, .int .i64, .int .i64, .slice (.int .i64), .int .i64, .slice (.int .i64), .int .i64, .int .i64], [.pair (.pure (.int .i64)) Z47], fun x => (fun (_ : List Key) (_ : List Authority) (_ _ : Int) (o : List Int) (_ : Int) (ids : List Int) (_ _ : Int) => List.length o ≤ 1000 ∧ List.length ids ≤ 1000) x.1 x.2.1 x.2.2.1 x.2.2.2.1 x.2.2.2.2.1 x.2.2.2.2.2.1 x.2.2.2.2.2.2.1 x.2.2.2.2.2.2.2.1 x.2.2.2.2.2.2.2.2.1, fun x => (renMakeF x.1 x.2.1 x.2.2.1 x.2.2.2.1 x.2.2.2.2.1 x.2.2.2.2.2.1 x.2.2.2.2.2.2.1 x.2.2.2.2.2.2.2.1 x.2.2.2.2.2.2.2.2.1, ())⟩
theorem F317_ok : Meets Tryz.prog 317 F317 := by
 refine meets_of_vc (C := mkC 71 [18] [0,1,2,3,4,5,6,7,8,18,19,20,21,22,23,45,63] [⟨348, _, F348_ok⟩, ⟨349, _, F349_ok⟩, ⟨74, _, F74_ok⟩]) (mkC_ok _ _ _ _) (fnOf_ok _) Tryz.func317 rfl rfl rfl (by decide) rfl ?_
 rintro ⟨a0, a1, (a2 : Int), (a3 : Int), a4, (a5 : Int), a6, (a7 : Int), (a8 : Int), _⟩ hwf hpre ⟨P, C, B, X, w0, M0, pv⟩ hG rfl rfl
 show Vc _ _ [(0, ⟨0, 0, .c Z30 a0⟩), (1, ⟨0, 0, .c Z18 a1⟩), (2, ⟨0, 0, .c (.pure (.int .i64)) a2⟩), (3, ⟨0, 0, .c (.pure (.int .i64)) a3⟩), (4, ⟨0, 0, .c Z3 a4⟩), (5, ⟨0, 0, .c (.pure (.int .i64)) a5⟩), (6, ⟨0, 0, .c Z3 a6⟩), (7, ⟨0, 0, .c (.pure (.int .i64)) a7⟩), (8, ⟨0, 0, .c (.pure (.int .i64)) a8⟩)] _
 have hs : List.length a6 ≤ 1048576 := Nat.le_trans hpre.2 (by decide)
 have hb : List.length a6 ≤ bigLen := Nat.le_trans hpre.2 (by decide)
 have ho : List.length a4 ≤ 1000 := hpre.1
 refine Vc.seq (Vc.region hG rfl (by trivial) (Vc.seq ?_))
 refine Vc.region hG rfl ?_ ?_
 · exact rmApp ho
 refine Vc.seq (Vc.region hG rfl (by trivial) (Vc.seq (Vc.seq ?_)))
 refine Vc.region hG rfl (by trivial) (Vc.block ?_)
 refine Vc.loopF [(20, true, .pair (.pure (.int .i64)) Z47), (21, false, .pure (.int .i64))] [0, 1, 2, 3, 4, 5, 6, 7, 8, 18, 19] (fun v => ∃ acc, v.1 = rmBase a2 a3 a4 a5 acc ∧ pkInv (rmG a0 a1 a2 a3 a4 a7 a8) a6 acc v.2.1) (fun v => ((List.length a6 : Int) - v.2.1).toNat) rfl ?_ ?_
 · exact ⟨[], rfl, pkStart⟩
 rintro ⟨r, (i : Int), _⟩ ⟨acc, e0, hI⟩
 have e0 : r = rmBase a2 a3 a4 a5 acc := e0
 subst e0
 have hI : pkInv (rmG a0 a1 a2 a3 a4 a7 a8) a6 acc i := hI
 refine Vc.seq (Vc.seq (Vc.region hG rfl (by trivial) ?_))
 refine Vc.cond rfl (fun h0 => ?_) (fun h0 => ?_)
 · have hl : i < (List.length a6 : Int) := of_decide_eq_true h0
   refine Vc.skip (Vc.seq (Vc.block (Vc.seq ?_)))
   refine Vc.regionD mixed hG rfl (by kernel_rfl) ?_ ?_
   · repeat' (first | exact trivial | exact pkRange hI hl | refine And.intro ?_ ?_ | intro _)
   refine Vc.seq (Vc.region hG rfl (by trivial) ?_)
   refine Vc.cond rfl (fun h1 => ?_) (fun h1 => ?_)
   · have g1 : ((rmG a0 a1 a2 a3 a4 a7 a8) (List.getD a6 i.toNat (dflt TI))).2 = true := h1
     have st := pkYes (d := dflt TI) hI hl hb g1
     refine Vc.region hG rfl ?_ ?_
     · exact pkLen hI hs
     refine Vc.region hG rfl (by trivial) ?_
     refine ⟨rfl, ?_⟩
     exact ⟨⟨_, rfl, st.1⟩, st.2⟩
   · have g1 : ((rmG a0 a1 a2 a3 a4 a7 a8) (List.getD a6 i.toNat (dflt TI))).2 = false := h1
     have st := pkNo (d := dflt TI) hI hl hb g1
     refine Vc.skip (Vc.region hG rfl (by trivial) ?_)
     refine ⟨rfl, ?_⟩
     exact ⟨⟨_, rfl, st.1⟩, st.2⟩
 · have hl : ¬ i < (List.length a6 : Int) := of_decide_eq_false h0
   refine Vc.exit (Vc.seq (Vc.region hG rfl (by trivial) (Vc.ret ?_)))
   refine ⟨?_, trivial⟩
   exact congrArg (rmBase a2 a3 a4 a5) (pkEnd hI hl)
noncomputable def P247 : PFun := ⟨.pure Y13, [.pair Y20 Y49, .pair (.int .i64) Y9, .int .i64, .int .i64], [.pure Y52], fun x xs => (fun c (s : Strand) (_ : Doc) (_ _ : Int) => curOk c ∧ Sm big20 Y52 s) x xs.1 xs.2.1 xs.2.2.1 xs.2.2.2.1, fun x xs => (renewD x xs.1 xs.2.1 xs.2.2.1 xs.2.2.2.1).2, fun x xs => ((renewD x xs.1 xs.2.1 xs.2.2.1 xs.2.2.2.1).1, ())⟩
theorem P247_ok : MeetsP Tryz.prog 247 P247 := by
 refine meetsP_of_vc (C := mkCP 66 [10] [0,1,2,3,4,6,7,10,11,12,13,14,15,16,30,43] [⟨315, _, F315_ok⟩, ⟨135, _, F135_ok⟩, ⟨316, _, F316_ok⟩, ⟨69, _, F69_ok⟩, ⟨70, _, F70_ok⟩, ⟨317, _, F317_ok⟩] [] [] [⟨73, _, P73_ok⟩, ⟨318, _, P318_ok⟩, ⟨67, _, P67_ok⟩] [0]) (mkCP_ok _ _ _ _ _ _ _ _) (fnOf_ok _) Tryz.func247 rfl rfl rfl (by decide) rfl rfl rfl ?_ rfl
 rintro c ⟨a1, a2, (a3 : Int), (a4 : Int), _⟩ hwc hwf hpre ⟨P, C, B, X, w0, M0, pv⟩ hG rfl rfl
 show Vc _ _ [(0, ⟨0, 0, .c (.ref Z17) c⟩), (1, ⟨0, 0, .c Z53 a1⟩), (2, ⟨0, 0, .c Z22 a2⟩), (3, ⟨0, 0, .c (.pure (.int .i64)) a3⟩), (4, ⟨0, 0, .c (.pure (.int .i64)) a4⟩)] _
 have hc : curOk c := hpre.1
 have hs : Sm big20 TStrand a1 := hpre.2
 refine Vc.seq (Vc.region hG rfl (by trivial) (Vc.seq (Vc.region hG rfl (by trivial) ?_)))
 refine Vc.seq ?_
 refine Vc.region hG rfl ?_ ?_
 · repeat' (first | exact trivial | exact hc | exact once_ok hc | exact hs | exact renQ_sm _ _ | exact long_len hs | exact long_sm hs | exact (long_sm hs).1 | exact (long_sm hs).2.2 | exact leaves_ok (once_ok hc) | exact leaves_len (once_ok hc) (by decide) | exact (Nat.le_of_ble_eq_true rfl : (4 : Nat) ≤ 1000) | exact (Nat.le_of_ble_eq_true rfl : (3 : Nat) ≤ 1000) | exact renNew_sm (Nat.le_of_ble_eq_true rfl) | exact (by decide : (0 : Int) < 4) | exact (by decide : (4 : Int) ≤ 1000) | refine And.intro ?_ ?_ | intro _)
 refine Vc.seq (Vc.seq (Vc.region hG rfl (by trivial) ?_))
 refine Vc.cond rfl (fun h0 => ?_) (fun h0 => ?_)
 · refine Vc.seq (Vc.region hG rfl (by trivial) ?_)
   refine Vc.frz 10 rfl ?_
   refine Vc.ret ?_
   have e : renewD c a1 a2 a3 a4 = _ := ((renew_eq c a1 a2 a3 a4).trans (cT h0))
   refine ⟨⟨?_, trivial⟩, ?_, trivial⟩
   · exact (congrArg Prod.snd e).symm
   · exact (congrArg (fun r => r.1) e).symm
 · refine Vc.skip (Vc.seq ?_)
   refine Vc.regionD mixed hG rfl (by kernel_rfl) ?_ ?_
   · repeat' (first | exact trivial | exact hc | exact once_ok hc | exact hs | exact renQ_sm _ _ | exact long_len hs | exact long_sm hs | exact (long_sm hs).1 | exact (long_sm hs).2.2 | exact leaves_ok (once_ok hc) | exact leaves_len (once_ok hc) (by decide) | exact (Nat.le_of_ble_eq_true rfl : (4 : Nat) ≤ 1000) | exact (Nat.le_of_ble_eq_true rfl : (3 : Nat) ≤ 1000) | exact renNew_sm (Nat.le_of_ble_eq_true rfl) | exact (by decide : (0 : Int) < 4) | exact (by decide : (4 : Int) ≤ 1000) | refine And.intro ?_ ?_ | intro _)
   refine Vc.seq (Vc.region hG rfl (by trivial) (Vc.seq (Vc.seq ?_)))
   refine Vc.region hG rfl ?_ ?_
   · repeat' (first | exact trivial | exact hc | exact once_ok hc | exact hs | exact renQ_sm _ _ | exact long_len hs | exact long_sm hs | exact (long_sm hs).1 | exact (long_sm hs).2.2 | exact leaves_ok (once_ok hc) | exact leaves_len (once_ok hc) (by decide) | exact (Nat.le_of_ble_eq_true rfl : (4 : Nat) ≤ 1000) | exact (Nat.le_of_ble_eq_true rfl : (3 : Nat) ≤ 1000) | exact renNew_sm (Nat.le_of_ble_eq_true rfl) | exact (by decide : (0 : Int) < 4) | exact (by decide : (4 : Int) ≤ 1000) | refine And.intro ?_ ?_ | intro _)
   refine Vc.cond rfl (fun h1 => ?_) (fun h1 => ?_)
   · refine Vc.region hG rfl (by trivial) (Vc.seq ?_)
     refine Vc.regionD mixed hG rfl (by kernel_rfl) ?_ ?_
     · repeat' (first | exact trivial | exact hc | exact once_ok hc | exact hs | exact renQ_sm _ _ | exact long_len hs | exact long_sm hs | exact (long_sm hs).1 | exact (long_sm hs).2.2 | exact leaves_ok (once_ok hc) | exact leaves_len (once_ok hc) (by decide) | exact (Nat.le_of_ble_eq_true rfl : (4 : Nat) ≤ 1000) | exact (Nat.le_of_ble_eq_true rfl : (3 : Nat) ≤ 1000) | exact renNew_sm (Nat.le_of_ble_eq_true rfl) | exact (by decide : (0 : Int) < 4) | exact (by decide : (4 : Int) ≤ 1000) | refine And.intro ?_ ?_ | intro _)
     refine Vc.seq ?_
     refine Vc.region hG rfl ?_ ?_
     · repeat' (first | exact trivial | exact hc | exact once_ok hc | exact hs | exact renQ_sm _ _ | exact long_len hs | exact long_sm hs | exact (long_sm hs).1 | exact (long_sm hs).2.2 | exact leaves_ok (once_ok hc) | exact leaves_len (once_ok hc) (by decide) | exact (Nat.le_of_ble_eq_true rfl : (4 : Nat) ≤ 1000) | exact (Nat.le_of_ble_eq_true rfl : (3 : Nat) ≤ 1000) | exact renNew_sm (Nat.le_of_ble_eq_true rfl) | exact (by decide : (0 : Int) < 4) | exact (by decide : (4 : Int) ≤ 1000) | refine And.intro ?_ ?_ | intro _)
     refine Vc.seq (Vc.region hG rfl (by trivial) ?_)
     refine Vc.frz 10 rfl ?_
     refine Vc.ret ?_
     have e : renewD c a1 a2 a3 a4 = _ := ((renew_eq c a1 a2 a3 a4).trans ((cF h0).trans (cT h1)))
     refine ⟨⟨?_, trivial⟩, ?_, trivial⟩
     · exact (congrArg Prod.snd e).symm
     · exact (congrArg (fun r => r.1) e).symm
   · refine Vc.skip (Vc.seq ?_)
     refine Vc.regionD mixed hG rfl (by kernel_rfl) ?_ ?_
     · repeat' (first | exact trivial | exact hc | exact once_ok hc | exact hs | exact renQ_sm _ _ | exact long_len hs | exact long_sm hs | exact (long_sm hs).1 | exact (long_sm hs).2.2 | exact leaves_ok (once_ok hc) | exact leaves_len (once_ok hc) (by decide) | exact (Nat.le_of_ble_eq_true rfl : (4 : Nat) ≤ 1000) | exact (Nat.le_of_ble_eq_true rfl : (3 : Nat) ≤ 1000) | exact renNew_sm (Nat.le_of_ble_eq_true rfl) | exact (by decide : (0 : Int) < 4) | exact (by decide : (4 : Int) ≤ 1000) | refine And.intro ?_ ?_ | intro _)
     refine Vc.seq ?_
     refine Vc.region hG rfl ?_ ?_
     · repeat' (first | exact trivial | exact hc | exact once_ok hc | exact hs | exact renQ_sm _ _ | exact long_len hs | exact long_sm hs | exact (long_sm hs).1 | exact (long_sm hs).2.2 | exact leaves_ok (once_ok hc) | exact leaves_len (once_ok hc) (by decide) | exact (Nat.le_of_ble_eq_true rfl : (4 : Nat) ≤ 1000) | exact (Nat.le_of_ble_eq_true rfl : (3 : Nat) ≤ 1000) | exact renNew_sm (Nat.le_of_ble_eq_true rfl) | exact (by decide : (0 : Int) < 4) | exact (by decide : (4 : Int) ≤ 1000) | refine And.intro ?_ ?_ | intro _)
     refine Vc.seq (Vc.region hG rfl (by trivial) ?_)
     refine Vc.frz 10 rfl ?_
     refine Vc.ret ?_
     have e : renewD c a1 a2 a3 a4 = _ := ((renew_eq c a1 a2 a3 a4).trans ((cF h0).trans (cF h1)))
     refine ⟨⟨?_, trivial⟩, ?_, trivial⟩
     · exact (congrArg Prod.snd e).symm
     · exact (congrArg (fun r => r.1) e).symm
noncomputable def P247o : PFun := ⟨.pure Y13, [.pair Y20 Y49, .pair (.int .i64) Y9, .int .i64, .int .i64], [.pair Z25 Z51], fun x xs => (fun c (s : Strand) (_ : Doc) (m _ : Int) => (curOk c ∧ Sm big20 Y52 s) ∧ (longF s m).2 = true) x xs.1 xs.2.1 xs.2.2.1 xs.2.2.2.1, fun x xs => (renewD x xs.1 xs.2.1 xs.2.2.1 xs.2.2.2.1).2, fun x xs => ((renewD x xs.1 xs.2.1 xs.2.2.1 xs.2.2.2.1).1, ())⟩
theorem P247o_ok : MeetsP Tryz.prog 247 P247o := by
 refine meetsP_of_vc (C := mkCP 66 [10] [0,1,2,3,4,6,7,10,11,12,13,14,15,16,30,43] [⟨315, _, F315_ok⟩, ⟨135, _, F135_ok⟩, ⟨316, _, F316_ok⟩, ⟨69, _, F69_ok⟩, ⟨70, _, F70_ok⟩, ⟨317, _, F317_ok⟩] [] [] [⟨73, _, P73_ok⟩, ⟨318, _, P318_ok⟩, ⟨67, _, P67_ok⟩] [0]) (mkCP_ok _ _ _ _ _ _ _ _) (fnOf_ok _) Tryz.func247 rfl rfl rfl (by decide) rfl rfl rfl ?_ rfl
 rintro c ⟨a1, a2, (a3 : Int), (a4 : Int), _⟩ hwc hwf hpre ⟨P, C, B, X, w0, M0, pv⟩ hG rfl rfl
 show Vc _ _ [(0, ⟨0, 0, .c (.ref Z17) c⟩), (1, ⟨0, 0, .c Z53 a1⟩), (2, ⟨0, 0, .c Z22 a2⟩), (3, ⟨0, 0, .c (.pure (.int .i64)) a3⟩), (4, ⟨0, 0, .c (.pure (.int .i64)) a4⟩)] _
 have hc : curOk c := hpre.1.1
 have hs : Sm big20 TStrand a1 := hpre.1.2
 refine Vc.seq (Vc.region hG rfl (by trivial) (Vc.seq (Vc.region hG rfl (by trivial) ?_)))
 refine Vc.seq ?_
 refine Vc.region hG rfl ?_ ?_
 · repeat' (first | exact trivial | exact hc | exact once_ok hc | exact hs | exact renQ_sm _ _ | exact long_len hs | exact long_sm hs | exact (long_sm hs).1 | exact (long_sm hs).2.2 | exact leaves_ok (once_ok hc) | exact leaves_len (once_ok hc) (by decide) | exact (Nat.le_of_ble_eq_true rfl : (4 : Nat) ≤ 1000) | exact (Nat.le_of_ble_eq_true rfl : (3 : Nat) ≤ 1000) | exact renNew_sm (Nat.le_of_ble_eq_true rfl) | exact (by decide : (0 : Int) < 4) | exact (by decide : (4 : Int) ≤ 1000) | refine And.intro ?_ ?_ | intro _)
 refine Vc.seq (Vc.seq (Vc.region hG rfl (by trivial) ?_))
 refine Vc.cond rfl (fun h0 => ?_) (fun h0 => ?_)
 · exact (loElim hpre.2 h0).elim
 · refine Vc.skip (Vc.seq ?_)
   refine Vc.regionD mixed hG rfl (by kernel_rfl) ?_ ?_
   · repeat' (first | exact trivial | exact hc | exact once_ok hc | exact hs | exact renQ_sm _ _ | exact long_len hs | exact long_sm hs | exact (long_sm hs).1 | exact (long_sm hs).2.2 | exact leaves_ok (once_ok hc) | exact leaves_len (once_ok hc) (by decide) | exact (Nat.le_of_ble_eq_true rfl : (4 : Nat) ≤ 1000) | exact (Nat.le_of_ble_eq_true rfl : (3 : Nat) ≤ 1000) | exact renNew_sm (Nat.le_of_ble_eq_true rfl) | exact (by decide : (0 : Int) < 4) | exact (by decide : (4 : Int) ≤ 1000) | refine And.intro ?_ ?_ | intro _)
   refine Vc.seq (Vc.region hG rfl (by trivial) (Vc.seq (Vc.seq ?_)))
   refine Vc.region hG rfl ?_ ?_
   · repeat' (first | exact trivial | exact hc | exact once_ok hc | exact hs | exact renQ_sm _ _ | exact long_len hs | exact long_sm hs | exact (long_sm hs).1 | exact (long_sm hs).2.2 | exact leaves_ok (once_ok hc) | exact leaves_len (once_ok hc) (by decide) | exact (Nat.le_of_ble_eq_true rfl : (4 : Nat) ≤ 1000) | exact (Nat.le_of_ble_eq_true rfl : (3 : Nat) ≤ 1000) | exact renNew_sm (Nat.le_of_ble_eq_true rfl) | exact (by decide : (0 : Int) < 4) | exact (by decide : (4 : Int) ≤ 1000) | refine And.intro ?_ ?_ | intro _)
   refine Vc.cond rfl (fun h1 => ?_) (fun h1 => ?_)
   · refine Vc.region hG rfl (by trivial) (Vc.seq ?_)
     refine Vc.regionD mixed hG rfl (by kernel_rfl) ?_ ?_
     · repeat' (first | exact trivial | exact hc | exact once_ok hc | exact hs | exact renQ_sm _ _ | exact long_len hs | exact long_sm hs | exact (long_sm hs).1 | exact (long_sm hs).2.2 | exact leaves_ok (once_ok hc) | exact leaves_len (once_ok hc) (by decide) | exact (Nat.le_of_ble_eq_true rfl : (4 : Nat) ≤ 1000) | exact (Nat.le_of_ble_eq_true rfl : (3 : Nat) ≤ 1000) | exact renNew_sm (Nat.le_of_ble_eq_true rfl) | exact (by decide : (0 : Int) < 4) | exact (by decide : (4 : Int) ≤ 1000) | refine And.intro ?_ ?_ | intro _)
     refine Vc.seq ?_
     refine Vc.region hG rfl ?_ ?_
     · repeat' (first | exact trivial | exact hc | exact once_ok hc | exact hs | exact renQ_sm _ _ | exact long_len hs | exact long_sm hs | exact (long_sm hs).1 | exact (long_sm hs).2.2 | exact leaves_ok (once_ok hc) | exact leaves_len (once_ok hc) (by decide) | exact (Nat.le_of_ble_eq_true rfl : (4 : Nat) ≤ 1000) | exact (Nat.le_of_ble_eq_true rfl : (3 : Nat) ≤ 1000) | exact renNew_sm (Nat.le_of_ble_eq_true rfl) | exact (by decide : (0 : Int) < 4) | exact (by decide : (4 : Int) ≤ 1000) | refine And.intro ?_ ?_ | intro _)
     refine Vc.seq (Vc.region hG rfl (by trivial) (Vc.ret ?_))
     have e : renewD c a1 a2 a3 a4 = _ := ((renew_eq c a1 a2 a3 a4).trans ((cF h0).trans (cT h1)))
     refine ⟨⟨?_, trivial⟩, ?_, trivial⟩
     · exact (congrArg Prod.snd e).symm
     · exact (congrArg (fun r => r.1) e).symm
   · refine Vc.skip (Vc.seq ?_)
     refine Vc.regionD mixed hG rfl (by kernel_rfl) ?_ ?_
     · repeat' (first | exact trivial | exact hc | exact once_ok hc | exact hs | exact renQ_sm _ _ | exact long_len hs | exact long_sm hs | exact (long_sm hs).1 | exact (long_sm hs).2.2 | exact leaves_ok (once_ok hc) | exact leaves_len (once_ok hc) (by decide) | exact (Nat.le_of_ble_eq_true rfl : (4 : Nat) ≤ 1000) | exact (Nat.le_of_ble_eq_true rfl : (3 : Nat) ≤ 1000) | exact renNew_sm (Nat.le_of_ble_eq_true rfl) | exact (by decide : (0 : Int) < 4) | exact (by decide : (4 : Int) ≤ 1000) | refine And.intro ?_ ?_ | intro _)
     refine Vc.seq ?_
     refine Vc.region hG rfl ?_ ?_
     · repeat' (first | exact trivial | exact hc | exact once_ok hc | exact hs | exact renQ_sm _ _ | exact long_len hs | exact long_sm hs | exact (long_sm hs).1 | exact (long_sm hs).2.2 | exact leaves_ok (once_ok hc) | exact leaves_len (once_ok hc) (by decide) | exact (Nat.le_of_ble_eq_true rfl : (4 : Nat) ≤ 1000) | exact (Nat.le_of_ble_eq_true rfl : (3 : Nat) ≤ 1000) | exact renNew_sm (Nat.le_of_ble_eq_true rfl) | exact (by decide : (0 : Int) < 4) | exact (by decide : (4 : Int) ≤ 1000) | refine And.intro ?_ ?_ | intro _)
     refine Vc.seq (Vc.region hG rfl (by trivial) (Vc.ret ?_))
     have e : renewD c a1 a2 a3 a4 = _ := ((renew_eq c a1 a2 a3 a4).trans ((cF h0).trans (cF h1)))
     refine ⟨⟨?_, trivial⟩, ?_, trivial⟩
     · exact (congrArg Prod.snd e).symm
     · exact (congrArg (fun r => r.1) e).symm
end Fw
