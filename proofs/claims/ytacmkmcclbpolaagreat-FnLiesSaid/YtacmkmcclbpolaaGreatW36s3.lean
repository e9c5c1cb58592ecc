/- Walks of functions of the program: what each computes. Conditions: those that each contract names. -/
import Derived.Test.YtacmkmcclbpolaaGreatW36T
import Derived.Test.YtacmkmcclbpolaaGreatW36s0
import Derived.Test.YtacmkmcclbpolaaGreatW36s1
import Derived.Test.YtacmkmcclbpolaaGreatW36s2
namespace Fw
open Go Go.Proofs
set_option linter.unusedSimpArgs false
set_option maxRecDepth 100000
noncomputable def P248 : PFun := ⟨.pure Y13, [], [.pair Z25 Z51, .pure Y16, .pure Y41], fun x _ => curOk x, fun x _ => (strandD x).2, fun x _ => ((strandD x).1.1, (strandD x).1.2.1, (strandD x).1.2.2, ())⟩
theorem P248_ok : MeetsP Tryz.prog 248 P248 := by
 refine meetsP_of_vc (C := mkCP 41 [2, 3, 4] [0,2,3,4,5,6,7,8,9,22] [] [] [] [⟨240, _, P240_ok⟩, ⟨108, _, P108_ok⟩, ⟨67, _, P67_ok⟩, ⟨247, _, P247o_ok⟩] [0]) (mkCP_ok _ _ _ _ _ _ _ _) (fnOf_ok _) Tryz.func248 rfl rfl rfl (by decide) rfl rfl rfl ?_ rfl
 rintro c ⟨_⟩ hwc hwf hpre ⟨P, C, B, X, w0, M0, pv⟩ hG rfl rfl
 show Vc _ _ [(0, ⟨0, 0, .c (.ref Z17) c⟩)] _
 have hc0 : curOk c := hpre
 have hg := signed_P hc0
 refine Vc.seq (Vc.region hG rfl (by trivial) (Vc.seq (Vc.regionT hG rfl (by trivial) ?_)))
 refine Vc.seq ?_
 refine Vc.region hG rfl ?_ ?_
 · exact ⟨hg.2, Nat.succ_pos _⟩
 refine Vc.seq (Vc.seq ?_)
 refine Vc.region hG rfl ?_ ?_
 · exact int_ok hg.2
 refine Vc.block ?_
 refine Vc.frz 6 rfl ?_
 refine Vc.loopF [(0, true, .pure Y13), (5, true, .pair Z25 Z51), (8, false, .pure (.int .i64)), (9, false, .pure (.int .i64))] [2, 3, 4, 6, 7] (fun v => dnInv (drawS (signedD c).1.2.1) ((dr2 c).2, (signedD c).1.1, (dr1 c).1) (dr2 c).1 (v.1, v.2.1, v.2.2.1) v.2.2.2.1) (fun v => (v.2.2.2.1 : Int).toNat) rfl ?_ ?_
 · exact dnStart (dr2_n c)
 rintro ⟨c2, s, (t : Int), (i : Int), _⟩ hI
 have hI : dnInv (drawS (signedD c).1.2.1) ((dr2 c).2, (signedD c).1.1, (dr1 c).1) (dr2 c).1 (c2, s, t) i := hI
 refine Vc.seq (Vc.seq (Vc.region hG rfl (by trivial) ?_))
 refine Vc.cond rfl (fun h0 => ?_) (fun h0 => ?_)
 · have hl : i > 0 := of_decide_eq_true h0
   obtain ⟨hc2, ht2, hlo⟩ := drInv_P hc0 hI hl
   have hs2 := tiny_big ht2
   refine Vc.skip (Vc.seq (Vc.block (Vc.seq ?_)))
   refine Vc.regionD mixed hG rfl (by kernel_rfl) ?_ ?_
   · repeat' (first | exact trivial | exact hc2 | exact below_ok hc2 | exact hs2 | exact hlo _ | refine And.intro ?_ ?_ | intro _)
   refine Vc.region hG rfl ?_ ?_
   · exact ⟨renOk (below_ok hc2) ht2, Nat.succ_pos _⟩
   refine Vc.region hG rfl (by trivial) ?_
   refine ⟨rfl, ?_⟩
   exact dnStep hI hl
 · have hl : ¬ i > 0 := of_decide_eq_false h0
   have hE := dnEnd hI hl
   refine Vc.exit (Vc.seq (Vc.regionD mixed hG rfl (by kernel_rfl) (by trivial) (Vc.ret ?_)))
   have e := strandD_leaf hE
   refine ⟨⟨?_, trivial⟩, ?_, ?_, ?_, trivial⟩
   · exact (congrArg Prod.snd e).symm
   · exact (congrArg (fun r => r.1.1) e).symm
   · exact (congrArg (fun r => r.1.2.1) e).symm
   · exact (congrArg (fun r => r.1.2.2) e).symm
noncomputable def P252 : PFun := ⟨.pure Y13, [], [.pure (.int .i64)], fun x _ => curOk x, fun x _ => (numD x).2, fun x _ => ((numD x).1, ())⟩
theorem P252_ok : MeetsP Tryz.prog 252 P252 := by
 refine meetsP_of_vc (C := mkCP 6 [2] [0,2] [] [] [] [⟨108, _, P108_ok⟩] [0]) (mkCP_ok _ _ _ _ _ _ _ _) (fnOf_ok _) Tryz.func252 rfl rfl rfl (by decide) rfl rfl rfl ?_ rfl
 rintro c ⟨_⟩ hwc hwf hpre ⟨P, C, B, X, w0, M0, pv⟩ hG rfl rfl
 show Vc _ _ [(0, ⟨0, 0, .c (.ref Z17) c⟩)] _
 refine Vc.seq (Vc.region hG rfl (by trivial) (Vc.seq ?_))
 refine Vc.region hG rfl ?_ ?_
 · repeat' (first | exact trivial | exact hpre | exact Nat.succ_pos _ | refine And.intro ?_ ?_ | intro _)
 refine Vc.ret ?_
 refine ⟨⟨?_, trivial⟩, ?_, trivial⟩
 all_goals exact rfl
noncomputable def P181 : PFun := ⟨.pure Y13, [], [.pair (.pure (.int .i64)) Z11], fun x _ => curOk x, fun x _ => (pieceB x).2, fun x _ => ((pieceB x).1, ())⟩
theorem P181_ok : MeetsP Tryz.prog 181 P181 := by
 refine meetsP_of_vc (C := mkCP 45 [2] [0,2,3,7,8,13,20,26,34] [] [] [] [⟨251, _, P251_ok⟩, ⟨67, _, P67_ok⟩, ⟨252, _, P252_ok⟩, ⟨108, _, P108_ok⟩] [0]) (mkCP_ok _ _ _ _ _ _ _ _) (fnOf_ok _) Tryz.func181 rfl rfl rfl (by decide) rfl rfl rfl ?_ rfl
 rintro c ⟨_⟩ hwc hwf hpre ⟨P, C, B, X, w0, M0, pv⟩ hG rfl rfl
 show Vc _ _ [(0, ⟨0, 0, .c (.ref Z17) c⟩)] _
 refine Vc.seq (Vc.region hG rfl (by trivial) (Vc.seq ?_))
 refine Vc.region hG rfl ?_ ?_
 · repeat' (first | exact trivial | exact hpre | exact pieceD_ok hpre | exact bq1_ok hpre | exact Nat.succ_pos _ | exact pd0 c | exact pd1 c | exact pdApp c | refine And.intro ?_ ?_ | intro _)
 refine Vc.seq (Vc.seq ?_)
 refine Vc.region hG rfl ?_ ?_
 · repeat' (first | exact trivial | exact hpre | exact pieceD_ok hpre | exact bq1_ok hpre | exact Nat.succ_pos _ | exact pd0 c | exact pd1 c | exact pdApp c | refine And.intro ?_ ?_ | intro _)
 refine Vc.block (Vc.seq (Vc.region hG rfl (by trivial) ?_))
 refine Vc.cond rfl (fun h0 => ?_) (fun h0 => ?_)
 · refine Vc.region hG rfl ?_ ?_
   · repeat' (first | exact trivial | exact hpre | exact pieceD_ok hpre | exact bq1_ok hpre | exact Nat.succ_pos _ | exact pd0 c | exact pd1 c | exact pdApp c | refine And.intro ?_ ?_ | intro _)
   refine Vc.seq (Vc.region hG rfl (by trivial) (Vc.ret ?_))
   have e : pieceB c = _ := ((pieceB_eq c).trans (cT h0))
   refine ⟨⟨?_, trivial⟩, ?_, trivial⟩
   · exact (congrArg Prod.snd e).symm
   · exact (congrArg (fun r => r.1) e).symm
 · refine Vc.seq (Vc.region hG rfl (by trivial) ?_)
   refine Vc.cond rfl (fun h1 => ?_) (fun h1 => ?_)
   · refine Vc.region hG rfl ?_ ?_
     · repeat' (first | exact trivial | exact hpre | exact pieceD_ok hpre | exact bq1_ok hpre | exact Nat.succ_pos _ | exact pd0 c | exact pd1 c | exact pdApp c | refine And.intro ?_ ?_ | intro _)
     refine Vc.seq (Vc.region hG rfl (by trivial) (Vc.ret ?_))
     have e : pieceB c = _ := ((pieceB_eq c).trans ((cF h0).trans (cT h1)))
     refine ⟨⟨?_, trivial⟩, ?_, trivial⟩
     · exact (congrArg Prod.snd e).symm
     · exact (congrArg (fun r => r.1) e).symm
   · refine Vc.seq (Vc.region hG rfl (by trivial) ?_)
     refine Vc.cond rfl (fun h2 => ?_) (fun h2 => ?_)
     · refine Vc.region hG rfl (by trivial) (Vc.seq (Vc.region hG rfl (by trivial) (Vc.ret ?_)))
       have e : pieceB c = _ := ((pieceB_eq c).trans ((cF h0).trans ((cF h1).trans (cT h2))))
       refine ⟨⟨?_, trivial⟩, ?_, trivial⟩
       · exact (congrArg Prod.snd e).symm
       · exact (congrArg (fun r => r.1) e).symm
     · refine Vc.seq (Vc.region hG rfl (by trivial) ?_)
       refine Vc.cond rfl (fun h3 => ?_) (fun h3 => ?_)
       · refine Vc.regionD mixed hG rfl (by kernel_rfl) ?_ ?_
         · repeat' (first | exact trivial | exact hpre | exact pieceD_ok hpre | exact bq1_ok hpre | exact Nat.succ_pos _ | exact pd0 c | exact pd1 c | exact pdApp c | refine And.intro ?_ ?_ | intro _)
         refine Vc.seq (Vc.region hG rfl (by trivial) (Vc.ret ?_))
         have e : pieceB c = _ := ((pieceB_eq c).trans ((cF h0).trans ((cF h1).trans ((cF h2).trans (cT h3)))))
         refine ⟨⟨?_, trivial⟩, ?_, trivial⟩
         · exact (congrArg Prod.snd e).symm
         · exact (congrArg (fun r => r.1) e).symm
       · refine Vc.seq (Vc.region hG rfl (by trivial) ?_)
         refine Vc.cond rfl (fun h4 => ?_) (fun h4 => ?_)
         · refine Vc.regionD mixed hG rfl (by kernel_rfl) ?_ ?_
           · repeat' (first | exact trivial | exact hpre | exact pieceD_ok hpre | exact bq1_ok hpre | exact Nat.succ_pos _ | exact pd0 c | exact pd1 c | exact pdApp c | refine And.intro ?_ ?_ | intro _)
           refine Vc.seq (Vc.region hG rfl (by trivial) (Vc.ret ?_))
           have e : pieceB c = _ := ((pieceB_eq c).trans ((cF h0).trans ((cF h1).trans ((cF h2).trans ((cF h3).trans (cT h4))))))
           refine ⟨⟨?_, trivial⟩, ?_, trivial⟩
           · exact (congrArg Prod.snd e).symm
           · exact (congrArg (fun r => r.1) e).symm
         · refine Vc.skip (Vc.seq (Vc.region hG rfl (by trivial) (Vc.ret ?_)))
           have e : pieceB c = _ := ((pieceB_eq c).trans ((cF h0).trans ((cF h1).trans ((cF h2).trans ((cF h3).trans (cF h4))))))
           refine ⟨⟨?_, trivial⟩, ?_, trivial⟩
           · exact (congrArg Prod.snd e).symm
           · exact (congrArg (fun r => r.1) e).symm
noncomputable def P249 : PFun := ⟨.pure Y13, [.pair (.int .i64) Y43], [.pair (.pure (.int .i64)) Z47], fun x xs => (fun c (r : Renewal) => curOk c ∧ Sm 64 Y46 r) x xs.1, fun x xs => (renB x xs.1).2, fun x xs => ((renB x xs.1).1, ())⟩
theorem P249_ok : MeetsP Tryz.prog 249 P249 := by
 refine meetsP_of_vc (C := mkCP 56 [4] [0,1,3,4,8,9,15,20,26,34,43,48] [⟨121, _, F121_ok⟩] [] [] [⟨67, _, P67_ok⟩, ⟨108, _, P108_ok⟩, ⟨68, _, P68_ok⟩, ⟨109, _, P109_ok⟩] [0]) (mkCP_ok _ _ _ _ _ _ _ _) (fnOf_ok _) Tryz.func249 rfl rfl rfl (by decide) rfl rfl rfl ?_ rfl
 rintro c ⟨a1, _⟩ hwc hwf hpre ⟨P, C, B, X, w0, M0, pv⟩ hG rfl rfl
 show Vc _ _ [(0, ⟨0, 0, .c (.ref Z17) c⟩), (1, ⟨0, 0, .c Z48 a1⟩)] _
 have hc : curOk c := hpre.1
 have hr := sm_up (show 64 ≤ big20 by decide) _ _ hpre.2
 have hA1 := app64 hpre.2.2.2.2.1.1
 have hA2 := app64 hpre.2.2.2.2.2.1
 refine Vc.seq (Vc.region hG rfl (by trivial) (Vc.seq ?_))
 refine Vc.region hG rfl ?_ ?_
 · repeat' (first | exact trivial | exact hc | exact br1_ok hc | exact Nat.succ_pos _ | exact hr | exact hA1 | exact hA2 | exact hg | refine And.intro ?_ ?_ | intro _)
 refine Vc.seq (Vc.seq ?_)
 refine Vc.region hG rfl ?_ ?_
 · repeat' (first | exact trivial | exact hc | exact br1_ok hc | exact Nat.succ_pos _ | exact hr | exact hA1 | exact hA2 | exact hg | refine And.intro ?_ ?_ | intro _)
 refine Vc.block (Vc.seq (Vc.region hG rfl (by trivial) ?_))
 refine Vc.cond rfl (fun h0 => ?_) (fun h0 => ?_)
 · refine Vc.region hG rfl (by trivial) (Vc.seq (Vc.region hG rfl (by trivial) (Vc.ret ?_)))
   have e : renB c a1 = _ := ((renB_eq c a1).trans (cT h0))
   refine ⟨⟨?_, trivial⟩, ?_, trivial⟩
   · exact (congrArg Prod.snd e).symm
   · exact (congrArg (fun r => r.1) e).symm
 · refine Vc.seq (Vc.region hG rfl (by trivial) ?_)
   refine Vc.cond rfl (fun h1 => ?_) (fun h1 => ?_)
   · refine Vc.region hG rfl ?_ ?_
     · repeat' (first | exact trivial | exact hc | exact br1_ok hc | exact Nat.succ_pos _ | exact hr | exact hA1 | exact hA2 | exact hg | refine And.intro ?_ ?_ | intro _)
     refine Vc.seq (Vc.region hG rfl (by trivial) (Vc.ret ?_))
     have e : renB c a1 = _ := ((renB_eq c a1).trans ((cF h0).trans (cT h1)))
     refine ⟨⟨?_, trivial⟩, ?_, trivial⟩
     · exact (congrArg Prod.snd e).symm
     · exact (congrArg (fun r => r.1) e).symm
   · refine Vc.seq (Vc.region hG rfl (by trivial) ?_)
     refine Vc.cond rfl (fun h2 => ?_) (fun h2 => ?_)
     · refine Vc.region hG rfl ?_ ?_
       · repeat' (first | exact trivial | exact hc | exact br1_ok hc | exact Nat.succ_pos _ | exact hr | exact hA1 | exact hA2 | exact hg | refine And.intro ?_ ?_ | intro _)
       refine Vc.seq (Vc.region hG rfl (by trivial) (Vc.ret ?_))
       have e : renB c a1 = _ := ((renB_eq c a1).trans ((cF h0).trans ((cF h1).trans (cT h2))))
       refine ⟨⟨?_, trivial⟩, ?_, trivial⟩
       · exact (congrArg Prod.snd e).symm
       · exact (congrArg (fun r => r.1) e).symm
     · refine Vc.seq (Vc.region hG rfl (by trivial) ?_)
       refine Vc.cond rfl (fun h3 => ?_) (fun h3 => ?_)
       · refine Vc.region hG rfl ?_ ?_
         · repeat' (first | exact trivial | exact hc | exact br1_ok hc | exact Nat.succ_pos _ | exact hr | exact hA1 | exact hA2 | exact hg | refine And.intro ?_ ?_ | intro _)
         refine Vc.seq (Vc.region hG rfl (by trivial) (Vc.ret ?_))
         have e : renB c a1 = _ := ((renB_eq c a1).trans ((cF h0).trans ((cF h1).trans ((cF h2).trans (cT h3)))))
         refine ⟨⟨?_, trivial⟩, ?_, trivial⟩
         · exact (congrArg Prod.snd e).symm
         · exact (congrArg (fun r => r.1) e).symm
       · refine Vc.seq (Vc.region hG rfl (by trivial) ?_)
         refine Vc.cond rfl (fun h4 => ?_) (fun h4 => ?_)
         · refine Vc.regionD mixed hG rfl (by kernel_rfl) ?_ ?_
           · repeat' (first | exact trivial | exact hc | exact br1_ok hc | exact Nat.succ_pos _ | exact hr | exact hA1 | exact hA2 | exact hg | refine And.intro ?_ ?_ | intro _)
           refine Vc.seq (Vc.region hG rfl (by trivial) (Vc.ret ?_))
           have e : renB c a1 = _ := ((renB_eq c a1).trans ((cF h0).trans ((cF h1).trans ((cF h2).trans ((cF h3).trans (cT h4))))))
           refine ⟨⟨?_, trivial⟩, ?_, trivial⟩
           · exact (congrArg Prod.snd e).symm
           · exact (congrArg (fun r => r.1) e).symm
         · refine Vc.seq (Vc.region hG rfl (by trivial) ?_)
           refine Vc.cond rfl (fun h5 => ?_) (fun h5 => ?_)
           · refine Vc.seq (Vc.region hG rfl (by trivial) ?_)
             refine Vc.cond rfl (fun h6 => ?_) (fun h6 => ?_)
             · have hg : inRange 0 (List.length a1.2.2.2.2) := ⟨Int.le_refl _, of_decide_eq_true h6⟩
               refine Vc.regionD mixed hG rfl (by kernel_rfl) ?_ ?_
               · repeat' (first | exact trivial | exact hc | exact br1_ok hc | exact Nat.succ_pos _ | exact hr | exact hA1 | exact hA2 | exact hg | refine And.intro ?_ ?_ | intro _)
               refine Vc.seq (Vc.region hG rfl (by trivial) (Vc.ret ?_))
               have e : renB c a1 = _ := ((renB_eq c a1).trans ((cF h0).trans ((cF h1).trans ((cF h2).trans ((cF h3).trans ((cF h4).trans ((cT h5).trans (cT h6))))))))
               refine ⟨⟨?_, trivial⟩, ?_, trivial⟩
               · exact (congrArg Prod.snd e).symm
               · exact (congrArg (fun r => r.1) e).symm
             · refine Vc.skip (Vc.seq (Vc.region hG rfl (by trivial) (Vc.ret ?_)))
               have e : renB c a1 = _ := ((renB_eq c a1).trans ((cF h0).trans ((cF h1).trans ((cF h2).trans ((cF h3).trans ((cF h4).trans ((cT h5).trans (cF h6))))))))
               refine ⟨⟨?_, trivial⟩, ?_, trivial⟩
               · exact (congrArg Prod.snd e).symm
               · exact (congrArg (fun r => r.1) e).symm
           · refine Vc.skip (Vc.seq (Vc.region hG rfl (by trivial) (Vc.ret ?_)))
             have e : renB c a1 = _ := ((renB_eq c a1).trans ((cF h0).trans ((cF h1).trans ((cF h2).trans ((cF h3).trans ((cF h4).trans (cF h5)))))))
             refine ⟨⟨?_, trivial⟩, ?_, trivial⟩
             · exact (congrArg Prod.snd e).symm
             · exact (congrArg (fun r => r.1) e).symm
noncomputable def P179 : PFun := ⟨.pure Y13, [], [.pure Y52, .pure Y16, .pure Y41], fun x _ => curOk x, fun x _ => (anyD x).2, fun x _ => ((anyD x).1.1, (anyD x).1.2.1, (anyD x).1.2.2, ())⟩
theorem P179_ok : MeetsP Tryz.prog 179 P179 := by
 refine meetsP_of_vc (C := mkCP 73 [2, 3, 4] [0,2,3,4,5,6,7,8,16,17,26,38,43,60,65] [⟨184, _, F184_ok⟩] [] [] [⟨248, _, P248_ok⟩, ⟨67, _, P67_ok⟩, ⟨181, _, P181_ok⟩, ⟨249, _, P249_ok⟩] [0]) (mkCP_ok _ _ _ _ _ _ _ _) (fnOf_ok _) Tryz.func179 rfl rfl rfl (by decide) rfl rfl rfl ?_ rfl
 rintro c ⟨_⟩ hwc hwf hpre ⟨P, C, B, X, w0, M0, pv⟩ hG rfl rfl
 show Vc _ _ [(0, ⟨0, 0, .c (.ref Z17) c⟩)] _
 have hc0 : curOk c := hpre
 have hk := strandD_ok hc0
 have hq := an1_ok hc0
 refine Vc.seq (Vc.region hG rfl (by trivial) (Vc.seq ?_))
 refine Vc.regionT hG rfl ?_ ?_
 · repeat' (first | exact trivial | exact hc0 | exact hk | exact hq | exact pieceB_ok hq | exact strandD_pos c | exact anApp c | exact anPiece c | exact below_ok hq | exact hr | exact anRen hr | exact hg | refine And.intro ?_ ?_ | intro _)
 refine Vc.seq (Vc.seq ?_)
 refine Vc.region hG rfl ?_ ?_
 · repeat' (first | exact trivial | exact hc0 | exact hk | exact hq | exact pieceB_ok hq | exact strandD_pos c | exact anApp c | exact anPiece c | exact below_ok hq | exact hr | exact anRen hr | exact hg | refine And.intro ?_ ?_ | intro _)
 refine Vc.block (Vc.seq (Vc.region hG rfl (by trivial) ?_))
 refine Vc.cond rfl (fun h0 => ?_) (fun h0 => ?_)
 · refine Vc.regionD mixed hG rfl (by kernel_rfl) ?_ ?_
   · repeat' (first | exact trivial | exact hc0 | exact hk | exact hq | exact pieceB_ok hq | exact strandD_pos c | exact anApp c | exact anPiece c | exact below_ok hq | exact hr | exact anRen hr | exact hg | refine And.intro ?_ ?_ | intro _)
   refine Vc.seq (Vc.regionD mixed hG rfl (by kernel_rfl) (by trivial) ?_)
   refine Vc.frz 2 rfl ?_
   refine Vc.frz 3 rfl ?_
   refine Vc.ret ?_
   have e : anyD c = _ := ((anyD_eq c).trans (cT h0))
   refine ⟨⟨?_, trivial⟩, ?_, ?_, ?_, trivial⟩
   · exact (congrArg Prod.snd e).symm
   · exact (congrArg (fun r => r.1.1) e).symm
   · exact (congrArg (fun r => r.1.2.1) e).symm
   · exact (congrArg (fun r => r.1.2.2) e).symm
 · refine Vc.seq (Vc.region hG rfl (by trivial) ?_)
   refine Vc.cond rfl (fun h1 => ?_) (fun h1 => ?_)
   · refine Vc.regionD mixed hG rfl (by kernel_rfl) ?_ ?_
     · repeat' (first | exact trivial | exact hc0 | exact hk | exact hq | exact pieceB_ok hq | exact strandD_pos c | exact anApp c | exact anPiece c | exact below_ok hq | exact hr | exact anRen hr | exact hg | refine And.intro ?_ ?_ | intro _)
     refine Vc.seq (Vc.regionD mixed hG rfl (by kernel_rfl) (by trivial) ?_)
     refine Vc.frz 2 rfl ?_
     refine Vc.frz 3 rfl ?_
     refine Vc.ret ?_
     have e : anyD c = _ := ((anyD_eq c).trans ((cF h0).trans (cT h1)))
     refine ⟨⟨?_, trivial⟩, ?_, ?_, ?_, trivial⟩
     · exact (congrArg Prod.snd e).symm
     · exact (congrArg (fun r => r.1.1) e).symm
     · exact (congrArg (fun r => r.1.2.1) e).symm
     · exact (congrArg (fun r => r.1.2.2) e).symm
   · refine Vc.seq (Vc.region hG rfl (by trivial) ?_)
     refine Vc.cond rfl (fun h2 => ?_) (fun h2 => ?_)
     · refine Vc.seq (Vc.region hG rfl (by trivial) ?_)
       refine Vc.cond rfl (fun h3 => ?_) (fun h3 => ?_)
       · have hg := of_decide_eq_true h3
         have hr := anIdx c hg
         refine Vc.seq ?_
         refine Vc.region hG rfl ?_ ?_
         · repeat' (first | exact trivial | exact hc0 | exact hk | exact hq | exact pieceB_ok hq | exact strandD_pos c | exact anApp c | exact anPiece c | exact below_ok hq | exact hr | exact anRen hr | exact hg | refine And.intro ?_ ?_ | intro _)
         refine Vc.frzIR 5 rfl rfl _ HEq.rfl ?_
         refine Vc.regionD mixed hG rfl (by kernel_rfl) ?_ ?_
         · repeat' (first | exact trivial | exact hc0 | exact hk | exact hq | exact pieceB_ok hq | exact strandD_pos c | exact anApp c | exact anPiece c | exact below_ok hq | exact hr | exact anRen hr | exact hg | refine And.intro ?_ ?_ | intro _)
         refine Vc.seq (Vc.regionD mixed hG rfl (by kernel_rfl) (by trivial) ?_)
         refine Vc.frz 2 rfl ?_
         refine Vc.frz 3 rfl ?_
         refine Vc.ret ?_
         have e : anyD c = _ := ((anyD_eq c).trans ((cF h0).trans ((cF h1).trans ((cT h2).trans (cT h3)))))
         refine ⟨⟨?_, trivial⟩, ?_, ?_, ?_, trivial⟩
         · exact (congrArg Prod.snd e).symm
         · exact (congrArg (fun r => r.1.1) e).symm
         · exact (congrArg (fun r => r.1.2.1) e).symm
         · exact (congrArg (fun r => r.1.2.2) e).symm
       · refine Vc.skip (Vc.seq (Vc.regionD mixed hG rfl (by kernel_rfl) (by trivial) ?_))
         refine Vc.frz 2 rfl ?_
         refine Vc.frz 3 rfl ?_
         refine Vc.ret ?_
         have e : anyD c = _ := ((anyD_eq c).trans ((cF h0).trans ((cF h1).trans ((cT h2).trans (cF h3)))))
         refine ⟨⟨?_, trivial⟩, ?_, ?_, ?_, trivial⟩
         · exact (congrArg Prod.snd e).symm
         · exact (congrArg (fun r => r.1.1) e).symm
         · exact (congrArg (fun r => r.1.2.1) e).symm
         · exact (congrArg (fun r => r.1.2.2) e).symm
     · refine Vc.seq (Vc.region hG rfl (by trivial) ?_)
       refine Vc.cond rfl (fun h4 => ?_) (fun h4 => ?_)
       · refine Vc.seq (Vc.region hG rfl (by trivial) ?_)
         refine Vc.cond rfl (fun h5 => ?_) (fun h5 => ?_)
         · have hg := anTail (of_decide_eq_true h5)
           refine Vc.frz 5 rfl ?_
           refine Vc.region hG rfl ?_ ?_
           · repeat' (first | exact trivial | exact hc0 | exact hk | exact hq | exact pieceB_ok hq | exact strandD_pos c | exact anApp c | exact anPiece c | exact below_ok hq | exact hr | exact anRen hr | exact hg | refine And.intro ?_ ?_ | intro _)
           refine Vc.seq (Vc.regionD mixed hG rfl (by kernel_rfl) (by trivial) ?_)
           refine Vc.frz 2 rfl ?_
           refine Vc.frz 3 rfl ?_
           refine Vc.ret ?_
           have e : anyD c = _ := ((anyD_eq c).trans ((cF h0).trans ((cF h1).trans ((cF h2).trans ((cT h4).trans (cT h5))))))
           refine ⟨⟨?_, trivial⟩, ?_, ?_, ?_, trivial⟩
           · exact (congrArg Prod.snd e).symm
           · exact (congrArg (fun r => r.1.1) e).symm
           · exact (congrArg (fun r => r.1.2.1) e).symm
           · exact (congrArg (fun r => r.1.2.2) e).symm
         · refine Vc.skip (Vc.seq (Vc.regionD mixed hG rfl (by kernel_rfl) (by trivial) ?_))
           refine Vc.frz 2 rfl ?_
           refine Vc.frz 3 rfl ?_
           refine Vc.ret ?_
           have e : anyD c = _ := ((anyD_eq c).trans ((cF h0).trans ((cF h1).trans ((cF h2).trans ((cT h4).trans (cF h5))))))
           refine ⟨⟨?_, trivial⟩, ?_, ?_, ?_, trivial⟩
           · exact (congrArg Prod.snd e).symm
           · exact (congrArg (fun r => r.1.1) e).symm
           · exact (congrArg (fun r => r.1.2.1) e).symm
           · exact (congrArg (fun r => r.1.2.2) e).symm
       · refine Vc.skip (Vc.seq (Vc.regionD mixed hG rfl (by kernel_rfl) (by trivial) ?_))
         refine Vc.frz 2 rfl ?_
         refine Vc.frz 3 rfl ?_
         refine Vc.ret ?_
         have e : anyD c = _ := ((anyD_eq c).trans ((cF h0).trans ((cF h1).trans ((cF h2).trans (cF h4)))))
         refine ⟨⟨?_, trivial⟩, ?_, ?_, ?_, trivial⟩
         · exact (congrArg Prod.snd e).symm
         · exact (congrArg (fun r => r.1.1) e).symm
         · exact (congrArg (fun r => r.1.2.1) e).symm
         · exact (congrArg (fun r => r.1.2.2) e).symm
noncomputable def P117 : PFun := ⟨.pure Y13, [], [.pair Z55 Z33, .pure Y16, .pure Y41], fun x _ => curOk x, fun x _ => (evAnyD x).2, fun x _ => ((evAnyD x).1.1, (evAnyD x).1.2.1, (evAnyD x).1.2.2, ())⟩
theorem P117_ok : MeetsP Tryz.prog 117 P117 := by
 refine meetsP_of_vc (C := mkCP 61 [2, 3, 4] [0,2,3,4,5,6,7,8,18,19,33,43] [⟨180, _, F180o_ok⟩] [] [] [⟨178, _, P178_ok⟩, ⟨67, _, P67_ok⟩, ⟨179, _, P179_ok⟩, ⟨68, _, P68_ok⟩, ⟨181, _, P181_ok⟩] [0]) (mkCP_ok _ _ _ _ _ _ _ _) (fnOf_ok _) Tryz.func117 rfl rfl rfl (by decide) rfl rfl rfl ?_ rfl
 rintro c ⟨_⟩ hwc hwf hpre ⟨P, C, B, X, w0, M0, pv⟩ hG rfl rfl
 show Vc _ _ [(0, ⟨0, 0, .c (.ref Z17) c⟩)] _
 have hc0 : curOk c := hpre
 have hk := (caseD_P hc0).2.1
 have hq := en1_ok hc0
 refine Vc.seq (Vc.region hG rfl (by trivial) (Vc.seq ?_))
 refine Vc.regionT hG rfl ?_ ?_
 · repeat' (first | exact trivial | exact hc0 | exact hk | exact hq | exact enApp1 hc0 | exact enApp2 hc0 | exact enIdx hc0 | exact enStr hc0 | exact sm_up (show 64 ≤ big20 by decide) _ _ (pieceB_sm _) | refine And.intro ?_ ?_ | intro _)
 refine Vc.seq (Vc.seq ?_)
 refine Vc.region hG rfl ?_ ?_
 · repeat' (first | exact trivial | exact hc0 | exact hk | exact hq | exact enApp1 hc0 | exact enApp2 hc0 | exact enIdx hc0 | exact enStr hc0 | exact sm_up (show 64 ≤ big20 by decide) _ _ (pieceB_sm _) | refine And.intro ?_ ?_ | intro _)
 refine Vc.block (Vc.seq (Vc.region hG rfl (by trivial) ?_))
 refine Vc.cond rfl (fun h0 => ?_) (fun h0 => ?_)
 · refine Vc.seq ?_
   refine Vc.regionT hG rfl ?_ ?_
   · repeat' (first | exact trivial | exact hc0 | exact hk | exact hq | exact enApp1 hc0 | exact enApp2 hc0 | exact enIdx hc0 | exact enStr hc0 | exact sm_up (show 64 ≤ big20 by decide) _ _ (pieceB_sm _) | refine And.intro ?_ ?_ | intro _)
   refine Vc.region hG rfl ?_ ?_
   · repeat' (first | exact trivial | exact hc0 | exact hk | exact hq | exact enApp1 hc0 | exact enApp2 hc0 | exact enIdx hc0 | exact enStr hc0 | exact sm_up (show 64 ≤ big20 by decide) _ _ (pieceB_sm _) | refine And.intro ?_ ?_ | intro _)
   refine Vc.seq (Vc.regionD mixed hG rfl (by kernel_rfl) (by trivial) (Vc.ret ?_))
   have e : evAnyD c = _ := ((evAny_eq c).trans (cT h0))
   refine ⟨⟨?_, trivial⟩, ?_, ?_, ?_, trivial⟩
   · exact (congrArg Prod.snd e).symm
   · exact (congrArg (fun r => r.1.1) e).symm
   · exact (congrArg (fun r => r.1.2.1) e).symm
   · exact (congrArg (fun r => r.1.2.2) e).symm
 · refine Vc.seq (Vc.region hG rfl (by trivial) ?_)
   refine Vc.cond rfl (fun h1 => ?_) (fun h1 => ?_)
   · refine Vc.regionX mixed hG rfl (by kernel_rfl) ?_ ?_
     · repeat' (first | exact trivial | exact hc0 | exact hk | exact hq | exact enApp1 hc0 | exact enApp2 hc0 | exact enIdx hc0 | exact enStr hc0 | exact sm_up (show 64 ≤ big20 by decide) _ _ (pieceB_sm _) | refine And.intro ?_ ?_ | intro _)
     refine Vc.seq (Vc.regionD mixed hG rfl (by kernel_rfl) (by trivial) (Vc.ret ?_))
     have e : evAnyD c = _ := ((evAny_eq c).trans ((cF h0).trans (cT h1)))
     refine ⟨⟨?_, trivial⟩, ?_, ?_, ?_, trivial⟩
     · exact (congrArg Prod.snd e).symm
     · exact (congrArg (fun r => r.1.1) e).symm
     · exact (congrArg (fun r => r.1.2.1) e).symm
     · exact (congrArg (fun r => r.1.2.2) e).symm
   · refine Vc.seq (Vc.region hG rfl (by trivial) ?_)
     refine Vc.cond rfl (fun h2 => ?_) (fun h2 => ?_)
     · refine Vc.regionL mixed hG rfl (by kernel_rfl) ?_ ?_
       · repeat' (first | exact trivial | exact hc0 | exact hk | exact hq | exact enApp1 hc0 | exact enApp2 hc0 | exact enIdx hc0 | exact enStr hc0 | exact sm_up (show 64 ≤ big20 by decide) _ _ (pieceB_sm _) | refine And.intro ?_ ?_ | intro _)
       refine Vc.seq (Vc.regionD mixed hG rfl (by kernel_rfl) (by trivial) (Vc.ret ?_))
       have e : evAnyD c = _ := ((evAny_eq c).trans ((cF h0).trans ((cF h1).trans (cT h2))))
       refine ⟨⟨?_, trivial⟩, ?_, ?_, ?_, trivial⟩
       · exact (congrArg Prod.snd e).symm
       · exact (congrArg (fun r => r.1.1) e).symm
       · exact (congrArg (fun r => r.1.2.1) e).symm
       · exact (congrArg (fun r => r.1.2.2) e).symm
     · refine Vc.skip (Vc.seq (Vc.regionD mixed hG rfl (by kernel_rfl) (by trivial) (Vc.ret ?_)))
       have e : evAnyD c = _ := ((evAny_eq c).trans ((cF h0).trans ((cF h1).trans (cF h2))))
       refine ⟨⟨?_, trivial⟩, ?_, ?_, ?_, trivial⟩
       · exact (congrArg Prod.snd e).symm
       · exact (congrArg (fun r => r.1.1) e).symm
       · exact (congrArg (fun r => r.1.2.1) e).symm
       · exact (congrArg (fun r => r.1.2.2) e).symm
noncomputable def F76 : Fun := ⟨[.slice (.int .u8)], [.pure Y56], fun _ => True, fun x => ((fun code => (evAnyD (curNewF code)).1.1) x.1, ())⟩
theorem F76_ok : Meets Tryz.prog 76 F76 := by
 refine meets_of_vc (C := mkCP 16 [2, 3] [0,2,3,4] [⟨66, _, F66_ok⟩] [] [] [⟨117, _, P117_ok⟩] []) (mkCP_ok _ _ _ _ _ _ _ _) (fnOf_ok _) Tryz.func76 rfl rfl rfl (by decide) rfl ?_
 rintro ⟨a0, _⟩ hwf hpre ⟨P, C, B, X, w0, M0, pv⟩ hG rfl rfl
 show Vc _ _ [(0, ⟨0, 0, .c Z1 a0⟩)] _
 refine Vc.seq (Vc.region hG rfl (by trivial) (Vc.seq ?_))
 refine Vc.region hG rfl ?_ ?_
 · repeat' (first | exact trivial | exact newCur_ok hwf.1.1 | refine And.intro ?_ ?_ | intro _)
 refine Vc.seq ?_
 refine Vc.regionT hG rfl ?_ ?_
 · repeat' (first | exact trivial | exact newCur_ok hwf.1.1 | refine And.intro ?_ ?_ | intro _)
 refine Vc.seq (Vc.region hG rfl (by trivial) ?_)
 refine Vc.frz 2 rfl ?_
 refine Vc.ret ?_
 refine ⟨?_, trivial⟩
 all_goals exact rfl
noncomputable def F30 : Fun := ⟨[.slice (.int .u8)], [.pure Y56], fun _ => True, fun x => ((fun code => (evAnyD (curNewF code)).1.1) x.1, ())⟩
theorem F30_ok : Meets Tryz.prog 30 F30 := by
 refine meets_of_vc (C := mkC 5 [2] [0,2] [⟨76, _, F76_ok⟩]) (mkC_ok _ _ _ _) (fnOf_ok _) Tryz.func30 rfl rfl rfl (by decide) rfl ?_
 rintro ⟨a0, _⟩ hwf hpre ⟨P, C, B, X, w0, M0, pv⟩ hG rfl rfl
 show Vc _ _ [(0, ⟨0, 0, .c Z1 a0⟩)] _
 refine Vc.seq (Vc.region hG rfl (by trivial) (Vc.seq ?_))
 refine Vc.region hG rfl ?_ ?_
 · repeat' (first | exact trivial | exact newCur_ok hwf.1.1 | refine And.intro ?_ ?_ | intro _)
 refine Vc.frz 2 rfl ?_
 refine Vc.ret ?_
 refine ⟨?_, trivial⟩
 all_goals exact rfl
end Fw
