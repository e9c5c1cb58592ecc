/- Walks of functions of the program: what each computes. Conditions: those that each contract names. -/
import Derived.Test.YtcfpjofohnaolaaGreatW41T
import Derived.Test.YtcfpjofohnaolaaGreatW41s0
import Derived.Test.YtcfpjofohnaolaaGreatW41s1
import Derived.Test.YtcfpjofohnaolaaGreatW41s2
import Derived.Test.YtcfpjofohnaolaaGreatW41s4
namespace Fw
open Go Go.Proofs
set_option linter.unusedSimpArgs false
set_option maxRecDepth 100000
noncomputable def P129 : PFun := ⟨.pure Y13, [], [.pair (.pure (.int .i64)) Z11], fun x xs => curOk x, fun x xs => (pieceD x).2, fun x xs => ((pieceD x).1, ())⟩
theorem P129_ok : MeetsP Tryz.prog 129 P129 := by
 refine meetsP_of_vc (C := mkCP 42 [2] [0,2,3,4,7,8,16,21,30] [⟨125, _, F125_ok⟩, ⟨124, _, F124_ok⟩, ⟨128, _, F128_ok⟩, ⟨43, _, F43_ok⟩, ⟨148, _, F148_ok⟩, ⟨147, _, F147_ok⟩, ⟨122, _, F122_ok⟩, ⟨149, _, F149_ok⟩] [] [] [⟨38, _, P38_ok⟩, ⟨145, _, P145_ok⟩, ⟨146, _, P146_ok⟩, ⟨123, _, P123_ok⟩, ⟨150, _, P150_ok⟩] [0]) (mkCP_ok _ _ _ _ _ _ _ _) (fnOf_ok _) Tryz.func129 rfl rfl rfl (by decide) rfl rfl rfl ?_ rfl
 rintro c ⟨_⟩ hwc hwf hpre ⟨P, C, B, X, w0, M0, pv⟩ hG rfl rfl
 show Vc _ _ [(0, ⟨0, 0, .c (.ref Z17) c⟩)] _
 refine Vc.seq (Vc.region hG rfl (by trivial) (Vc.seq (Vc.seq ?_)))
 refine Vc.region hG rfl ?_ ?_
 · repeat' (first | exact trivial | exact hpre | exact below_ok hpre | exact certIdx _ | refine And.intro ?_ ?_ | intro _)
 refine Vc.block (Vc.seq (Vc.region hG rfl (by trivial) ?_))
 refine Vc.cond rfl (fun h0 => ?_) (fun h0 => ?_)
 · refine Vc.seq ?_
   refine Vc.region hG rfl ?_ ?_
   · repeat' (first | exact trivial | exact hpre | exact below_ok hpre | exact certIdx _ | refine And.intro ?_ ?_ | intro _)
   refine Vc.ret ?_
   have e : pieceD c = _ := (cT h0)
   refine ⟨⟨?_, trivial⟩, ?_, trivial⟩
   · exact (congrArg Prod.snd e).symm
   · exact (congrArg (fun r => r.1) e).symm
 · refine Vc.seq (Vc.region hG rfl (by trivial) ?_)
   refine Vc.cond rfl (fun h1 => ?_) (fun h1 => ?_)
   · refine Vc.seq ?_
     refine Vc.region hG rfl ?_ ?_
     · repeat' (first | exact trivial | exact hpre | exact below_ok hpre | exact certIdx _ | refine And.intro ?_ ?_ | intro _)
     refine Vc.ret ?_
     have e : pieceD c = _ := ((cF h0).trans (cT h1))
     refine ⟨⟨?_, trivial⟩, ?_, trivial⟩
     · exact (congrArg Prod.snd e).symm
     · exact (congrArg (fun r => r.1) e).symm
   · refine Vc.seq (Vc.region hG rfl (by trivial) ?_)
     refine Vc.cond rfl (fun h2 => ?_) (fun h2 => ?_)
     · refine Vc.seq ?_
       refine Vc.region hG rfl ?_ ?_
       · repeat' (first | exact trivial | exact hpre | exact below_ok hpre | exact certIdx _ | refine And.intro ?_ ?_ | intro _)
       refine Vc.seq ?_
       refine Vc.regionD mixed hG rfl (by kernel_rfl) ?_ ?_
       · repeat' (first | exact trivial | exact hpre | exact below_ok hpre | exact certIdx _ | refine And.intro ?_ ?_ | intro _)
       refine Vc.ret ?_
       have e : pieceD c = _ := ((cF h0).trans ((cF h1).trans (cT h2)))
       refine ⟨⟨?_, trivial⟩, ?_, trivial⟩
       · exact (congrArg Prod.snd e).symm
       · exact (congrArg (fun r => r.1) e).symm
     · refine Vc.seq (Vc.region hG rfl (by trivial) ?_)
       refine Vc.cond rfl (fun h3 => ?_) (fun h3 => ?_)
       · refine Vc.seq ?_
         refine Vc.region hG rfl ?_ ?_
         · repeat' (first | exact trivial | exact hpre | exact below_ok hpre | exact certIdx _ | refine And.intro ?_ ?_ | intro _)
         refine Vc.seq ?_
         refine Vc.region hG rfl ?_ ?_
         · repeat' (first | exact trivial | exact hpre | exact below_ok hpre | exact certIdx _ | refine And.intro ?_ ?_ | intro _)
         refine Vc.ret ?_
         have e : pieceD c = _ := ((cF h0).trans ((cF h1).trans ((cF h2).trans (cT h3))))
         refine ⟨⟨?_, trivial⟩, ?_, trivial⟩
         · exact (congrArg Prod.snd e).symm
         · exact (congrArg (fun r => r.1) e).symm
       · refine Vc.skip (Vc.seq ?_)
         refine Vc.region hG rfl ?_ ?_
         · repeat' (first | exact trivial | exact hpre | exact below_ok hpre | exact certIdx _ | refine And.intro ?_ ?_ | intro _)
         refine Vc.ret ?_
         have e : pieceD c = _ := ((cF h0).trans ((cF h1).trans ((cF h2).trans (cF h3))))
         refine ⟨⟨?_, trivial⟩, ?_, trivial⟩
         · exact (congrArg Prod.snd e).symm
         · exact (congrArg (fun r => r.1) e).symm
noncomputable def P105 : PFun := ⟨.pure Y13, [], [.pair Z26 Z49, .pair (.pure (.int .i64)) Z12, .pure Y40], fun x xs => curOk x, fun x xs => (signedD x).2, fun x xs => ((signedD x).1.1, (signedD x).1.2.1, (signedD x).1.2.2, ())⟩
theorem P105_ok : MeetsP Tryz.prog 105 P105 := by
 refine meetsP_of_vc (C := mkCP 66 [2, 3, 4] [0,2,3,4,5,6,7,8,46,55] [⟨122, _, F122_ok⟩, ⟨125, _, F125_ok⟩, ⟨124, _, F124_ok⟩, ⟨42, _, F42_ok⟩, ⟨126, _, F126_ok⟩, ⟨128, _, F128_ok⟩, ⟨127, _, F127_ok⟩] [] [] [⟨123, _, P123_ok⟩, ⟨80, _, P80_ok⟩, ⟨25, _, P25_ok⟩, ⟨129, _, P129_ok⟩] [0]) (mkCP_ok _ _ _ _ _ _ _ _) (fnOf_ok _) Tryz.func105 rfl rfl rfl (by decide) rfl rfl rfl ?_ rfl
 rintro c ⟨_⟩ hwc hwf hpre ⟨P, C, B, X, w0, M0, pv⟩ hG rfl rfl
 show Vc _ _ [(0, ⟨0, 0, .c (.ref Z17) c⟩)] _
 refine Vc.seq (Vc.region hG rfl (by trivial) (Vc.seq ?_))
 refine Vc.region hG rfl ?_ ?_
 · exact hpre
 refine Vc.seq ?_
 refine Vc.regionD mixed hG rfl (by kernel_rfl) ?_ ?_
 · repeat' (first | exact trivial | exact signD_idx hpre | refine And.intro ?_ ?_ | intro _)
 refine Vc.seq ?_
 refine Vc.regionD mixed hG rfl (by kernel_rfl) ?_ ?_
 · repeat' (first | exact trivial | exact signD_idx hpre | exact signD_ok hpre | exact Nat.succ_pos _ | refine And.intro ?_ ?_ | intro _)
 refine Vc.seq (Vc.seq ?_)
 refine Vc.region hG rfl ?_ ?_
 · exact sg2_ok hpre
 refine Vc.cond rfl (fun h0 => ?_) (fun h0 => ?_)
 · refine Vc.regionL mixed hG rfl (by kernel_rfl) ?_ ?_
   · exact ⟨trivial, sgS_sm c, statPiece_sm _⟩
   refine Vc.seq (Vc.seq ?_)
   refine Vc.region hG rfl ?_ ?_
   · exact sg3_ok hpre
   refine Vc.cond rfl (fun h1 => ?_) (fun h1 => ?_)
   · refine Vc.regionL mixed hG rfl (by kernel_rfl) ?_ ?_
     · first
         | exact ⟨sg4_ok hpre, sgS2_sm c, pieceD_sm _⟩
         | exact ⟨sg4_ok hpre, sgS_sm c, pieceD_sm _⟩
     refine Vc.seq (Vc.regionD mixed hG rfl (by kernel_rfl) (by trivial) (Vc.ret ?_))
     have e : signedD c = _ := ((signed_eq c).trans ((cT h0).trans (cT h1)))
     refine ⟨⟨?_, trivial⟩, ?_, ?_, ?_, trivial⟩
     · exact (congrArg Prod.snd e).symm
     · exact (congrArg (fun r => r.1.1) e).symm
     · exact (congrArg (fun r => r.1.2.1) e).symm
     · exact (congrArg (fun r => r.1.2.2) e).symm
   · refine Vc.skip (Vc.seq (Vc.regionD mixed hG rfl (by kernel_rfl) (by trivial) (Vc.ret ?_)))
     have e : signedD c = _ := ((signed_eq c).trans ((cT h0).trans (cF h1)))
     refine ⟨⟨?_, trivial⟩, ?_, ?_, ?_, trivial⟩
     · exact (congrArg Prod.snd e).symm
     · exact (congrArg (fun r => r.1.1) e).symm
     · exact (congrArg (fun r => r.1.2.1) e).symm
     · exact (congrArg (fun r => r.1.2.2) e).symm
 · refine Vc.skip (Vc.seq (Vc.seq ?_))
   refine Vc.region hG rfl ?_ ?_
   · exact sg3_ok hpre
   refine Vc.cond rfl (fun h2 => ?_) (fun h2 => ?_)
   · refine Vc.regionL mixed hG rfl (by kernel_rfl) ?_ ?_
     · first
         | exact ⟨sg4_ok hpre, sgS2_sm c, pieceD_sm _⟩
         | exact ⟨sg4_ok hpre, sgS_sm c, pieceD_sm _⟩
     refine Vc.seq (Vc.regionD mixed hG rfl (by kernel_rfl) (by trivial) (Vc.ret ?_))
     have e : signedD c = _ := ((signed_eq c).trans ((cF h0).trans (cT h2)))
     refine ⟨⟨?_, trivial⟩, ?_, ?_, ?_, trivial⟩
     · exact (congrArg Prod.snd e).symm
     · exact (congrArg (fun r => r.1.1) e).symm
     · exact (congrArg (fun r => r.1.2.1) e).symm
     · exact (congrArg (fun r => r.1.2.2) e).symm
   · refine Vc.skip (Vc.seq (Vc.regionD mixed hG rfl (by kernel_rfl) (by trivial) (Vc.ret ?_)))
     have e : signedD c = _ := ((signed_eq c).trans ((cF h0).trans (cF h2)))
     refine ⟨⟨?_, trivial⟩, ?_, ?_, ?_, trivial⟩
     · exact (congrArg Prod.snd e).symm
     · exact (congrArg (fun r => r.1.1) e).symm
     · exact (congrArg (fun r => r.1.2.1) e).symm
     · exact (congrArg (fun r => r.1.2.2) e).symm
end Fw
