/- Walks of functions of the program: what each computes. Conditions: those that each contract names. -/
import Derived.Test.YtpcljloahdbjcaaGreatW49T
import Derived.Test.YtpcljloahdbjcaaGreatW49s0
import Derived.Test.YtpcljloahdbjcaaGreatW49s1
import Derived.Test.YtpcljloahdbjcaaGreatW49s2
import Derived.Test.YtpcljloahdbjcaaGreatW49s3
namespace Fw
open Go Go.Proofs
set_option linter.unusedSimpArgs false
set_option maxRecDepth 100000
noncomputable def P194:PFun:=⟨.pure Y18,[],[.pair Z34 Z61,.pure Y22,.pure Y51],fun x _=>curOk x,fun x _=>(strandD x).2,fun x _=>((strandD x).1.1,(strandD x).1.2.1,(strandD x).1.2.2,())⟩
theorem P194_ok:MeetsP Tryz.prog 194 P194:=by
 refine meetsP_of_vc (C:=mkCP 41 [2,3,4] [0,2,3,4,5,6,7,8,9,22] [] [] [] [⟨237,_,P237_ok⟩,⟨138,_,P138_ok⟩,⟨74,_,P74_ok⟩,⟨164,_,P164o_ok⟩] [0]) (mkCP_ok _ _ _ _ _ _ _ _) (fO _) Tryz.func194 rfl rfl rfl (by decide) rfl rfl rfl ?_ rfl
 rintro c ⟨_⟩ hwc hwf hpre ⟨⟩ hG rfl rfl
 show Vc _ _ [(0,⟨0,0,.c (.ref Z23) c⟩)] _
 have hc0:curOk c:=hpre
 have hg:=signed_P hc0
 refine Vm hG rfl (Vq (VrT hG rfl (by trivial) (Vq ?_)))
 refine Vr hG rfl ?_ ?_
 · exact⟨hg.2,Nat.succ_pos _⟩
 refine Vq (Vq ?_)
 refine Vr hG rfl ?_ ?_
 · exact int_ok hg.2
 refine Vb ?_
 refine Vc.frz 6 rfl ?_
 refine Vc.loopF [(0,true,.pure Y18),(5,true,.pair Z34 Z61),(8,false,.pure (.int .i64)),(9,false,.pure (.int .i64))] [2,3,4,6,7] (fun v=>dnInv (drawS (signedD c).1.2.1) ((dr2 c).2,(signedD c).1.1,(dr1 c).1) (dr2 c).1 (v.1,v.2.1,v.2.2.1) v.2.2.2.1) (fun v=>(v.2.2.2.1:Int).toNat) rfl ?_ ?_
 · exact dnStart (dr2_n c)
 rintro⟨c2,s,(t:Int),(i:Int),_⟩ hI
 have hI:dnInv (drawS (signedD c).1.2.1) ((dr2 c).2,(signedD c).1.1,(dr1 c).1) (dr2 c).1 (c2,s,t) i:=hI
 refine Vq (Vm hG rfl ?_)
 refine Vk rfl ?_ ?_<;>intro h0
 · have hl:i>0:=oTr h0
   obtain⟨hc2,ht2,hlo⟩:=drInv_P hc0 hI hl
   have hs2:=tiny_big ht2
   refine Vs (Vq (Vb (Vq ?_)))
   refine VrD mixed hG rfl (by kernel_rfl) ?_ ?_
   · repeat' (first | exact trivial | exact hc2 | exact below_ok hc2 | exact hs2 | exact hlo _ | refine And.intro ?_ ?_ | intro _)
   refine Vr hG rfl ?_ ?_
   · exact⟨renOk (below_ok hc2) ht2,Nat.succ_pos _⟩
   refine Vn hG rfl ?_
   refine⟨rfl,?_⟩
   exact dnStep hI hl
 · have hl:¬i>0:=oFa h0
   have hE:=dnEnd hI hl
   refine Vx (Vq (VrD mixed hG rfl (by kernel_rfl) (by trivial) (Vt ?_)))
   have e:=strandD_leaf hE
   refine⟨⟨?_,trivial⟩,?_,?_,?_,trivial⟩
   · exact(congrArg Prod.snd e).symm
   · exact(congrArg (fun r=>r.1.1) e).symm
   · exact(congrArg (fun r=>r.1.2.1) e).symm
   · exact(congrArg (fun r=>r.1.2.2) e).symm
noncomputable def P134:PFun:=⟨.pure Y18,[],[.pair (.pure (.int .i64)) Z16],fun x _=>curOk x,fun x _=>(pieceB x).2,fun x _=>((pieceB x).1,())⟩
theorem P134_ok:MeetsP Tryz.prog 134 P134:=by
 refine meetsP_of_vc (C:=mkCP 45 [2] [0,2,3,7,8,13,20,26,34] [] [] [] [⟨201,_,P201_ok⟩,⟨74,_,P74_ok⟩,⟨181,_,P181_ok⟩,⟨138,_,P138_ok⟩] [0]) (mkCP_ok _ _ _ _ _ _ _ _) (fO _) Tryz.func134 rfl rfl rfl (by decide) rfl rfl rfl ?_ rfl
 rintro c ⟨_⟩ hwc hwf hpre ⟨⟩ hG rfl rfl
 show Vc _ _ [(0,⟨0,0,.c (.ref Z23) c⟩)] _
 refine Vm hG rfl (Vq ?_)
 refine Vr hG rfl ?_ ?_
 · repeat' (first | exact trivial | exact hpre | exact pieceD_ok hpre | exact bq1_ok hpre | exact Nat.succ_pos _ | exact pd0 c | exact pd1 c | exact pdApp c | refine And.intro ?_ ?_ | intro _)
 refine Vq (Vq ?_)
 refine Vr hG rfl ?_ ?_
 · repeat' (first | exact trivial | exact hpre | exact pieceD_ok hpre | exact bq1_ok hpre | exact Nat.succ_pos _ | exact pd0 c | exact pd1 c | exact pdApp c | refine And.intro ?_ ?_ | intro _)
 refine Vb (Vm hG rfl ?_)
 refine Vk rfl ?_ ?_<;>intro h0
 · refine Vr hG rfl ?_ ?_
   · repeat' (first | exact trivial | exact hpre | exact pieceD_ok hpre | exact bq1_ok hpre | exact Nat.succ_pos _ | exact pd0 c | exact pd1 c | exact pdApp c | refine And.intro ?_ ?_ | intro _)
   refine Vm hG rfl (Vt ?_)
   have e:pieceB c=_:=((pieceB_eq c).trans (cT h0))
   refine⟨⟨?_,trivial⟩,?_,trivial⟩
   · exact(congrArg Prod.snd e).symm
   · exact(congrArg (fun r=>r.1) e).symm
 · refine Vm hG rfl ?_
   refine Vk rfl ?_ ?_<;>intro h1
   · refine Vr hG rfl ?_ ?_
     · repeat' (first | exact trivial | exact hpre | exact pieceD_ok hpre | exact bq1_ok hpre | exact Nat.succ_pos _ | exact pd0 c | exact pd1 c | exact pdApp c | refine And.intro ?_ ?_ | intro _)
     refine Vm hG rfl (Vt ?_)
     have e:pieceB c=_:=((pieceB_eq c).trans ((cF h0).trans (cT h1)))
     refine⟨⟨?_,trivial⟩,?_,trivial⟩
     · exact(congrArg Prod.snd e).symm
     · exact(congrArg (fun r=>r.1) e).symm
   · refine Vm hG rfl ?_
     refine Vk rfl ?_ ?_<;>intro h2
     · refine Vn hG rfl (Vm hG rfl (Vt ?_))
       have e:pieceB c=_:=((pieceB_eq c).trans ((cF h0).trans ((cF h1).trans (cT h2))))
       refine⟨⟨?_,trivial⟩,?_,trivial⟩
       · exact(congrArg Prod.snd e).symm
       · exact(congrArg (fun r=>r.1) e).symm
     · refine Vm hG rfl ?_
       refine Vk rfl ?_ ?_<;>intro h3
       · refine VrD mixed hG rfl (by kernel_rfl) ?_ ?_
         · repeat' (first | exact trivial | exact hpre | exact pieceD_ok hpre | exact bq1_ok hpre | exact Nat.succ_pos _ | exact pd0 c | exact pd1 c | exact pdApp c | refine And.intro ?_ ?_ | intro _)
         refine Vm hG rfl (Vt ?_)
         have e:pieceB c=_:=((pieceB_eq c).trans ((cF h0).trans ((cF h1).trans ((cF h2).trans (cT h3)))))
         refine⟨⟨?_,trivial⟩,?_,trivial⟩
         · exact(congrArg Prod.snd e).symm
         · exact(congrArg (fun r=>r.1) e).symm
       · refine Vm hG rfl ?_
         refine Vk rfl ?_ ?_<;>intro h4
         · refine VrD mixed hG rfl (by kernel_rfl) ?_ ?_
           · repeat' (first | exact trivial | exact hpre | exact pieceD_ok hpre | exact bq1_ok hpre | exact Nat.succ_pos _ | exact pd0 c | exact pd1 c | exact pdApp c | refine And.intro ?_ ?_ | intro _)
           refine Vm hG rfl (Vt ?_)
           have e:pieceB c=_:=((pieceB_eq c).trans ((cF h0).trans ((cF h1).trans ((cF h2).trans ((cF h3).trans (cT h4))))))
           refine⟨⟨?_,trivial⟩,?_,trivial⟩
           · exact(congrArg Prod.snd e).symm
           · exact(congrArg (fun r=>r.1) e).symm
         · refine Vs (Vm hG rfl (Vt ?_))
           have e:pieceB c=_:=((pieceB_eq c).trans ((cF h0).trans ((cF h1).trans ((cF h2).trans ((cF h3).trans (cF h4))))))
           refine⟨⟨?_,trivial⟩,?_,trivial⟩
           · exact(congrArg Prod.snd e).symm
           · exact(congrArg (fun r=>r.1) e).symm
noncomputable def P180:PFun:=⟨.pure Y18,[],[.pure Y35],fun x _=>curOk x,fun x _=>(bentD x).2,fun x _=>((bentD x).1,())⟩
theorem P180_ok:MeetsP Tryz.prog 180 P180:=by
 refine meetsP_of_vc (C:=mkCP 37 [2] [0,2,3,7,8,13,19,24,30] [] [] [] [⟨259,_,P259_ok⟩,⟨74,_,P74_ok⟩,⟨138,_,P138_ok⟩,⟨178,_,P178_ok⟩] [0]) (mkCP_ok _ _ _ _ _ _ _ _) (fO _) Tryz.func180 rfl rfl rfl (by decide) rfl rfl rfl ?_ rfl
 rintro c ⟨_⟩ hwc hwf hpre ⟨⟩ hG rfl rfl
 show Vc _ _ [(0,⟨0,0,.c (.ref Z23) c⟩)] _
 refine Vm hG rfl (Vq ?_)
 refine Vr hG rfl ?_ ?_
 · repeat' (first | exact trivial | exact hpre | exact stampD_ok hpre | exact bs1_ok hpre | exact Nat.succ_pos _ | refine And.intro ?_ ?_ | intro _)
 refine Vq (Vq ?_)
 refine Vr hG rfl ?_ ?_
 · repeat' (first | exact trivial | exact hpre | exact stampD_ok hpre | exact bs1_ok hpre | exact Nat.succ_pos _ | refine And.intro ?_ ?_ | intro _)
 refine Vb (Vm hG rfl ?_)
 refine Vk rfl ?_ ?_<;>intro h0
 · refine Vr hG rfl ?_ ?_
   · repeat' (first | exact trivial | exact hpre | exact stampD_ok hpre | exact bs1_ok hpre | exact Nat.succ_pos _ | refine And.intro ?_ ?_ | intro _)
   refine Vm hG rfl (Vt ?_)
   have e:bentD c=_:=((bent_eq c).trans (cT h0))
   refine⟨⟨?_,trivial⟩,?_,trivial⟩
   · exact(congrArg Prod.snd e).symm
   · exact(congrArg (fun r=>r.1) e).symm
 · refine Vm hG rfl ?_
   refine Vk rfl ?_ ?_<;>intro h1
   · refine Vr hG rfl ?_ ?_
     · repeat' (first | exact trivial | exact hpre | exact stampD_ok hpre | exact bs1_ok hpre | exact Nat.succ_pos _ | refine And.intro ?_ ?_ | intro _)
     refine Vm hG rfl (Vt ?_)
     have e:bentD c=_:=((bent_eq c).trans ((cF h0).trans (cT h1)))
     refine⟨⟨?_,trivial⟩,?_,trivial⟩
     · exact(congrArg Prod.snd e).symm
     · exact(congrArg (fun r=>r.1) e).symm
   · refine Vm hG rfl ?_
     refine Vk rfl ?_ ?_<;>intro h2
     · refine Vr hG rfl ?_ ?_
       · repeat' (first | exact trivial | exact hpre | exact stampD_ok hpre | exact bs1_ok hpre | exact Nat.succ_pos _ | refine And.intro ?_ ?_ | intro _)
       refine Vm hG rfl (Vt ?_)
       have e:bentD c=_:=((bent_eq c).trans ((cF h0).trans ((cF h1).trans (cT h2))))
       refine⟨⟨?_,trivial⟩,?_,trivial⟩
       · exact(congrArg Prod.snd e).symm
       · exact(congrArg (fun r=>r.1) e).symm
     · refine Vm hG rfl ?_
       refine Vk rfl ?_ ?_<;>intro h3
       · refine Vn hG rfl (Vm hG rfl (Vt ?_))
         have e:bentD c=_:=((bent_eq c).trans ((cF h0).trans ((cF h1).trans ((cF h2).trans (cT h3)))))
         refine⟨⟨?_,trivial⟩,?_,trivial⟩
         · exact(congrArg Prod.snd e).symm
         · exact(congrArg (fun r=>r.1) e).symm
       · refine Vm hG rfl ?_
         refine Vk rfl ?_ ?_<;>intro h4
         · refine Vn hG rfl (Vm hG rfl (Vt ?_))
           have e:bentD c=_:=((bent_eq c).trans ((cF h0).trans ((cF h1).trans ((cF h2).trans ((cF h3).trans (cT h4))))))
           refine⟨⟨?_,trivial⟩,?_,trivial⟩
           · exact(congrArg Prod.snd e).symm
           · exact(congrArg (fun r=>r.1) e).symm
         · refine Vs (Vm hG rfl (Vt ?_))
           have e:bentD c=_:=((bent_eq c).trans ((cF h0).trans ((cF h1).trans ((cF h2).trans ((cF h3).trans (cF h4))))))
           refine⟨⟨?_,trivial⟩,?_,trivial⟩
           · exact(congrArg Prod.snd e).symm
           · exact(congrArg (fun r=>r.1) e).symm
noncomputable def P258:PFun:=⟨.pure Y18,[.pair (.int .i64) Y53],[.pair (.pure (.int .i64)) Z58],fun x xs=>(fun c (r:Renewal)=>curOk c∧Sm 64 Y56 r) x xs.1,fun x xs=>(renB x xs.1).2,fun x xs=>((renB x xs.1).1,())⟩
theorem P258_ok:MeetsP Tryz.prog 258 P258:=by
 refine meetsP_of_vc (C:=mkCP 56 [4] [0,1,3,4,8,9,15,20,26,34,43,48] [⟨245,_,F245_ok⟩] [] [] [⟨74,_,P74_ok⟩,⟨138,_,P138_ok⟩,⟨180,_,P180_ok⟩,⟨178,_,P178_ok⟩] [0]) (mkCP_ok _ _ _ _ _ _ _ _) (fO _) Tryz.func258 rfl rfl rfl (by decide) rfl rfl rfl ?_ rfl
 rintro c ⟨a1,_⟩ hwc hwf hpre ⟨⟩ hG rfl rfl
 show Vc _ _ [(0,⟨0,0,.c (.ref Z23) c⟩),(1,⟨0,0,.c Z57 a1⟩)] _
 have hc:curOk c:=hpre.1
 have hr:=sm_up (show 64≤big20 by decide) _ _ hpre.2
 have hA1:=app64 hpre.2.2.2.2.1.1
 have hA2:=app64 hpre.2.2.2.2.2.1
 refine Vm hG rfl (Vq ?_)
 refine Vr hG rfl ?_ ?_
 · repeat' (first | exact trivial | exact hc | exact br1_ok hc | exact Nat.succ_pos _ | exact hr | exact hA1 | exact hA2 | exact hg | refine And.intro ?_ ?_ | intro _)
 refine Vq (Vq ?_)
 refine Vr hG rfl ?_ ?_
 · repeat' (first | exact trivial | exact hc | exact br1_ok hc | exact Nat.succ_pos _ | exact hr | exact hA1 | exact hA2 | exact hg | refine And.intro ?_ ?_ | intro _)
 refine Vb (Vm hG rfl ?_)
 refine Vk rfl ?_ ?_<;>intro h0
 · refine Vn hG rfl (Vm hG rfl (Vt ?_))
   have e:renB c a1=_:=((renB_eq c a1).trans (cT h0))
   refine⟨⟨?_,trivial⟩,?_,trivial⟩
   · exact(congrArg Prod.snd e).symm
   · exact(congrArg (fun r=>r.1) e).symm
 · refine Vm hG rfl ?_
   refine Vk rfl ?_ ?_<;>intro h1
   · refine Vr hG rfl ?_ ?_
     · repeat' (first | exact trivial | exact hc | exact br1_ok hc | exact Nat.succ_pos _ | exact hr | exact hA1 | exact hA2 | exact hg | refine And.intro ?_ ?_ | intro _)
     refine Vm hG rfl (Vt ?_)
     have e:renB c a1=_:=((renB_eq c a1).trans ((cF h0).trans (cT h1)))
     refine⟨⟨?_,trivial⟩,?_,trivial⟩
     · exact(congrArg Prod.snd e).symm
     · exact(congrArg (fun r=>r.1) e).symm
   · refine Vm hG rfl ?_
     refine Vk rfl ?_ ?_<;>intro h2
     · refine Vr hG rfl ?_ ?_
       · repeat' (first | exact trivial | exact hc | exact br1_ok hc | exact Nat.succ_pos _ | exact hr | exact hA1 | exact hA2 | exact hg | refine And.intro ?_ ?_ | intro _)
       refine Vm hG rfl (Vt ?_)
       have e:renB c a1=_:=((renB_eq c a1).trans ((cF h0).trans ((cF h1).trans (cT h2))))
       refine⟨⟨?_,trivial⟩,?_,trivial⟩
       · exact(congrArg Prod.snd e).symm
       · exact(congrArg (fun r=>r.1) e).symm
     · refine Vm hG rfl ?_
       refine Vk rfl ?_ ?_<;>intro h3
       · refine Vr hG rfl ?_ ?_
         · repeat' (first | exact trivial | exact hc | exact br1_ok hc | exact Nat.succ_pos _ | exact hr | exact hA1 | exact hA2 | exact hg | refine And.intro ?_ ?_ | intro _)
         refine Vm hG rfl (Vt ?_)
         have e:renB c a1=_:=((renB_eq c a1).trans ((cF h0).trans ((cF h1).trans ((cF h2).trans (cT h3)))))
         refine⟨⟨?_,trivial⟩,?_,trivial⟩
         · exact(congrArg Prod.snd e).symm
         · exact(congrArg (fun r=>r.1) e).symm
       · refine Vm hG rfl ?_
         refine Vk rfl ?_ ?_<;>intro h4
         · refine VrD mixed hG rfl (by kernel_rfl) ?_ ?_
           · repeat' (first | exact trivial | exact hc | exact br1_ok hc | exact Nat.succ_pos _ | exact hr | exact hA1 | exact hA2 | exact hg | refine And.intro ?_ ?_ | intro _)
           refine Vm hG rfl (Vt ?_)
           have e:renB c a1=_:=((renB_eq c a1).trans ((cF h0).trans ((cF h1).trans ((cF h2).trans ((cF h3).trans (cT h4))))))
           refine⟨⟨?_,trivial⟩,?_,trivial⟩
           · exact(congrArg Prod.snd e).symm
           · exact(congrArg (fun r=>r.1) e).symm
         · refine Vm hG rfl ?_
           refine Vk rfl ?_ ?_<;>intro h5
           · refine Vm hG rfl ?_
             refine Vk rfl ?_ ?_<;>intro h6
             · have hg:inRange 0 (List.length a1.2.2.2.2):=⟨Int.le_refl _,oTr h6⟩
               refine VrD mixed hG rfl (by kernel_rfl) ?_ ?_
               · repeat' (first | exact trivial | exact hc | exact br1_ok hc | exact Nat.succ_pos _ | exact hr | exact hA1 | exact hA2 | exact hg | refine And.intro ?_ ?_ | intro _)
               refine Vm hG rfl (Vt ?_)
               have e:renB c a1=_:=((renB_eq c a1).trans ((cF h0).trans ((cF h1).trans ((cF h2).trans ((cF h3).trans ((cF h4).trans ((cT h5).trans (cT h6))))))))
               refine⟨⟨?_,trivial⟩,?_,trivial⟩
               · exact(congrArg Prod.snd e).symm
               · exact(congrArg (fun r=>r.1) e).symm
             · refine Vs (Vm hG rfl (Vt ?_))
               have e:renB c a1=_:=((renB_eq c a1).trans ((cF h0).trans ((cF h1).trans ((cF h2).trans ((cF h3).trans ((cF h4).trans ((cT h5).trans (cF h6))))))))
               refine⟨⟨?_,trivial⟩,?_,trivial⟩
               · exact(congrArg Prod.snd e).symm
               · exact(congrArg (fun r=>r.1) e).symm
           · refine Vs (Vm hG rfl (Vt ?_))
             have e:renB c a1=_:=((renB_eq c a1).trans ((cF h0).trans ((cF h1).trans ((cF h2).trans ((cF h3).trans ((cF h4).trans (cF h5)))))))
             refine⟨⟨?_,trivial⟩,?_,trivial⟩
             · exact(congrArg Prod.snd e).symm
             · exact(congrArg (fun r=>r.1) e).symm
noncomputable def P179:PFun:=⟨.pure Y18,[],[.pure Y62,.pure Y22,.pure Y51],fun x _=>curOk x,fun x _=>(anyD x).2,fun x _=>((anyD x).1.1,(anyD x).1.2.1,(anyD x).1.2.2,())⟩
theorem P179_ok:MeetsP Tryz.prog 179 P179:=by
 refine meetsP_of_vc (C:=mkCP 73 [2,3,4] [0,2,3,4,5,6,7,8,16,17,26,38,43,60,65] [⟨248,_,F248_ok⟩] [] [] [⟨194,_,P194_ok⟩,⟨74,_,P74_ok⟩,⟨134,_,P134_ok⟩,⟨258,_,P258_ok⟩] [0]) (mkCP_ok _ _ _ _ _ _ _ _) (fO _) Tryz.func179 rfl rfl rfl (by decide) rfl rfl rfl ?_ rfl
 rintro c ⟨_⟩ hwc hwf hpre ⟨⟩ hG rfl rfl
 show Vc _ _ [(0,⟨0,0,.c (.ref Z23) c⟩)] _
 have hc0:curOk c:=hpre
 have hk:=strandD_ok hc0
 have hq:=an1_ok hc0
 refine Vm hG rfl (Vq ?_)
 refine VrT hG rfl ?_ ?_
 · repeat' (first | exact trivial | exact hc0 | exact hk | exact hq | exact pieceB_ok hq | exact strandD_pos c | exact anApp c | exact anPiece c | exact below_ok hq | exact hr | exact anRen hr | exact hg | refine And.intro ?_ ?_ | intro _)
 refine Vq (Vq ?_)
 refine Vr hG rfl ?_ ?_
 · repeat' (first | exact trivial | exact hc0 | exact hk | exact hq | exact pieceB_ok hq | exact strandD_pos c | exact anApp c | exact anPiece c | exact below_ok hq | exact hr | exact anRen hr | exact hg | refine And.intro ?_ ?_ | intro _)
 refine Vb (Vm hG rfl ?_)
 refine Vk rfl ?_ ?_<;>intro h0
 · refine VrD mixed hG rfl (by kernel_rfl) ?_ ?_
   · repeat' (first | exact trivial | exact hc0 | exact hk | exact hq | exact pieceB_ok hq | exact strandD_pos c | exact anApp c | exact anPiece c | exact below_ok hq | exact hr | exact anRen hr | exact hg | refine And.intro ?_ ?_ | intro _)
   refine Vq (VrD mixed hG rfl (by kernel_rfl) (by trivial) ?_)
   refine Vc.frz 2 rfl ?_
   refine Vc.frz 3 rfl ?_
   refine Vt ?_
   have e:anyD c=_:=((anyD_eq c).trans (cT h0))
   refine⟨⟨?_,trivial⟩,?_,?_,?_,trivial⟩
   · exact(congrArg Prod.snd e).symm
   · exact(congrArg (fun r=>r.1.1) e).symm
   · exact(congrArg (fun r=>r.1.2.1) e).symm
   · exact(congrArg (fun r=>r.1.2.2) e).symm
 · refine Vm hG rfl ?_
   refine Vk rfl ?_ ?_<;>intro h1
   · refine VrD mixed hG rfl (by kernel_rfl) ?_ ?_
     · repeat' (first | exact trivial | exact hc0 | exact hk | exact hq | exact pieceB_ok hq | exact strandD_pos c | exact anApp c | exact anPiece c | exact below_ok hq | exact hr | exact anRen hr | exact hg | refine And.intro ?_ ?_ | intro _)
     refine Vq (VrD mixed hG rfl (by kernel_rfl) (by trivial) ?_)
     refine Vc.frz 2 rfl ?_
     refine Vc.frz 3 rfl ?_
     refine Vt ?_
     have e:anyD c=_:=((anyD_eq c).trans ((cF h0).trans (cT h1)))
     refine⟨⟨?_,trivial⟩,?_,?_,?_,trivial⟩
     · exact(congrArg Prod.snd e).symm
     · exact(congrArg (fun r=>r.1.1) e).symm
     · exact(congrArg (fun r=>r.1.2.1) e).symm
     · exact(congrArg (fun r=>r.1.2.2) e).symm
   · refine Vm hG rfl ?_
     refine Vk rfl ?_ ?_<;>intro h2
     · refine Vm hG rfl ?_
       refine Vk rfl ?_ ?_<;>intro h3
       · have hg:=oTr h3
         have hr:=anIdx c hg
         refine Vq ?_
         refine Vr hG rfl ?_ ?_
         · repeat' (first | exact trivial | exact hc0 | exact hk | exact hq | exact pieceB_ok hq | exact strandD_pos c | exact anApp c | exact anPiece c | exact below_ok hq | exact hr | exact anRen hr | exact hg | refine And.intro ?_ ?_ | intro _)
         refine Vc.frzIR 5 rfl rfl _ HEq.rfl ?_
         refine VrD mixed hG rfl (by kernel_rfl) ?_ ?_
         · repeat' (first | exact trivial | exact hc0 | exact hk | exact hq | exact pieceB_ok hq | exact strandD_pos c | exact anApp c | exact anPiece c | exact below_ok hq | exact hr | exact anRen hr | exact hg | refine And.intro ?_ ?_ | intro _)
         refine Vq (VrD mixed hG rfl (by kernel_rfl) (by trivial) ?_)
         refine Vc.frz 2 rfl ?_
         refine Vc.frz 3 rfl ?_
         refine Vt ?_
         have e:anyD c=_:=((anyD_eq c).trans ((cF h0).trans ((cF h1).trans ((cT h2).trans (cT h3)))))
         refine⟨⟨?_,trivial⟩,?_,?_,?_,trivial⟩
         · exact(congrArg Prod.snd e).symm
         · exact(congrArg (fun r=>r.1.1) e).symm
         · exact(congrArg (fun r=>r.1.2.1) e).symm
         · exact(congrArg (fun r=>r.1.2.2) e).symm
       · refine Vs (Vq (VrD mixed hG rfl (by kernel_rfl) (by trivial) ?_))
         refine Vc.frz 2 rfl ?_
         refine Vc.frz 3 rfl ?_
         refine Vt ?_
         have e:anyD c=_:=((anyD_eq c).trans ((cF h0).trans ((cF h1).trans ((cT h2).trans (cF h3)))))
         refine⟨⟨?_,trivial⟩,?_,?_,?_,trivial⟩
         · exact(congrArg Prod.snd e).symm
         · exact(congrArg (fun r=>r.1.1) e).symm
         · exact(congrArg (fun r=>r.1.2.1) e).symm
         · exact(congrArg (fun r=>r.1.2.2) e).symm
     · refine Vm hG rfl ?_
       refine Vk rfl ?_ ?_<;>intro h4
       · refine Vm hG rfl ?_
         refine Vk rfl ?_ ?_<;>intro h5
         · have hg:=anTail (oTr h5)
           refine Vc.frz 5 rfl ?_
           refine Vr hG rfl ?_ ?_
           · repeat' (first | exact trivial | exact hc0 | exact hk | exact hq | exact pieceB_ok hq | exact strandD_pos c | exact anApp c | exact anPiece c | exact below_ok hq | exact hr | exact anRen hr | exact hg | refine And.intro ?_ ?_ | intro _)
           refine Vq (VrD mixed hG rfl (by kernel_rfl) (by trivial) ?_)
           refine Vc.frz 2 rfl ?_
           refine Vc.frz 3 rfl ?_
           refine Vt ?_
           have e:anyD c=_:=((anyD_eq c).trans ((cF h0).trans ((cF h1).trans ((cF h2).trans ((cT h4).trans (cT h5))))))
           refine⟨⟨?_,trivial⟩,?_,?_,?_,trivial⟩
           · exact(congrArg Prod.snd e).symm
           · exact(congrArg (fun r=>r.1.1) e).symm
           · exact(congrArg (fun r=>r.1.2.1) e).symm
           · exact(congrArg (fun r=>r.1.2.2) e).symm
         · refine Vs (Vq (VrD mixed hG rfl (by kernel_rfl) (by trivial) ?_))
           refine Vc.frz 2 rfl ?_
           refine Vc.frz 3 rfl ?_
           refine Vt ?_
           have e:anyD c=_:=((anyD_eq c).trans ((cF h0).trans ((cF h1).trans ((cF h2).trans ((cT h4).trans (cF h5))))))
           refine⟨⟨?_,trivial⟩,?_,?_,?_,trivial⟩
           · exact(congrArg Prod.snd e).symm
           · exact(congrArg (fun r=>r.1.1) e).symm
           · exact(congrArg (fun r=>r.1.2.1) e).symm
           · exact(congrArg (fun r=>r.1.2.2) e).symm
       · refine Vs (Vq (VrD mixed hG rfl (by kernel_rfl) (by trivial) ?_))
         refine Vc.frz 2 rfl ?_
         refine Vc.frz 3 rfl ?_
         refine Vt ?_
         have e:anyD c=_:=((anyD_eq c).trans ((cF h0).trans ((cF h1).trans ((cF h2).trans (cF h4)))))
         refine⟨⟨?_,trivial⟩,?_,?_,?_,trivial⟩
         · exact(congrArg Prod.snd e).symm
         · exact(congrArg (fun r=>r.1.1) e).symm
         · exact(congrArg (fun r=>r.1.2.1) e).symm
         · exact(congrArg (fun r=>r.1.2.2) e).symm
noncomputable def P114:PFun:=⟨.pure Y18,[],[.pair Z67 Z42,.pure Y22,.pure Y51],fun x _=>curOk x,fun x _=>(evAnyD x).2,fun x _=>((evAnyD x).1.1,(evAnyD x).1.2.1,(evAnyD x).1.2.2,())⟩
theorem P114_ok:MeetsP Tryz.prog 114 P114:=by
 refine meetsP_of_vc (C:=mkCP 61 [2,3,4] [0,2,3,4,5,6,7,8,18,19,33,43] [⟨162,_,F162o_ok⟩] [] [] [⟨159,_,P159_ok⟩,⟨74,_,P74_ok⟩,⟨179,_,P179_ok⟩,⟨180,_,P180_ok⟩,⟨134,_,P134_ok⟩] [0]) (mkCP_ok _ _ _ _ _ _ _ _) (fO _) Tryz.func114 rfl rfl rfl (by decide) rfl rfl rfl ?_ rfl
 rintro c ⟨_⟩ hwc hwf hpre ⟨⟩ hG rfl rfl
 show Vc _ _ [(0,⟨0,0,.c (.ref Z23) c⟩)] _
 have hc0:curOk c:=hpre
 have hk:=(caseD_P hc0).2.1
 have hq:=en1_ok hc0
 refine Vm hG rfl (Vq ?_)
 refine VrT hG rfl ?_ ?_
 · repeat' (first | exact trivial | exact hc0 | exact hk | exact hq | exact enApp1 hc0 | exact enApp2 hc0 | exact enIdx hc0 | exact enStr hc0 | exact sm_up (show 64≤big20 by decide) _ _ (pieceB_sm _) | refine And.intro ?_ ?_ | intro _)
 refine Vq (Vq ?_)
 refine Vr hG rfl ?_ ?_
 · repeat' (first | exact trivial | exact hc0 | exact hk | exact hq | exact enApp1 hc0 | exact enApp2 hc0 | exact enIdx hc0 | exact enStr hc0 | exact sm_up (show 64≤big20 by decide) _ _ (pieceB_sm _) | refine And.intro ?_ ?_ | intro _)
 refine Vb (Vm hG rfl ?_)
 refine Vk rfl ?_ ?_<;>intro h0
 · refine Vq ?_
   refine VrT hG rfl ?_ ?_
   · repeat' (first | exact trivial | exact hc0 | exact hk | exact hq | exact enApp1 hc0 | exact enApp2 hc0 | exact enIdx hc0 | exact enStr hc0 | exact sm_up (show 64≤big20 by decide) _ _ (pieceB_sm _) | refine And.intro ?_ ?_ | intro _)
   refine Vr hG rfl ?_ ?_
   · repeat' (first | exact trivial | exact hc0 | exact hk | exact hq | exact enApp1 hc0 | exact enApp2 hc0 | exact enIdx hc0 | exact enStr hc0 | exact sm_up (show 64≤big20 by decide) _ _ (pieceB_sm _) | refine And.intro ?_ ?_ | intro _)
   refine Vq (VrD mixed hG rfl (by kernel_rfl) (by trivial) (Vt ?_))
   have e:evAnyD c=_:=((evAny_eq c).trans (cT h0))
   refine⟨⟨?_,trivial⟩,?_,?_,?_,trivial⟩
   · exact(congrArg Prod.snd e).symm
   · exact(congrArg (fun r=>r.1.1) e).symm
   · exact(congrArg (fun r=>r.1.2.1) e).symm
   · exact(congrArg (fun r=>r.1.2.2) e).symm
 · refine Vm hG rfl ?_
   refine Vk rfl ?_ ?_<;>intro h1
   · refine VrX mixed hG rfl (by kernel_rfl) ?_ ?_
     · repeat' (first | exact trivial | exact hc0 | exact hk | exact hq | exact enApp1 hc0 | exact enApp2 hc0 | exact enIdx hc0 | exact enStr hc0 | exact sm_up (show 64≤big20 by decide) _ _ (pieceB_sm _) | refine And.intro ?_ ?_ | intro _)
     refine Vq (VrD mixed hG rfl (by kernel_rfl) (by trivial) (Vt ?_))
     have e:evAnyD c=_:=((evAny_eq c).trans ((cF h0).trans (cT h1)))
     refine⟨⟨?_,trivial⟩,?_,?_,?_,trivial⟩
     · exact(congrArg Prod.snd e).symm
     · exact(congrArg (fun r=>r.1.1) e).symm
     · exact(congrArg (fun r=>r.1.2.1) e).symm
     · exact(congrArg (fun r=>r.1.2.2) e).symm
   · refine Vm hG rfl ?_
     refine Vk rfl ?_ ?_<;>intro h2
     · refine VrL mixed hG rfl (by kernel_rfl) ?_ ?_
       · repeat' (first | exact trivial | exact hc0 | exact hk | exact hq | exact enApp1 hc0 | exact enApp2 hc0 | exact enIdx hc0 | exact enStr hc0 | exact sm_up (show 64≤big20 by decide) _ _ (pieceB_sm _) | refine And.intro ?_ ?_ | intro _)
       refine Vq (VrD mixed hG rfl (by kernel_rfl) (by trivial) (Vt ?_))
       have e:evAnyD c=_:=((evAny_eq c).trans ((cF h0).trans ((cF h1).trans (cT h2))))
       refine⟨⟨?_,trivial⟩,?_,?_,?_,trivial⟩
       · exact(congrArg Prod.snd e).symm
       · exact(congrArg (fun r=>r.1.1) e).symm
       · exact(congrArg (fun r=>r.1.2.1) e).symm
       · exact(congrArg (fun r=>r.1.2.2) e).symm
     · refine Vs (Vq (VrD mixed hG rfl (by kernel_rfl) (by trivial) (Vt ?_)))
       have e:evAnyD c=_:=((evAny_eq c).trans ((cF h0).trans ((cF h1).trans (cF h2))))
       refine⟨⟨?_,trivial⟩,?_,?_,?_,trivial⟩
       · exact(congrArg Prod.snd e).symm
       · exact(congrArg (fun r=>r.1.1) e).symm
       · exact(congrArg (fun r=>r.1.2.1) e).symm
       · exact(congrArg (fun r=>r.1.2.2) e).symm
noncomputable def P115:PFun:=⟨.pure Y18,[.pair (.int .i64) Y48],[.pure Y51],fun x xs=>(fun c (_:Sig)=>curOk c) x xs.1,fun x xs=>(sigB x xs.1).2,fun x xs=>((sigB x xs.1).1,())⟩
theorem P115_ok:MeetsP Tryz.prog 115 P115:=by
 refine meetsP_of_vc (C:=mkCP 31 [4] [0,1,3,4,6,7,13,19,24] [] [] [] [⟨74,_,P74_ok⟩,⟨181,_,P181_ok⟩] [0]) (mkCP_ok _ _ _ _ _ _ _ _) (fO _) Tryz.func115 rfl rfl rfl (by decide) rfl rfl rfl ?_ rfl
 rintro c ⟨a1,_⟩ hwc hwf hpre ⟨⟩ hG rfl rfl
 show Vc _ _ [(0,⟨0,0,.c (.ref Z23) c⟩),(1,⟨0,0,.c Z52 a1⟩)] _
 refine Vm hG rfl (Vq (Vq ?_))
 refine Vr hG rfl ?_ ?_
 · repeat' (first | exact trivial | exact hpre | exact sb1_ok hpre | exact Nat.succ_pos _ | refine And.intro ?_ ?_ | intro _)
 refine Vb (Vm hG rfl ?_)
 refine Vk rfl ?_ ?_<;>intro h0
 · refine Vn hG rfl (Vm hG rfl (Vt ?_))
   have e:sigB c a1=_:=((sigB_eq c a1).trans (cT h0))
   refine⟨⟨?_,trivial⟩,?_,trivial⟩
   · exact(congrArg Prod.snd e).symm
   · exact(congrArg (fun r=>r.1) e).symm
 · refine Vm hG rfl ?_
   refine Vk rfl ?_ ?_<;>intro h1
   · refine Vr hG rfl ?_ ?_
     · repeat' (first | exact trivial | exact hpre | exact sb1_ok hpre | exact Nat.succ_pos _ | refine And.intro ?_ ?_ | intro _)
     refine Vm hG rfl (Vt ?_)
     have e:sigB c a1=_:=((sigB_eq c a1).trans ((cF h0).trans (cT h1)))
     refine⟨⟨?_,trivial⟩,?_,trivial⟩
     · exact(congrArg Prod.snd e).symm
     · exact(congrArg (fun r=>r.1) e).symm
   · refine Vm hG rfl ?_
     refine Vk rfl ?_ ?_<;>intro h2
     · refine Vr hG rfl ?_ ?_
       · repeat' (first | exact trivial | exact hpre | exact sb1_ok hpre | exact Nat.succ_pos _ | refine And.intro ?_ ?_ | intro _)
       refine Vm hG rfl (Vt ?_)
       have e:sigB c a1=_:=((sigB_eq c a1).trans ((cF h0).trans ((cF h1).trans (cT h2))))
       refine⟨⟨?_,trivial⟩,?_,trivial⟩
       · exact(congrArg Prod.snd e).symm
       · exact(congrArg (fun r=>r.1) e).symm
     · refine Vm hG rfl ?_
       refine Vk rfl ?_ ?_<;>intro h3
       · refine Vn hG rfl (Vm hG rfl (Vt ?_))
         have e:sigB c a1=_:=((sigB_eq c a1).trans ((cF h0).trans ((cF h1).trans ((cF h2).trans (cT h3)))))
         refine⟨⟨?_,trivial⟩,?_,trivial⟩
         · exact(congrArg Prod.snd e).symm
         · exact(congrArg (fun r=>r.1) e).symm
       · refine Vs (Vm hG rfl (Vt ?_))
         have e:sigB c a1=_:=((sigB_eq c a1).trans ((cF h0).trans ((cF h1).trans ((cF h2).trans (cF h3)))))
         refine⟨⟨?_,trivial⟩,?_,trivial⟩
         · exact(congrArg Prod.snd e).symm
         · exact(congrArg (fun r=>r.1) e).symm
noncomputable def F32:Fun:=⟨[.slice (.int .u8)],[.pure Y63,.pure Y68,.pure Y22,.pure Y51],fun _=>True,fun x=>((judgeC x.1).1,(judgeC x.1).2.1,(judgeC x.1).2.2.1,(judgeC x.1).2.2.2,())⟩
theorem F32_ok:Meets Tryz.prog 32 F32:=by
 refine mZ (C:=mkCP 27 [2,3,4,5,6] [0,2,3,4,5,6,7,8,9,10] [⟨73,_,F73_ok⟩] [] [] [⟨113,_,P113_ok⟩,⟨114,_,P114_ok⟩,⟨115,_,P115_ok⟩] []) (mkCP_ok _ _ _ _ _ _ _ _) (fO _) Tryz.func32 rfl rfl rfl (by decide) rfl ?_
 rintro⟨a0,_⟩ hwf hpre ⟨⟩ hG rfl rfl
 show Vc _ _ [(0,⟨0,0,.c Z1 a0⟩)] _
 have hb:List.length a0≤bigLen:=hwf.1.1
 have hk:=jd_ok hb
 refine Vm hG rfl (Vq ?_)
 refine Vr hG rfl ?_ ?_
 · repeat' (first | exact trivial | exact newCur_ok hb | exact hk.1 | exact hk.2 | refine And.intro ?_ ?_ | intro _)
 refine Vq ?_
 refine Vr hG rfl ?_ ?_
 · repeat' (first | exact trivial | exact newCur_ok hb | exact hk.1 | exact hk.2 | refine And.intro ?_ ?_ | intro _)
 refine Vq ?_
 refine VrT hG rfl ?_ ?_
 · repeat' (first | exact trivial | exact newCur_ok hb | exact hk.1 | exact hk.2 | refine And.intro ?_ ?_ | intro _)
 refine Vq ?_
 refine VrD mixed hG rfl (by kernel_rfl) ?_ ?_
 · repeat' (first | exact trivial | exact newCur_ok hb | exact hk.1 | exact hk.2 | refine And.intro ?_ ?_ | intro _)
 refine Vc.frz 2 rfl ?_
 refine Vc.frz 3 rfl ?_
 refine Vc.frz 4 rfl ?_
 refine Vt ?_
 refine⟨?_,?_,?_,?_,trivial⟩
 all_goals exact rfl
end Fw
