/- Walks of functions of the program: what each computes. Conditions: those that each contract names. -/
import Derived.Test.YtpcljloahdbjcaaGreatW51T
import Derived.Test.YtpcljloahdbjcaaGreatW51s0
import Derived.Test.YtpcljloahdbjcaaGreatW51s1
set_option linter.unusedVariables false
namespace Fw
open Go Go.Proofs
set_option linter.unusedSimpArgs false
set_option maxRecDepth 100000
noncomputable def P134:PFun:=⟨.pure Y18,[],[.pair (.pure (.int .i64)) Z16],fun x _=>curOk x,fun x _=>(pieceB x).2,fun x _=>((pieceB x).1,())⟩
theorem P134_ok:MeetsP Tryz.prog 134 P134:=by
 refine meetsP_of_vc (C:=mkCP 45 [2] [0,2,3,7,8,13,20,26,34] [] [] [] [⟨201,_,P201_ok⟩,⟨74,_,P74_ok⟩,⟨181,_,P181_ok⟩,⟨138,_,P138_ok⟩] [0]) (mkCP_ok _ _ _ _ _ _ _ _) (fO _) Tryz.func134 rfl rfl rfl (by decide) rfl rfl rfl ?_ rfl
 rintro c ⟨_⟩ hwc hwf hpre ⟨⟩ hG rfl rfl
 show Vc _ _ [(0,⟨0,0,.c (.ref Z23) c⟩)] _
 refine Vm hG rfl (Vq ?_)
 refine Vr hG rfl ?_ ?_
 · repeat' (first | exact trivial | exact hpre | exact pieceD_ok hpre | exact bq1_ok hpre | exact Nat.succ_pos _ | exact pd0 c | exact pd1 c | exact pdApp c | refine And.intro ?_ ?_ | intro _)
 refine Vq (Vq ?_)
 refine Vr hG rfl ?_ ?_
 · repeat' (first | exact trivial | exact hpre | exact pieceD_ok hpre | exact bq1_ok hpre | exact Nat.succ_pos _ | exact pd0 c | exact pd1 c | exact pdApp c | refine And.intro ?_ ?_ | intro _)
 refine Vb (Vm hG rfl ?_)
 refine Vk rfl ?_ ?_<;>intro h0
 · refine Vr hG rfl ?_ ?_
   · repeat' (first | exact trivial | exact hpre | exact pieceD_ok hpre | exact bq1_ok hpre | exact Nat.succ_pos _ | exact pd0 c | exact pd1 c | exact pdApp c | refine And.intro ?_ ?_ | intro _)
   refine Vm hG rfl (Vt ?_)
   have e:pieceB c=_:=((pieceB_eq c).trans (cT h0))
   refine⟨⟨?_,trivial⟩,?_,trivial⟩
   · exact(congrArg Prod.snd e).symm
   · exact(congrArg (fun r=>r.1) e).symm
 · refine Vm hG rfl ?_
   refine Vk rfl ?_ ?_<;>intro h1
   · refine Vr hG rfl ?_ ?_
     · repeat' (first | exact trivial | exact hpre | exact pieceD_ok hpre | exact bq1_ok hpre | exact Nat.succ_pos _ | exact pd0 c | exact pd1 c | exact pdApp c | refine And.intro ?_ ?_ | intro _)
     refine Vm hG rfl (Vt ?_)
     have e:pieceB c=_:=((pieceB_eq c).trans ((cF h0).trans (cT h1)))
     refine⟨⟨?_,trivial⟩,?_,trivial⟩
     · exact(congrArg Prod.snd e).symm
     · exact(congrArg (fun r=>r.1) e).symm
   · refine Vm hG rfl ?_
     refine Vk rfl ?_ ?_<;>intro h2
     · refine Vn hG rfl (Vm hG rfl (Vt ?_))
       have e:pieceB c=_:=((pieceB_eq c).trans ((cF h0).trans ((cF h1).trans (cT h2))))
       refine⟨⟨?_,trivial⟩,?_,trivial⟩
       · exact(congrArg Prod.snd e).symm
       · exact(congrArg (fun r=>r.1) e).symm
     · refine Vm hG rfl ?_
       refine Vk rfl ?_ ?_<;>intro h3
       · refine VrD mixed hG rfl (by kernel_rfl) ?_ ?_
         · repeat' (first | exact trivial | exact hpre | exact pieceD_ok hpre | exact bq1_ok hpre | exact Nat.succ_pos _ | exact pd0 c | exact pd1 c | exact pdApp c | refine And.intro ?_ ?_ | intro _)
         refine Vm hG rfl (Vt ?_)
         have e:pieceB c=_:=((pieceB_eq c).trans ((cF h0).trans ((cF h1).trans ((cF h2).trans (cT h3)))))
         refine⟨⟨?_,trivial⟩,?_,trivial⟩
         · exact(congrArg Prod.snd e).symm
         · exact(congrArg (fun r=>r.1) e).symm
       · refine Vm hG rfl ?_
         refine Vk rfl ?_ ?_<;>intro h4
         · refine VrD mixed hG rfl (by kernel_rfl) ?_ ?_
           · repeat' (first | exact trivial | exact hpre | exact pieceD_ok hpre | exact bq1_ok hpre | exact Nat.succ_pos _ | exact pd0 c | exact pd1 c | exact pdApp c | refine And.intro ?_ ?_ | intro _)
           refine Vm hG rfl (Vt ?_)
           have e:pieceB c=_:=((pieceB_eq c).trans ((cF h0).trans ((cF h1).trans ((cF h2).trans ((cF h3).trans (cT h4))))))
           refine⟨⟨?_,trivial⟩,?_,trivial⟩
           · exact(congrArg Prod.snd e).symm
           · exact(congrArg (fun r=>r.1) e).symm
         · refine Vs (Vm hG rfl (Vt ?_))
           have e:pieceB c=_:=((pieceB_eq c).trans ((cF h0).trans ((cF h1).trans ((cF h2).trans ((cF h3).trans (cF h4))))))
           refine⟨⟨?_,trivial⟩,?_,trivial⟩
           · exact(congrArg Prod.snd e).symm
           · exact(congrArg (fun r=>r.1) e).symm
noncomputable def P180:PFun:=⟨.pure Y18,[],[.pure Y36],fun x _=>curOk x,fun x _=>(bentD x).2,fun x _=>((bentD x).1,())⟩
theorem P180_ok:MeetsP Tryz.prog 180 P180:=by
 refine meetsP_of_vc (C:=mkCP 37 [2] [0,2,3,7,8,13,19,24,30] [] [] [] [⟨259,_,P259_ok⟩,⟨74,_,P74_ok⟩,⟨138,_,P138_ok⟩,⟨178,_,P178_ok⟩] [0]) (mkCP_ok _ _ _ _ _ _ _ _) (fO _) Tryz.func180 rfl rfl rfl (by decide) rfl rfl rfl ?_ rfl
 rintro c ⟨_⟩ hwc hwf hpre ⟨⟩ hG rfl rfl
 show Vc _ _ [(0,⟨0,0,.c (.ref Z23) c⟩)] _
 refine Vm hG rfl (Vq ?_)
 refine Vr hG rfl ?_ ?_
 · repeat' (first | exact trivial | exact hpre | exact stampD_ok hpre | exact bs1_ok hpre | exact Nat.succ_pos _ | refine And.intro ?_ ?_ | intro _)
 refine Vq (Vq ?_)
 refine Vr hG rfl ?_ ?_
 · repeat' (first | exact trivial | exact hpre | exact stampD_ok hpre | exact bs1_ok hpre | exact Nat.succ_pos _ | refine And.intro ?_ ?_ | intro _)
 refine Vb (Vm hG rfl ?_)
 refine Vk rfl ?_ ?_<;>intro h0
 · refine Vr hG rfl ?_ ?_
   · repeat' (first | exact trivial | exact hpre | exact stampD_ok hpre | exact bs1_ok hpre | exact Nat.succ_pos _ | refine And.intro ?_ ?_ | intro _)
   refine Vm hG rfl (Vt ?_)
   have e:bentD c=_:=((bent_eq c).trans (cT h0))
   refine⟨⟨?_,trivial⟩,?_,trivial⟩
   · exact(congrArg Prod.snd e).symm
   · exact(congrArg (fun r=>r.1) e).symm
 · refine Vm hG rfl ?_
   refine Vk rfl ?_ ?_<;>intro h1
   · refine Vr hG rfl ?_ ?_
     · repeat' (first | exact trivial | exact hpre | exact stampD_ok hpre | exact bs1_ok hpre | exact Nat.succ_pos _ | refine And.intro ?_ ?_ | intro _)
     refine Vm hG rfl (Vt ?_)
     have e:bentD c=_:=((bent_eq c).trans ((cF h0).trans (cT h1)))
     refine⟨⟨?_,trivial⟩,?_,trivial⟩
     · exact(congrArg Prod.snd e).symm
     · exact(congrArg (fun r=>r.1) e).symm
   · refine Vm hG rfl ?_
     refine Vk rfl ?_ ?_<;>intro h2
     · refine Vr hG rfl ?_ ?_
       · repeat' (first | exact trivial | exact hpre | exact stampD_ok hpre | exact bs1_ok hpre | exact Nat.succ_pos _ | refine And.intro ?_ ?_ | intro _)
       refine Vm hG rfl (Vt ?_)
       have e:bentD c=_:=((bent_eq c).trans ((cF h0).trans ((cF h1).trans (cT h2))))
       refine⟨⟨?_,trivial⟩,?_,trivial⟩
       · exact(congrArg Prod.snd e).symm
       · exact(congrArg (fun r=>r.1) e).symm
     · refine Vm hG rfl ?_
       refine Vk rfl ?_ ?_<;>intro h3
       · refine Vn hG rfl (Vm hG rfl (Vt ?_))
         have e:bentD c=_:=((bent_eq c).trans ((cF h0).trans ((cF h1).trans ((cF h2).trans (cT h3)))))
         refine⟨⟨?_,trivial⟩,?_,trivial⟩
         · exact(congrArg Prod.snd e).symm
         · exact(congrArg (fun r=>r.1) e).symm
       · refine Vm hG rfl ?_
         refine Vk rfl ?_ ?_<;>intro h4
         · refine Vn hG rfl (Vm hG rfl (Vt ?_))
           have e:bentD c=_:=((bent_eq c).trans ((cF h0).trans ((cF h1).trans ((cF h2).trans ((cF h3).trans (cT h4))))))
           refine⟨⟨?_,trivial⟩,?_,trivial⟩
           · exact(congrArg Prod.snd e).symm
           · exact(congrArg (fun r=>r.1) e).symm
         · refine Vs (Vm hG rfl (Vt ?_))
           have e:bentD c=_:=((bent_eq c).trans ((cF h0).trans ((cF h1).trans ((cF h2).trans ((cF h3).trans (cF h4))))))
           refine⟨⟨?_,trivial⟩,?_,trivial⟩
           · exact(congrArg Prod.snd e).symm
           · exact(congrArg (fun r=>r.1) e).symm
noncomputable def P258:PFun:=⟨.pure Y18,[.pair (.int .i64) Y53],[.pair (.pure (.int .i64)) Z57],fun x xs=>(fun c (r:Renewal)=>curOk c∧Sm 64 Y56 r) x xs.1,fun x xs=>(renB x xs.1).2,fun x xs=>((renB x xs.1).1,())⟩
theorem P258_ok:MeetsP Tryz.prog 258 P258:=by
 refine meetsP_of_vc (C:=mkCP 56 [4] [0,1,3,4,8,9,15,20,26,34,43,48] [⟨245,_,F245_ok⟩] [] [] [⟨74,_,P74_ok⟩,⟨138,_,P138_ok⟩,⟨180,_,P180_ok⟩,⟨178,_,P178_ok⟩] [0]) (mkCP_ok _ _ _ _ _ _ _ _) (fO _) Tryz.func258 rfl rfl rfl (by decide) rfl rfl rfl ?_ rfl
 rintro c ⟨a1,_⟩ hwc hwf hpre ⟨⟩ hG rfl rfl
 show Vc _ _ [(0,⟨0,0,.c (.ref Z23) c⟩),(1,⟨0,0,.c Z58 a1⟩)] _
 have hc:curOk c:=hpre.1
 have hr:=sm_up (show 64≤big20 by decide) _ _ hpre.2
 have hA1:=app64 hpre.2.2.2.2.1.1
 have hA2:=app64 hpre.2.2.2.2.2.1
 refine Vm hG rfl (Vq ?_)
 refine Vr hG rfl ?_ ?_
 · repeat' (first | exact trivial | exact hc | exact br1_ok hc | exact Nat.succ_pos _ | exact hr | exact hA1 | exact hA2 | exact hg | refine And.intro ?_ ?_ | intro _)
 refine Vq (Vq ?_)
 refine Vr hG rfl ?_ ?_
 · repeat' (first | exact trivial | exact hc | exact br1_ok hc | exact Nat.succ_pos _ | exact hr | exact hA1 | exact hA2 | exact hg | refine And.intro ?_ ?_ | intro _)
 refine Vb (Vm hG rfl ?_)
 refine Vk rfl ?_ ?_<;>intro h0
 · refine Vn hG rfl (Vm hG rfl (Vt ?_))
   have e:renB c a1=_:=((renB_eq c a1).trans (cT h0))
   refine⟨⟨?_,trivial⟩,?_,trivial⟩
   · exact(congrArg Prod.snd e).symm
   · exact(congrArg (fun r=>r.1) e).symm
 · refine Vm hG rfl ?_
   refine Vk rfl ?_ ?_<;>intro h1
   · refine Vr hG rfl ?_ ?_
     · repeat' (first | exact trivial | exact hc | exact br1_ok hc | exact Nat.succ_pos _ | exact hr | exact hA1 | exact hA2 | exact hg | refine And.intro ?_ ?_ | intro _)
     refine Vm hG rfl (Vt ?_)
     have e:renB c a1=_:=((renB_eq c a1).trans ((cF h0).trans (cT h1)))
     refine⟨⟨?_,trivial⟩,?_,trivial⟩
     · exact(congrArg Prod.snd e).symm
     · exact(congrArg (fun r=>r.1) e).symm
   · refine Vm hG rfl ?_
     refine Vk rfl ?_ ?_<;>intro h2
     · refine Vr hG rfl ?_ ?_
       · repeat' (first | exact trivial | exact hc | exact br1_ok hc | exact Nat.succ_pos _ | exact hr | exact hA1 | exact hA2 | exact hg | refine And.intro ?_ ?_ | intro _)
       refine Vm hG rfl (Vt ?_)
       have e:renB c a1=_:=((renB_eq c a1).trans ((cF h0).trans ((cF h1).trans (cT h2))))
       refine⟨⟨?_,trivial⟩,?_,trivial⟩
       · exact(congrArg Prod.snd e).symm
       · exact(congrArg (fun r=>r.1) e).symm
     · refine Vm hG rfl ?_
       refine Vk rfl ?_ ?_<;>intro h3
       · refine Vr hG rfl ?_ ?_
         · repeat' (first | exact trivial | exact hc | exact br1_ok hc | exact Nat.succ_pos _ | exact hr | exact hA1 | exact hA2 | exact hg | refine And.intro ?_ ?_ | intro _)
         refine Vm hG rfl (Vt ?_)
         have e:renB c a1=_:=((renB_eq c a1).trans ((cF h0).trans ((cF h1).trans ((cF h2).trans (cT h3)))))
         refine⟨⟨?_,trivial⟩,?_,trivial⟩
         · exact(congrArg Prod.snd e).symm
         · exact(congrArg (fun r=>r.1) e).symm
       · refine Vm hG rfl ?_
         refine Vk rfl ?_ ?_<;>intro h4
         · refine VrD mixed hG rfl (by kernel_rfl) ?_ ?_
           · repeat' (first | exact trivial | exact hc | exact br1_ok hc | exact Nat.succ_pos _ | exact hr | exact hA1 | exact hA2 | exact hg | refine And.intro ?_ ?_ | intro _)
           refine Vm hG rfl (Vt ?_)
           have e:renB c a1=_:=((renB_eq c a1).trans ((cF h0).trans ((cF h1).trans ((cF h2).trans ((cF h3).trans (cT h4))))))
           refine⟨⟨?_,trivial⟩,?_,trivial⟩
           · exact(congrArg Prod.snd e).symm
           · exact(congrArg (fun r=>r.1) e).symm
         · refine Vm hG rfl ?_
           refine Vk rfl ?_ ?_<;>intro h5
           · refine Vm hG rfl ?_
             refine Vk rfl ?_ ?_<;>intro h6
             · have hg:inRange 0 (List.length a1.2.2.2.2):=⟨Int.le_refl _,oTr h6⟩
               refine VrD mixed hG rfl (by kernel_rfl) ?_ ?_
               · repeat' (first | exact trivial | exact hc | exact br1_ok hc | exact Nat.succ_pos _ | exact hr | exact hA1 | exact hA2 | exact hg | refine And.intro ?_ ?_ | intro _)
               refine Vm hG rfl (Vt ?_)
               have e:renB c a1=_:=((renB_eq c a1).trans ((cF h0).trans ((cF h1).trans ((cF h2).trans ((cF h3).trans ((cF h4).trans ((cT h5).trans (cT h6))))))))
               refine⟨⟨?_,trivial⟩,?_,trivial⟩
               · exact(congrArg Prod.snd e).symm
               · exact(congrArg (fun r=>r.1) e).symm
             · refine Vs (Vm hG rfl (Vt ?_))
               have e:renB c a1=_:=((renB_eq c a1).trans ((cF h0).trans ((cF h1).trans ((cF h2).trans ((cF h3).trans ((cF h4).trans ((cT h5).trans (cF h6))))))))
               refine⟨⟨?_,trivial⟩,?_,trivial⟩
               · exact(congrArg Prod.snd e).symm
               · exact(congrArg (fun r=>r.1) e).symm
           · refine Vs (Vm hG rfl (Vt ?_))
             have e:renB c a1=_:=((renB_eq c a1).trans ((cF h0).trans ((cF h1).trans ((cF h2).trans ((cF h3).trans ((cF h4).trans (cF h5)))))))
             refine⟨⟨?_,trivial⟩,?_,trivial⟩
             · exact(congrArg Prod.snd e).symm
             · exact(congrArg (fun r=>r.1) e).symm
noncomputable def P179:PFun:=⟨.pure Y18,[],[.pure Y62,.pure Y22,.pure Y51],fun x _=>curOk x,fun x _=>(anyD x).2,fun x _=>((anyD x).1.1,(anyD x).1.2.1,(anyD x).1.2.2,())⟩
theorem P179_ok:MeetsP Tryz.prog 179 P179:=by
 refine meetsP_of_vc (C:=mkCP 73 [2,3,4] [0,2,3,4,5,6,7,8,16,17,26,38,43,60,65] [⟨248,_,F248_ok⟩] [] [] [⟨194,_,P194_ok⟩,⟨74,_,P74_ok⟩,⟨134,_,P134_ok⟩,⟨258,_,P258_ok⟩] [0]) (mkCP_ok _ _ _ _ _ _ _ _) (fO _) Tryz.func179 rfl rfl rfl (by decide) rfl rfl rfl ?_ rfl
 rintro c ⟨_⟩ hwc hwf hpre ⟨⟩ hG rfl rfl
 show Vc _ _ [(0,⟨0,0,.c (.ref Z23) c⟩)] _
 have hc0:curOk c:=hpre
 have hk:=strandD_ok hc0
 have hq:=an1_ok hc0
 refine Vm hG rfl (Vq ?_)
 refine VrT hG rfl ?_ ?_
 · repeat' (first | exact trivial | exact hc0 | exact hk | exact hq | exact pieceB_ok hq | exact strandD_pos c | exact anApp c | exact anPiece c | exact below_ok hq | exact hr | exact anRen hr | exact hg | refine And.intro ?_ ?_ | intro _)
 refine Vq (Vq ?_)
 refine Vr hG rfl ?_ ?_
 · repeat' (first | exact trivial | exact hc0 | exact hk | exact hq | exact pieceB_ok hq | exact strandD_pos c | exact anApp c | exact anPiece c | exact below_ok hq | exact hr | exact anRen hr | exact hg | refine And.intro ?_ ?_ | intro _)
 refine Vb (Vm hG rfl ?_)
 refine Vk rfl ?_ ?_<;>intro h0
 · refine VrD mixed hG rfl (by kernel_rfl) ?_ ?_
   · repeat' (first | exact trivial | exact hc0 | exact hk | exact hq | exact pieceB_ok hq | exact strandD_pos c | exact anApp c | exact anPiece c | exact below_ok hq | exact hr | exact anRen hr | exact hg | refine And.intro ?_ ?_ | intro _)
   refine Vq (VrD mixed hG rfl (by kernel_rfl) (by trivial) ?_)
   refine Vc.frz 2 rfl ?_
   refine Vc.frz 3 rfl ?_
   refine Vt ?_
   have e:anyD c=_:=((anyD_eq c).trans (cT h0))
   refine⟨⟨?_,trivial⟩,?_,?_,?_,trivial⟩
   · exact(congrArg Prod.snd e).symm
   · exact(congrArg (fun r=>r.1.1) e).symm
   · exact(congrArg (fun r=>r.1.2.1) e).symm
   · exact(congrArg (fun r=>r.1.2.2) e).symm
 · refine Vm hG rfl ?_
   refine Vk rfl ?_ ?_<;>intro h1
   · refine VrD mixed hG rfl (by kernel_rfl) ?_ ?_
     · repeat' (first | exact trivial | exact hc0 | exact hk | exact hq | exact pieceB_ok hq | exact strandD_pos c | exact anApp c | exact anPiece c | exact below_ok hq | exact hr | exact anRen hr | exact hg | refine And.intro ?_ ?_ | intro _)
     refine Vq (VrD mixed hG rfl (by kernel_rfl) (by trivial) ?_)
     refine Vc.frz 2 rfl ?_
     refine Vc.frz 3 rfl ?_
     refine Vt ?_
     have e:anyD c=_:=((anyD_eq c).trans ((cF h0).trans (cT h1)))
     refine⟨⟨?_,trivial⟩,?_,?_,?_,trivial⟩
     · exact(congrArg Prod.snd e).symm
     · exact(congrArg (fun r=>r.1.1) e).symm
     · exact(congrArg (fun r=>r.1.2.1) e).symm
     · exact(congrArg (fun r=>r.1.2.2) e).symm
   · refine Vm hG rfl ?_
     refine Vk rfl ?_ ?_<;>intro h2
     · refine Vm hG rfl ?_
       refine Vk rfl ?_ ?_<;>intro h3
       · have hg:=oTr h3
         have hr:=anIdx c hg
         refine Vq ?_
         refine Vr hG rfl ?_ ?_
         · repeat' (first | exact trivial | exact hc0 | exact hk | exact hq | exact pieceB_ok hq | exact strandD_pos c | exact anApp c | exact anPiece c | exact below_ok hq | exact hr | exact anRen hr | exact hg | refine And.intro ?_ ?_ | intro _)
         refine Vc.frzIR 5 rfl rfl _ HEq.rfl ?_
         refine VrD mixed hG rfl (by kernel_rfl) ?_ ?_
         · repeat' (first | exact trivial | exact hc0 | exact hk | exact hq | exact pieceB_ok hq | exact strandD_pos c | exact anApp c | exact anPiece c | exact below_ok hq | exact hr | exact anRen hr | exact hg | refine And.intro ?_ ?_ | intro _)
         refine Vq (VrD mixed hG rfl (by kernel_rfl) (by trivial) ?_)
         refine Vc.frz 2 rfl ?_
         refine Vc.frz 3 rfl ?_
         refine Vt ?_
         have e:anyD c=_:=((anyD_eq c).trans ((cF h0).trans ((cF h1).trans ((cT h2).trans (cT h3)))))
         refine⟨⟨?_,trivial⟩,?_,?_,?_,trivial⟩
         · exact(congrArg Prod.snd e).symm
         · exact(congrArg (fun r=>r.1.1) e).symm
         · exact(congrArg (fun r=>r.1.2.1) e).symm
         · exact(congrArg (fun r=>r.1.2.2) e).symm
       · refine Vs (Vq (VrD mixed hG rfl (by kernel_rfl) (by trivial) ?_))
         refine Vc.frz 2 rfl ?_
         refine Vc.frz 3 rfl ?_
         refine Vt ?_
         have e:anyD c=_:=((anyD_eq c).trans ((cF h0).trans ((cF h1).trans ((cT h2).trans (cF h3)))))
         refine⟨⟨?_,trivial⟩,?_,?_,?_,trivial⟩
         · exact(congrArg Prod.snd e).symm
         · exact(congrArg (fun r=>r.1.1) e).symm
         · exact(congrArg (fun r=>r.1.2.1) e).symm
         · exact(congrArg (fun r=>r.1.2.2) e).symm
     · refine Vm hG rfl ?_
       refine Vk rfl ?_ ?_<;>intro h4
       · refine Vm hG rfl ?_
         refine Vk rfl ?_ ?_<;>intro h5
         · have hg:=anTail (oTr h5)
           refine Vc.frz 5 rfl ?_
           refine Vr hG rfl ?_ ?_
           · repeat' (first | exact trivial | exact hc0 | exact hk | exact hq | exact pieceB_ok hq | exact strandD_pos c | exact anApp c | exact anPiece c | exact below_ok hq | exact hr | exact anRen hr | exact hg | refine And.intro ?_ ?_ | intro _)
           refine Vq (VrD mixed hG rfl (by kernel_rfl) (by trivial) ?_)
           refine Vc.frz 2 rfl ?_
           refine Vc.frz 3 rfl ?_
           refine Vt ?_
           have e:anyD c=_:=((anyD_eq c).trans ((cF h0).trans ((cF h1).trans ((cF h2).trans ((cT h4).trans (cT h5))))))
           refine⟨⟨?_,trivial⟩,?_,?_,?_,trivial⟩
           · exact(congrArg Prod.snd e).symm
           · exact(congrArg (fun r=>r.1.1) e).symm
           · exact(congrArg (fun r=>r.1.2.1) e).symm
           · exact(congrArg (fun r=>r.1.2.2) e).symm
         · refine Vs (Vq (VrD mixed hG rfl (by kernel_rfl) (by trivial) ?_))
           refine Vc.frz 2 rfl ?_
           refine Vc.frz 3 rfl ?_
           refine Vt ?_
           have e:anyD c=_:=((anyD_eq c).trans ((cF h0).trans ((cF h1).trans ((cF h2).trans ((cT h4).trans (cF h5))))))
           refine⟨⟨?_,trivial⟩,?_,?_,?_,trivial⟩
           · exact(congrArg Prod.snd e).symm
           · exact(congrArg (fun r=>r.1.1) e).symm
           · exact(congrArg (fun r=>r.1.2.1) e).symm
           · exact(congrArg (fun r=>r.1.2.2) e).symm
       · refine Vs (Vq (VrD mixed hG rfl (by kernel_rfl) (by trivial) ?_))
         refine Vc.frz 2 rfl ?_
         refine Vc.frz 3 rfl ?_
         refine Vt ?_
         have e:anyD c=_:=((anyD_eq c).trans ((cF h0).trans ((cF h1).trans ((cF h2).trans (cF h4)))))
         refine⟨⟨?_,trivial⟩,?_,?_,?_,trivial⟩
         · exact(congrArg Prod.snd e).symm
         · exact(congrArg (fun r=>r.1.1) e).symm
         · exact(congrArg (fun r=>r.1.2.1) e).symm
         · exact(congrArg (fun r=>r.1.2.2) e).symm
noncomputable def P130:PFun:=⟨.pure Y18,[],[.pure Y74],fun x _=>curOk x,fun x _=>(itemB x).2,fun x _=>((itemB x).1,())⟩
theorem P130_ok:MeetsP Tryz.prog 130 P130:=by
 refine meetsP_of_vc (C:=mkCP 42 [2] [0,2,3,7,8,14,19,24,32] [] [] [] [⟨128,_,P128_ok⟩,⟨74,_,P74_ok⟩,⟨138,_,P138_ok⟩,⟨178,_,P178_ok⟩,⟨199,_,P199_ok⟩,⟨179,_,P179_ok⟩] [0]) (mkCP_ok _ _ _ _ _ _ _ _) (fO _) Tryz.func130 rfl rfl rfl (by decide) rfl rfl rfl ?_ rfl
 rintro c ⟨_⟩ hwc hwf hpre ⟨⟩ hG rfl rfl
 show Vc _ _ [(0,⟨0,0,.c (.ref Z23) c⟩)] _
 refine Vm hG rfl (Vq ?_)
 refine Vr hG rfl ?_ ?_
 · repeat' (first | exact trivial | exact hpre | exact itemD_ok hpre | exact ib1_ok hpre | exact Nat.succ_pos _ | refine And.intro ?_ ?_ | intro _)
 refine Vq (Vq ?_)
 refine Vr hG rfl ?_ ?_
 · repeat' (first | exact trivial | exact hpre | exact itemD_ok hpre | exact ib1_ok hpre | exact Nat.succ_pos _ | refine And.intro ?_ ?_ | intro _)
 refine Vb (Vm hG rfl ?_)
 refine Vk rfl ?_ ?_<;>intro h0
 · refine Vr hG rfl ?_ ?_
   · repeat' (first | exact trivial | exact hpre | exact itemD_ok hpre | exact ib1_ok hpre | exact Nat.succ_pos _ | refine And.intro ?_ ?_ | intro _)
   refine Vm hG rfl ?_
   refine Vc.frz 2 rfl ?_
   refine Vt ?_
   have e:itemB c=_:=((itemB_eq c).trans (cT h0))
   refine⟨⟨?_,trivial⟩,?_,trivial⟩
   · exact(congrArg Prod.snd e).symm
   · exact(congrArg (fun r=>r.1) e).symm
 · refine Vm hG rfl ?_
   refine Vk rfl ?_ ?_<;>intro h1
   · refine Vr hG rfl ?_ ?_
     · repeat' (first | exact trivial | exact hpre | exact itemD_ok hpre | exact ib1_ok hpre | exact Nat.succ_pos _ | refine And.intro ?_ ?_ | intro _)
     refine Vm hG rfl ?_
     refine Vc.frz 2 rfl ?_
     refine Vt ?_
     have e:itemB c=_:=((itemB_eq c).trans ((cF h0).trans (cT h1)))
     refine⟨⟨?_,trivial⟩,?_,trivial⟩
     · exact(congrArg Prod.snd e).symm
     · exact(congrArg (fun r=>r.1) e).symm
   · refine Vm hG rfl ?_
     refine Vk rfl ?_ ?_<;>intro h2
     · refine Vr hG rfl ?_ ?_
       · repeat' (first | exact trivial | exact hpre | exact itemD_ok hpre | exact ib1_ok hpre | exact Nat.succ_pos _ | refine And.intro ?_ ?_ | intro _)
       refine Vm hG rfl ?_
       refine Vc.frz 2 rfl ?_
       refine Vt ?_
       have e:itemB c=_:=((itemB_eq c).trans ((cF h0).trans ((cF h1).trans (cT h2))))
       refine⟨⟨?_,trivial⟩,?_,trivial⟩
       · exact(congrArg Prod.snd e).symm
       · exact(congrArg (fun r=>r.1) e).symm
     · refine Vm hG rfl ?_
       refine Vk rfl ?_ ?_<;>intro h3
       · refine Vn hG rfl (Vm hG rfl ?_)
         refine Vc.frz 2 rfl ?_
         refine Vt ?_
         have e:itemB c=_:=((itemB_eq c).trans ((cF h0).trans ((cF h1).trans ((cF h2).trans (cT h3)))))
         refine⟨⟨?_,trivial⟩,?_,trivial⟩
         · exact(congrArg Prod.snd e).symm
         · exact(congrArg (fun r=>r.1) e).symm
       · refine Vm hG rfl ?_
         refine Vk rfl ?_ ?_<;>intro h4
         · refine VrT hG rfl ?_ ?_
           · repeat' (first | exact trivial | exact hpre | exact itemD_ok hpre | exact ib1_ok hpre | exact Nat.succ_pos _ | refine And.intro ?_ ?_ | intro _)
           refine Vm hG rfl ?_
           refine Vc.frz 2 rfl ?_
           refine Vt ?_
           have e:itemB c=_:=((itemB_eq c).trans ((cF h0).trans ((cF h1).trans ((cF h2).trans ((cF h3).trans (cT h4))))))
           refine⟨⟨?_,trivial⟩,?_,trivial⟩
           · exact(congrArg Prod.snd e).symm
           · exact(congrArg (fun r=>r.1) e).symm
         · refine Vs (Vm hG rfl ?_)
           refine Vc.frz 2 rfl ?_
           refine Vt ?_
           have e:itemB c=_:=((itemB_eq c).trans ((cF h0).trans ((cF h1).trans ((cF h2).trans ((cF h3).trans (cF h4))))))
           refine⟨⟨?_,trivial⟩,?_,trivial⟩
           · exact(congrArg Prod.snd e).symm
           · exact(congrArg (fun r=>r.1) e).symm
noncomputable def F45:Fun:=⟨[.slice (.int .u8)],[.pure Y77,.pure Y74],fun _=>True,fun x=>((addC x.1).1,(addC x.1).2,())⟩
theorem F45_ok:Meets Tryz.prog 45 F45:=by
 refine mZ (C:=mkCP 34 [2,3,4] [0,2,3,4,5,6,7,13,19] [⟨73,_,F73_ok⟩,⟨129,_,F129_ok⟩] [] [] [⟨127,_,P127_ok⟩,⟨79,_,P79_ok⟩,⟨128,_,P128_ok⟩,⟨130,_,P130_ok⟩] []) (mkCP_ok _ _ _ _ _ _ _ _) (fO _) Tryz.func45 rfl rfl rfl (by decide) rfl ?_
 rintro⟨a0,_⟩ hwf hpre ⟨⟩ hG rfl rfl
 show Vc _ _ [(0,⟨0,0,.c Z1 a0⟩)] _
 have hb:List.length a0≤bigLen:=hwf.1.1
 have k0:=da0_ok hb
 have k1:=da1_ok hb
 have k2:=da2_ok hb
 have hs2:=da2_sm hb
 have hi2:=da2_item hb
 refine Vm hG rfl (Vq ?_)
 refine Vr hG rfl ?_ ?_
 · repeat' (first | exact trivial | exact newCur_ok hb | exact k0 | exact k1 | exact k2 | exact hsa | exact hsx _ | refine And.intro ?_ ?_ | intro _)
 refine Vq ?_
 refine Vr hG rfl ?_ ?_
 · repeat' (first | exact trivial | exact newCur_ok hb | exact k0 | exact k1 | exact k2 | exact hsa | exact hsx _ | refine And.intro ?_ ?_ | intro _)
 refine Vq (Vq ?_)
 refine Vr hG rfl ?_ ?_
 · repeat' (first | exact trivial | exact newCur_ok hb | exact k0 | exact k1 | exact k2 | exact hsa | exact hsx _ | refine And.intro ?_ ?_ | intro _)
 refine Vk rfl ?_ ?_<;>intro h0
 · refine Vq ?_
   refine Vr hG rfl ?_ ?_
   · repeat' (first | exact trivial | exact newCur_ok hb | exact k0 | exact k1 | exact k2 | exact hsa | exact hsx _ | refine And.intro ?_ ?_ | intro _)
   refine Vm hG rfl (Vb ?_)
   refine Vc.loopF [(5,true,.pair (.pure (.int .i64)) Z82),(6,true,.pure Y74),(7,false,.pure (.int .i64))] [0,2,3,4,13] (fun v=>fqInv (da2 a0).1 (da0 a0).1 v.1 v.2.1 v.2.2.1) (fun v=>(8-(List.length v.1.2:Int)).toNat) rfl ?_ ?_
   · exact da0_start hb
   rintro⟨a,x,(i:Int),_⟩ hI
   have hI:fqInv (da2 a0).1 (da0 a0).1 a x i:=hI
   have hsa:=fqBig hI
   have hsx:=fun n=>fqItem (n:=n) hI hs2
   refine Vq (Vm hG rfl ?_)
   refine Vk rfl ?_ ?_<;>intro h1
   · have hl:(List.length a.2:Int)<8:=oTr h1
     refine Vs (Vq (Vb (Vm hG rfl ?_)))
     refine Vr hG rfl ?_ ?_
     · repeat' (first | exact trivial | exact newCur_ok hb | exact k0 | exact k1 | exact k2 | exact hsa | exact hsx _ | refine And.intro ?_ ?_ | intro _)
     refine Vn hG rfl ?_
     refine⟨rfl,?_⟩
     exact fqStep hI hl hi2 hs2 rfl
   · have hl:¬(List.length a.2:Int)<8:=oFa h1
     have hE:=fqEnd hI hl
     refine Vx (Vq ?_)
     refine VrD mixed hG rfl (by kernel_rfl) ?_ ?_
     · repeat' (first | exact trivial | exact newCur_ok hb | exact k0 | exact k1 | exact k2 | exact hsa | exact hsx _ | refine And.intro ?_ ?_ | intro _)
     refine Vc.frz 2 rfl ?_
     refine Vc.frz 3 rfl ?_
     refine Vt ?_
     have e:addC a0=_:=cT h0
     refine⟨?_,?_,trivial⟩
     · refine Eq.trans ?_ (congrArg (fun r=>r.1) e).symm
       exact hE
     · exact(congrArg (fun r=>r.2) e).symm
 · refine Vs (Vq ?_)
   refine VrD mixed hG rfl (by kernel_rfl) ?_ ?_
   · repeat' (first | exact trivial | exact newCur_ok hb | exact k0 | exact k1 | exact k2 | exact hsa | exact hsx _ | refine And.intro ?_ ?_ | intro _)
   refine Vc.frz 2 rfl ?_
   refine Vc.frz 3 rfl ?_
   refine Vt ?_
   have e:addC a0=_:=(cF h0)
   refine⟨?_,?_,trivial⟩
   · exact(congrArg (fun r=>r.1) e).symm
   · exact(congrArg (fun r=>r.2) e).symm
noncomputable def F236:Fun:=⟨[],[.own Z30],fun _=>True,fun _=>(methsT ,())⟩
theorem F236_ok:Meets Tryz.prog 236 F236:=by
 refine mZ (C:=mkC 6 [0] [0] []) (mO _ _ _ _) (fO _) Tryz.func236 rfl rfl rfl (by decide) rfl ?_
 rintro⟨_⟩ hwf hpre ⟨⟩ hG rfl rfl
 show Vc _ _ [] _
 refine Vm hG rfl (Vm hG rfl (Vt ?_))
 refine⟨?_,trivial⟩
 all_goals exact rfl
noncomputable def P158:PFun:=⟨.pure Y18,[],[.pair Z39 (.pair (.own Z19) (.pair (.own Z30) Z9))],fun x _=>curOk x,fun x _=>(frameD x).2,fun x _=>((frameD x).1,())⟩
theorem P158_ok:MeetsP Tryz.prog 158 P158:=by
 refine meetsP_of_vc (C:=mkCP 12 [2] [0,2] [⟨76,_,F76_ok⟩,⟨77,_,F77_ok⟩,⟨236,_,F236_ok⟩] [] [] [⟨74,_,P74_ok⟩,⟨138,_,P138_ok⟩] [0]) (mkCP_ok _ _ _ _ _ _ _ _) (fO _) Tryz.func158 rfl rfl rfl (by decide) rfl rfl rfl ?_ rfl
 rintro c ⟨_⟩ hwc hwf hpre ⟨⟩ hG rfl rfl
 show Vc _ _ [(0,⟨0,0,.c (.ref Z23) c⟩)] _
 refine Vm hG rfl (Vq ?_)
 refine Vr hG rfl ?_ ?_
 · repeat' (first | exact trivial | exact hpre | exact below_ok hpre | exact Nat.succ_pos _ | refine And.intro ?_ ?_ | intro _)
 refine Vt ?_
 refine⟨⟨?_,trivial⟩,?_,trivial⟩
 all_goals exact rfl
end Fw
