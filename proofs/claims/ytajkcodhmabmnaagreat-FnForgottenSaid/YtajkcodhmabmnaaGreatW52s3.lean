/- Walks of functions of the program: what each computes. Conditions: those that each contract names. -/
import Derived.Test.YtajkcodhmabmnaaGreatW52T
import Derived.Test.YtajkcodhmabmnaaGreatW52s0
import Derived.Test.YtajkcodhmabmnaaGreatW52s1
import Derived.Test.YtajkcodhmabmnaaGreatW52s2
namespace Fw
open Go Go.Proofs
set_option linter.unusedSimpArgs false
set_option maxRecDepth 100000
noncomputable def P166:PFun:=⟨.pure Y20,[.pair (.int .i64) Y64],[.pair (.pure (.int .i64)) Z68],fun x xs=>(fun c (r:Renewal)=>curOk c∧Sm 64 Y67 r) x xs.1,fun x xs=>(renB x xs.1).2,fun x xs=>((renB x xs.1).1,())⟩
theorem P166_ok:MeetsP Tryz.prog 166 P166:=by
 refine meetsP_of_vc (C:=mkCP 56 [4] [0,1,3,4,8,9,15,20,26,34,43,48] [⟨180,_,F180_ok⟩] [] [] [⟨38,_,P38_ok⟩,⟨57,_,P57_ok⟩,⟨237,_,P237_ok⟩,⟨100,_,P100_ok⟩] [0]) (mkCP_ok _ _ _ _ _ _ _ _) (fO _) Tryz.func166 rfl rfl rfl (by decide) rfl rfl rfl ?_ rfl
 rintro c ⟨a1,_⟩ hwc hwf hpre ⟨⟩ hG rfl rfl
 show Vc _ _ [(0,⟨0,0,.c (.ref Z25) c⟩),(1,⟨0,0,.c Z69 a1⟩)] _
 have hc:curOk c:=hpre.1
 have hr:=sm_up (show 64≤big20 by decide) _ _ hpre.2
 have hA1:=app64 hpre.2.2.2.2.1.1
 have hA2:=app64 hpre.2.2.2.2.2.1
 refine Vm hG rfl (Vq ?_)
 refine Vr hG rfl ?_ ?_
 · repeat' (first | exact trivial | exact hc | exact br1_ok hc | exact Nat.succ_pos _ | exact hr | exact hA1 | exact hA2 | exact hg | refine And.intro ?_ ?_ | intro _)
 refine Vq (Vq ?_)
 refine Vr hG rfl ?_ ?_
 · repeat' (first | exact trivial | exact hc | exact br1_ok hc | exact Nat.succ_pos _ | exact hr | exact hA1 | exact hA2 | exact hg | refine And.intro ?_ ?_ | intro _)
 refine Vb (Vm hG rfl ?_)
 refine Vk rfl ?_ ?_<;>intro h0
 · refine Vn hG rfl (Vm hG rfl (Vt ?_))
   have e:renB c a1=_:=((renB_eq c a1).trans (cT h0))
   refine⟨⟨?_,trivial⟩,?_,trivial⟩
   · exact(congrArg Prod.snd e).symm
   · exact(congrArg (fun r=>r.1) e).symm
 · refine Vm hG rfl ?_
   refine Vk rfl ?_ ?_<;>intro h1
   · refine Vr hG rfl ?_ ?_
     · repeat' (first | exact trivial | exact hc | exact br1_ok hc | exact Nat.succ_pos _ | exact hr | exact hA1 | exact hA2 | exact hg | refine And.intro ?_ ?_ | intro _)
     refine Vm hG rfl (Vt ?_)
     have e:renB c a1=_:=((renB_eq c a1).trans ((cF h0).trans (cT h1)))
     refine⟨⟨?_,trivial⟩,?_,trivial⟩
     · exact(congrArg Prod.snd e).symm
     · exact(congrArg (fun r=>r.1) e).symm
   · refine Vm hG rfl ?_
     refine Vk rfl ?_ ?_<;>intro h2
     · refine Vr hG rfl ?_ ?_
       · repeat' (first | exact trivial | exact hc | exact br1_ok hc | exact Nat.succ_pos _ | exact hr | exact hA1 | exact hA2 | exact hg | refine And.intro ?_ ?_ | intro _)
       refine Vm hG rfl (Vt ?_)
       have e:renB c a1=_:=((renB_eq c a1).trans ((cF h0).trans ((cF h1).trans (cT h2))))
       refine⟨⟨?_,trivial⟩,?_,trivial⟩
       · exact(congrArg Prod.snd e).symm
       · exact(congrArg (fun r=>r.1) e).symm
     · refine Vm hG rfl ?_
       refine Vk rfl ?_ ?_<;>intro h3
       · refine Vr hG rfl ?_ ?_
         · repeat' (first | exact trivial | exact hc | exact br1_ok hc | exact Nat.succ_pos _ | exact hr | exact hA1 | exact hA2 | exact hg | refine And.intro ?_ ?_ | intro _)
         refine Vm hG rfl (Vt ?_)
         have e:renB c a1=_:=((renB_eq c a1).trans ((cF h0).trans ((cF h1).trans ((cF h2).trans (cT h3)))))
         refine⟨⟨?_,trivial⟩,?_,trivial⟩
         · exact(congrArg Prod.snd e).symm
         · exact(congrArg (fun r=>r.1) e).symm
       · refine Vm hG rfl ?_
         refine Vk rfl ?_ ?_<;>intro h4
         · refine VrD mixed hG rfl (by kernel_rfl) ?_ ?_
           · repeat' (first | exact trivial | exact hc | exact br1_ok hc | exact Nat.succ_pos _ | exact hr | exact hA1 | exact hA2 | exact hg | refine And.intro ?_ ?_ | intro _)
           refine Vm hG rfl (Vt ?_)
           have e:renB c a1=_:=((renB_eq c a1).trans ((cF h0).trans ((cF h1).trans ((cF h2).trans ((cF h3).trans (cT h4))))))
           refine⟨⟨?_,trivial⟩,?_,trivial⟩
           · exact(congrArg Prod.snd e).symm
           · exact(congrArg (fun r=>r.1) e).symm
         · refine Vm hG rfl ?_
           refine Vk rfl ?_ ?_<;>intro h5
           · refine Vm hG rfl ?_
             refine Vk rfl ?_ ?_<;>intro h6
             · have hg:inRange 0 (List.length a1.2.2.2.2):=⟨Int.le_refl _,oTr h6⟩
               refine VrD mixed hG rfl (by kernel_rfl) ?_ ?_
               · repeat' (first | exact trivial | exact hc | exact br1_ok hc | exact Nat.succ_pos _ | exact hr | exact hA1 | exact hA2 | exact hg | refine And.intro ?_ ?_ | intro _)
               refine Vm hG rfl (Vt ?_)
               have e:renB c a1=_:=((renB_eq c a1).trans ((cF h0).trans ((cF h1).trans ((cF h2).trans ((cF h3).trans ((cF h4).trans ((cT h5).trans (cT h6))))))))
               refine⟨⟨?_,trivial⟩,?_,trivial⟩
               · exact(congrArg Prod.snd e).symm
               · exact(congrArg (fun r=>r.1) e).symm
             · refine Vs (Vm hG rfl (Vt ?_))
               have e:renB c a1=_:=((renB_eq c a1).trans ((cF h0).trans ((cF h1).trans ((cF h2).trans ((cF h3).trans ((cF h4).trans ((cT h5).trans (cF h6))))))))
               refine⟨⟨?_,trivial⟩,?_,trivial⟩
               · exact(congrArg Prod.snd e).symm
               · exact(congrArg (fun r=>r.1) e).symm
           · refine Vs (Vm hG rfl (Vt ?_))
             have e:renB c a1=_:=((renB_eq c a1).trans ((cF h0).trans ((cF h1).trans ((cF h2).trans ((cF h3).trans ((cF h4).trans (cF h5)))))))
             refine⟨⟨?_,trivial⟩,?_,trivial⟩
             · exact(congrArg Prod.snd e).symm
             · exact(congrArg (fun r=>r.1) e).symm
noncomputable def P102:PFun:=⟨.pure Y20,[],[.pure Y73,.pure Y24,.pure Y62],fun x _=>curOk x,fun x _=>(anyD x).2,fun x _=>((anyD x).1.1,(anyD x).1.2.1,(anyD x).1.2.2,())⟩
theorem P102_ok:MeetsP Tryz.prog 102 P102:=by
 refine meetsP_of_vc (C:=mkCP 73 [2,3,4] [0,2,3,4,5,6,7,8,16,17,26,38,43,60,65] [⟨165,_,F165_ok⟩] [] [] [⟨160,_,P160_ok⟩,⟨38,_,P38_ok⟩,⟨164,_,P164_ok⟩,⟨166,_,P166_ok⟩] [0]) (mkCP_ok _ _ _ _ _ _ _ _) (fO _) Tryz.func102 rfl rfl rfl (by decide) rfl rfl rfl ?_ rfl
 rintro c ⟨_⟩ hwc hwf hpre ⟨⟩ hG rfl rfl
 show Vc _ _ [(0,⟨0,0,.c (.ref Z25) c⟩)] _
 have hc0:curOk c:=hpre
 have hk:=strandD_ok hc0
 have hq:=an1_ok hc0
 refine Vm hG rfl (Vq ?_)
 refine VrT hG rfl ?_ ?_
 · repeat' (first | exact trivial | exact hc0 | exact hk | exact hq | exact pieceB_ok hq | exact strandD_pos c | exact anApp c | exact anPiece c | exact below_ok hq | exact hr | exact anRen hr | exact hg | refine And.intro ?_ ?_ | intro _)
 refine Vq (Vq ?_)
 refine Vr hG rfl ?_ ?_
 · repeat' (first | exact trivial | exact hc0 | exact hk | exact hq | exact pieceB_ok hq | exact strandD_pos c | exact anApp c | exact anPiece c | exact below_ok hq | exact hr | exact anRen hr | exact hg | refine And.intro ?_ ?_ | intro _)
 refine Vb (Vm hG rfl ?_)
 refine Vk rfl ?_ ?_<;>intro h0
 · refine VrD mixed hG rfl (by kernel_rfl) ?_ ?_
   · repeat' (first | exact trivial | exact hc0 | exact hk | exact hq | exact pieceB_ok hq | exact strandD_pos c | exact anApp c | exact anPiece c | exact below_ok hq | exact hr | exact anRen hr | exact hg | refine And.intro ?_ ?_ | intro _)
   refine Vq (VrD mixed hG rfl (by kernel_rfl) (by trivial) ?_)
   refine Vc.frz 2 rfl ?_
   refine Vc.frz 3 rfl ?_
   refine Vt ?_
   have e:anyD c=_:=((anyD_eq c).trans (cT h0))
   refine⟨⟨?_,trivial⟩,?_,?_,?_,trivial⟩
   · exact(congrArg Prod.snd e).symm
   · exact(congrArg (fun r=>r.1.1) e).symm
   · exact(congrArg (fun r=>r.1.2.1) e).symm
   · exact(congrArg (fun r=>r.1.2.2) e).symm
 · refine Vm hG rfl ?_
   refine Vk rfl ?_ ?_<;>intro h1
   · refine VrD mixed hG rfl (by kernel_rfl) ?_ ?_
     · repeat' (first | exact trivial | exact hc0 | exact hk | exact hq | exact pieceB_ok hq | exact strandD_pos c | exact anApp c | exact anPiece c | exact below_ok hq | exact hr | exact anRen hr | exact hg | refine And.intro ?_ ?_ | intro _)
     refine Vq (VrD mixed hG rfl (by kernel_rfl) (by trivial) ?_)
     refine Vc.frz 2 rfl ?_
     refine Vc.frz 3 rfl ?_
     refine Vt ?_
     have e:anyD c=_:=((anyD_eq c).trans ((cF h0).trans (cT h1)))
     refine⟨⟨?_,trivial⟩,?_,?_,?_,trivial⟩
     · exact(congrArg Prod.snd e).symm
     · exact(congrArg (fun r=>r.1.1) e).symm
     · exact(congrArg (fun r=>r.1.2.1) e).symm
     · exact(congrArg (fun r=>r.1.2.2) e).symm
   · refine Vm hG rfl ?_
     refine Vk rfl ?_ ?_<;>intro h2
     · refine Vm hG rfl ?_
       refine Vk rfl ?_ ?_<;>intro h3
       · have hg:=oTr h3
         have hr:=anIdx c hg
         refine Vq ?_
         refine Vr hG rfl ?_ ?_
         · repeat' (first | exact trivial | exact hc0 | exact hk | exact hq | exact pieceB_ok hq | exact strandD_pos c | exact anApp c | exact anPiece c | exact below_ok hq | exact hr | exact anRen hr | exact hg | refine And.intro ?_ ?_ | intro _)
         refine Vc.frzIR 5 rfl rfl _ HEq.rfl ?_
         refine VrD mixed hG rfl (by kernel_rfl) ?_ ?_
         · repeat' (first | exact trivial | exact hc0 | exact hk | exact hq | exact pieceB_ok hq | exact strandD_pos c | exact anApp c | exact anPiece c | exact below_ok hq | exact hr | exact anRen hr | exact hg | refine And.intro ?_ ?_ | intro _)
         refine Vq (VrD mixed hG rfl (by kernel_rfl) (by trivial) ?_)
         refine Vc.frz 2 rfl ?_
         refine Vc.frz 3 rfl ?_
         refine Vt ?_
         have e:anyD c=_:=((anyD_eq c).trans ((cF h0).trans ((cF h1).trans ((cT h2).trans (cT h3)))))
         refine⟨⟨?_,trivial⟩,?_,?_,?_,trivial⟩
         · exact(congrArg Prod.snd e).symm
         · exact(congrArg (fun r=>r.1.1) e).symm
         · exact(congrArg (fun r=>r.1.2.1) e).symm
         · exact(congrArg (fun r=>r.1.2.2) e).symm
       · refine Vs (Vq (VrD mixed hG rfl (by kernel_rfl) (by trivial) ?_))
         refine Vc.frz 2 rfl ?_
         refine Vc.frz 3 rfl ?_
         refine Vt ?_
         have e:anyD c=_:=((anyD_eq c).trans ((cF h0).trans ((cF h1).trans ((cT h2).trans (cF h3)))))
         refine⟨⟨?_,trivial⟩,?_,?_,?_,trivial⟩
         · exact(congrArg Prod.snd e).symm
         · exact(congrArg (fun r=>r.1.1) e).symm
         · exact(congrArg (fun r=>r.1.2.1) e).symm
         · exact(congrArg (fun r=>r.1.2.2) e).symm
     · refine Vm hG rfl ?_
       refine Vk rfl ?_ ?_<;>intro h4
       · refine Vm hG rfl ?_
         refine Vk rfl ?_ ?_<;>intro h5
         · have hg:=anTail (oTr h5)
           refine Vc.frz 5 rfl ?_
           refine Vr hG rfl ?_ ?_
           · repeat' (first | exact trivial | exact hc0 | exact hk | exact hq | exact pieceB_ok hq | exact strandD_pos c | exact anApp c | exact anPiece c | exact below_ok hq | exact hr | exact anRen hr | exact hg | refine And.intro ?_ ?_ | intro _)
           refine Vq (VrD mixed hG rfl (by kernel_rfl) (by trivial) ?_)
           refine Vc.frz 2 rfl ?_
           refine Vc.frz 3 rfl ?_
           refine Vt ?_
           have e:anyD c=_:=((anyD_eq c).trans ((cF h0).trans ((cF h1).trans ((cF h2).trans ((cT h4).trans (cT h5))))))
           refine⟨⟨?_,trivial⟩,?_,?_,?_,trivial⟩
           · exact(congrArg Prod.snd e).symm
           · exact(congrArg (fun r=>r.1.1) e).symm
           · exact(congrArg (fun r=>r.1.2.1) e).symm
           · exact(congrArg (fun r=>r.1.2.2) e).symm
         · refine Vs (Vq (VrD mixed hG rfl (by kernel_rfl) (by trivial) ?_))
           refine Vc.frz 2 rfl ?_
           refine Vc.frz 3 rfl ?_
           refine Vt ?_
           have e:anyD c=_:=((anyD_eq c).trans ((cF h0).trans ((cF h1).trans ((cF h2).trans ((cT h4).trans (cF h5))))))
           refine⟨⟨?_,trivial⟩,?_,?_,?_,trivial⟩
           · exact(congrArg Prod.snd e).symm
           · exact(congrArg (fun r=>r.1.1) e).symm
           · exact(congrArg (fun r=>r.1.2.1) e).symm
           · exact(congrArg (fun r=>r.1.2.2) e).symm
       · refine Vs (Vq (VrD mixed hG rfl (by kernel_rfl) (by trivial) ?_))
         refine Vc.frz 2 rfl ?_
         refine Vc.frz 3 rfl ?_
         refine Vt ?_
         have e:anyD c=_:=((anyD_eq c).trans ((cF h0).trans ((cF h1).trans ((cF h2).trans (cF h4)))))
         refine⟨⟨?_,trivial⟩,?_,?_,?_,trivial⟩
         · exact(congrArg Prod.snd e).symm
         · exact(congrArg (fun r=>r.1.1) e).symm
         · exact(congrArg (fun r=>r.1.2.1) e).symm
         · exact(congrArg (fun r=>r.1.2.2) e).symm
noncomputable def P60:PFun:=⟨.pure Y20,[],[.pure Y85],fun x _=>curOk x,fun x _=>(itemB x).2,fun x _=>((itemB x).1,())⟩
theorem P60_ok:MeetsP Tryz.prog 60 P60:=by
 refine meetsP_of_vc (C:=mkCP 42 [2] [0,2,3,7,8,14,19,24,32] [] [] [] [⟨94,_,P94_ok⟩,⟨38,_,P38_ok⟩,⟨57,_,P57_ok⟩,⟨100,_,P100_ok⟩,⟨101,_,P101_ok⟩,⟨102,_,P102_ok⟩] [0]) (mkCP_ok _ _ _ _ _ _ _ _) (fO _) Tryz.func60 rfl rfl rfl (by decide) rfl rfl rfl ?_ rfl
 rintro c ⟨_⟩ hwc hwf hpre ⟨⟩ hG rfl rfl
 show Vc _ _ [(0,⟨0,0,.c (.ref Z25) c⟩)] _
 refine Vm hG rfl (Vq ?_)
 refine Vr hG rfl ?_ ?_
 · repeat' (first | exact trivial | exact hpre | exact itemD_ok hpre | exact ib1_ok hpre | exact Nat.succ_pos _ | refine And.intro ?_ ?_ | intro _)
 refine Vq (Vq ?_)
 refine Vr hG rfl ?_ ?_
 · repeat' (first | exact trivial | exact hpre | exact itemD_ok hpre | exact ib1_ok hpre | exact Nat.succ_pos _ | refine And.intro ?_ ?_ | intro _)
 refine Vb (Vm hG rfl ?_)
 refine Vk rfl ?_ ?_<;>intro h0
 · refine Vr hG rfl ?_ ?_
   · repeat' (first | exact trivial | exact hpre | exact itemD_ok hpre | exact ib1_ok hpre | exact Nat.succ_pos _ | refine And.intro ?_ ?_ | intro _)
   refine Vm hG rfl ?_
   refine Vc.frz 2 rfl ?_
   refine Vt ?_
   have e:itemB c=_:=((itemB_eq c).trans (cT h0))
   refine⟨⟨?_,trivial⟩,?_,trivial⟩
   · exact(congrArg Prod.snd e).symm
   · exact(congrArg (fun r=>r.1) e).symm
 · refine Vm hG rfl ?_
   refine Vk rfl ?_ ?_<;>intro h1
   · refine Vr hG rfl ?_ ?_
     · repeat' (first | exact trivial | exact hpre | exact itemD_ok hpre | exact ib1_ok hpre | exact Nat.succ_pos _ | refine And.intro ?_ ?_ | intro _)
     refine Vm hG rfl ?_
     refine Vc.frz 2 rfl ?_
     refine Vt ?_
     have e:itemB c=_:=((itemB_eq c).trans ((cF h0).trans (cT h1)))
     refine⟨⟨?_,trivial⟩,?_,trivial⟩
     · exact(congrArg Prod.snd e).symm
     · exact(congrArg (fun r=>r.1) e).symm
   · refine Vm hG rfl ?_
     refine Vk rfl ?_ ?_<;>intro h2
     · refine Vr hG rfl ?_ ?_
       · repeat' (first | exact trivial | exact hpre | exact itemD_ok hpre | exact ib1_ok hpre | exact Nat.succ_pos _ | refine And.intro ?_ ?_ | intro _)
       refine Vm hG rfl ?_
       refine Vc.frz 2 rfl ?_
       refine Vt ?_
       have e:itemB c=_:=((itemB_eq c).trans ((cF h0).trans ((cF h1).trans (cT h2))))
       refine⟨⟨?_,trivial⟩,?_,trivial⟩
       · exact(congrArg Prod.snd e).symm
       · exact(congrArg (fun r=>r.1) e).symm
     · refine Vm hG rfl ?_
       refine Vk rfl ?_ ?_<;>intro h3
       · refine Vn hG rfl (Vm hG rfl ?_)
         refine Vc.frz 2 rfl ?_
         refine Vt ?_
         have e:itemB c=_:=((itemB_eq c).trans ((cF h0).trans ((cF h1).trans ((cF h2).trans (cT h3)))))
         refine⟨⟨?_,trivial⟩,?_,trivial⟩
         · exact(congrArg Prod.snd e).symm
         · exact(congrArg (fun r=>r.1) e).symm
       · refine Vm hG rfl ?_
         refine Vk rfl ?_ ?_<;>intro h4
         · refine VrT hG rfl ?_ ?_
           · repeat' (first | exact trivial | exact hpre | exact itemD_ok hpre | exact ib1_ok hpre | exact Nat.succ_pos _ | refine And.intro ?_ ?_ | intro _)
           refine Vm hG rfl ?_
           refine Vc.frz 2 rfl ?_
           refine Vt ?_
           have e:itemB c=_:=((itemB_eq c).trans ((cF h0).trans ((cF h1).trans ((cF h2).trans ((cF h3).trans (cT h4))))))
           refine⟨⟨?_,trivial⟩,?_,trivial⟩
           · exact(congrArg Prod.snd e).symm
           · exact(congrArg (fun r=>r.1) e).symm
         · refine Vs (Vm hG rfl ?_)
           refine Vc.frz 2 rfl ?_
           refine Vt ?_
           have e:itemB c=_:=((itemB_eq c).trans ((cF h0).trans ((cF h1).trans ((cF h2).trans ((cF h3).trans (cF h4))))))
           refine⟨⟨?_,trivial⟩,?_,trivial⟩
           · exact(congrArg Prod.snd e).symm
           · exact(congrArg (fun r=>r.1) e).symm
noncomputable def F19:Fun:=⟨[.slice (.int .u8)],[.pure Y74,.pure Y85],fun _=>True,fun x=>((jiC x.1).1,(jiC x.1).2,())⟩
theorem F19_ok:Meets Tryz.prog 19 F19:=by
 refine mZ (C:=mkCP 13 [2,3,4] [0,2,3,4,5] [⟨37,_,F37_ok⟩] [] [] [⟨59,_,P59_ok⟩,⟨60,_,P60_ok⟩] []) (mkCP_ok _ _ _ _ _ _ _ _) (fO _) Tryz.func19 rfl rfl rfl (by decide) rfl ?_
 rintro⟨a0,_⟩ hwf hpre ⟨⟩ hG rfl rfl
 show Vc _ _ [(0,⟨0,0,.c Z1 a0⟩)] _
 refine Vm hG rfl (Vq ?_)
 refine Vr hG rfl ?_ ?_
 · repeat' (first | exact trivial | exact newCur_ok hwf.1.1 | exact frameA_ok (newCur_ok hwf.1.1) | refine And.intro ?_ ?_ | intro _)
 refine Vq ?_
 refine Vr hG rfl ?_ ?_
 · repeat' (first | exact trivial | exact newCur_ok hwf.1.1 | exact frameA_ok (newCur_ok hwf.1.1) | refine And.intro ?_ ?_ | intro _)
 refine Vq ?_
 refine VrD mixed hG rfl (by kernel_rfl) ?_ ?_
 · repeat' (first | exact trivial | exact newCur_ok hwf.1.1 | exact frameA_ok (newCur_ok hwf.1.1) | refine And.intro ?_ ?_ | intro _)
 refine Vc.frz 2 rfl ?_
 refine Vc.frz 3 rfl ?_
 refine Vt ?_
 refine⟨?_,?_,trivial⟩
 all_goals exact rfl
noncomputable def F22:Fun:=⟨[.slice (.int .u8)],[.pure Y85,.pure (.slice (.int .i64))],fun _=>True,fun x=>((riC x.1).1,(riC x.1).2,())⟩
theorem F22_ok:Meets Tryz.prog 22 F22:=by
 refine mZ (C:=mkCP 27 [2,3,4] [0,2,3,4,5,6,7,16] [⟨37,_,F37_ok⟩] [] [] [⟨60,_,P60_ok⟩,⟨38,_,P38_ok⟩] []) (mkCP_ok _ _ _ _ _ _ _ _) (fO _) Tryz.func22 rfl rfl rfl (by decide) rfl ?_
 rintro⟨a0,_⟩ hwf hpre ⟨⟩ hG rfl rfl
 show Vc _ _ [(0,⟨0,0,.c Z1 a0⟩)] _
 have hb:List.length a0≤bigLen:=hwf.1.1
 have k0:=ri0_ok hb
 refine Vm hG rfl (Vq ?_)
 refine Vr hG rfl ?_ ?_
 · repeat' (first | exact trivial | exact newCur_ok hb | exact k0 | exact hc2 | exact hA | refine And.intro ?_ ?_ | intro _)
 refine Vq ?_
 refine Vr hG rfl ?_ ?_
 · repeat' (first | exact trivial | exact newCur_ok hb | exact k0 | exact hc2 | exact hA | refine And.intro ?_ ?_ | intro _)
 refine Vm hG rfl (Vq (Vq ?_))
 refine Vr hG rfl ?_ ?_
 · repeat' (first | exact trivial | exact newCur_ok hb | exact k0 | exact hc2 | exact hA | refine And.intro ?_ ?_ | intro _)
 refine Vb ?_
 refine Vc.loopF [(4,true,.pure Y20),(6,false,.own (.pure (.int .i64))),(7,false,.pure (.int .i64))] [0,2,3,5] (fun v=>dnInv riS ((ri1 a0).2,[]) (ri1 a0).1 (v.1,v.2.1) v.2.2.1) (fun v=>(v.2.2.1:Int).toNat) rfl ?_ ?_
 · exact dnStart (ri1_n a0)
 rintro⟨c2,l,(i:Int),_⟩ hI
 have hI:dnInv riS ((ri1 a0).2,[]) (ri1 a0).1 (c2,l) i:=hI
 refine Vq (Vm hG rfl ?_)
 refine Vk rfl ?_ ?_<;>intro h0
 · have hl:i>0:=oTr h0
   obtain⟨hc2,hA⟩:=riInv_P hb hI
   refine Vs (Vq (Vb ?_))
   refine Vr hG rfl ?_ ?_
   · repeat' (first | exact trivial | exact newCur_ok hb | exact k0 | exact hc2 | exact hA | refine And.intro ?_ ?_ | intro _)
   refine Vn hG rfl ?_
   refine⟨rfl,?_⟩
   exact dnStep hI hl
 · have hl:¬i>0:=oFa h0
   have hE:=dnEnd hI hl
   refine Vx (Vm hG rfl ?_)
   refine Vc.frz 2 rfl ?_
   refine Vc.frz 3 rfl ?_
   refine Vt ?_
   refine⟨?_,?_,trivial⟩
   · rfl
   · exact riC_leaf hE
noncomputable def F65:Fun:=⟨[.slice (.int .u8)],[.pure Y88,.pure (.int .i64)],fun _=>True,fun x=>((diC x.1).1,(diC x.1).2,())⟩
theorem F65_ok:Meets Tryz.prog 65 F65:=by
 refine mZ (C:=mkCP 13 [2,3,4] [0,2,3,4,5] [⟨37,_,F37_ok⟩] [] [] [⟨56,_,P56_ok⟩,⟨38,_,P38_ok⟩] []) (mkCP_ok _ _ _ _ _ _ _ _) (fO _) Tryz.func65 rfl rfl rfl (by decide) rfl ?_
 rintro⟨a0,_⟩ hwf hpre ⟨⟩ hG rfl rfl
 show Vc _ _ [(0,⟨0,0,.c Z1 a0⟩)] _
 refine Vm hG rfl (Vq ?_)
 refine Vr hG rfl ?_ ?_
 · repeat' (first | exact trivial | exact newCur_ok hwf.1.1 | exact da0_ok hwf.1.1 | refine And.intro ?_ ?_ | intro _)
 refine Vq ?_
 refine Vr hG rfl ?_ ?_
 · repeat' (first | exact trivial | exact newCur_ok hwf.1.1 | exact da0_ok hwf.1.1 | refine And.intro ?_ ?_ | intro _)
 refine Vq ?_
 refine VrD mixed hG rfl (by kernel_rfl) ?_ ?_
 · repeat' (first | exact trivial | exact newCur_ok hwf.1.1 | exact da0_ok hwf.1.1 | refine And.intro ?_ ?_ | intro _)
 refine Vc.frz 2 rfl ?_
 refine Vt ?_
 refine⟨?_,?_,trivial⟩
 all_goals exact rfl
noncomputable def F25:Fun:=⟨[.slice (.int .u8)],[.pure Y88,.pure (.int .i64)],fun _=>True,fun x=>((diC x.1).1,(diC x.1).2,())⟩
theorem F25_ok:Meets Tryz.prog 25 F25:=by
 refine mZ (C:=mkC 8 [2,3] [0,2,3] [⟨65,_,F65_ok⟩]) (mO _ _ _ _) (fO _) Tryz.func25 rfl rfl rfl (by decide) rfl ?_
 rintro⟨a0,_⟩ hwf hpre ⟨⟩ hG rfl rfl
 show Vc _ _ [(0,⟨0,0,.c Z1 a0⟩)] _
 refine Vm hG rfl (Vq ?_)
 refine Vr hG rfl ?_ ?_
 · repeat' (first | exact trivial | exact newCur_ok hwf.1.1 | exact da0_ok hwf.1.1 | refine And.intro ?_ ?_ | intro _)
 refine Vc.frz 2 rfl ?_
 refine Vt ?_
 refine⟨?_,?_,trivial⟩
 all_goals exact rfl
end Fw
