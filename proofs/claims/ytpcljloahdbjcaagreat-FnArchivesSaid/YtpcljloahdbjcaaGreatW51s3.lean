/- Walks of functions of the program: what each computes. Conditions: those that each contract names. -/
import Derived.Test.YtpcljloahdbjcaaGreatW51T
import Derived.Test.YtpcljloahdbjcaaGreatW51s0
import Derived.Test.YtpcljloahdbjcaaGreatW51s1
import Derived.Test.YtpcljloahdbjcaaGreatW51s2
set_option linter.unusedVariables false
namespace Fw
open Go Go.Proofs
set_option linter.unusedSimpArgs false
set_option maxRecDepth 100000
noncomputable def P175:PFun:=⟨.pure Y18,[],[.own Z37],fun x _=>curOk x,fun x _=>(keysA x).2,fun x _=>((keysA x).1,())⟩
theorem P175_ok:MeetsP Tryz.prog 175 P175:=by
 refine meetsP_of_vc (C:=mkCP 57 [2] [0,2,3,4,11,12,21,30,39,47] [⟨76,_,F76_ok⟩] [] [] [⟨74,_,P74_ok⟩,⟨138,_,P138_ok⟩,⟨178,_,P178_ok⟩] [0]) (mkCP_ok _ _ _ _ _ _ _ _) (fO _) Tryz.func175 rfl rfl rfl (by decide) rfl rfl rfl ?_ rfl
 rintro c ⟨_⟩ hwc hwf hpre ⟨⟩ hG rfl rfl
 show Vc _ _ [(0,⟨0,0,.c (.ref Z23) c⟩)] _
 refine Vm hG rfl (Vq ?_)
 refine Vr hG rfl ?_ ?_
 · repeat' (first | exact trivial | exact hpre | exact below_ok hpre | exact ka2_ok hpre | exact Nat.succ_pos _ | exact kaIdx c | refine And.intro ?_ ?_ | intro _)
 refine Vq ?_
 refine Vr hG rfl ?_ ?_
 · repeat' (first | exact trivial | exact hpre | exact below_ok hpre | exact ka2_ok hpre | exact Nat.succ_pos _ | exact kaIdx c | refine And.intro ?_ ?_ | intro _)
 refine Vq (Vq ?_)
 refine Vr hG rfl ?_ ?_
 · repeat' (first | exact trivial | exact hpre | exact below_ok hpre | exact ka2_ok hpre | exact Nat.succ_pos _ | exact kaIdx c | refine And.intro ?_ ?_ | intro _)
 refine Vb (Vm hG rfl ?_)
 refine Vk rfl ?_ ?_<;>intro h0
 · refine Vr hG rfl ?_ ?_
   · repeat' (first | exact trivial | exact hpre | exact below_ok hpre | exact ka2_ok hpre | exact Nat.succ_pos _ | exact kaIdx c | refine And.intro ?_ ?_ | intro _)
   refine Vm hG rfl (Vt ?_)
   have e:keysA c=_:=((keysA_eq c).trans (cT h0))
   refine⟨⟨?_,trivial⟩,?_,trivial⟩
   · exact(congrArg Prod.snd e).symm
   · exact(congrArg (fun r=>r.1) e).symm
 · refine Vm hG rfl ?_
   refine Vk rfl ?_ ?_<;>intro h1
   · refine Vr hG rfl ?_ ?_
     · repeat' (first | exact trivial | exact hpre | exact below_ok hpre | exact ka2_ok hpre | exact Nat.succ_pos _ | exact kaIdx c | refine And.intro ?_ ?_ | intro _)
     refine Vm hG rfl (Vt ?_)
     have e:keysA c=_:=((keysA_eq c).trans ((cF h0).trans (cT h1)))
     refine⟨⟨?_,trivial⟩,?_,trivial⟩
     · exact(congrArg Prod.snd e).symm
     · exact(congrArg (fun r=>r.1) e).symm
   · refine Vm hG rfl ?_
     refine Vk rfl ?_ ?_<;>intro h2
     · refine Vr hG rfl ?_ ?_
       · repeat' (first | exact trivial | exact hpre | exact below_ok hpre | exact ka2_ok hpre | exact Nat.succ_pos _ | exact kaIdx c | refine And.intro ?_ ?_ | intro _)
       refine Vm hG rfl (Vt ?_)
       have e:keysA c=_:=((keysA_eq c).trans ((cF h0).trans ((cF h1).trans (cT h2))))
       refine⟨⟨?_,trivial⟩,?_,trivial⟩
       · exact(congrArg Prod.snd e).symm
       · exact(congrArg (fun r=>r.1) e).symm
     · refine Vm hG rfl ?_
       refine Vk rfl ?_ ?_<;>intro h3
       · refine Vr hG rfl ?_ ?_
         · repeat' (first | exact trivial | exact hpre | exact below_ok hpre | exact ka2_ok hpre | exact Nat.succ_pos _ | exact kaIdx c | refine And.intro ?_ ?_ | intro _)
         refine Vm hG rfl (Vt ?_)
         have e:keysA c=_:=((keysA_eq c).trans ((cF h0).trans ((cF h1).trans ((cF h2).trans (cT h3)))))
         refine⟨⟨?_,trivial⟩,?_,trivial⟩
         · exact(congrArg Prod.snd e).symm
         · exact(congrArg (fun r=>r.1) e).symm
       · refine Vm hG rfl ?_
         refine Vk rfl ?_ ?_<;>intro h4
         · refine Vr hG rfl ?_ ?_
           · repeat' (first | exact trivial | exact hpre | exact below_ok hpre | exact ka2_ok hpre | exact Nat.succ_pos _ | exact kaIdx c | refine And.intro ?_ ?_ | intro _)
           refine Vm hG rfl (Vt ?_)
           have e:keysA c=_:=((keysA_eq c).trans ((cF h0).trans ((cF h1).trans ((cF h2).trans ((cF h3).trans (cT h4))))))
           refine⟨⟨?_,trivial⟩,?_,trivial⟩
           · exact(congrArg Prod.snd e).symm
           · exact(congrArg (fun r=>r.1) e).symm
         · refine Vs (Vm hG rfl (Vt ?_))
           have e:keysA c=_:=((keysA_eq c).trans ((cF h0).trans ((cF h1).trans ((cF h2).trans ((cF h3).trans (cF h4))))))
           refine⟨⟨?_,trivial⟩,?_,trivial⟩
           · exact(congrArg Prod.snd e).symm
           · exact(congrArg (fun r=>r.1) e).symm
noncomputable def P176:PFun:=⟨.pure Y18,[],[.own Z19],fun x _=>curOk x,fun x _=>(authsA x).2,fun x _=>((authsA x).1,())⟩
theorem P176_ok:MeetsP Tryz.prog 176 P176:=by
 refine meetsP_of_vc (C:=mkCP 37 [2] [0,2,3,4,9,10,19,27] [⟨77,_,F77_ok⟩] [] [] [⟨74,_,P74_ok⟩,⟨138,_,P138_ok⟩,⟨181,_,P181_ok⟩] [0]) (mkCP_ok _ _ _ _ _ _ _ _) (fO _) Tryz.func176 rfl rfl rfl (by decide) rfl rfl rfl ?_ rfl
 rintro c ⟨_⟩ hwc hwf hpre ⟨⟩ hG rfl rfl
 show Vc _ _ [(0,⟨0,0,.c (.ref Z23) c⟩)] _
 refine Vm hG rfl (Vq ?_)
 refine Vr hG rfl ?_ ?_
 · repeat' (first | exact trivial | exact hpre | exact below_ok hpre | exact aa2_ok hpre | exact Nat.succ_pos _ | exact aaIdx c | refine And.intro ?_ ?_ | intro _)
 refine Vq ?_
 refine Vr hG rfl ?_ ?_
 · repeat' (first | exact trivial | exact hpre | exact below_ok hpre | exact aa2_ok hpre | exact Nat.succ_pos _ | exact aaIdx c | refine And.intro ?_ ?_ | intro _)
 refine Vq (Vq ?_)
 refine Vr hG rfl ?_ ?_
 · repeat' (first | exact trivial | exact hpre | exact below_ok hpre | exact aa2_ok hpre | exact Nat.succ_pos _ | exact aaIdx c | refine And.intro ?_ ?_ | intro _)
 refine Vb (Vm hG rfl ?_)
 refine Vk rfl ?_ ?_<;>intro h0
 · refine Vr hG rfl ?_ ?_
   · repeat' (first | exact trivial | exact hpre | exact below_ok hpre | exact aa2_ok hpre | exact Nat.succ_pos _ | exact aaIdx c | refine And.intro ?_ ?_ | intro _)
   refine Vm hG rfl (Vt ?_)
   have e:authsA c=_:=((authsA_eq c).trans (cT h0))
   refine⟨⟨?_,trivial⟩,?_,trivial⟩
   · exact(congrArg Prod.snd e).symm
   · exact(congrArg (fun r=>r.1) e).symm
 · refine Vm hG rfl ?_
   refine Vk rfl ?_ ?_<;>intro h1
   · refine Vr hG rfl ?_ ?_
     · repeat' (first | exact trivial | exact hpre | exact below_ok hpre | exact aa2_ok hpre | exact Nat.succ_pos _ | exact aaIdx c | refine And.intro ?_ ?_ | intro _)
     refine Vm hG rfl (Vt ?_)
     have e:authsA c=_:=((authsA_eq c).trans ((cF h0).trans (cT h1)))
     refine⟨⟨?_,trivial⟩,?_,trivial⟩
     · exact(congrArg Prod.snd e).symm
     · exact(congrArg (fun r=>r.1) e).symm
   · refine Vm hG rfl ?_
     refine Vk rfl ?_ ?_<;>intro h2
     · refine Vr hG rfl ?_ ?_
       · repeat' (first | exact trivial | exact hpre | exact below_ok hpre | exact aa2_ok hpre | exact Nat.succ_pos _ | exact aaIdx c | refine And.intro ?_ ?_ | intro _)
       refine Vm hG rfl (Vt ?_)
       have e:authsA c=_:=((authsA_eq c).trans ((cF h0).trans ((cF h1).trans (cT h2))))
       refine⟨⟨?_,trivial⟩,?_,trivial⟩
       · exact(congrArg Prod.snd e).symm
       · exact(congrArg (fun r=>r.1) e).symm
     · refine Vs (Vm hG rfl (Vt ?_))
       have e:authsA c=_:=((authsA_eq c).trans ((cF h0).trans ((cF h1).trans (cF h2))))
       refine⟨⟨?_,trivial⟩,?_,trivial⟩
       · exact(congrArg Prod.snd e).symm
       · exact(congrArg (fun r=>r.1) e).symm
noncomputable def P177:PFun:=⟨.pure Y18,[],[.pure Y31],fun x _=>curOk x,fun x _=>(methsA x).2,fun x _=>((methsA x).1,())⟩
theorem P177_ok:MeetsP Tryz.prog 177 P177:=by
 refine meetsP_of_vc (C:=mkCP 51 [2] [0,2,3,4,9,10,19,27,36,45] [⟨236,_,F236_ok⟩] [] [] [⟨74,_,P74_ok⟩,⟨138,_,P138_ok⟩,⟨178,_,P178_ok⟩] [0]) (mkCP_ok _ _ _ _ _ _ _ _) (fO _) Tryz.func177 rfl rfl rfl (by decide) rfl rfl rfl ?_ rfl
 rintro c ⟨_⟩ hwc hwf hpre ⟨⟩ hG rfl rfl
 show Vc _ _ [(0,⟨0,0,.c (.ref Z23) c⟩)] _
 refine Vm hG rfl (Vq ?_)
 refine Vr hG rfl ?_ ?_
 · repeat' (first | exact trivial | exact hpre | exact below_ok hpre | exact ma2_ok hpre | exact Nat.succ_pos _ | exact maIdx c | exact maCut c | refine And.intro ?_ ?_ | intro _)
 refine Vq ?_
 refine Vr hG rfl ?_ ?_
 · repeat' (first | exact trivial | exact hpre | exact below_ok hpre | exact ma2_ok hpre | exact Nat.succ_pos _ | exact maIdx c | exact maCut c | refine And.intro ?_ ?_ | intro _)
 refine Vq (Vq ?_)
 refine Vr hG rfl ?_ ?_
 · repeat' (first | exact trivial | exact hpre | exact below_ok hpre | exact ma2_ok hpre | exact Nat.succ_pos _ | exact maIdx c | exact maCut c | refine And.intro ?_ ?_ | intro _)
 refine Vb (Vm hG rfl ?_)
 refine Vk rfl ?_ ?_<;>intro h0
 · refine Vr hG rfl ?_ ?_
   · repeat' (first | exact trivial | exact hpre | exact below_ok hpre | exact ma2_ok hpre | exact Nat.succ_pos _ | exact maIdx c | exact maCut c | refine And.intro ?_ ?_ | intro _)
   refine Vm hG rfl ?_
   refine Vc.frz 2 rfl ?_
   refine Vt ?_
   have e:methsA c=_:=((methsA_eq c).trans (cT h0))
   refine⟨⟨?_,trivial⟩,?_,trivial⟩
   · exact(congrArg Prod.snd e).symm
   · exact(congrArg (fun r=>r.1) e).symm
 · refine Vm hG rfl ?_
   refine Vk rfl ?_ ?_<;>intro h1
   · refine Vr hG rfl ?_ ?_
     · repeat' (first | exact trivial | exact hpre | exact below_ok hpre | exact ma2_ok hpre | exact Nat.succ_pos _ | exact maIdx c | exact maCut c | refine And.intro ?_ ?_ | intro _)
     refine Vm hG rfl ?_
     refine Vc.frz 2 rfl ?_
     refine Vt ?_
     have e:methsA c=_:=((methsA_eq c).trans ((cF h0).trans (cT h1)))
     refine⟨⟨?_,trivial⟩,?_,trivial⟩
     · exact(congrArg Prod.snd e).symm
     · exact(congrArg (fun r=>r.1) e).symm
   · refine Vm hG rfl ?_
     refine Vk rfl ?_ ?_<;>intro h2
     · refine Vr hG rfl ?_ ?_
       · repeat' (first | exact trivial | exact hpre | exact below_ok hpre | exact ma2_ok hpre | exact Nat.succ_pos _ | exact maIdx c | exact maCut c | refine And.intro ?_ ?_ | intro _)
       refine Vm hG rfl ?_
       refine Vc.frz 2 rfl ?_
       refine Vt ?_
       have e:methsA c=_:=((methsA_eq c).trans ((cF h0).trans ((cF h1).trans (cT h2))))
       refine⟨⟨?_,trivial⟩,?_,trivial⟩
       · exact(congrArg Prod.snd e).symm
       · exact(congrArg (fun r=>r.1) e).symm
     · refine Vm hG rfl ?_
       refine Vk rfl ?_ ?_<;>intro h3
       · refine Vr hG rfl ?_ ?_
         · repeat' (first | exact trivial | exact hpre | exact below_ok hpre | exact ma2_ok hpre | exact Nat.succ_pos _ | exact maIdx c | exact maCut c | refine And.intro ?_ ?_ | intro _)
         refine Vm hG rfl ?_
         refine Vc.frz 2 rfl ?_
         refine Vt ?_
         have e:methsA c=_:=((methsA_eq c).trans ((cF h0).trans ((cF h1).trans ((cF h2).trans (cT h3)))))
         refine⟨⟨?_,trivial⟩,?_,trivial⟩
         · exact(congrArg Prod.snd e).symm
         · exact(congrArg (fun r=>r.1) e).symm
       · refine Vm hG rfl ?_
         refine Vk rfl ?_ ?_<;>intro h4
         · refine Vc.frz 3 rfl ?_
           refine Vr hG rfl ?_ ?_
           · repeat' (first | exact trivial | exact hpre | exact below_ok hpre | exact ma2_ok hpre | exact Nat.succ_pos _ | exact maIdx c | exact maCut c | refine And.intro ?_ ?_ | intro _)
           refine Vm hG rfl ?_
           refine Vc.frz 2 rfl ?_
           refine Vt ?_
           have e:methsA c=_:=((methsA_eq c).trans ((cF h0).trans ((cF h1).trans ((cF h2).trans ((cF h3).trans (cT h4))))))
           refine⟨⟨?_,trivial⟩,?_,trivial⟩
           · exact(congrArg Prod.snd e).symm
           · exact(congrArg (fun r=>r.1) e).symm
         · refine Vs (Vm hG rfl ?_)
           refine Vc.frz 2 rfl ?_
           refine Vt ?_
           have e:methsA c=_:=((methsA_eq c).trans ((cF h0).trans ((cF h1).trans ((cF h2).trans ((cF h3).trans (cF h4))))))
           refine⟨⟨?_,trivial⟩,?_,trivial⟩
           · exact(congrArg Prod.snd e).symm
           · exact(congrArg (fun r=>r.1) e).symm
noncomputable def P113:PFun:=⟨.pure Y18,[],[.pure Y63],fun x _=>curOk x,fun x _=>(frameA x).2,fun x _=>((frameA x).1,())⟩
theorem P113_ok:MeetsP Tryz.prog 113 P113:=by
 refine meetsP_of_vc (C:=mkCP 35 [2] [0,2,3,7,8,13,18,23,29] [] [] [] [⟨158,_,P158_ok⟩,⟨74,_,P74_ok⟩,⟨175,_,P175_ok⟩,⟨176,_,P176_ok⟩,⟨177,_,P177_ok⟩,⟨138,_,P138_ok⟩,⟨178,_,P178_ok⟩] [0]) (mkCP_ok _ _ _ _ _ _ _ _) (fO _) Tryz.func113 rfl rfl rfl (by decide) rfl rfl rfl ?_ rfl
 rintro c ⟨_⟩ hwc hwf hpre ⟨⟩ hG rfl rfl
 show Vc _ _ [(0,⟨0,0,.c (.ref Z23) c⟩)] _
 refine Vm hG rfl (Vq ?_)
 refine Vr hG rfl ?_ ?_
 · repeat' (first | exact trivial | exact hpre | exact frameD_ok hpre | exact fa1_ok hpre | exact Nat.succ_pos _ | refine And.intro ?_ ?_ | intro _)
 refine Vq (Vq ?_)
 refine Vr hG rfl ?_ ?_
 · repeat' (first | exact trivial | exact hpre | exact frameD_ok hpre | exact fa1_ok hpre | exact Nat.succ_pos _ | refine And.intro ?_ ?_ | intro _)
 refine Vb (Vm hG rfl ?_)
 refine Vk rfl ?_ ?_<;>intro h0
 · refine Vr hG rfl ?_ ?_
   · repeat' (first | exact trivial | exact hpre | exact frameD_ok hpre | exact fa1_ok hpre | exact Nat.succ_pos _ | refine And.intro ?_ ?_ | intro _)
   refine Vm hG rfl ?_
   refine Vc.frz 2 rfl ?_
   refine Vt ?_
   have e:frameA c=_:=((frameA_eq c).trans (cT h0))
   refine⟨⟨?_,trivial⟩,?_,trivial⟩
   · exact(congrArg Prod.snd e).symm
   · exact(congrArg (fun r=>r.1) e).symm
 · refine Vm hG rfl ?_
   refine Vk rfl ?_ ?_<;>intro h1
   · refine Vr hG rfl ?_ ?_
     · repeat' (first | exact trivial | exact hpre | exact frameD_ok hpre | exact fa1_ok hpre | exact Nat.succ_pos _ | refine And.intro ?_ ?_ | intro _)
     refine Vm hG rfl ?_
     refine Vc.frz 2 rfl ?_
     refine Vt ?_
     have e:frameA c=_:=((frameA_eq c).trans ((cF h0).trans (cT h1)))
     refine⟨⟨?_,trivial⟩,?_,trivial⟩
     · exact(congrArg Prod.snd e).symm
     · exact(congrArg (fun r=>r.1) e).symm
   · refine Vm hG rfl ?_
     refine Vk rfl ?_ ?_<;>intro h2
     · refine Vr hG rfl ?_ ?_
       · repeat' (first | exact trivial | exact hpre | exact frameD_ok hpre | exact fa1_ok hpre | exact Nat.succ_pos _ | refine And.intro ?_ ?_ | intro _)
       refine Vm hG rfl ?_
       refine Vc.frz 2 rfl ?_
       refine Vt ?_
       have e:frameA c=_:=((frameA_eq c).trans ((cF h0).trans ((cF h1).trans (cT h2))))
       refine⟨⟨?_,trivial⟩,?_,trivial⟩
       · exact(congrArg Prod.snd e).symm
       · exact(congrArg (fun r=>r.1) e).symm
     · refine Vm hG rfl ?_
       refine Vk rfl ?_ ?_<;>intro h3
       · refine Vr hG rfl ?_ ?_
         · repeat' (first | exact trivial | exact hpre | exact frameD_ok hpre | exact fa1_ok hpre | exact Nat.succ_pos _ | refine And.intro ?_ ?_ | intro _)
         refine Vm hG rfl ?_
         refine Vc.frz 2 rfl ?_
         refine Vt ?_
         have e:frameA c=_:=((frameA_eq c).trans ((cF h0).trans ((cF h1).trans ((cF h2).trans (cT h3)))))
         refine⟨⟨?_,trivial⟩,?_,trivial⟩
         · exact(congrArg Prod.snd e).symm
         · exact(congrArg (fun r=>r.1) e).symm
       · refine Vm hG rfl ?_
         refine Vk rfl ?_ ?_<;>intro h4
         · refine Vr hG rfl ?_ ?_
           · repeat' (first | exact trivial | exact hpre | exact frameD_ok hpre | exact fa1_ok hpre | exact Nat.succ_pos _ | refine And.intro ?_ ?_ | intro _)
           refine Vm hG rfl ?_
           refine Vc.frz 2 rfl ?_
           refine Vt ?_
           have e:frameA c=_:=((frameA_eq c).trans ((cF h0).trans ((cF h1).trans ((cF h2).trans ((cF h3).trans (cT h4))))))
           refine⟨⟨?_,trivial⟩,?_,trivial⟩
           · exact(congrArg Prod.snd e).symm
           · exact(congrArg (fun r=>r.1) e).symm
         · refine Vs (Vm hG rfl ?_)
           refine Vc.frz 2 rfl ?_
           refine Vt ?_
           have e:frameA c=_:=((frameA_eq c).trans ((cF h0).trans ((cF h1).trans ((cF h2).trans ((cF h3).trans (cF h4))))))
           refine⟨⟨?_,trivial⟩,?_,trivial⟩
           · exact(congrArg Prod.snd e).symm
           · exact(congrArg (fun r=>r.1) e).symm
noncomputable def F49:Fun:=⟨[.slice (.int .u8)],[.pure Y63,.pure Y74],fun _=>True,fun x=>((jiC x.1).1,(jiC x.1).2,())⟩
theorem F49_ok:Meets Tryz.prog 49 F49:=by
 refine mZ (C:=mkCP 13 [2,3,4] [0,2,3,4,5] [⟨73,_,F73_ok⟩] [] [] [⟨113,_,P113_ok⟩,⟨130,_,P130_ok⟩] []) (mkCP_ok _ _ _ _ _ _ _ _) (fO _) Tryz.func49 rfl rfl rfl (by decide) rfl ?_
 rintro⟨a0,_⟩ hwf hpre ⟨⟩ hG rfl rfl
 show Vc _ _ [(0,⟨0,0,.c Z1 a0⟩)] _
 refine Vm hG rfl (Vq ?_)
 refine Vr hG rfl ?_ ?_
 · repeat' (first | exact trivial | exact newCur_ok hwf.1.1 | exact frameA_ok (newCur_ok hwf.1.1) | refine And.intro ?_ ?_ | intro _)
 refine Vq ?_
 refine Vr hG rfl ?_ ?_
 · repeat' (first | exact trivial | exact newCur_ok hwf.1.1 | exact frameA_ok (newCur_ok hwf.1.1) | refine And.intro ?_ ?_ | intro _)
 refine Vq ?_
 refine VrD mixed hG rfl (by kernel_rfl) ?_ ?_
 · repeat' (first | exact trivial | exact newCur_ok hwf.1.1 | exact frameA_ok (newCur_ok hwf.1.1) | refine And.intro ?_ ?_ | intro _)
 refine Vc.frz 2 rfl ?_
 refine Vc.frz 3 rfl ?_
 refine Vt ?_
 refine⟨?_,?_,trivial⟩
 all_goals exact rfl
noncomputable def F50:Fun:=⟨[.slice (.int .u8)],[.pure Y77,.pure (.int .i64),.pure Y20],fun _=>True,fun x=>((atC x.1).1,(atC x.1).2.1,(atC x.1).2.2,())⟩
theorem F50_ok:Meets Tryz.prog 50 F50:=by
 refine mZ (C:=mkCP 18 [2,3,4,5] [0,2,3,4,5,6,7] [⟨73,_,F73_ok⟩] [] [] [⟨127,_,P127_ok⟩,⟨74,_,P74_ok⟩,⟨134,_,P134_ok⟩] []) (mkCP_ok _ _ _ _ _ _ _ _) (fO _) Tryz.func50 rfl rfl rfl (by decide) rfl ?_
 rintro⟨a0,_⟩ hwf hpre ⟨⟩ hG rfl rfl
 show Vc _ _ [(0,⟨0,0,.c Z1 a0⟩)] _
 refine Vm hG rfl (Vq ?_)
 refine Vr hG rfl ?_ ?_
 · repeat' (first | exact trivial | exact newCur_ok hwf.1.1 | exact da0_ok hwf.1.1 | exact at1_ok hwf.1.1 | refine And.intro ?_ ?_ | intro _)
 refine Vq ?_
 refine Vr hG rfl ?_ ?_
 · repeat' (first | exact trivial | exact newCur_ok hwf.1.1 | exact da0_ok hwf.1.1 | exact at1_ok hwf.1.1 | refine And.intro ?_ ?_ | intro _)
 refine Vq ?_
 refine Vr hG rfl ?_ ?_
 · repeat' (first | exact trivial | exact newCur_ok hwf.1.1 | exact da0_ok hwf.1.1 | exact at1_ok hwf.1.1 | refine And.intro ?_ ?_ | intro _)
 refine Vq ?_
 refine VrD mixed hG rfl (by kernel_rfl) ?_ ?_
 · repeat' (first | exact trivial | exact newCur_ok hwf.1.1 | exact da0_ok hwf.1.1 | exact at1_ok hwf.1.1 | refine And.intro ?_ ?_ | intro _)
 refine Vc.frz 2 rfl ?_
 refine Vc.frz 4 rfl ?_
 refine Vt ?_
 refine⟨?_,?_,?_,trivial⟩
 all_goals exact rfl
end Fw
