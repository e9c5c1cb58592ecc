/- Walks of functions of the program: what each computes. Conditions: those that each contract names. -/
import Derived.Test.YtajkcodhmabmnaaGreatW52T
import Derived.Test.YtajkcodhmabmnaaGreatW52s0
import Derived.Test.YtajkcodhmabmnaaGreatW52s1
namespace Fw
open Go Go.Proofs
set_option linter.unusedSimpArgs false
set_option maxRecDepth 100000
noncomputable def P97:PFun:=⟨.pure Y20,[],[.own Z42],fun x _=>curOk x,fun x _=>(keysA x).2,fun x _=>((keysA x).1,())⟩
theorem P97_ok:MeetsP Tryz.prog 97 P97:=by
 refine meetsP_of_vc (C:=mkCP 57 [2] [0,2,3,4,11,12,21,30,39,47] [⟨40,_,F40_ok⟩] [] [] [⟨38,_,P38_ok⟩,⟨57,_,P57_ok⟩,⟨100,_,P100_ok⟩] [0]) (mkCP_ok _ _ _ _ _ _ _ _) (fO _) Tryz.func97 rfl rfl rfl (by decide) rfl rfl rfl ?_ rfl
 rintro c ⟨_⟩ hwc hwf hpre ⟨⟩ hG rfl rfl
 show Vc _ _ [(0,⟨0,0,.c (.ref Z25) c⟩)] _
 refine Vm hG rfl (Vq ?_)
 refine Vr hG rfl ?_ ?_
 · repeat' (first | exact trivial | exact hpre | exact below_ok hpre | exact ka2_ok hpre | exact Nat.succ_pos _ | exact kaIdx c | refine And.intro ?_ ?_ | intro _)
 refine Vq ?_
 refine Vr hG rfl ?_ ?_
 · repeat' (first | exact trivial | exact hpre | exact below_ok hpre | exact ka2_ok hpre | exact Nat.succ_pos _ | exact kaIdx c | refine And.intro ?_ ?_ | intro _)
 refine Vq (Vq ?_)
 refine Vr hG rfl ?_ ?_
 · repeat' (first | exact trivial | exact hpre | exact below_ok hpre | exact ka2_ok hpre | exact Nat.succ_pos _ | exact kaIdx c | refine And.intro ?_ ?_ | intro _)
 refine Vb (Vm hG rfl ?_)
 refine Vk rfl ?_ ?_<;>intro h0
 · refine Vr hG rfl ?_ ?_
   · repeat' (first | exact trivial | exact hpre | exact below_ok hpre | exact ka2_ok hpre | exact Nat.succ_pos _ | exact kaIdx c | refine And.intro ?_ ?_ | intro _)
   refine Vm hG rfl (Vt ?_)
   have e:keysA c=_:=((keysA_eq c).trans (cT h0))
   refine⟨⟨?_,trivial⟩,?_,trivial⟩
   · exact(congrArg Prod.snd e).symm
   · exact(congrArg (fun r=>r.1) e).symm
 · refine Vm hG rfl ?_
   refine Vk rfl ?_ ?_<;>intro h1
   · refine Vr hG rfl ?_ ?_
     · repeat' (first | exact trivial | exact hpre | exact below_ok hpre | exact ka2_ok hpre | exact Nat.succ_pos _ | exact kaIdx c | refine And.intro ?_ ?_ | intro _)
     refine Vm hG rfl (Vt ?_)
     have e:keysA c=_:=((keysA_eq c).trans ((cF h0).trans (cT h1)))
     refine⟨⟨?_,trivial⟩,?_,trivial⟩
     · exact(congrArg Prod.snd e).symm
     · exact(congrArg (fun r=>r.1) e).symm
   · refine Vm hG rfl ?_
     refine Vk rfl ?_ ?_<;>intro h2
     · refine Vr hG rfl ?_ ?_
       · repeat' (first | exact trivial | exact hpre | exact below_ok hpre | exact ka2_ok hpre | exact Nat.succ_pos _ | exact kaIdx c | refine And.intro ?_ ?_ | intro _)
       refine Vm hG rfl (Vt ?_)
       have e:keysA c=_:=((keysA_eq c).trans ((cF h0).trans ((cF h1).trans (cT h2))))
       refine⟨⟨?_,trivial⟩,?_,trivial⟩
       · exact(congrArg Prod.snd e).symm
       · exact(congrArg (fun r=>r.1) e).symm
     · refine Vm hG rfl ?_
       refine Vk rfl ?_ ?_<;>intro h3
       · refine Vr hG rfl ?_ ?_
         · repeat' (first | exact trivial | exact hpre | exact below_ok hpre | exact ka2_ok hpre | exact Nat.succ_pos _ | exact kaIdx c | refine And.intro ?_ ?_ | intro _)
         refine Vm hG rfl (Vt ?_)
         have e:keysA c=_:=((keysA_eq c).trans ((cF h0).trans ((cF h1).trans ((cF h2).trans (cT h3)))))
         refine⟨⟨?_,trivial⟩,?_,trivial⟩
         · exact(congrArg Prod.snd e).symm
         · exact(congrArg (fun r=>r.1) e).symm
       · refine Vm hG rfl ?_
         refine Vk rfl ?_ ?_<;>intro h4
         · refine Vr hG rfl ?_ ?_
           · repeat' (first | exact trivial | exact hpre | exact below_ok hpre | exact ka2_ok hpre | exact Nat.succ_pos _ | exact kaIdx c | refine And.intro ?_ ?_ | intro _)
           refine Vm hG rfl (Vt ?_)
           have e:keysA c=_:=((keysA_eq c).trans ((cF h0).trans ((cF h1).trans ((cF h2).trans ((cF h3).trans (cT h4))))))
           refine⟨⟨?_,trivial⟩,?_,trivial⟩
           · exact(congrArg Prod.snd e).symm
           · exact(congrArg (fun r=>r.1) e).symm
         · refine Vs (Vm hG rfl (Vt ?_))
           have e:keysA c=_:=((keysA_eq c).trans ((cF h0).trans ((cF h1).trans ((cF h2).trans ((cF h3).trans (cF h4))))))
           refine⟨⟨?_,trivial⟩,?_,trivial⟩
           · exact(congrArg Prod.snd e).symm
           · exact(congrArg (fun r=>r.1) e).symm
noncomputable def P162:PFun:=⟨.pure Y20,[],[.pure (.int .i64)],fun x _=>curOk x,fun x _=>(numD x).2,fun x _=>((numD x).1,())⟩
theorem P162_ok:MeetsP Tryz.prog 162 P162:=by
 refine meetsP_of_vc (C:=mkCP 6 [2] [0,2] [] [] [] [⟨57,_,P57_ok⟩] [0]) (mkCP_ok _ _ _ _ _ _ _ _) (fO _) Tryz.func162 rfl rfl rfl (by decide) rfl rfl rfl ?_ rfl
 rintro c ⟨_⟩ hwc hwf hpre ⟨⟩ hG rfl rfl
 show Vc _ _ [(0,⟨0,0,.c (.ref Z25) c⟩)] _
 refine Vm hG rfl (Vq ?_)
 refine Vr hG rfl ?_ ?_
 · repeat' (first | exact trivial | exact hpre | exact Nat.succ_pos _ | refine And.intro ?_ ?_ | intro _)
 refine Vt ?_
 refine⟨⟨?_,trivial⟩,?_,trivial⟩
 all_goals exact rfl
noncomputable def P98:PFun:=⟨.pure Y20,[],[.own Z21],fun x _=>curOk x,fun x _=>(authsA x).2,fun x _=>((authsA x).1,())⟩
theorem P98_ok:MeetsP Tryz.prog 98 P98:=by
 refine meetsP_of_vc (C:=mkCP 37 [2] [0,2,3,4,9,10,19,27] [⟨41,_,F41_ok⟩] [] [] [⟨38,_,P38_ok⟩,⟨57,_,P57_ok⟩,⟨162,_,P162_ok⟩] [0]) (mkCP_ok _ _ _ _ _ _ _ _) (fO _) Tryz.func98 rfl rfl rfl (by decide) rfl rfl rfl ?_ rfl
 rintro c ⟨_⟩ hwc hwf hpre ⟨⟩ hG rfl rfl
 show Vc _ _ [(0,⟨0,0,.c (.ref Z25) c⟩)] _
 refine Vm hG rfl (Vq ?_)
 refine Vr hG rfl ?_ ?_
 · repeat' (first | exact trivial | exact hpre | exact below_ok hpre | exact aa2_ok hpre | exact Nat.succ_pos _ | exact aaIdx c | refine And.intro ?_ ?_ | intro _)
 refine Vq ?_
 refine Vr hG rfl ?_ ?_
 · repeat' (first | exact trivial | exact hpre | exact below_ok hpre | exact aa2_ok hpre | exact Nat.succ_pos _ | exact aaIdx c | refine And.intro ?_ ?_ | intro _)
 refine Vq (Vq ?_)
 refine Vr hG rfl ?_ ?_
 · repeat' (first | exact trivial | exact hpre | exact below_ok hpre | exact aa2_ok hpre | exact Nat.succ_pos _ | exact aaIdx c | refine And.intro ?_ ?_ | intro _)
 refine Vb (Vm hG rfl ?_)
 refine Vk rfl ?_ ?_<;>intro h0
 · refine Vr hG rfl ?_ ?_
   · repeat' (first | exact trivial | exact hpre | exact below_ok hpre | exact aa2_ok hpre | exact Nat.succ_pos _ | exact aaIdx c | refine And.intro ?_ ?_ | intro _)
   refine Vm hG rfl (Vt ?_)
   have e:authsA c=_:=((authsA_eq c).trans (cT h0))
   refine⟨⟨?_,trivial⟩,?_,trivial⟩
   · exact(congrArg Prod.snd e).symm
   · exact(congrArg (fun r=>r.1) e).symm
 · refine Vm hG rfl ?_
   refine Vk rfl ?_ ?_<;>intro h1
   · refine Vr hG rfl ?_ ?_
     · repeat' (first | exact trivial | exact hpre | exact below_ok hpre | exact aa2_ok hpre | exact Nat.succ_pos _ | exact aaIdx c | refine And.intro ?_ ?_ | intro _)
     refine Vm hG rfl (Vt ?_)
     have e:authsA c=_:=((authsA_eq c).trans ((cF h0).trans (cT h1)))
     refine⟨⟨?_,trivial⟩,?_,trivial⟩
     · exact(congrArg Prod.snd e).symm
     · exact(congrArg (fun r=>r.1) e).symm
   · refine Vm hG rfl ?_
     refine Vk rfl ?_ ?_<;>intro h2
     · refine Vr hG rfl ?_ ?_
       · repeat' (first | exact trivial | exact hpre | exact below_ok hpre | exact aa2_ok hpre | exact Nat.succ_pos _ | exact aaIdx c | refine And.intro ?_ ?_ | intro _)
       refine Vm hG rfl (Vt ?_)
       have e:authsA c=_:=((authsA_eq c).trans ((cF h0).trans ((cF h1).trans (cT h2))))
       refine⟨⟨?_,trivial⟩,?_,trivial⟩
       · exact(congrArg Prod.snd e).symm
       · exact(congrArg (fun r=>r.1) e).symm
     · refine Vs (Vm hG rfl (Vt ?_))
       have e:authsA c=_:=((authsA_eq c).trans ((cF h0).trans ((cF h1).trans (cF h2))))
       refine⟨⟨?_,trivial⟩,?_,trivial⟩
       · exact(congrArg Prod.snd e).symm
       · exact(congrArg (fun r=>r.1) e).symm
noncomputable def P99:PFun:=⟨.pure Y20,[],[.pure Y34],fun x _=>curOk x,fun x _=>(methsA x).2,fun x _=>((methsA x).1,())⟩
theorem P99_ok:MeetsP Tryz.prog 99 P99:=by
 refine meetsP_of_vc (C:=mkCP 51 [2] [0,2,3,4,9,10,19,27,36,45] [⟨161,_,F161_ok⟩] [] [] [⟨38,_,P38_ok⟩,⟨57,_,P57_ok⟩,⟨100,_,P100_ok⟩] [0]) (mkCP_ok _ _ _ _ _ _ _ _) (fO _) Tryz.func99 rfl rfl rfl (by decide) rfl rfl rfl ?_ rfl
 rintro c ⟨_⟩ hwc hwf hpre ⟨⟩ hG rfl rfl
 show Vc _ _ [(0,⟨0,0,.c (.ref Z25) c⟩)] _
 refine Vm hG rfl (Vq ?_)
 refine Vr hG rfl ?_ ?_
 · repeat' (first | exact trivial | exact hpre | exact below_ok hpre | exact ma2_ok hpre | exact Nat.succ_pos _ | exact maIdx c | exact maCut c | refine And.intro ?_ ?_ | intro _)
 refine Vq ?_
 refine Vr hG rfl ?_ ?_
 · repeat' (first | exact trivial | exact hpre | exact below_ok hpre | exact ma2_ok hpre | exact Nat.succ_pos _ | exact maIdx c | exact maCut c | refine And.intro ?_ ?_ | intro _)
 refine Vq (Vq ?_)
 refine Vr hG rfl ?_ ?_
 · repeat' (first | exact trivial | exact hpre | exact below_ok hpre | exact ma2_ok hpre | exact Nat.succ_pos _ | exact maIdx c | exact maCut c | refine And.intro ?_ ?_ | intro _)
 refine Vb (Vm hG rfl ?_)
 refine Vk rfl ?_ ?_<;>intro h0
 · refine Vr hG rfl ?_ ?_
   · repeat' (first | exact trivial | exact hpre | exact below_ok hpre | exact ma2_ok hpre | exact Nat.succ_pos _ | exact maIdx c | exact maCut c | refine And.intro ?_ ?_ | intro _)
   refine Vm hG rfl ?_
   refine Vc.frz 2 rfl ?_
   refine Vt ?_
   have e:methsA c=_:=((methsA_eq c).trans (cT h0))
   refine⟨⟨?_,trivial⟩,?_,trivial⟩
   · exact(congrArg Prod.snd e).symm
   · exact(congrArg (fun r=>r.1) e).symm
 · refine Vm hG rfl ?_
   refine Vk rfl ?_ ?_<;>intro h1
   · refine Vr hG rfl ?_ ?_
     · repeat' (first | exact trivial | exact hpre | exact below_ok hpre | exact ma2_ok hpre | exact Nat.succ_pos _ | exact maIdx c | exact maCut c | refine And.intro ?_ ?_ | intro _)
     refine Vm hG rfl ?_
     refine Vc.frz 2 rfl ?_
     refine Vt ?_
     have e:methsA c=_:=((methsA_eq c).trans ((cF h0).trans (cT h1)))
     refine⟨⟨?_,trivial⟩,?_,trivial⟩
     · exact(congrArg Prod.snd e).symm
     · exact(congrArg (fun r=>r.1) e).symm
   · refine Vm hG rfl ?_
     refine Vk rfl ?_ ?_<;>intro h2
     · refine Vr hG rfl ?_ ?_
       · repeat' (first | exact trivial | exact hpre | exact below_ok hpre | exact ma2_ok hpre | exact Nat.succ_pos _ | exact maIdx c | exact maCut c | refine And.intro ?_ ?_ | intro _)
       refine Vm hG rfl ?_
       refine Vc.frz 2 rfl ?_
       refine Vt ?_
       have e:methsA c=_:=((methsA_eq c).trans ((cF h0).trans ((cF h1).trans (cT h2))))
       refine⟨⟨?_,trivial⟩,?_,trivial⟩
       · exact(congrArg Prod.snd e).symm
       · exact(congrArg (fun r=>r.1) e).symm
     · refine Vm hG rfl ?_
       refine Vk rfl ?_ ?_<;>intro h3
       · refine Vr hG rfl ?_ ?_
         · repeat' (first | exact trivial | exact hpre | exact below_ok hpre | exact ma2_ok hpre | exact Nat.succ_pos _ | exact maIdx c | exact maCut c | refine And.intro ?_ ?_ | intro _)
         refine Vm hG rfl ?_
         refine Vc.frz 2 rfl ?_
         refine Vt ?_
         have e:methsA c=_:=((methsA_eq c).trans ((cF h0).trans ((cF h1).trans ((cF h2).trans (cT h3)))))
         refine⟨⟨?_,trivial⟩,?_,trivial⟩
         · exact(congrArg Prod.snd e).symm
         · exact(congrArg (fun r=>r.1) e).symm
       · refine Vm hG rfl ?_
         refine Vk rfl ?_ ?_<;>intro h4
         · refine Vc.frz 3 rfl ?_
           refine Vr hG rfl ?_ ?_
           · repeat' (first | exact trivial | exact hpre | exact below_ok hpre | exact ma2_ok hpre | exact Nat.succ_pos _ | exact maIdx c | exact maCut c | refine And.intro ?_ ?_ | intro _)
           refine Vm hG rfl ?_
           refine Vc.frz 2 rfl ?_
           refine Vt ?_
           have e:methsA c=_:=((methsA_eq c).trans ((cF h0).trans ((cF h1).trans ((cF h2).trans ((cF h3).trans (cT h4))))))
           refine⟨⟨?_,trivial⟩,?_,trivial⟩
           · exact(congrArg Prod.snd e).symm
           · exact(congrArg (fun r=>r.1) e).symm
         · refine Vs (Vm hG rfl ?_)
           refine Vc.frz 2 rfl ?_
           refine Vt ?_
           have e:methsA c=_:=((methsA_eq c).trans ((cF h0).trans ((cF h1).trans ((cF h2).trans ((cF h3).trans (cF h4))))))
           refine⟨⟨?_,trivial⟩,?_,trivial⟩
           · exact(congrArg Prod.snd e).symm
           · exact(congrArg (fun r=>r.1) e).symm
noncomputable def P59:PFun:=⟨.pure Y20,[],[.pure Y74],fun x _=>curOk x,fun x _=>(frameA x).2,fun x _=>((frameA x).1,())⟩
theorem P59_ok:MeetsP Tryz.prog 59 P59:=by
 refine meetsP_of_vc (C:=mkCP 35 [2] [0,2,3,7,8,13,18,23,29] [] [] [] [⟨96,_,P96_ok⟩,⟨38,_,P38_ok⟩,⟨97,_,P97_ok⟩,⟨98,_,P98_ok⟩,⟨99,_,P99_ok⟩,⟨57,_,P57_ok⟩,⟨100,_,P100_ok⟩] [0]) (mkCP_ok _ _ _ _ _ _ _ _) (fO _) Tryz.func59 rfl rfl rfl (by decide) rfl rfl rfl ?_ rfl
 rintro c ⟨_⟩ hwc hwf hpre ⟨⟩ hG rfl rfl
 show Vc _ _ [(0,⟨0,0,.c (.ref Z25) c⟩)] _
 refine Vm hG rfl (Vq ?_)
 refine Vr hG rfl ?_ ?_
 · repeat' (first | exact trivial | exact hpre | exact frameD_ok hpre | exact fa1_ok hpre | exact Nat.succ_pos _ | refine And.intro ?_ ?_ | intro _)
 refine Vq (Vq ?_)
 refine Vr hG rfl ?_ ?_
 · repeat' (first | exact trivial | exact hpre | exact frameD_ok hpre | exact fa1_ok hpre | exact Nat.succ_pos _ | refine And.intro ?_ ?_ | intro _)
 refine Vb (Vm hG rfl ?_)
 refine Vk rfl ?_ ?_<;>intro h0
 · refine Vr hG rfl ?_ ?_
   · repeat' (first | exact trivial | exact hpre | exact frameD_ok hpre | exact fa1_ok hpre | exact Nat.succ_pos _ | refine And.intro ?_ ?_ | intro _)
   refine Vm hG rfl ?_
   refine Vc.frz 2 rfl ?_
   refine Vt ?_
   have e:frameA c=_:=((frameA_eq c).trans (cT h0))
   refine⟨⟨?_,trivial⟩,?_,trivial⟩
   · exact(congrArg Prod.snd e).symm
   · exact(congrArg (fun r=>r.1) e).symm
 · refine Vm hG rfl ?_
   refine Vk rfl ?_ ?_<;>intro h1
   · refine Vr hG rfl ?_ ?_
     · repeat' (first | exact trivial | exact hpre | exact frameD_ok hpre | exact fa1_ok hpre | exact Nat.succ_pos _ | refine And.intro ?_ ?_ | intro _)
     refine Vm hG rfl ?_
     refine Vc.frz 2 rfl ?_
     refine Vt ?_
     have e:frameA c=_:=((frameA_eq c).trans ((cF h0).trans (cT h1)))
     refine⟨⟨?_,trivial⟩,?_,trivial⟩
     · exact(congrArg Prod.snd e).symm
     · exact(congrArg (fun r=>r.1) e).symm
   · refine Vm hG rfl ?_
     refine Vk rfl ?_ ?_<;>intro h2
     · refine Vr hG rfl ?_ ?_
       · repeat' (first | exact trivial | exact hpre | exact frameD_ok hpre | exact fa1_ok hpre | exact Nat.succ_pos _ | refine And.intro ?_ ?_ | intro _)
       refine Vm hG rfl ?_
       refine Vc.frz 2 rfl ?_
       refine Vt ?_
       have e:frameA c=_:=((frameA_eq c).trans ((cF h0).trans ((cF h1).trans (cT h2))))
       refine⟨⟨?_,trivial⟩,?_,trivial⟩
       · exact(congrArg Prod.snd e).symm
       · exact(congrArg (fun r=>r.1) e).symm
     · refine Vm hG rfl ?_
       refine Vk rfl ?_ ?_<;>intro h3
       · refine Vr hG rfl ?_ ?_
         · repeat' (first | exact trivial | exact hpre | exact frameD_ok hpre | exact fa1_ok hpre | exact Nat.succ_pos _ | refine And.intro ?_ ?_ | intro _)
         refine Vm hG rfl ?_
         refine Vc.frz 2 rfl ?_
         refine Vt ?_
         have e:frameA c=_:=((frameA_eq c).trans ((cF h0).trans ((cF h1).trans ((cF h2).trans (cT h3)))))
         refine⟨⟨?_,trivial⟩,?_,trivial⟩
         · exact(congrArg Prod.snd e).symm
         · exact(congrArg (fun r=>r.1) e).symm
       · refine Vm hG rfl ?_
         refine Vk rfl ?_ ?_<;>intro h4
         · refine Vr hG rfl ?_ ?_
           · repeat' (first | exact trivial | exact hpre | exact frameD_ok hpre | exact fa1_ok hpre | exact Nat.succ_pos _ | refine And.intro ?_ ?_ | intro _)
           refine Vm hG rfl ?_
           refine Vc.frz 2 rfl ?_
           refine Vt ?_
           have e:frameA c=_:=((frameA_eq c).trans ((cF h0).trans ((cF h1).trans ((cF h2).trans ((cF h3).trans (cT h4))))))
           refine⟨⟨?_,trivial⟩,?_,trivial⟩
           · exact(congrArg Prod.snd e).symm
           · exact(congrArg (fun r=>r.1) e).symm
         · refine Vs (Vm hG rfl ?_)
           refine Vc.frz 2 rfl ?_
           refine Vt ?_
           have e:frameA c=_:=((frameA_eq c).trans ((cF h0).trans ((cF h1).trans ((cF h2).trans ((cF h3).trans (cF h4))))))
           refine⟨⟨?_,trivial⟩,?_,trivial⟩
           · exact(congrArg Prod.snd e).symm
           · exact(congrArg (fun r=>r.1) e).symm
noncomputable def P101:PFun:=⟨.pure Y20,[],[.pair (.pure (.int .i64)) Z18],fun x _=>curOk x,fun x _=>(docB x).2,fun x _=>((docB x).1,())⟩
theorem P101_ok:MeetsP Tryz.prog 101 P101:=by
 refine meetsP_of_vc (C:=mkCP 39 [2] [0,2,3,7,8,14,21,29] [] [] [] [⟨163,_,P163_ok⟩,⟨38,_,P38_ok⟩,⟨57,_,P57_ok⟩] [0]) (mkCP_ok _ _ _ _ _ _ _ _) (fO _) Tryz.func101 rfl rfl rfl (by decide) rfl rfl rfl ?_ rfl
 rintro c ⟨_⟩ hwc hwf hpre ⟨⟩ hG rfl rfl
 show Vc _ _ [(0,⟨0,0,.c (.ref Z25) c⟩)] _
 refine Vm hG rfl (Vq ?_)
 refine Vr hG rfl ?_ ?_
 · repeat' (first | exact trivial | exact hpre | exact docD_ok hpre | exact dq1_ok hpre | exact Nat.succ_pos _ | exact(docD_pos hpre).1 | exact(docD_pos hpre).2.1 | exact(docD_pos hpre).2.2 | exact Int.le_refl _ | exact(dqCut c).2.1 | exact(dqCut c).2.2 | refine And.intro ?_ ?_ | intro _)
 refine Vq (Vq ?_)
 refine Vr hG rfl ?_ ?_
 · repeat' (first | exact trivial | exact hpre | exact docD_ok hpre | exact dq1_ok hpre | exact Nat.succ_pos _ | exact(docD_pos hpre).1 | exact(docD_pos hpre).2.1 | exact(docD_pos hpre).2.2 | exact Int.le_refl _ | exact(dqCut c).2.1 | exact(dqCut c).2.2 | refine And.intro ?_ ?_ | intro _)
 refine Vb (Vm hG rfl ?_)
 refine Vk rfl ?_ ?_<;>intro h0
 · refine Vr hG rfl ?_ ?_
   · repeat' (first | exact trivial | exact hpre | exact docD_ok hpre | exact dq1_ok hpre | exact Nat.succ_pos _ | exact(docD_pos hpre).1 | exact(docD_pos hpre).2.1 | exact(docD_pos hpre).2.2 | exact Int.le_refl _ | exact(dqCut c).2.1 | exact(dqCut c).2.2 | refine And.intro ?_ ?_ | intro _)
   refine Vm hG rfl (Vt ?_)
   have e:docB c=_:=((docB_eq c).trans (cT h0))
   refine⟨⟨?_,trivial⟩,?_,trivial⟩
   · exact(congrArg Prod.snd e).symm
   · exact(congrArg (fun r=>r.1) e).symm
 · refine Vm hG rfl ?_
   refine Vk rfl ?_ ?_<;>intro h1
   · refine Vr hG rfl ?_ ?_
     · repeat' (first | exact trivial | exact hpre | exact docD_ok hpre | exact dq1_ok hpre | exact Nat.succ_pos _ | exact(docD_pos hpre).1 | exact(docD_pos hpre).2.1 | exact(docD_pos hpre).2.2 | exact Int.le_refl _ | exact(dqCut c).2.1 | exact(dqCut c).2.2 | refine And.intro ?_ ?_ | intro _)
     refine Vm hG rfl (Vt ?_)
     have e:docB c=_:=((docB_eq c).trans ((cF h0).trans (cT h1)))
     refine⟨⟨?_,trivial⟩,?_,trivial⟩
     · exact(congrArg Prod.snd e).symm
     · exact(congrArg (fun r=>r.1) e).symm
   · refine Vm hG rfl ?_
     refine Vk rfl ?_ ?_<;>intro h2
     · refine VrD mixed hG rfl (by kernel_rfl) ?_ ?_
       · repeat' (first | exact trivial | exact hpre | exact docD_ok hpre | exact dq1_ok hpre | exact Nat.succ_pos _ | exact(docD_pos hpre).1 | exact(docD_pos hpre).2.1 | exact(docD_pos hpre).2.2 | exact Int.le_refl _ | exact(dqCut c).2.1 | exact(dqCut c).2.2 | refine And.intro ?_ ?_ | intro _)
       refine Vm hG rfl (Vt ?_)
       have e:docB c=_:=((docB_eq c).trans ((cF h0).trans ((cF h1).trans (cT h2))))
       refine⟨⟨?_,trivial⟩,?_,trivial⟩
       · exact(congrArg Prod.snd e).symm
       · exact(congrArg (fun r=>r.1) e).symm
     · refine Vm hG rfl ?_
       refine Vk rfl ?_ ?_<;>intro h3
       · refine VrD mixed hG rfl (by kernel_rfl) ?_ ?_
         · repeat' (first | exact trivial | exact hpre | exact docD_ok hpre | exact dq1_ok hpre | exact Nat.succ_pos _ | exact(docD_pos hpre).1 | exact(docD_pos hpre).2.1 | exact(docD_pos hpre).2.2 | exact Int.le_refl _ | exact(dqCut c).2.1 | exact(dqCut c).2.2 | refine And.intro ?_ ?_ | intro _)
         refine Vm hG rfl (Vt ?_)
         have e:docB c=_:=((docB_eq c).trans ((cF h0).trans ((cF h1).trans ((cF h2).trans (cT h3)))))
         refine⟨⟨?_,trivial⟩,?_,trivial⟩
         · exact(congrArg Prod.snd e).symm
         · exact(congrArg (fun r=>r.1) e).symm
       · refine Vs (Vm hG rfl (Vt ?_))
         have e:docB c=_:=((docB_eq c).trans ((cF h0).trans ((cF h1).trans ((cF h2).trans (cF h3)))))
         refine⟨⟨?_,trivial⟩,?_,trivial⟩
         · exact(congrArg Prod.snd e).symm
         · exact(congrArg (fun r=>r.1) e).symm
noncomputable def P164:PFun:=⟨.pure Y20,[],[.pair (.pure (.int .i64)) Z17],fun x _=>curOk x,fun x _=>(pieceB x).2,fun x _=>((pieceB x).1,())⟩
theorem P164_ok:MeetsP Tryz.prog 164 P164:=by
 refine meetsP_of_vc (C:=mkCP 45 [2] [0,2,3,7,8,13,20,26,34] [] [] [] [⟨236,_,P236_ok⟩,⟨38,_,P38_ok⟩,⟨162,_,P162_ok⟩,⟨57,_,P57_ok⟩] [0]) (mkCP_ok _ _ _ _ _ _ _ _) (fO _) Tryz.func164 rfl rfl rfl (by decide) rfl rfl rfl ?_ rfl
 rintro c ⟨_⟩ hwc hwf hpre ⟨⟩ hG rfl rfl
 show Vc _ _ [(0,⟨0,0,.c (.ref Z25) c⟩)] _
 refine Vm hG rfl (Vq ?_)
 refine Vr hG rfl ?_ ?_
 · repeat' (first | exact trivial | exact hpre | exact pieceD_ok hpre | exact bq1_ok hpre | exact Nat.succ_pos _ | exact pd0 c | exact pd1 c | exact pdApp c | refine And.intro ?_ ?_ | intro _)
 refine Vq (Vq ?_)
 refine Vr hG rfl ?_ ?_
 · repeat' (first | exact trivial | exact hpre | exact pieceD_ok hpre | exact bq1_ok hpre | exact Nat.succ_pos _ | exact pd0 c | exact pd1 c | exact pdApp c | refine And.intro ?_ ?_ | intro _)
 refine Vb (Vm hG rfl ?_)
 refine Vk rfl ?_ ?_<;>intro h0
 · refine Vr hG rfl ?_ ?_
   · repeat' (first | exact trivial | exact hpre | exact pieceD_ok hpre | exact bq1_ok hpre | exact Nat.succ_pos _ | exact pd0 c | exact pd1 c | exact pdApp c | refine And.intro ?_ ?_ | intro _)
   refine Vm hG rfl (Vt ?_)
   have e:pieceB c=_:=((pieceB_eq c).trans (cT h0))
   refine⟨⟨?_,trivial⟩,?_,trivial⟩
   · exact(congrArg Prod.snd e).symm
   · exact(congrArg (fun r=>r.1) e).symm
 · refine Vm hG rfl ?_
   refine Vk rfl ?_ ?_<;>intro h1
   · refine Vr hG rfl ?_ ?_
     · repeat' (first | exact trivial | exact hpre | exact pieceD_ok hpre | exact bq1_ok hpre | exact Nat.succ_pos _ | exact pd0 c | exact pd1 c | exact pdApp c | refine And.intro ?_ ?_ | intro _)
     refine Vm hG rfl (Vt ?_)
     have e:pieceB c=_:=((pieceB_eq c).trans ((cF h0).trans (cT h1)))
     refine⟨⟨?_,trivial⟩,?_,trivial⟩
     · exact(congrArg Prod.snd e).symm
     · exact(congrArg (fun r=>r.1) e).symm
   · refine Vm hG rfl ?_
     refine Vk rfl ?_ ?_<;>intro h2
     · refine Vn hG rfl (Vm hG rfl (Vt ?_))
       have e:pieceB c=_:=((pieceB_eq c).trans ((cF h0).trans ((cF h1).trans (cT h2))))
       refine⟨⟨?_,trivial⟩,?_,trivial⟩
       · exact(congrArg Prod.snd e).symm
       · exact(congrArg (fun r=>r.1) e).symm
     · refine Vm hG rfl ?_
       refine Vk rfl ?_ ?_<;>intro h3
       · refine VrD mixed hG rfl (by kernel_rfl) ?_ ?_
         · repeat' (first | exact trivial | exact hpre | exact pieceD_ok hpre | exact bq1_ok hpre | exact Nat.succ_pos _ | exact pd0 c | exact pd1 c | exact pdApp c | refine And.intro ?_ ?_ | intro _)
         refine Vm hG rfl (Vt ?_)
         have e:pieceB c=_:=((pieceB_eq c).trans ((cF h0).trans ((cF h1).trans ((cF h2).trans (cT h3)))))
         refine⟨⟨?_,trivial⟩,?_,trivial⟩
         · exact(congrArg Prod.snd e).symm
         · exact(congrArg (fun r=>r.1) e).symm
       · refine Vm hG rfl ?_
         refine Vk rfl ?_ ?_<;>intro h4
         · refine VrD mixed hG rfl (by kernel_rfl) ?_ ?_
           · repeat' (first | exact trivial | exact hpre | exact pieceD_ok hpre | exact bq1_ok hpre | exact Nat.succ_pos _ | exact pd0 c | exact pd1 c | exact pdApp c | refine And.intro ?_ ?_ | intro _)
           refine Vm hG rfl (Vt ?_)
           have e:pieceB c=_:=((pieceB_eq c).trans ((cF h0).trans ((cF h1).trans ((cF h2).trans ((cF h3).trans (cT h4))))))
           refine⟨⟨?_,trivial⟩,?_,trivial⟩
           · exact(congrArg Prod.snd e).symm
           · exact(congrArg (fun r=>r.1) e).symm
         · refine Vs (Vm hG rfl (Vt ?_))
           have e:pieceB c=_:=((pieceB_eq c).trans ((cF h0).trans ((cF h1).trans ((cF h2).trans ((cF h3).trans (cF h4))))))
           refine⟨⟨?_,trivial⟩,?_,trivial⟩
           · exact(congrArg Prod.snd e).symm
           · exact(congrArg (fun r=>r.1) e).symm
noncomputable def P237:PFun:=⟨.pure Y20,[],[.pure Y40],fun x _=>curOk x,fun x _=>(bentD x).2,fun x _=>((bentD x).1,())⟩
theorem P237_ok:MeetsP Tryz.prog 237 P237:=by
 refine meetsP_of_vc (C:=mkCP 37 [2] [0,2,3,7,8,13,19,24,30] [] [] [] [⟨296,_,P296_ok⟩,⟨38,_,P38_ok⟩,⟨57,_,P57_ok⟩,⟨100,_,P100_ok⟩] [0]) (mkCP_ok _ _ _ _ _ _ _ _) (fO _) Tryz.func237 rfl rfl rfl (by decide) rfl rfl rfl ?_ rfl
 rintro c ⟨_⟩ hwc hwf hpre ⟨⟩ hG rfl rfl
 show Vc _ _ [(0,⟨0,0,.c (.ref Z25) c⟩)] _
 refine Vm hG rfl (Vq ?_)
 refine Vr hG rfl ?_ ?_
 · repeat' (first | exact trivial | exact hpre | exact stampD_ok hpre | exact bs1_ok hpre | exact Nat.succ_pos _ | refine And.intro ?_ ?_ | intro _)
 refine Vq (Vq ?_)
 refine Vr hG rfl ?_ ?_
 · repeat' (first | exact trivial | exact hpre | exact stampD_ok hpre | exact bs1_ok hpre | exact Nat.succ_pos _ | refine And.intro ?_ ?_ | intro _)
 refine Vb (Vm hG rfl ?_)
 refine Vk rfl ?_ ?_<;>intro h0
 · refine Vr hG rfl ?_ ?_
   · repeat' (first | exact trivial | exact hpre | exact stampD_ok hpre | exact bs1_ok hpre | exact Nat.succ_pos _ | refine And.intro ?_ ?_ | intro _)
   refine Vm hG rfl (Vt ?_)
   have e:bentD c=_:=((bent_eq c).trans (cT h0))
   refine⟨⟨?_,trivial⟩,?_,trivial⟩
   · exact(congrArg Prod.snd e).symm
   · exact(congrArg (fun r=>r.1) e).symm
 · refine Vm hG rfl ?_
   refine Vk rfl ?_ ?_<;>intro h1
   · refine Vr hG rfl ?_ ?_
     · repeat' (first | exact trivial | exact hpre | exact stampD_ok hpre | exact bs1_ok hpre | exact Nat.succ_pos _ | refine And.intro ?_ ?_ | intro _)
     refine Vm hG rfl (Vt ?_)
     have e:bentD c=_:=((bent_eq c).trans ((cF h0).trans (cT h1)))
     refine⟨⟨?_,trivial⟩,?_,trivial⟩
     · exact(congrArg Prod.snd e).symm
     · exact(congrArg (fun r=>r.1) e).symm
   · refine Vm hG rfl ?_
     refine Vk rfl ?_ ?_<;>intro h2
     · refine Vr hG rfl ?_ ?_
       · repeat' (first | exact trivial | exact hpre | exact stampD_ok hpre | exact bs1_ok hpre | exact Nat.succ_pos _ | refine And.intro ?_ ?_ | intro _)
       refine Vm hG rfl (Vt ?_)
       have e:bentD c=_:=((bent_eq c).trans ((cF h0).trans ((cF h1).trans (cT h2))))
       refine⟨⟨?_,trivial⟩,?_,trivial⟩
       · exact(congrArg Prod.snd e).symm
       · exact(congrArg (fun r=>r.1) e).symm
     · refine Vm hG rfl ?_
       refine Vk rfl ?_ ?_<;>intro h3
       · refine Vn hG rfl (Vm hG rfl (Vt ?_))
         have e:bentD c=_:=((bent_eq c).trans ((cF h0).trans ((cF h1).trans ((cF h2).trans (cT h3)))))
         refine⟨⟨?_,trivial⟩,?_,trivial⟩
         · exact(congrArg Prod.snd e).symm
         · exact(congrArg (fun r=>r.1) e).symm
       · refine Vm hG rfl ?_
         refine Vk rfl ?_ ?_<;>intro h4
         · refine Vn hG rfl (Vm hG rfl (Vt ?_))
           have e:bentD c=_:=((bent_eq c).trans ((cF h0).trans ((cF h1).trans ((cF h2).trans ((cF h3).trans (cT h4))))))
           refine⟨⟨?_,trivial⟩,?_,trivial⟩
           · exact(congrArg Prod.snd e).symm
           · exact(congrArg (fun r=>r.1) e).symm
         · refine Vs (Vm hG rfl (Vt ?_))
           have e:bentD c=_:=((bent_eq c).trans ((cF h0).trans ((cF h1).trans ((cF h2).trans ((cF h3).trans (cF h4))))))
           refine⟨⟨?_,trivial⟩,?_,trivial⟩
           · exact(congrArg Prod.snd e).symm
           · exact(congrArg (fun r=>r.1) e).symm
end Fw
