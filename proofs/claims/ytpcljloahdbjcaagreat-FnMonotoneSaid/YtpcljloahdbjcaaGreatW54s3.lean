/- Walks of functions of the program: what each computes. Conditions: those that each contract names. -/
import Derived.Test.YtpcljloahdbjcaaGreatW54T
import Derived.Test.YtpcljloahdbjcaaGreatW54s0
import Derived.Test.YtpcljloahdbjcaaGreatW54s1
import Derived.Test.YtpcljloahdbjcaaGreatW54s2
set_option linter.unusedVariables false
namespace Fw
open Go Go.Proofs
set_option linter.unusedSimpArgs false
set_option maxRecDepth 100000
noncomputable def P90:PFun:=⟨.pure Y18,[],[.pure Y65,.pure Y72,.pure Y72,.pure Y21,.pure Y53],fun x _=>curOk x,fun x _=>(bothD x).2,fun x _=>((bothD x).1.1,(bothD x).1.2.1,(bothD x).1.2.2.1,(bothD x).1.2.2.2.1,(bothD x).1.2.2.2.2,())⟩
set_option maxHeartbeats 8000000 in
theorem P90_ok:MeetsP Tryz.prog 90 P90:=by
 refine meetsP_of_vc (C:=mkCP 97 [2,3,4,5,6] [0,2,3,4,5,6,7,8,9,10,11,12,13,15,16,33,65,88] [⟨160,_,F160_ok⟩,⟨76,_,F76_ok⟩,⟨161,_,F161_ok⟩,⟨163,_,F163_ok⟩,⟨162,_,F162_ok⟩,⟨165,_,F165_ok⟩] [] [] [⟨158,_,P158_ok⟩,⟨159,_,P159_ok⟩,⟨79,_,P79_ok⟩,⟨138,_,P138_ok⟩,⟨74,_,P74_ok⟩,⟨164,_,P164_ok⟩] [0]) (mkCP_ok _ _ _ _ _ _ _ _) (fO _) Tryz.func90 rfl rfl rfl (by decide) rfl rfl rfl ?_ rfl
 rintro c ⟨_⟩ hwc hwf hpre ⟨⟩ hG rfl rfl
 show Vc _ _ [(0,⟨0,0,.c (.ref Z22) c⟩)] _
 have hc0:curOk c:=hpre
 have hkf:=frameD_ok hc0
 have hk0:=(bo0_P hc0).2.1
 have hix:=boIdx hc0
 have hk1:=bo1_ok hc0
 have hk4:=bo4_ok hc0
 have htY:=boYs_tiny hc0
 have htS:=boSs_tiny hc0
 have hsY:=tiny_big htY
 have hs0:=sm_up (show 64≤big20 by decide) _ _ ((bo0_P hc0).1.1.1.2 _ (getD_mem hix (dflt TStrand)))
 refine Vm hG rfl (Vq ?_)
 refine Vr hG rfl ?_ ?_
 · repeat' (first | exact trivial | exact hc0 | exact hkf | exact hk0 | exact hix | exact hk1 | exact hk4 | exact hs0 | exact hsY | exact int_ok hk1 | exact int_ok (int_ok hk1) | exact Nat.succ_pos _ | exact statPiece_sm _ | exact int_ok hk4 | exact hc3 | exact below_ok hc3 | exact hy3 | exact renOk (below_ok hc3) hy | exact(Nat.le_of_ble_eq_true rfl:(1:Nat)≤maxApp) | refine And.intro ?_ ?_ | intro _)
 refine Vq ?_
 refine VrT hG rfl ?_ ?_
 · repeat' (first | exact trivial | exact hc0 | exact hkf | exact hk0 | exact hix | exact hk1 | exact hk4 | exact hs0 | exact hsY | exact int_ok hk1 | exact int_ok (int_ok hk1) | exact Nat.succ_pos _ | exact statPiece_sm _ | exact int_ok hk4 | exact hc3 | exact below_ok hc3 | exact hy3 | exact renOk (below_ok hc3) hy | exact(Nat.le_of_ble_eq_true rfl:(1:Nat)≤maxApp) | refine And.intro ?_ ?_ | intro _)
 refine Vm hG rfl (Vq ?_)
 refine Vr hG rfl ?_ ?_
 · repeat' (first | exact trivial | exact hc0 | exact hkf | exact hk0 | exact hix | exact hk1 | exact hk4 | exact hs0 | exact hsY | exact int_ok hk1 | exact int_ok (int_ok hk1) | exact Nat.succ_pos _ | exact statPiece_sm _ | exact int_ok hk4 | exact hc3 | exact below_ok hc3 | exact hy3 | exact renOk (below_ok hc3) hy | exact(Nat.le_of_ble_eq_true rfl:(1:Nat)≤maxApp) | refine And.intro ?_ ?_ | intro _)
 refine Vm hG rfl (Vq (Vq ?_))
 refine Vr hG rfl ?_ ?_
 · repeat' (first | exact trivial | exact hc0 | exact hkf | exact hk0 | exact hix | exact hk1 | exact hk4 | exact hs0 | exact hsY | exact int_ok hk1 | exact int_ok (int_ok hk1) | exact Nat.succ_pos _ | exact statPiece_sm _ | exact int_ok hk4 | exact hc3 | exact below_ok hc3 | exact hy3 | exact renOk (below_ok hc3) hy | exact(Nat.le_of_ble_eq_true rfl:(1:Nat)≤maxApp) | refine And.intro ?_ ?_ | intro _)
 refine Vk rfl ?_ ?_<;>intro h0
 · refine Vq ?_
   refine VrD mixed hG rfl (by kernel_rfl) ?_ ?_
   · repeat' (first | exact trivial | exact hc0 | exact hkf | exact hk0 | exact hix | exact hk1 | exact hk4 | exact hs0 | exact hsY | exact int_ok hk1 | exact int_ok (int_ok hk1) | exact Nat.succ_pos _ | exact statPiece_sm _ | exact int_ok hk4 | exact hc3 | exact below_ok hc3 | exact hy3 | exact renOk (below_ok hc3) hy | exact(Nat.le_of_ble_eq_true rfl:(1:Nat)≤maxApp) | refine And.intro ?_ ?_ | intro _)
   refine VrL mixed hG rfl (by kernel_rfl) ?_ ?_
   · repeat' (first | exact trivial | exact hc0 | exact hkf | exact hk0 | exact hix | exact hk1 | exact hk4 | exact hs0 | exact hsY | exact int_ok hk1 | exact int_ok (int_ok hk1) | exact Nat.succ_pos _ | exact statPiece_sm _ | exact int_ok hk4 | exact hc3 | exact below_ok hc3 | exact hy3 | exact renOk (below_ok hc3) hy | exact(Nat.le_of_ble_eq_true rfl:(1:Nat)≤maxApp) | refine And.intro ?_ ?_ | intro _)
   refine Vq ?_
   refine Vr hG rfl ?_ ?_
   · repeat' (first | exact trivial | exact hc0 | exact hkf | exact hk0 | exact hix | exact hk1 | exact hk4 | exact hs0 | exact hsY | exact int_ok hk1 | exact int_ok (int_ok hk1) | exact Nat.succ_pos _ | exact statPiece_sm _ | exact int_ok hk4 | exact hc3 | exact below_ok hc3 | exact hy3 | exact renOk (below_ok hc3) hy | exact(Nat.le_of_ble_eq_true rfl:(1:Nat)≤maxApp) | refine And.intro ?_ ?_ | intro _)
   refine Vq (Vq ?_)
   refine Vr hG rfl ?_ ?_
   · repeat' (first | exact trivial | exact hc0 | exact hkf | exact hk0 | exact hix | exact hk1 | exact hk4 | exact hs0 | exact hsY | exact int_ok hk1 | exact int_ok (int_ok hk1) | exact Nat.succ_pos _ | exact statPiece_sm _ | exact int_ok hk4 | exact hc3 | exact below_ok hc3 | exact hy3 | exact renOk (below_ok hc3) hy | exact(Nat.le_of_ble_eq_true rfl:(1:Nat)≤maxApp) | refine And.intro ?_ ?_ | intro _)
   refine Vb ?_
   refine Vc.frz 12 rfl ?_
   refine Vc.frz 9 rfl ?_
   refine Vc.loopF [(0,true,.pure Y18),(12,true,.pure Y64),(15,false,.pure (.int .i64)),(16,false,.pure (.int .i64))] [2,3,4,5,6,7,8,9,10,11,13,33,88] (fun v=>dnInv (renS (bo0 c).1.2.1 [4,15]) ((bn2 (bo4 c).2).2,(boSs c),(bn1 (bo4 c).2).1) (bnN (bo4 c).2) (v.1,v.2.1,v.2.2.1) v.2.2.2.1) (fun v=>(v.2.2.2.1:Int).toNat) rfl ?_ ?_
   · exact dnStart (bnN_n _)
   rintro⟨c3,y,(t:Int),(j:Int),_⟩ hJ
   have hJ:dnInv (renS (bo0 c).1.2.1 [4,15]) ((bn2 (bo4 c).2).2,(boSs c),(bn1 (bo4 c).2).1) (bnN (bo4 c).2) (c3,y,t) j:=hJ
   have hqJ:=bnIn_P hk4 htS hJ
   have hc3:curOk c3:=hqJ.1
   have hy:tinyS y:=hqJ.2
   have hy3:=tiny_big hy
   refine Vq (Vm hG rfl ?_)
   refine Vk rfl ?_ ?_<;>intro h1
   · have hm:j>0:=oTr h1
     refine Vs (Vq (Vb (Vq ?_)))
     refine VrD mixed hG rfl (by kernel_rfl) ?_ ?_
     · repeat' (first | exact trivial | exact hc0 | exact hkf | exact hk0 | exact hix | exact hk1 | exact hk4 | exact hs0 | exact hsY | exact int_ok hk1 | exact int_ok (int_ok hk1) | exact Nat.succ_pos _ | exact statPiece_sm _ | exact int_ok hk4 | exact hc3 | exact below_ok hc3 | exact hy3 | exact renOk (below_ok hc3) hy | exact(Nat.le_of_ble_eq_true rfl:(1:Nat)≤maxApp) | refine And.intro ?_ ?_ | intro _)
     refine Vr hG rfl ?_ ?_
     · repeat' (first | exact trivial | exact hc0 | exact hkf | exact hk0 | exact hix | exact hk1 | exact hk4 | exact hs0 | exact hsY | exact int_ok hk1 | exact int_ok (int_ok hk1) | exact Nat.succ_pos _ | exact statPiece_sm _ | exact int_ok hk4 | exact hc3 | exact below_ok hc3 | exact hy3 | exact renOk (below_ok hc3) hy | exact(Nat.le_of_ble_eq_true rfl:(1:Nat)≤maxApp) | refine And.intro ?_ ?_ | intro _)
     refine Vn hG rfl ?_
     refine⟨rfl,?_⟩
     exact dnStep hJ hm
   · have hm:¬j>0:=oFa h1
     have hE:(c3,y,t)=itF (renS (bo0 c).1.2.1 [4,15]) (bnN (bo4 c).2).toNat ((bn2 (bo4 c).2).2,(boSs c),(bn1 (bo4 c).2).1):=dnEnd hJ hm
     refine Vx (Vq ?_)
     refine Vr hG rfl ?_ ?_
     · repeat' (first | exact trivial | exact hc0 | exact hkf | exact hk0 | exact hix | exact hk1 | exact hk4 | exact hs0 | exact hsY | exact int_ok hk1 | exact int_ok (int_ok hk1) | exact Nat.succ_pos _ | exact statPiece_sm _ | exact int_ok hk4 | exact hc3 | exact below_ok hc3 | exact hy3 | exact renOk (below_ok hc3) hy | exact(Nat.le_of_ble_eq_true rfl:(1:Nat)≤maxApp) | refine And.intro ?_ ?_ | intro _)
     refine Vq (Vq ?_)
     refine Vr hG rfl ?_ ?_
     · repeat' (first | exact trivial | exact hc0 | exact hkf | exact hk0 | exact hix | exact hk1 | exact hk4 | exact hs0 | exact hsY | exact int_ok hk1 | exact int_ok (int_ok hk1) | exact Nat.succ_pos _ | exact statPiece_sm _ | exact int_ok hk4 | exact hc3 | exact below_ok hc3 | exact hy3 | exact renOk (below_ok hc3) hy | exact(Nat.le_of_ble_eq_true rfl:(1:Nat)≤maxApp) | refine And.intro ?_ ?_ | intro _)
     refine Vk rfl ?_ ?_<;>intro h2
     · refine Vr hG rfl ?_ ?_
       · repeat' (first | exact trivial | exact hc0 | exact hkf | exact hk0 | exact hix | exact hk1 | exact hk4 | exact hs0 | exact hsY | exact int_ok hk1 | exact int_ok (int_ok hk1) | exact Nat.succ_pos _ | exact statPiece_sm _ | exact int_ok hk4 | exact hc3 | exact below_ok hc3 | exact hy3 | exact renOk (below_ok hc3) hy | exact(Nat.le_of_ble_eq_true rfl:(1:Nat)≤maxApp) | refine And.intro ?_ ?_ | intro _)
       refine Vq (VrD mixed hG rfl (by kernel_rfl) (by trivial) ?_)
       refine Vc.frz 2 rfl ?_
       refine Vc.frz 3 rfl ?_
       refine Vc.frz 4 rfl ?_
       refine Vc.frz 5 rfl ?_
       refine Vt ?_
       have e:=((bothD_eq c).trans (cT h0)).trans (bnOut_1 hE h2)
       refine⟨⟨?_,trivial⟩,?_,?_,?_,?_,?_,trivial⟩
       · exact(congrArg Prod.snd e).symm
       · exact(congrArg (fun r=>r.1.1) e).symm
       · exact(congrArg (fun r=>r.1.2.1) e).symm
       · exact(congrArg (fun r=>r.1.2.2.1) e).symm
       · exact(congrArg (fun r=>r.1.2.2.2.1) e).symm
       · exact(congrArg (fun r=>r.1.2.2.2.2) e).symm
     · refine Vs (Vq (VrD mixed hG rfl (by kernel_rfl) (by trivial) ?_))
       refine Vc.frz 2 rfl ?_
       refine Vc.frz 3 rfl ?_
       refine Vc.frz 4 rfl ?_
       refine Vc.frz 5 rfl ?_
       refine Vt ?_
       have e:=((bothD_eq c).trans (cT h0)).trans (bnOut_0 hE h2)
       refine⟨⟨?_,trivial⟩,?_,?_,?_,?_,?_,trivial⟩
       · exact(congrArg Prod.snd e).symm
       · exact(congrArg (fun r=>r.1.1) e).symm
       · exact(congrArg (fun r=>r.1.2.1) e).symm
       · exact(congrArg (fun r=>r.1.2.2.1) e).symm
       · exact(congrArg (fun r=>r.1.2.2.2.1) e).symm
       · exact(congrArg (fun r=>r.1.2.2.2.2) e).symm
 · refine Vs (Vq ?_)
   refine Vr hG rfl ?_ ?_
   · repeat' (first | exact trivial | exact hc0 | exact hkf | exact hk0 | exact hix | exact hk1 | exact hk4 | exact hs0 | exact hsY | exact int_ok hk1 | exact int_ok (int_ok hk1) | exact Nat.succ_pos _ | exact statPiece_sm _ | exact int_ok hk4 | exact hc3 | exact below_ok hc3 | exact hy3 | exact renOk (below_ok hc3) hy | exact(Nat.le_of_ble_eq_true rfl:(1:Nat)≤maxApp) | refine And.intro ?_ ?_ | intro _)
   refine Vq (Vq ?_)
   refine Vr hG rfl ?_ ?_
   · repeat' (first | exact trivial | exact hc0 | exact hkf | exact hk0 | exact hix | exact hk1 | exact hk4 | exact hs0 | exact hsY | exact int_ok hk1 | exact int_ok (int_ok hk1) | exact Nat.succ_pos _ | exact statPiece_sm _ | exact int_ok hk4 | exact hc3 | exact below_ok hc3 | exact hy3 | exact renOk (below_ok hc3) hy | exact(Nat.le_of_ble_eq_true rfl:(1:Nat)≤maxApp) | refine And.intro ?_ ?_ | intro _)
   refine Vb ?_
   refine Vc.frz 12 rfl ?_
   refine Vc.frz 9 rfl ?_
   refine Vc.loopF [(0,true,.pure Y18),(12,true,.pure Y64),(15,false,.pure (.int .i64)),(16,false,.pure (.int .i64))] [2,3,4,5,6,7,8,9,10,11,13,33,88] (fun v=>dnInv (renS (bo0 c).1.2.1 [4,15]) ((bn2 (bo1 c).2).2,(boYs c),(bn1 (bo1 c).2).1) (bnN (bo1 c).2) (v.1,v.2.1,v.2.2.1) v.2.2.2.1) (fun v=>(v.2.2.2.1:Int).toNat) rfl ?_ ?_
   · exact dnStart (bnN_n _)
   rintro⟨c3,y,(t:Int),(j:Int),_⟩ hJ
   have hJ:dnInv (renS (bo0 c).1.2.1 [4,15]) ((bn2 (bo1 c).2).2,(boYs c),(bn1 (bo1 c).2).1) (bnN (bo1 c).2) (c3,y,t) j:=hJ
   have hqJ:=bnIn_P hk1 htY hJ
   have hc3:curOk c3:=hqJ.1
   have hy:tinyS y:=hqJ.2
   have hy3:=tiny_big hy
   refine Vq (Vm hG rfl ?_)
   refine Vk rfl ?_ ?_<;>intro h3
   · have hm:j>0:=oTr h3
     refine Vs (Vq (Vb (Vq ?_)))
     refine VrD mixed hG rfl (by kernel_rfl) ?_ ?_
     · repeat' (first | exact trivial | exact hc0 | exact hkf | exact hk0 | exact hix | exact hk1 | exact hk4 | exact hs0 | exact hsY | exact int_ok hk1 | exact int_ok (int_ok hk1) | exact Nat.succ_pos _ | exact statPiece_sm _ | exact int_ok hk4 | exact hc3 | exact below_ok hc3 | exact hy3 | exact renOk (below_ok hc3) hy | exact(Nat.le_of_ble_eq_true rfl:(1:Nat)≤maxApp) | refine And.intro ?_ ?_ | intro _)
     refine Vr hG rfl ?_ ?_
     · repeat' (first | exact trivial | exact hc0 | exact hkf | exact hk0 | exact hix | exact hk1 | exact hk4 | exact hs0 | exact hsY | exact int_ok hk1 | exact int_ok (int_ok hk1) | exact Nat.succ_pos _ | exact statPiece_sm _ | exact int_ok hk4 | exact hc3 | exact below_ok hc3 | exact hy3 | exact renOk (below_ok hc3) hy | exact(Nat.le_of_ble_eq_true rfl:(1:Nat)≤maxApp) | refine And.intro ?_ ?_ | intro _)
     refine Vn hG rfl ?_
     refine⟨rfl,?_⟩
     exact dnStep hJ hm
   · have hm:¬j>0:=oFa h3
     have hE:(c3,y,t)=itF (renS (bo0 c).1.2.1 [4,15]) (bnN (bo1 c).2).toNat ((bn2 (bo1 c).2).2,(boYs c),(bn1 (bo1 c).2).1):=dnEnd hJ hm
     refine Vx (Vq ?_)
     refine Vr hG rfl ?_ ?_
     · repeat' (first | exact trivial | exact hc0 | exact hkf | exact hk0 | exact hix | exact hk1 | exact hk4 | exact hs0 | exact hsY | exact int_ok hk1 | exact int_ok (int_ok hk1) | exact Nat.succ_pos _ | exact statPiece_sm _ | exact int_ok hk4 | exact hc3 | exact below_ok hc3 | exact hy3 | exact renOk (below_ok hc3) hy | exact(Nat.le_of_ble_eq_true rfl:(1:Nat)≤maxApp) | refine And.intro ?_ ?_ | intro _)
     refine Vq (Vq ?_)
     refine Vr hG rfl ?_ ?_
     · repeat' (first | exact trivial | exact hc0 | exact hkf | exact hk0 | exact hix | exact hk1 | exact hk4 | exact hs0 | exact hsY | exact int_ok hk1 | exact int_ok (int_ok hk1) | exact Nat.succ_pos _ | exact statPiece_sm _ | exact int_ok hk4 | exact hc3 | exact below_ok hc3 | exact hy3 | exact renOk (below_ok hc3) hy | exact(Nat.le_of_ble_eq_true rfl:(1:Nat)≤maxApp) | refine And.intro ?_ ?_ | intro _)
     refine Vk rfl ?_ ?_<;>intro h4
     · refine Vr hG rfl ?_ ?_
       · repeat' (first | exact trivial | exact hc0 | exact hkf | exact hk0 | exact hix | exact hk1 | exact hk4 | exact hs0 | exact hsY | exact int_ok hk1 | exact int_ok (int_ok hk1) | exact Nat.succ_pos _ | exact statPiece_sm _ | exact int_ok hk4 | exact hc3 | exact below_ok hc3 | exact hy3 | exact renOk (below_ok hc3) hy | exact(Nat.le_of_ble_eq_true rfl:(1:Nat)≤maxApp) | refine And.intro ?_ ?_ | intro _)
       refine Vq (VrD mixed hG rfl (by kernel_rfl) (by trivial) ?_)
       refine Vc.frz 2 rfl ?_
       refine Vc.frz 3 rfl ?_
       refine Vc.frz 4 rfl ?_
       refine Vc.frz 5 rfl ?_
       refine Vt ?_
       have e:=((bothD_eq c).trans (cF h0)).trans (bnOut_1 hE h4)
       refine⟨⟨?_,trivial⟩,?_,?_,?_,?_,?_,trivial⟩
       · exact(congrArg Prod.snd e).symm
       · exact(congrArg (fun r=>r.1.1) e).symm
       · exact(congrArg (fun r=>r.1.2.1) e).symm
       · exact(congrArg (fun r=>r.1.2.2.1) e).symm
       · exact(congrArg (fun r=>r.1.2.2.2.1) e).symm
       · exact(congrArg (fun r=>r.1.2.2.2.2) e).symm
     · refine Vs (Vq (VrD mixed hG rfl (by kernel_rfl) (by trivial) ?_))
       refine Vc.frz 2 rfl ?_
       refine Vc.frz 3 rfl ?_
       refine Vc.frz 4 rfl ?_
       refine Vc.frz 5 rfl ?_
       refine Vt ?_
       have e:=((bothD_eq c).trans (cF h0)).trans (bnOut_0 hE h4)
       refine⟨⟨?_,trivial⟩,?_,?_,?_,?_,?_,trivial⟩
       · exact(congrArg Prod.snd e).symm
       · exact(congrArg (fun r=>r.1.1) e).symm
       · exact(congrArg (fun r=>r.1.2.1) e).symm
       · exact(congrArg (fun r=>r.1.2.2.1) e).symm
       · exact(congrArg (fun r=>r.1.2.2.2.1) e).symm
       · exact(congrArg (fun r=>r.1.2.2.2.2) e).symm
noncomputable def F21:Fun:=⟨[.slice (.int .u8)],[.pure Y65,.pure Y72,.pure Y72,.pure Y21,.pure Y53],fun _=>True,fun x=>((bothC x.1).1,(bothC x.1).2.1,(bothC x.1).2.2.1,(bothC x.1).2.2.2.1,(bothC x.1).2.2.2.2,())⟩
theorem F21_ok:Meets Tryz.prog 21 F21:=by
 refine mZ (C:=mkCP 17 [2,3,4,5,6,7] [0,2,3,4,5,6,7] [⟨73,_,F73_ok⟩] [] [] [⟨90,_,P90_ok⟩] []) (mkCP_ok _ _ _ _ _ _ _ _) (fO _) Tryz.func21 rfl rfl rfl (by decide) rfl ?_
 rintro⟨a0,_⟩ hwf hpre ⟨⟩ hG rfl rfl
 show Vc _ _ [(0,⟨0,0,.c Z1 a0⟩)] _
 refine Vm hG rfl (Vq ?_)
 refine Vr hG rfl ?_ ?_
 · repeat' (first | exact trivial | exact newCur_ok hwf.1.1 | refine And.intro ?_ ?_ | intro _)
 refine Vq ?_
 refine VrT hG rfl ?_ ?_
 · repeat' (first | exact trivial | exact newCur_ok hwf.1.1 | refine And.intro ?_ ?_ | intro _)
 refine Vc.frz 2 rfl ?_
 refine Vc.frz 3 rfl ?_
 refine Vc.frz 4 rfl ?_
 refine Vc.frz 5 rfl ?_
 refine Vt ?_
 refine⟨?_,?_,?_,?_,?_,trivial⟩
 all_goals exact rfl
noncomputable def F144:Fun:=⟨[.pair Y67 Y39,.pair (.int .i64) Y13],[.own Z0],fun x=>(fun(e:Evidence) (_:Doc)=>Sm big20 Y67 e.1) x.1 x.2.1,fun x=>(allDigsF x.1 x.2.1,())⟩
theorem F144_ok:Meets Tryz.prog 144 F144:=by
 refine mZ (C:=mkC 26 [4] [0,1,2,3,4,5,6,12] [⟨220,_,F220_ok⟩]) (mO _ _ _ _) (fO _) Tryz.func144 rfl rfl rfl (by decide) rfl ?_
 rintro⟨a0,a1,_⟩ hwf hpre ⟨⟩ hG rfl rfl
 show Vc _ _ [(0,⟨0,0,.c Z73 a0⟩),(1,⟨0,0,.c Z27 a1⟩)] _
 have hS:Sm big20 Y67 a0.1:=hpre
 have hs:List.length a0.1≤1048576:=hS.1
 have hb:List.length a0.1≤bigLen:=hwf.1.1.1
 refine Vm hG rfl (Vm hG rfl (Vq (Vm hG rfl ?_)))
 refine Vb ?_
 refine Vc.loopF [(5,false,.own Z0),(6,false,.pure (.int .i64))] [0,1,2,3,4] (fun v=>pkInv (adF a1) a0.1 v.1 v.2.1) (fun v=>((List.length a0.1:Int)-v.2.1).toNat) rfl ?_ ?_
 · exact pkStart
 rintro⟨acc,(i:Int),_⟩ hI
 have hI:pkInv (adF a1) a0.1 acc i:=hI
 refine Vq (Vm hG rfl ?_)
 refine Vk rfl ?_ ?_<;>intro h0
 · have hl:i<(List.length a0.1:Int):=oTr h0
   have r1:=pkRange hI hl
   have hE:List.length (List.getD a0.1 i.toNat (dflt Y64)).2≤2000000:=Nat.le_trans (hS.2 _ (getD_mem r1 _)).2.1 (by decide)
   refine Vs (Vq (Vb ?_))
   refine VrD mixed hG rfl (by kernel_rfl) ?_ ?_
   · exact⟨r1,hE,pkLen hI hs⟩
   refine Vn hG rfl ?_
   refine⟨rfl,?_⟩
   exact pkYes (d:=dflt Y64) hI hl hb rfl
 · have hl:¬i<(List.length a0.1:Int):=oFa h0
   refine Vx (Vm hG rfl (Vt ?_))
   refine⟨?_,trivial⟩
   exact pkEnd hI hl
noncomputable def F357:Fun:=⟨[.pair (.int .i64) Y26],[.pure (.bool)],fun _=>True,fun x=>(isKeyF x.1,())⟩
theorem F357_ok:Meets Tryz.prog 357 F357:=by
 refine mZ (C:=mkC 26 [2] [0,1,2] [⟨232,_,F232_ok⟩,⟨229,_,F229_ok⟩,⟨356,_,F356_ok⟩]) (mO _ _ _ _) (fO _) Tryz.func357 rfl rfl rfl (by decide) rfl ?_
 rintro⟨a0,_⟩ hwf hpre ⟨⟩ hG rfl rfl
 show Vc _ _ [(0,⟨0,0,.c Z35 a0⟩)] _
 refine Vm hG rfl (Vq ?_)
 refine Vr hG rfl ?_ ?_
 · repeat' (first | exact trivial | refine And.intro ?_ ?_ | intro _)
 refine Vt ?_
 refine⟨?_,trivial⟩
 all_goals exact rfl
noncomputable def F327:Fun:=⟨[.slice Y34],[.pure (.bool)],fun _=>True,fun x=>(areKeysF x.1,())⟩
theorem F327_ok:Meets Tryz.prog 327 F327:=by
 refine mZ (C:=mkC 37 [2] [0,2,3,7,33] [⟨357,_,F357_ok⟩]) (mO _ _ _ _) (fO _) Tryz.func327 rfl rfl rfl (by decide) rfl ?_
 rintro⟨a0,_⟩ hwf hpre ⟨⟩ hG rfl rfl
 show Vc _ _ [(0,⟨0,0,.c Z38 a0⟩)] _
 have hb:List.length a0≤bigLen:=hwf.1.1
 refine Vm hG rfl (Vq (Vm hG rfl (Vb ?_)))
 refine Vc.loopF [(3,false,.pure (.int .i64))] [0] (fun v=>kInv (areG isKeyF (fun k=>k.1) (dflt (TKey)) a0) a0 v.1) (fun v=>((List.length a0:Int)-v.1).toNat) rfl ?_ ?_
 · exact kStart
 rintro⟨(i:Int),_⟩ hI
 have hI:kInv (areG isKeyF (fun k=>k.1) (dflt (TKey)) a0) a0 i:=hI
 refine Vq (Vm hG rfl ?_)
 refine Vk rfl ?_ ?_<;>intro h0
 · have hl:i<(List.length a0:Int):=oTr h0
   refine Vs (Vq (Vb (Vq ?_)))
   refine VrD mixed hG rfl (by kernel_rfl) ?_ ?_
   · repeat' (first | exact trivial | exact kRange hI hl | (intro _ h2;exact prevIdx (kRange hI hl) (oTr h2) hb) | (intro h2;exact prevIdx (kRange hI hl) (oTr h2) hb) | refine And.intro ?_ ?_ | intro _)
   refine Vk rfl ?_ ?_<;>intro h1
   · have g1:areT isKeyF (fun k=>k.1) (dflt (TKey)) a0 i=true:=h1
     refine Vm hG rfl (Vt ?_)
     refine⟨?_,trivial⟩
     exact areBad (m:=12) hI hl hb g1
   · have g1:areT isKeyF (fun k=>k.1) (dflt (TKey)) a0 i=false:=h1
     refine Vs (Vn hG rfl ?_)
     refine⟨rfl,?_⟩
     exact areStep hI hl hb g1
 · have hl:¬i<(List.length a0:Int):=oFa h0
   refine Vx (Vm hG rfl (Vt ?_))
   refine⟨?_,trivial⟩
   exact areEnd (m:=12) hI hl
noncomputable def F328:Fun:=⟨[.slice Y15],[.pure (.bool)],fun _=>True,fun x=>(areAuthsF x.1,())⟩
theorem F328_ok:Meets Tryz.prog 328 F328:=by
 refine mZ (C:=mkC 56 [2] [0,2,3,7,52] [⟨232,_,F232_ok⟩]) (mO _ _ _ _) (fO _) Tryz.func328 rfl rfl rfl (by decide) rfl ?_
 rintro⟨a0,_⟩ hwf hpre ⟨⟩ hG rfl rfl
 show Vc _ _ [(0,⟨0,0,.c Z23 a0⟩)] _
 have hb:List.length a0≤bigLen:=hwf.1.1
 refine Vm hG rfl (Vq (Vm hG rfl (Vb ?_)))
 refine Vc.loopF [(3,false,.pure (.int .i64))] [0] (fun v=>kInv (areG isAuthF (fun k=>k.1) (dflt (TAuth)) a0) a0 v.1) (fun v=>((List.length a0:Int)-v.1).toNat) rfl ?_ ?_
 · exact kStart
 rintro⟨(i:Int),_⟩ hI
 have hI:kInv (areG isAuthF (fun k=>k.1) (dflt (TAuth)) a0) a0 i:=hI
 refine Vq (Vm hG rfl ?_)
 refine Vk rfl ?_ ?_<;>intro h0
 · have hl:i<(List.length a0:Int):=oTr h0
   refine Vs (Vq (Vb (Vq ?_)))
   refine VrD mixed hG rfl (by kernel_rfl) ?_ ?_
   · repeat' (first | exact trivial | exact kRange hI hl | (intro _ h2;exact prevIdx (kRange hI hl) (oTr h2) hb) | (intro h2;exact prevIdx (kRange hI hl) (oTr h2) hb) | refine And.intro ?_ ?_ | intro _)
   refine Vk rfl ?_ ?_<;>intro h1
   · have g1:areT isAuthF (fun k=>k.1) (dflt (TAuth)) a0 i=true:=(nor3 _ _ _ _).symm.trans h1
     refine Vm hG rfl (Vt ?_)
     refine⟨?_,trivial⟩
     exact areBad (m:=6) hI hl hb g1
   · have g1:areT isAuthF (fun k=>k.1) (dflt (TAuth)) a0 i=false:=(nor3 _ _ _ _).symm.trans h1
     refine Vs (Vn hG rfl ?_)
     refine⟨rfl,?_⟩
     exact areStep hI hl hb g1
 · have hl:¬i<(List.length a0:Int):=oFa h0
   refine Vx (Vm hG rfl (Vt ?_))
   refine⟨?_,trivial⟩
   exact areEnd (m:=6) hI hl
noncomputable def F358:Fun:=⟨[.pair (.int .i64) Y15],[.pure (.bool)],fun _=>True,fun x=>(isMethodF x.1,())⟩
theorem F358_ok:Meets Tryz.prog 358 F358:=by
 refine mZ (C:=mkC 35 [2] [0,1,2] [⟨232,_,F232_ok⟩,⟨229,_,F229_ok⟩]) (mO _ _ _ _) (fO _) Tryz.func358 rfl rfl rfl (by decide) rfl ?_
 rintro⟨a0,_⟩ hwf hpre ⟨⟩ hG rfl rfl
 show Vc _ _ [(0,⟨0,0,.c Z29 a0⟩)] _
 refine Vm hG rfl (Vq ?_)
 refine Vr hG rfl ?_ ?_
 · repeat' (first | exact trivial | refine And.intro ?_ ?_ | intro _)
 refine Vt ?_
 refine⟨?_,trivial⟩
 all_goals exact rfl
noncomputable def F329:Fun:=⟨[.slice Y26],[.pure (.bool)],fun _=>True,fun x=>(areMethodsF x.1,())⟩
theorem F329_ok:Meets Tryz.prog 329 F329:=by
 refine mZ (C:=mkC 37 [2] [0,2,3,7,33] [⟨358,_,F358_ok⟩]) (mO _ _ _ _) (fO _) Tryz.func329 rfl rfl rfl (by decide) rfl ?_
 rintro⟨a0,_⟩ hwf hpre ⟨⟩ hG rfl rfl
 show Vc _ _ [(0,⟨0,0,.c Z32 a0⟩)] _
 have hb:List.length a0≤bigLen:=hwf.1.1
 refine Vm hG rfl (Vq (Vm hG rfl (Vb ?_)))
 refine Vc.loopF [(3,false,.pure (.int .i64))] [0] (fun v=>kInv (areG isMethodF (fun k=>k.1) (dflt (TMethod)) a0) a0 v.1) (fun v=>((List.length a0:Int)-v.1).toNat) rfl ?_ ?_
 · exact kStart
 rintro⟨(i:Int),_⟩ hI
 have hI:kInv (areG isMethodF (fun k=>k.1) (dflt (TMethod)) a0) a0 i:=hI
 refine Vq (Vm hG rfl ?_)
 refine Vk rfl ?_ ?_<;>intro h0
 · have hl:i<(List.length a0:Int):=oTr h0
   refine Vs (Vq (Vb (Vq ?_)))
   refine VrD mixed hG rfl (by kernel_rfl) ?_ ?_
   · repeat' (first | exact trivial | exact kRange hI hl | (intro _ h2;exact prevIdx (kRange hI hl) (oTr h2) hb) | (intro h2;exact prevIdx (kRange hI hl) (oTr h2) hb) | refine And.intro ?_ ?_ | intro _)
   refine Vk rfl ?_ ?_<;>intro h1
   · have g1:areT isMethodF (fun k=>k.1) (dflt (TMethod)) a0 i=true:=h1
     refine Vm hG rfl (Vt ?_)
     refine⟨?_,trivial⟩
     exact areBad (m:=8) hI hl hb g1
   · have g1:areT isMethodF (fun k=>k.1) (dflt (TMethod)) a0 i=false:=h1
     refine Vs (Vn hG rfl ?_)
     refine⟨rfl,?_⟩
     exact areStep hI hl hb g1
 · have hl:¬i<(List.length a0:Int):=oFa h0
   refine Vx (Vm hG rfl (Vt ?_))
   refine⟨?_,trivial⟩
   exact areEnd (m:=8) hI hl
noncomputable def F281:Fun:=⟨[.pair Y36 Y57],[.pure (.bool)],fun _=>True,fun x=>(isFrameF x.1,())⟩
theorem F281_ok:Meets Tryz.prog 281 F281:=by
 refine mZ (C:=mkC 26 [2] [0,1,2] [⟨327,_,F327_ok⟩,⟨328,_,F328_ok⟩,⟨329,_,F329_ok⟩,⟨232,_,F232_ok⟩,⟨229,_,F229_ok⟩]) (mO _ _ _ _) (fO _) Tryz.func281 rfl rfl rfl (by decide) rfl ?_
 rintro⟨a0,_⟩ hwf hpre ⟨⟩ hG rfl rfl
 show Vc _ _ [(0,⟨0,0,.c Z68 a0⟩)] _
 refine Vm hG rfl (Vq ?_)
 refine Vr hG rfl ?_ ?_
 · repeat' (first | exact trivial | refine And.intro ?_ ?_ | intro _)
 refine Vt ?_
 refine⟨?_,trivial⟩
 all_goals exact rfl
noncomputable def F211:Fun:=⟨[.int .i64],[.pure Y26],fun _=>True,fun x=>((fun(r:Int)=>((3,r,(0,0)):Verdict)) x.1,())⟩
theorem F211_ok:Meets Tryz.prog 211 F211:=by
 refine mZ (C:=mkC 5 [2] [0,2] []) (mO _ _ _ _) (fO _) Tryz.func211 rfl rfl rfl (by decide) rfl ?_
 rintro⟨(a0:Int),_⟩ hwf hpre ⟨⟩ hG rfl rfl
 show Vc _ _ [(0,⟨0,0,.c (.pure (.int .i64)) a0⟩)] _
 refine Vm hG rfl (Vm hG rfl (Vt ?_))
 refine⟨?_,trivial⟩
 all_goals exact rfl
noncomputable def F283:Fun:=⟨[.int .i64],[.pure Y26],fun _=>True,fun x=>((fun(r:Int)=>((2,r,(0,0)):Verdict)) x.1,())⟩
theorem F283_ok:Meets Tryz.prog 283 F283:=by
 refine mZ (C:=mkC 5 [2] [0,2] []) (mO _ _ _ _) (fO _) Tryz.func283 rfl rfl rfl (by decide) rfl ?_
 rintro⟨(a0:Int),_⟩ hwf hpre ⟨⟩ hG rfl rfl
 show Vc _ _ [(0,⟨0,0,.c (.pure (.int .i64)) a0⟩)] _
 refine Vm hG rfl (Vm hG rfl (Vt ?_))
 refine⟨?_,trivial⟩
 all_goals exact rfl
noncomputable def F330:Fun:=⟨[.slice Y34,.int .i64,.slice (.int .i64),.int .i64],[.pure (.bool)],fun x=>(fun(_:List Key) (_:Int) (l:List Int) (_:Int)=>smallL l) x.1 x.2.1 x.2.2.1 x.2.2.2.1,fun x=>(checkMarkF x.1 x.2.1 x.2.2.1 x.2.2.2.1,())⟩
theorem F330_ok:Meets Tryz.prog 330 F330:=by
 refine mZ (C:=mkC 25 [8] [0,1,2,3,8,9] [⟨209,_,F209_ok⟩,⟨230,_,F230_ok⟩]) (mO _ _ _ _) (fO _) Tryz.func330 rfl rfl rfl (by decide) rfl ?_
 rintro⟨a0,(a1:Int),a2,(a3:Int),_⟩ hwf hpre ⟨⟩ hG rfl rfl
 show Vc _ _ [(0,⟨0,0,.c Z38 a0⟩),(1,⟨0,0,.c (.pure (.int .i64)) a1⟩),(2,⟨0,0,.c Z3 a2⟩),(3,⟨0,0,.c (.pure (.int .i64)) a3⟩)] _
 have hp:smallL a2:=hpre
 refine Vm hG rfl (Vm hG rfl (Vq ?_))
 refine Vr hG rfl ?_ ?_
 · exact⟨fun h=>findRange (show ¬keyI a0 a1<0 from by have:keyI a0 a1≥0:=oTr h;omega),fun _=>hp⟩
 refine Vt ?_
 refine⟨?_,trivial⟩
 all_goals exact rfl
noncomputable def F284:Fun:=⟨[.slice Y34,.pair (.int .i64) Y50],[.pure (.bool)],fun _=>True,fun x=>(checkSigF x.1 x.2.1,())⟩
theorem F284_ok:Meets Tryz.prog 284 F284:=by
 refine mZ (C:=mkC 17 [4] [0,1,3,4] [⟨282,_,F282_ok⟩,⟨287,_,F287_ok⟩,⟨330,_,F330_ok⟩]) (mO _ _ _ _) (fO _) Tryz.func284 rfl rfl rfl (by decide) rfl ?_
 rintro⟨a0,a1,_⟩ hwf hpre ⟨⟩ hG rfl rfl
 show Vc _ _ [(0,⟨0,0,.c Z38 a0⟩),(1,⟨0,0,.c Z54 a1⟩)] _
 refine Vm hG rfl (Vq ?_)
 refine VrD mixed hG rfl (by kernel_rfl) ?_ ?_
 · repeat' (first | exact trivial | exact smallLit (n:=9) rfl (by decide) | refine And.intro ?_ ?_ | intro _)
 refine Vt ?_
 refine⟨?_,trivial⟩
 all_goals exact rfl
noncomputable def F206:Fun:=⟨[.pair Y36 Y57,.int .i64,.pair (.int .i64) Y50],[.pure Y26],fun _=>True,fun x=>(formF x.1 x.2.1 x.2.2.1,())⟩
theorem F206_ok:Meets Tryz.prog 206 F206:=by
 refine mZ (C:=mkC 43 [6] [0,1,2,3,5,6,7,12,17,21,27,35] [⟨281,_,F281_ok⟩,⟨211,_,F211_ok⟩,⟨282,_,F282_ok⟩,⟨283,_,F283_ok⟩,⟨209,_,F209_ok⟩,⟨284,_,F284_ok⟩]) (mO _ _ _ _) (fO _) Tryz.func206 rfl rfl rfl (by decide) rfl ?_
 rintro⟨a0,(a1:Int),a2,_⟩ hwf hpre ⟨⟩ hG rfl rfl
 show Vc _ _ [(0,⟨0,0,.c Z68 a0⟩),(1,⟨0,0,.c (.pure (.int .i64)) a1⟩),(2,⟨0,0,.c Z54 a2⟩)] _
 refine Vm hG rfl (Vq (Vb (Vm hG rfl ?_)))
 refine Vk rfl ?_ ?_<;>intro h0
 · refine Vm hG rfl (Vt ?_)
   refine⟨?_,trivial⟩
   exact fo1 h0
 · refine Vm hG rfl ?_
   refine Vk rfl ?_ ?_<;>intro h1
   · refine Vm hG rfl (Vt ?_)
     refine⟨?_,trivial⟩
     exact fo2' h0 h1
   · refine Vm hG rfl ?_
     refine Vk rfl ?_ ?_<;>intro h2
     · refine Vm hG rfl (Vt ?_)
       refine⟨?_,trivial⟩
       exact fo3' h0 h1 h2
     · refine Vm hG rfl ?_
       refine Vk rfl ?_ ?_<;>intro h3
       · refine Vm hG rfl (Vt ?_)
         refine⟨?_,trivial⟩
         exact fo4 h0 h1 h2 h3
       · refine Vm hG rfl ?_
         refine Vk rfl ?_ ?_<;>intro h4
         · refine Vm hG rfl (Vt ?_)
           refine⟨?_,trivial⟩
           exact fo5 h0 h1 h2 h3 h4
         · refine Vm hG rfl ?_
           refine Vk rfl ?_ ?_<;>intro h5
           · refine Vm hG rfl (Vt ?_)
             refine⟨?_,trivial⟩
             exact fo6 h0 h1 h2 h3 h4 h5
           · refine Vs (Vm hG rfl (Vt ?_))
             refine⟨?_,trivial⟩
             exact fo7 h0 h1 h2 h3 h4 h5
noncomputable def F285:Fun:=⟨[.int .i64,.int .i64],[.pure (.int .i64)],fun _=>True,fun x=>((fun(a b:Int)=>min a b) x.1 x.2.1,())⟩
theorem F285_ok:Meets Tryz.prog 285 F285:=by
 refine mZ (C:=mkC 10 [4] [0,1,4,7] []) (mO _ _ _ _) (fO _) Tryz.func285 rfl rfl rfl (by decide) rfl ?_
 rintro⟨(a0:Int),(a1:Int),_⟩ hwf hpre ⟨⟩ hG rfl rfl
 show Vc _ _ [(0,⟨0,0,.c (.pure (.int .i64)) a0⟩),(1,⟨0,0,.c (.pure (.int .i64)) a1⟩)] _
 refine Vm hG rfl (Vq (Vm hG rfl ?_))
 refine Vk rfl ?_ ?_<;>intro h0
 · refine Vm hG rfl (Vt ?_)
   refine⟨?_,trivial⟩
   exact minT h0
 · refine Vs (Vm hG rfl (Vt ?_))
   refine⟨?_,trivial⟩
   exact minE h0
noncomputable def F344:Fun:=⟨[.int .i64,.int .i64],[.pure Y5,.pure (.bool)],fun _=>True,fun x=>((makeSpanF x.1 x.2.1).1,(makeSpanF x.1 x.2.1).2,())⟩
theorem F344_ok:Meets Tryz.prog 344 F344:=by
 refine mZ (C:=mkC 19 [4,5] [0,1,4,5,6,16] [⟨294,_,F294_ok⟩,⟨285,_,F285_ok⟩]) (mO _ _ _ _) (fO _) Tryz.func344 rfl rfl rfl (by decide) rfl ?_
 rintro⟨(a0:Int),(a1:Int),_⟩ hwf hpre ⟨⟩ hG rfl rfl
 show Vc _ _ [(0,⟨0,0,.c (.pure (.int .i64)) a0⟩),(1,⟨0,0,.c (.pure (.int .i64)) a1⟩)] _
 refine Vm hG rfl (Vm hG rfl (Vq (Vm hG rfl ?_)))
 refine Vk rfl ?_ ?_<;>intro h0
 · have g0:max 0 a0>min 10000 a1:=oTr h0
   refine Vm hG rfl (Vt ?_)
   have e:=mkSp0 g0
   refine⟨?_,?_,trivial⟩
   · exact(congrArg Prod.fst e).symm
   · exact(congrArg Prod.snd e).symm
 · have g0:¬max 0 a0>min 10000 a1:=oFa h0
   refine Vs (Vm hG rfl (Vt ?_))
   have e:=mkSp1 g0
   refine⟨?_,?_,trivial⟩
   · exact(congrArg Prod.fst e).symm
   · exact(congrArg Prod.snd e).symm
noncomputable def F336:Fun:=⟨[.slice Y15,.pair (.int .i64) Y26],[.pure Y5,.pure (.bool)],fun _=>True,fun x=>((stampSpanF x.1 x.2.1).1,(stampSpanF x.1 x.2.1).2,())⟩
theorem F336_ok:Meets Tryz.prog 336 F336:=by
 refine mZ (C:=mkC 47 [4,5] [0,1,3,4,5,6,26] [⟨228,_,F228_ok⟩,⟨229,_,F229_ok⟩,⟨344,_,F344_ok⟩]) (mO _ _ _ _) (fO _) Tryz.func336 rfl rfl rfl (by decide) rfl ?_
 rintro⟨a0,a1,_⟩ hwf hpre ⟨⟩ hG rfl rfl
 show Vc _ _ [(0,⟨0,0,.c Z23 a0⟩),(1,⟨0,0,.c Z35 a1⟩)] _
 refine Vm hG rfl (Vm hG rfl (Vq (Vq ?_)))
 refine Vr hG rfl ?_ ?_
 · exact⟨fun h=>findRange (oFa h),fun _=>trivial⟩
 refine Vk rfl ?_ ?_<;>intro h0
 · have g0:ssBad a0 a1=true:=h0
   refine Vm hG rfl (Vt ?_)
   have e:=ss0 g0
   refine⟨?_,?_,trivial⟩
   · exact(congrArg Prod.fst e).symm
   · exact(congrArg Prod.snd e).symm
 · have g0:ssBad a0 a1=false:=h0
   refine Vs (Vq ?_)
   refine VrD mixed hG rfl (by kernel_rfl) ?_ ?_
   · exact⟨ssIdx g0,ssIdx g0,trivial⟩
   refine Vt ?_
   have e:=ss1 g0
   refine⟨?_,?_,trivial⟩
   · exact(congrArg Prod.fst e).symm
   · exact(congrArg Prod.snd e).symm
noncomputable def F369:Fun:=⟨[.slice Y5,.int .i64],[.pure (.int .i64)],fun _=>True,fun x=>(countAtF x.1 x.2.1,())⟩
theorem F369_ok:Meets Tryz.prog 369 F369:=by
 refine mZ (C:=mkC 39 [4] [0,1,4,5,6,10,35] [⟨299,_,F299_ok⟩]) (mO _ _ _ _) (fO _) Tryz.func369 rfl rfl rfl (by decide) rfl ?_
 rintro⟨a0,(a1:Int),_⟩ hwf hpre ⟨⟩ hG rfl rfl
 show Vc _ _ [(0,⟨0,0,.c Z14 a0⟩),(1,⟨0,0,.c (.pure (.int .i64)) a1⟩)] _
 have hb:List.length a0≤bigLen:=hwf.1.1
 refine Vm hG rfl (Vm hG rfl (Vq (Vm hG rfl ?_)))
 refine Vb ?_
 refine Vc.loopF [(5,false,.pure (.int .i64)),(6,false,.pure (.int .i64))] [0,1,4] (fun v=>foInv (cntStep a1) 0 a0 v.1 v.2.1) (fun v=>((List.length a0:Int)-v.2.1).toNat) rfl ?_ ?_
 · exact foStart
 rintro⟨(acc:Int),(i:Int),_⟩ hI
 have hI:foInv (cntStep a1) 0 a0 acc i:=hI
 refine Vq (Vm hG rfl ?_)
 refine Vk rfl ?_ ?_<;>intro h0
 · have hl:i<(List.length a0:Int):=oTr h0
   refine Vs (Vq (Vb (Vq ?_)))
   refine Vr hG rfl ?_ ?_
   · repeat' (first | exact trivial | exact foRange hI hl | refine And.intro ?_ ?_ | intro _)
   refine Vk rfl ?_ ?_<;>intro h1
   · have g1:inSp a1 (List.getD a0 i.toNat (dflt Y5))=true:=cntSpec.symm.trans h1
     have st:=foStepE (d:=dflt Y5) hI hl hb (cntY (n:=acc) g1).symm
     refine Vn hG rfl (Vn hG rfl ?_)
     refine⟨rfl,?_⟩
     exact st
   · have g1:inSp a1 (List.getD a0 i.toNat (dflt Y5))=false:=cntSpec.symm.trans h1
     have st:=foStepE (d:=dflt Y5) hI hl hb (cntN (n:=acc) g1).symm
     refine Vs (Vn hG rfl ?_)
     refine⟨rfl,?_⟩
     exact st
 · have hl:¬i<(List.length a0:Int):=oFa h0
   refine Vx (Vm hG rfl (Vt ?_))
   refine⟨?_,trivial⟩
   exact foEnd hI hl
noncomputable def F362:Fun:=⟨[.slice Y5,.int .i64,.int .i64],[.pure (.bool)],fun _=>True,fun x=>(supF x.1 x.2.1 x.2.2.1,())⟩
theorem F362_ok:Meets Tryz.prog 362 F362:=by
 refine mZ (C:=mkC 22 [6] [0,1,2,6] [⟨232,_,F232_ok⟩,⟨369,_,F369_ok⟩]) (mO _ _ _ _) (fO _) Tryz.func362 rfl rfl rfl (by decide) rfl ?_
 rintro⟨a0,(a1:Int),(a2:Int),_⟩ hwf hpre ⟨⟩ hG rfl rfl
 show Vc _ _ [(0,⟨0,0,.c Z14 a0⟩),(1,⟨0,0,.c (.pure (.int .i64)) a1⟩),(2,⟨0,0,.c (.pure (.int .i64)) a2⟩)] _
 refine Vm hG rfl (Vq ?_)
 refine Vr hG rfl ?_ ?_
 · repeat' (first | exact trivial | refine And.intro ?_ ?_ | intro _)
 refine Vt ?_
 refine⟨?_,trivial⟩
 all_goals exact rfl
noncomputable def F338:Fun:=⟨[.slice Y5,.int .i64],[.pure Y5,.pure (.bool)],fun _=>True,fun x=>((agreedF x.1 x.2.1).1,(agreedF x.1 x.2.1).2,())⟩
theorem F338_ok:Meets Tryz.prog 338 F338:=by
 refine mZ (C:=mkC 83 [4,5] [0,1,4,5,6,7,8,14,19,49,69,78] [⟨232,_,F232_ok⟩,⟨299,_,F299_ok⟩,⟨362,_,F362_ok⟩,⟨294,_,F294_ok⟩]) (mO _ _ _ _) (fO _) Tryz.func338 rfl rfl rfl (by decide) rfl ?_
 rintro⟨a0,(a1:Int),_⟩ hwf hpre ⟨⟩ hG rfl rfl
 show Vc _ _ [(0,⟨0,0,.c Z14 a0⟩),(1,⟨0,0,.c (.pure (.int .i64)) a1⟩)] _
 have hb:List.length a0≤bigLen:=hwf.1.1
 refine Vm hG rfl (Vq (Vm hG rfl ?_))
 refine Vk rfl ?_ ?_<;>intro h0
 · have g0:=h0
   refine Vm hG rfl (Vt ?_)
   have e:=agBad g0
   refine⟨?_,?_,trivial⟩
   · exact(congrArg Prod.fst e).symm
   · exact(congrArg Prod.snd e).symm
 · have g0:=h0
   refine Vs (Vm hG rfl (Vm hG rfl (Vq ?_)))
   refine Vm hG rfl (Vb ?_)
   refine Vc.loopF [(6,false,.pure (.int .i64)),(7,false,.pure (.int .i64)),(8,false,.pure (.int .i64))] [0,1,4,5,14,78] (fun v=>aeInv a0 a1 v.1 v.2.1 v.2.2.1) (fun v=>((List.length a0:Int)-v.2.2.1).toNat) rfl ?_ ?_
   · exact aeStart
   rintro⟨(f:Int),(t:Int),(i:Int),_⟩ hI
   have hI:aeInv a0 a1 f t i:=hI
   refine Vq (Vm hG rfl ?_)
   refine Vk rfl ?_ ?_<;>intro h1
   · have hl:i<(List.length a0:Int):=oTr h1
     refine Vs (Vq (Vb (Vq ?_)))
     refine Vq ?_
     refine Vr hG rfl ?_ ?_
     · repeat' (first | exact trivial | exact upRange hI.1 hl | refine And.intro ?_ ?_ | intro _)
     refine Vk rfl ?_ ?_<;>intro h2
     · have g2:aeA a0 a1 f (List.getD a0 i.toNat (dflt Y5))=true:=h2
       have e2:(List.getD a0 i.toNat (dflt Y5)).1=(if aeA a0 a1 f (List.getD a0 i.toNat (dflt Y5))=true then(List.getD a0 i.toNat (dflt Y5)).1 else f):=by rw[if_pos g2]
       refine Vr hG rfl ?_ ?_
       · exact upRange hI.1 hl
       refine Vq ?_
       refine Vr hG rfl ?_ ?_
       · repeat' (first | exact trivial | exact upRange hI.1 hl | refine And.intro ?_ ?_ | intro _)
       refine Vk rfl ?_ ?_<;>intro h3
       · have g3:aeB a0 a1 (List.getD a0 i.toNat (dflt Y5))=true:=h3
         have e3:max t (List.getD a0 i.toNat (dflt Y5)).2=(if aeB a0 a1 (List.getD a0 i.toNat (dflt Y5))=true then max t (List.getD a0 i.toNat (dflt Y5)).2 else t):=by rw[if_pos g3]
         refine Vr hG rfl ?_ ?_
         · exact⟨upRange hI.1 hl,trivial⟩
         refine Vn hG rfl ?_
         refine⟨rfl,?_⟩
         exact aeStep (d:=dflt Y5) hI hl hb e2 e3
       · have g3:aeB a0 a1 (List.getD a0 i.toNat (dflt Y5))=false:=h3
         have e3:t=(if aeB a0 a1 (List.getD a0 i.toNat (dflt Y5))=true then max t (List.getD a0 i.toNat (dflt Y5)).2 else t):=by rw[if_neg (by rw[g3];decide)]
         refine Vs (Vn hG rfl ?_)
         refine⟨rfl,?_⟩
         exact aeStep (d:=dflt Y5) hI hl hb e2 e3
     · have g2:aeA a0 a1 f (List.getD a0 i.toNat (dflt Y5))=false:=h2
       have e2:f=(if aeA a0 a1 f (List.getD a0 i.toNat (dflt Y5))=true then(List.getD a0 i.toNat (dflt Y5)).1 else f):=by rw[if_neg (by rw[g2];decide)]
       refine Vs (Vq ?_)
       refine Vr hG rfl ?_ ?_
       · repeat' (first | exact trivial | exact upRange hI.1 hl | refine And.intro ?_ ?_ | intro _)
       refine Vk rfl ?_ ?_<;>intro h4
       · have g3:aeB a0 a1 (List.getD a0 i.toNat (dflt Y5))=true:=h4
         have e3:max t (List.getD a0 i.toNat (dflt Y5)).2=(if aeB a0 a1 (List.getD a0 i.toNat (dflt Y5))=true then max t (List.getD a0 i.toNat (dflt Y5)).2 else t):=by rw[if_pos g3]
         refine Vr hG rfl ?_ ?_
         · exact⟨upRange hI.1 hl,trivial⟩
         refine Vn hG rfl ?_
         refine⟨rfl,?_⟩
         exact aeStep (d:=dflt Y5) hI hl hb e2 e3
       · have g3:aeB a0 a1 (List.getD a0 i.toNat (dflt Y5))=false:=h4
         have e3:t=(if aeB a0 a1 (List.getD a0 i.toNat (dflt Y5))=true then max t (List.getD a0 i.toNat (dflt Y5)).2 else t):=by rw[if_neg (by rw[g3];decide)]
         refine Vs (Vn hG rfl ?_)
         refine⟨rfl,?_⟩
         exact aeStep (d:=dflt Y5) hI hl hb e2 e3
   · have hl:¬i<(List.length a0:Int):=oFa h1
     refine Vx (Vq (Vm hG rfl ?_))
     refine Vk rfl ?_ ?_<;>intro h5
     · have g4:f<0:=oTr h5
       refine Vm hG rfl (Vt ?_)
       have e:=aeNone hb hI hl g4
       refine⟨?_,?_,trivial⟩
       · exact(congrArg Prod.fst e).symm
       · exact(congrArg Prod.snd e).symm
     · have g4:¬f<0:=oFa h5
       refine Vs (Vm hG rfl (Vt ?_))
       have e:=aeSome hb hI hl g4
       refine⟨?_,?_,trivial⟩
       · exact(congrArg Prod.fst e).symm
       · exact(congrArg Prod.snd e).symm
noncomputable def F360:Fun:=⟨[.slice Y15,.pair (.int .i64) Y55,.int .i64],[.pure Y5,.pure (.bool)],fun x=>(fun(_:List Authority) (a1:Renewal) (_:Int)=>List.length a1.2.2.2.2≤1048576) x.1 x.2.1 x.2.2.1,fun x=>(((fun a0 a1 a2=>rsF a0 a1.2.2.2.2 a2) x.1 x.2.1 x.2.2.1).1,((fun a0 a1 a2=>rsF a0 a1.2.2.2.2 a2) x.1 x.2.1 x.2.2.1).2,())⟩
theorem F360_ok:Meets Tryz.prog 360 F360:=by
 refine mZ (C:=mkC 42 [6,7] [0,1,2,4,6,7,8,9,10,11,17,31] [⟨336,_,F336_ok⟩,⟨338,_,F338_ok⟩]) (mO _ _ _ _) (fO _) Tryz.func360 rfl rfl rfl (by decide) rfl ?_
 rintro⟨a0,a1,(a2:Int),_⟩ hwf hpre ⟨⟩ hG rfl rfl
 show Vc _ _ [(0,⟨0,0,.c Z23 a0⟩),(1,⟨0,0,.c Z59 a1⟩),(2,⟨0,0,.c (.pure (.int .i64)) a2⟩)] _
 have hs:List.length a1.2.2.2.2≤1048576:=hpre
 have hb:List.length a1.2.2.2.2≤bigLen:=by unfold bigLen;omega
 refine Vm hG rfl (Vm hG rfl (Vq (Vm hG rfl ?_)))
 refine Vb ?_
 refine Vc.loopF [(6,true,.pure Y5),(8,false,.own Z9),(9,false,.pure (.int .i64))] [0,1,2,4] (fun v=>rsInv a0 a1.2.2.2.2 v.2.1 v.2.2.1) (fun v=>((List.length a1.2.2.2.2:Int)-v.2.2.1).toNat) rfl ?_ ?_
 · exact rsStart
 rintro⟨r6,acc,(i:Int),_⟩ hI
 have hI:rsInv a0 a1.2.2.2.2 acc i:=hI
 have hA:List.length acc≤1048576:=Nat.le_trans (rsLen hI) hs
 refine Vq (Vm hG rfl ?_)
 refine Vk rfl ?_ ?_<;>intro h0
 · have hl:i<(List.length a1.2.2.2.2:Int):=oTr h0
   refine Vs (Vq (Vb (Vq ?_)))
   refine Vr hG rfl ?_ ?_
   · exact⟨rsRange hI hl,trivial⟩
   refine Vq (Vm hG rfl ?_)
   refine Vk rfl ?_ ?_<;>intro h1
   · have g1:¬rsP a0 (List.getD a1.2.2.2.2 i.toNat (dflt TStamp)):=fun q=>nself q h1
     refine Vm hG rfl (Vt ?_)
     have e:=rsBad (d:=dflt TStamp) (liars:=a2) hI hl g1
     refine⟨?_,?_,trivial⟩
     · exact congrArg (fun(q:Span×Bool)=>q.1) e
     · exact congrArg (fun(q:Span×Bool)=>q.2) e
   · have g1:rsP a0 (List.getD a1.2.2.2.2 i.toNat (dflt TStamp)):=notF h1
     refine Vs ?_
     refine Vr hG rfl ?_ ?_
     · show List.length acc+1≤maxApp
       unfold maxApp;omega
     refine Vn hG rfl ?_
     refine⟨rfl,?_⟩
     exact rsStep (d:=dflt TStamp) hI hl hb g1
 · have hl:¬i<(List.length a1.2.2.2.2:Int):=oFa h0
   refine Vx (Vm hG rfl (Vt ?_))
   have e:=rsEnd (liars:=a2) hI hl
   refine⟨?_,?_,trivial⟩
   · exact congrArg (fun(q:Span×Bool)=>q.1) e
   · exact congrArg (fun(q:Span×Bool)=>q.2) e
noncomputable def F288:Fun:=⟨[.slice Y26,.int .i64],[.pure (.int .i64)],fun _=>True,fun x=>((fun a0 a1=>findI (fun x=>x.1==a1) a0) x.1 x.2.1,())⟩
theorem F288_ok:Meets Tryz.prog 288 F288:=by
 refine mZ (C:=mkC 20 [4] [0,1,4,5,9,18] []) (mO _ _ _ _) (fO _) Tryz.func288 rfl rfl rfl (by decide) rfl ?_
 rintro⟨a0,(a1:Int),_⟩ hwf hpre ⟨⟩ hG rfl rfl
 show Vc _ _ [(0,⟨0,0,.c Z32 a0⟩),(1,⟨0,0,.c (.pure (.int .i64)) a1⟩)] _
 have hb:List.length a0≤bigLen:=hwf.1.1
 refine Vm hG rfl (Vq (Vm hG rfl (Vb ?_)))
 refine Vc.loopF [(5,false,.pure (.int .i64))] [0,1] (fun v=>fInv (fun x=>x.1==a1) a0 v.1) (fun v=>((List.length a0:Int)-v.1).toNat) rfl ?_ ?_
 · exact fStart
 rintro⟨(i:Int),_⟩ hI
 have hI:fInv (fun x=>x.1==a1) a0 i:=hI
 refine Vq (Vm hG rfl ?_)
 refine Vk rfl ?_ ?_<;>intro h0
 · have hl:i<(List.length a0:Int):=oTr h0
   refine Vs (Vq (Vb (Vq ?_)))
   refine Vr hG rfl ?_ ?_
   · exact fRange hI hl
   refine Vk rfl ?_ ?_<;>intro h1
   · have g1:(fun x=>x.1==a1) (List.getD a0 i.toNat (dflt Y26))=true:=h1
     refine Vm hG rfl (Vt ?_)
     refine⟨?_,trivial⟩
     exact fHit hI hl g1
   · have g1:(fun x=>x.1==a1) (List.getD a0 i.toNat (dflt Y26))=false:=h1
     refine Vs (Vn hG rfl ?_)
     refine⟨rfl,?_⟩
     exact fStep hI hl hb g1
 · have hl:¬i<(List.length a0:Int):=oFa h0
   refine Vx (Vm hG rfl (Vt ?_))
   refine⟨?_,trivial⟩
   exact fEnd hI hl
noncomputable def F210:Fun:=⟨[.slice Y26,.int .i64],[.pure (.int .i64)],fun _=>True,fun x=>(breakF x.1 x.2.1,())⟩
theorem F210_ok:Meets Tryz.prog 210 F210:=by
 refine mZ (C:=mkC 16 [4] [0,1,4,5,10] [⟨288,_,F288_ok⟩]) (mO _ _ _ _) (fO _) Tryz.func210 rfl rfl rfl (by decide) rfl ?_
 rintro⟨a0,(a1:Int),_⟩ hwf hpre ⟨⟩ hG rfl rfl
 show Vc _ _ [(0,⟨0,0,.c Z32 a0⟩),(1,⟨0,0,.c (.pure (.int .i64)) a1⟩)] _
 refine Vm hG rfl (Vm hG rfl (Vq (Vm hG rfl ?_)))
 refine Vk rfl ?_ ?_<;>intro h0
 · have g0:methI a0 a1<0:=oTr h0
   refine Vm hG rfl (Vt ?_)
   refine⟨?_,trivial⟩
   exact brk0 g0
 · have g0:¬methI a0 a1<0:=oFa h0
   refine Vs (Vq ?_)
   refine Vr hG rfl ?_ ?_
   · exact findRange g0
   refine Vt ?_
   refine⟨?_,trivial⟩
   exact brk1 g0
noncomputable def F372:Fun:=⟨[.slice Y34,.slice Y15,.slice Y26,.pair (.int .i64) Y55],[.pure (.int .i64)],fun _=>True,fun x=>(rbF x.1 x.2.1 x.2.2.1 x.2.2.2.1,())⟩
theorem F372_ok:Meets Tryz.prog 372 F372:=by
 refine mZ (C:=mkC 44 [8] [0,1,2,3,7,8,9,10,11,20,33] [⟨210,_,F210_ok⟩,⟨274,_,F274_ok⟩,⟨209,_,F209_ok⟩,⟨285,_,F285_ok⟩]) (mO _ _ _ _) (fO _) Tryz.func372 rfl rfl rfl (by decide) rfl ?_
 rintro⟨a0,a1,a2,a3,_⟩ hwf hpre ⟨⟩ hG rfl rfl
 show Vc _ _ [(0,⟨0,0,.c Z38 a0⟩),(1,⟨0,0,.c Z23 a1⟩),(2,⟨0,0,.c Z32 a2⟩),(3,⟨0,0,.c Z59 a3⟩)] _
 have hb:List.length a3.2.2.2.2≤bigLen:=hwf.2.2.2.1.2.2.2.2.1
 refine Vm hG rfl (Vm hG rfl (Vq (Vm hG rfl ?_)))
 refine Vb ?_
 refine Vc.loopF [(9,false,.pure (.int .i64)),(10,false,.pure (.int .i64))] [0,1,2,3,7] (fun v=>efInv (rbBad a0 a1) (rbG a0 a1 a2) 0 (breakF a2 a3.2.1) a3.2.2.2.2 v.1 v.2.1) (fun v=>((List.length a3.2.2.2.2:Int)-v.2.1).toNat) rfl ?_ ?_
 · exact efStart
 rintro⟨(m:Int),(i:Int),_⟩ hI
 have hI:efInv (rbBad a0 a1) (rbG a0 a1 a2) 0 (breakF a2 a3.2.1) a3.2.2.2.2 m i:=hI
 refine Vq (Vm hG rfl ?_)
 refine Vk rfl ?_ ?_<;>intro h0
 · have hl:i<(List.length a3.2.2.2.2:Int):=oTr h0
   refine Vs (Vq (Vb (Vq ?_)))
   refine Vr hG rfl ?_ ?_
   · exact⟨efRange hI hl,trivial,trivial⟩
   refine Vq (Vm hG rfl ?_)
   refine Vk rfl ?_ ?_<;>intro h1
   · have g1:rbBad a0 a1 (List.getD a3.2.2.2.2 i.toNat (dflt Y34))=true:=h1
     refine Vm hG rfl (Vt ?_)
     refine⟨?_,trivial⟩
     exact efStop (d:=dflt Y34) hI hl g1
   · have g1:rbBad a0 a1 (List.getD a3.2.2.2.2 i.toNat (dflt Y34))=false:=h1
     have n1:¬keyI a0 (stampKeyF a1 (List.getD a3.2.2.2.2 i.toNat (dflt Y34)))<0:=oFa h1
     refine Vs ?_
     refine Vr hG rfl ?_ ?_
     · exact⟨findRange n1,trivial,trivial⟩
     refine Vn hG rfl ?_
     refine⟨rfl,?_⟩
     exact efStep (d:=dflt Y34) hI hl hb g1
 · have hl:¬i<(List.length a3.2.2.2.2:Int):=oFa h0
   refine Vx (Vm hG rfl (Vt ?_))
   refine⟨?_,trivial⟩
   exact efEnd hI hl
noncomputable def F370:Fun:=⟨[.pair Y36 Y57,.pair Y25 Y61,.int .i64],[.pure (.bool)],fun x=>(fun(_:Frame) (s:Strand) (_:Int)=>Sm big20 (.slice TPiece) s.1∧∀ r∈s.2,Sm big20 TRen r) x.1 x.2.1 x.2.2.1,fun x=>(linkF x.1 x.2.1 x.2.2.1,())⟩
theorem F370_ok:Meets Tryz.prog 370 F370:=by
 refine mZ (C:=mkC 60 [6] [0,1,2,3,4,6,7,8,9,16,34] [⟨232,_,F232_ok⟩,⟨372,_,F372_ok⟩,⟨360,_,F360_ok⟩]) (mO _ _ _ _) (fO _) Tryz.func370 rfl rfl rfl (by decide) rfl ?_
 rintro⟨a0,a1,(a2:Int),_⟩ hwf hpre ⟨⟩ hG rfl rfl
 show Vc _ _ [(0,⟨0,0,.c Z68 a0⟩),(1,⟨0,0,.c Z66 a1⟩),(2,⟨0,0,.c (.pure (.int .i64)) a2⟩)] _
 have hP:Sm big20 (.slice TPiece) a1.1:=hpre.1
 have hR:∀ r∈a1.2,Sm big20 TRen r:=hpre.2
 have hb:List.length a1.2≤bigLen:=hwf.2.1.2.1
 have hSt:∀ k:Int,inRange k (List.length a1.2)→List.length (chAt a1 k).2.2.2.2≤1048576:=fun k hk=>(hR _ (getD_mem hk (dflt TRen))).2.2.2.2.1
 refine Vm hG rfl (Vq (Vm hG rfl ?_))
 refine Vk rfl ?_ ?_<;>intro h0
 · have g0:=h0
   refine Vm hG rfl (Vt ?_)
   refine⟨?_,trivial⟩
   exact lk0 g0
 · have g0:=h0
   have k0:=laIdx g0 hb
   refine Vs (Vq ?_)
   refine VrD mixed hG rfl (by kernel_rfl) ?_ ?_
   · exact⟨k0,trivial⟩
   refine Vq (Vm hG rfl ?_)
   refine Vk rfl ?_ ?_<;>intro h1
   · have g1:=h1
     refine Vm hG rfl (Vt ?_)
     refine⟨?_,trivial⟩
     exact lk1 g0 g1
   · have g1:=h1
     have k1:=lkNext g0 g1 hb
     refine Vs (Vq ?_)
     refine VrD mixed hG rfl (by kernel_rfl) ?_ ?_
     · exact⟨k1,hSt _ k1⟩
     refine Vm hG rfl (Vt ?_)
     refine⟨?_,trivial⟩
     exact lk2 g0 g1
noncomputable def F373:Fun:=⟨[.int .i64,.int .i64,.slice Y2],[.pure (.int .i64)],fun _=>True,fun x=>(followF x.1 x.2.1 x.2.2.1,())⟩
theorem F373_ok:Meets Tryz.prog 373 F373:=by
 refine mZ (C:=mkC 38 [6] [0,1,2,6,7,8,13,20] [⟨306,_,F306_ok⟩]) (mO _ _ _ _) (fO _) Tryz.func373 rfl rfl rfl (by decide) rfl ?_
 rintro⟨(a0:Int),(a1:Int),a2,_⟩ hwf hpre ⟨⟩ hG rfl rfl
 show Vc _ _ [(0,⟨0,0,.c (.pure (.int .i64)) a0⟩),(1,⟨0,0,.c (.pure (.int .i64)) a1⟩),(2,⟨0,0,.c (.pure Y7) a2⟩)] _
 have hb:List.length a2≤bigLen:=hwf.2.2.1.1
 refine Vm hG rfl (Vm hG rfl (Vq (Vm hG rfl ?_)))
 refine Vb ?_
 refine Vc.loopF [(7,false,.pure (.int .i64)),(8,false,.pure (.int .i64))] [0,1,2,6] (fun v=>foInv (flStep a0) a1 a2 v.1 v.2.1) (fun v=>((List.length a2:Int)-v.2.1).toNat) rfl ?_ ?_
 · exact foStart
 rintro⟨(acc:Int),(i:Int),_⟩ hI
 have hI:foInv (flStep a0) a1 a2 acc i:=hI
 refine Vq (Vm hG rfl ?_)
 refine Vk rfl ?_ ?_<;>intro h0
 · have hl:i<(List.length a2:Int):=oTr h0
   refine Vs (Vq (Vb (Vq ?_)))
   refine Vr hG rfl ?_ ?_
   · exact foRange hI hl
   refine Vk rfl ?_ ?_<;>intro h1
   · have g1:(List.getD a2 i.toNat (dflt (.pair TI .bool))).2=true:=h1
     have st:=foStepE (d:=dflt (.pair TI .bool)) hI hl hb (flL (m:=a0) (x:=acc) g1).symm
     refine Vr hG rfl ?_ ?_
     · exact⟨foRange hI hl,trivial⟩
     refine Vn hG rfl ?_
     refine⟨rfl,?_⟩
     exact st
   · have g1:(List.getD a2 i.toNat (dflt (.pair TI .bool))).2=false:=h1
     have st:=foStepE (d:=dflt (.pair TI .bool)) hI hl hb (flR (m:=a0) (x:=acc) g1).symm
     refine Vr hG rfl ?_ ?_
     · exact⟨foRange hI hl,trivial⟩
     refine Vn hG rfl ?_
     refine⟨rfl,?_⟩
     exact st
 · have hl:¬i<(List.length a2:Int):=oFa h0
   refine Vx (Vm hG rfl (Vt ?_))
   refine⟨?_,trivial⟩
   exact foEnd hI hl
noncomputable def F374:Fun:=⟨[.slice Y34,.slice Y15,.pair (.int .i64) Y26],[.pure (.bool)],fun _=>True,fun x=>(checkStampF x.1 x.2.1 x.2.2.1,())⟩
theorem F374_ok:Meets Tryz.prog 374 F374:=by
 refine mZ (C:=mkC 22 [6] [0,1,2,5,6,7,8] [⟨149,_,F149_ok⟩]) (mO _ _ _ _) (fO _) Tryz.func374 rfl rfl rfl (by decide) rfl ?_
 rintro⟨a0,a1,a2,_⟩ hwf hpre ⟨⟩ hG rfl rfl
 show Vc _ _ [(0,⟨0,0,.c Z38 a0⟩),(1,⟨0,0,.c Z23 a1⟩),(2,⟨0,0,.c Z35 a2⟩)] _
 refine Vm hG rfl (Vm hG rfl (Vm hG rfl (Vt ?_)))
 refine⟨?_,trivial⟩
 all_goals exact rfl
noncomputable def F371:Fun:=⟨[.slice Y34,.slice Y15,.pair (.int .i64) Y55,.int .i64],[.pure (.bool)],fun _=>True,fun x=>(checkRenF x.1 x.2.1 x.2.2.1 x.2.2.2.1,())⟩
theorem F371_ok:Meets Tryz.prog 371 F371:=by
 refine mZ (C:=mkC 73 [8] [0,1,2,3,6,8,9,10,32,37,72] [⟨373,_,F373_ok⟩,⟨232,_,F232_ok⟩,⟨374,_,F374_ok⟩]) (mO _ _ _ _) (fO _) Tryz.func371 rfl rfl rfl (by decide) rfl ?_
 rintro⟨a0,a1,a2,(a3:Int),_⟩ hwf hpre ⟨⟩ hG rfl rfl
 show Vc _ _ [(0,⟨0,0,.c Z38 a0⟩),(1,⟨0,0,.c Z23 a1⟩),(2,⟨0,0,.c Z59 a2⟩),(3,⟨0,0,.c (.pure (.int .i64)) a3⟩)] _
 have hb:List.length a2.2.2.2.2≤bigLen:=hwf.2.2.1.2.2.2.2.1
 refine Vm hG rfl (Vq (Vq ?_))
 refine VrD mixed hG rfl (by kernel_rfl) ?_ ?_
 · repeat' (first | exact trivial | refine And.intro ?_ ?_ | intro _)
 refine Vk rfl ?_ ?_<;>intro h0
 · have g0:=cr0S (keys:=a0) (l:=a1) (r:=a2) (leaf:=a3) h0
   refine Vm hG rfl (Vt ?_)
   refine⟨?_,trivial⟩
   exact g0
 · have g0:=crPreS.1 h0
   refine Vs (Vq (Vm hG rfl (Vb ?_)))
   refine Vc.loopF [(9,false,.pure (.int .i64))] [0,1,2,3,6,32] (fun v=>kInv (crS a0 a1 a2) a2.2.2.2.2 v.1) (fun v=>((List.length a2.2.2.2.2:Int)-v.1).toNat) rfl ?_ ?_
   · exact kStart
   rintro⟨(i:Int),_⟩ hI
   have hI:kInv (crS a0 a1 a2) a2.2.2.2.2 i:=hI
   refine Vq (Vm hG rfl ?_)
   refine Vk rfl ?_ ?_<;>intro h1
   · have hl:i<(List.length a2.2.2.2.2:Int):=oTr h1
     refine Vs (Vq (Vb (Vq ?_)))
     refine Vr hG rfl ?_ ?_
     · exact kRange hI hl
     refine Vq ?_
     refine VrD mixed hG rfl (by kernel_rfl) ?_ ?_
     · repeat' (first | exact trivial | (intro h2;exact backRange hI hl hb (oTr h2)) | refine And.intro ?_ ?_ | intro _)
     refine Vk rfl ?_ ?_<;>intro h2
     · have g2:crTestS a0 a1 a2 i=true:=h2
       refine Vm hG rfl (Vt ?_)
       refine⟨?_,trivial⟩
       exact crBadS hI hl hb g2
     · have g2:crTestS a0 a1 a2 i=false:=h2
       refine Vs (Vn hG rfl ?_)
       refine⟨rfl,?_⟩
       exact kStep hI hl hb (crGoodS hI hl hb g2)
   · have hl:¬i<(List.length a2.2.2.2.2:Int):=oFa h1
     refine Vx (Vm hG rfl (Vt ?_))
     refine⟨?_,trivial⟩
     exact crEndS g0 hI hl
noncomputable def F366:Fun:=⟨[.pair Y36 Y57,.pair Y25 Y61,.slice (.int .i64),.int .i64],[.pure (.bool)],fun x=>(fun(_:Frame) (s:Strand) (_:List Int) (k:Int)=>(Sm big20 (.slice TPiece) s.1∧∀ r∈s.2,Sm big20 TRen r)∧inRange k (List.length s.2)) x.1 x.2.1 x.2.2.1 x.2.2.2.1,fun x=>(keptF x.1 x.2.1 x.2.2.1 x.2.2.2.1,())⟩
theorem F366_ok:Meets Tryz.prog 366 F366:=by
 refine mZ (C:=mkC 47 [8] [0,1,2,3,4,5,8,10] [⟨360,_,F360_ok⟩,⟨370,_,F370_ok⟩,⟨234,_,F234_ok⟩,⟨371,_,F371_ok⟩]) (mO _ _ _ _) (fO _) Tryz.func366 rfl rfl rfl (by decide) rfl ?_
 rintro⟨a0,a1,a2,(a3:Int),_⟩ hwf hpre ⟨⟩ hG rfl rfl
 show Vc _ _ [(0,⟨0,0,.c Z68 a0⟩),(1,⟨0,0,.c Z66 a1⟩),(2,⟨0,0,.c Z3 a2⟩),(3,⟨0,0,.c (.pure (.int .i64)) a3⟩)] _
 have hP:Sm big20 (.slice TPiece) a1.1:=hpre.1.1
 have hR:∀ r∈a1.2,Sm big20 TRen r:=hpre.1.2
 have hb:List.length a1.2≤bigLen:=hwf.2.1.2.1
 have hSt:∀ k:Int,inRange k (List.length a1.2)→List.length (chAt a1 k).2.2.2.2≤1048576:=fun k hk=>(hR _ (getD_mem hk (dflt TRen))).2.2.2.2.1
 have hk:inRange a3 (List.length a1.2):=hpre.2
 refine Vm hG rfl (Vq ?_)
 refine VrD mixed hG rfl (by kernel_rfl) ?_ ?_
 · exact⟨hk,hSt _ hk⟩
 refine Vq ?_
 refine VrD mixed hG rfl (by kernel_rfl) ?_ ?_
 · repeat' (first | exact trivial | exact hk | exact⟨hP,hR⟩ | refine And.intro ?_ ?_ | intro _)
 refine Vt ?_
 refine⟨?_,trivial⟩
 all_goals exact rfl
noncomputable def F359:Fun:=⟨[.pair Y36 Y57,.pair Y25 Y61,.slice (.int .i64)],[.pure (.int .i64)],fun x=>(fun(_:Frame) (s:Strand) (_:List Int)=>Sm big20 (.slice TPiece) s.1∧∀ r∈s.2,Sm big20 TRen r) x.1 x.2.1 x.2.2.1,fun x=>(firstKeptF x.1 x.2.1 x.2.2.1,())⟩
theorem F359_ok:Meets Tryz.prog 359 F359:=by
 refine mZ (C:=mkC 24 [6] [0,1,2,3,4,6,7,20] [⟨366,_,F366_ok⟩]) (mO _ _ _ _) (fO _) Tryz.func359 rfl rfl rfl (by decide) rfl ?_
 rintro⟨a0,a1,a2,_⟩ hwf hpre ⟨⟩ hG rfl rfl
 show Vc _ _ [(0,⟨0,0,.c Z68 a0⟩),(1,⟨0,0,.c Z66 a1⟩),(2,⟨0,0,.c Z3 a2⟩)] _
 have hP:Sm big20 (.slice TPiece) a1.1:=hpre.1
 have hR:∀ r∈a1.2,Sm big20 TRen r:=hpre.2
 have hb:List.length a1.2≤bigLen:=hwf.2.1.2.1
 have hSt:∀ k:Int,inRange k (List.length a1.2)→List.length (chAt a1 k).2.2.2.2≤1048576:=fun k hk=>(hR _ (getD_mem hk (dflt TRen))).2.2.2.2.1
 refine Vm hG rfl (Vm hG rfl (Vq (Vb ?_)))
 refine Vc.loopF [(7,false,.pure (.int .i64))] [0,1,2,3,4,6] (fun v=>fkInv a0 a1 a2 v.1) (fun v=>v.1.toNat) rfl ?_ ?_
 · exact fkStart
 rintro⟨(j:Int),_⟩ hI
 have hI:fkInv a0 a1 a2 j:=hI
 refine Vq (Vq ?_)
 refine Vr hG rfl ?_ ?_
 · exact fun h=>⟨⟨hP,hR⟩,fkIdx hI (oTr h) hb⟩
 refine Vk rfl ?_ ?_<;>intro h0
 · have g0:j>0:=oTr (andT h0).1
   have g1:keptF a0 a1 a2 (IntKind.i64.wrap (j-1))=true:=(andT h0).2
   refine Vs (Vb (Vn hG rfl ?_))
   refine⟨rfl,?_⟩
   exact fkStep hI g0 hb g1
 · have g1:=fkEndS hI hb h0
   refine Vx (Vm hG rfl (Vt ?_))
   refine⟨?_,trivial⟩
   exact g1
end Fw
