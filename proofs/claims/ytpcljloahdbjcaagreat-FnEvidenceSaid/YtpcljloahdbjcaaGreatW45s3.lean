/- Walks of functions of the program: what each computes. Conditions: those that each contract names. -/
import Derived.Test.YtpcljloahdbjcaaGreatW45T
import Derived.Test.YtpcljloahdbjcaaGreatW45s0
import Derived.Test.YtpcljloahdbjcaaGreatW45s1
import Derived.Test.YtpcljloahdbjcaaGreatW45s2
set_option linter.unusedVariables false
namespace Fw
open Go Go.Proofs
set_option linter.unusedSimpArgs false
set_option maxRecDepth 100000
noncomputable def P90:PFun:=⟨.pure Y16,[],[.pure Y60,.pure Y67,.pure Y67,.pure Y19,.pure Y48],fun x _=>curOk x,fun x _=>(bothD x).2,fun x _=>((bothD x).1.1,(bothD x).1.2.1,(bothD x).1.2.2.1,(bothD x).1.2.2.2.1,(bothD x).1.2.2.2.2,())⟩
set_option maxHeartbeats 8000000 in
theorem P90_ok:MeetsP Tryz.prog 90 P90:=by
 refine meetsP_of_vc (C:=mkCP 97 [2,3,4,5,6] [0,2,3,4,5,6,7,8,9,10,11,12,13,15,16,33,65,88] [⟨160,_,F160_ok⟩,⟨76,_,F76_ok⟩,⟨161,_,F161_ok⟩,⟨163,_,F163_ok⟩,⟨162,_,F162_ok⟩,⟨165,_,F165_ok⟩] [] [] [⟨158,_,P158_ok⟩,⟨159,_,P159_ok⟩,⟨79,_,P79_ok⟩,⟨138,_,P138_ok⟩,⟨74,_,P74_ok⟩,⟨164,_,P164_ok⟩] [0]) (mkCP_ok _ _ _ _ _ _ _ _) (fO _) Tryz.func90 rfl rfl rfl (by decide) rfl rfl rfl ?_ rfl
 rintro c ⟨_⟩ hwc hwf hpre ⟨⟩ hG rfl rfl
 show Vc _ _ [(0,⟨0,0,.c (.ref Z20) c⟩)] _
 have hc0:curOk c:=hpre
 have hkf:=frameD_ok hc0
 have hk0:=(bo0_P hc0).2.1
 have hix:=boIdx hc0
 have hk1:=bo1_ok hc0
 have hk4:=bo4_ok hc0
 have htY:=boYs_tiny hc0
 have htS:=boSs_tiny hc0
 have hsY:=tiny_big htY
 have hs0:=sm_up (show 64≤big20 by decide) _ _ ((bo0_P hc0).1.1.1.2 _ (getD_mem hix (dflt TStrand)))
 refine Vm hG rfl (Vq ?_)
 refine Vr hG rfl ?_ ?_
 · repeat' (first | exact trivial | exact hc0 | exact hkf | exact hk0 | exact hix | exact hk1 | exact hk4 | exact hs0 | exact hsY | exact int_ok hk1 | exact int_ok (int_ok hk1) | exact Nat.succ_pos _ | exact statPiece_sm _ | exact int_ok hk4 | exact hc3 | exact below_ok hc3 | exact hy3 | exact renOk (below_ok hc3) hy | exact(Nat.le_of_ble_eq_true rfl:(1:Nat)≤maxApp) | refine And.intro ?_ ?_ | intro _)
 refine Vq ?_
 refine VrT hG rfl ?_ ?_
 · repeat' (first | exact trivial | exact hc0 | exact hkf | exact hk0 | exact hix | exact hk1 | exact hk4 | exact hs0 | exact hsY | exact int_ok hk1 | exact int_ok (int_ok hk1) | exact Nat.succ_pos _ | exact statPiece_sm _ | exact int_ok hk4 | exact hc3 | exact below_ok hc3 | exact hy3 | exact renOk (below_ok hc3) hy | exact(Nat.le_of_ble_eq_true rfl:(1:Nat)≤maxApp) | refine And.intro ?_ ?_ | intro _)
 refine Vm hG rfl (Vq ?_)
 refine Vr hG rfl ?_ ?_
 · repeat' (first | exact trivial | exact hc0 | exact hkf | exact hk0 | exact hix | exact hk1 | exact hk4 | exact hs0 | exact hsY | exact int_ok hk1 | exact int_ok (int_ok hk1) | exact Nat.succ_pos _ | exact statPiece_sm _ | exact int_ok hk4 | exact hc3 | exact below_ok hc3 | exact hy3 | exact renOk (below_ok hc3) hy | exact(Nat.le_of_ble_eq_true rfl:(1:Nat)≤maxApp) | refine And.intro ?_ ?_ | intro _)
 refine Vm hG rfl (Vq (Vq ?_))
 refine Vr hG rfl ?_ ?_
 · repeat' (first | exact trivial | exact hc0 | exact hkf | exact hk0 | exact hix | exact hk1 | exact hk4 | exact hs0 | exact hsY | exact int_ok hk1 | exact int_ok (int_ok hk1) | exact Nat.succ_pos _ | exact statPiece_sm _ | exact int_ok hk4 | exact hc3 | exact below_ok hc3 | exact hy3 | exact renOk (below_ok hc3) hy | exact(Nat.le_of_ble_eq_true rfl:(1:Nat)≤maxApp) | refine And.intro ?_ ?_ | intro _)
 refine Vk rfl ?_ ?_<;>intro h0
 · refine Vq ?_
   refine VrD mixed hG rfl (by kernel_rfl) ?_ ?_
   · repeat' (first | exact trivial | exact hc0 | exact hkf | exact hk0 | exact hix | exact hk1 | exact hk4 | exact hs0 | exact hsY | exact int_ok hk1 | exact int_ok (int_ok hk1) | exact Nat.succ_pos _ | exact statPiece_sm _ | exact int_ok hk4 | exact hc3 | exact below_ok hc3 | exact hy3 | exact renOk (below_ok hc3) hy | exact(Nat.le_of_ble_eq_true rfl:(1:Nat)≤maxApp) | refine And.intro ?_ ?_ | intro _)
   refine VrL mixed hG rfl (by kernel_rfl) ?_ ?_
   · repeat' (first | exact trivial | exact hc0 | exact hkf | exact hk0 | exact hix | exact hk1 | exact hk4 | exact hs0 | exact hsY | exact int_ok hk1 | exact int_ok (int_ok hk1) | exact Nat.succ_pos _ | exact statPiece_sm _ | exact int_ok hk4 | exact hc3 | exact below_ok hc3 | exact hy3 | exact renOk (below_ok hc3) hy | exact(Nat.le_of_ble_eq_true rfl:(1:Nat)≤maxApp) | refine And.intro ?_ ?_ | intro _)
   refine Vq ?_
   refine Vr hG rfl ?_ ?_
   · repeat' (first | exact trivial | exact hc0 | exact hkf | exact hk0 | exact hix | exact hk1 | exact hk4 | exact hs0 | exact hsY | exact int_ok hk1 | exact int_ok (int_ok hk1) | exact Nat.succ_pos _ | exact statPiece_sm _ | exact int_ok hk4 | exact hc3 | exact below_ok hc3 | exact hy3 | exact renOk (below_ok hc3) hy | exact(Nat.le_of_ble_eq_true rfl:(1:Nat)≤maxApp) | refine And.intro ?_ ?_ | intro _)
   refine Vq (Vq ?_)
   refine Vr hG rfl ?_ ?_
   · repeat' (first | exact trivial | exact hc0 | exact hkf | exact hk0 | exact hix | exact hk1 | exact hk4 | exact hs0 | exact hsY | exact int_ok hk1 | exact int_ok (int_ok hk1) | exact Nat.succ_pos _ | exact statPiece_sm _ | exact int_ok hk4 | exact hc3 | exact below_ok hc3 | exact hy3 | exact renOk (below_ok hc3) hy | exact(Nat.le_of_ble_eq_true rfl:(1:Nat)≤maxApp) | refine And.intro ?_ ?_ | intro _)
   refine Vb ?_
   refine Vc.frz 12 rfl ?_
   refine Vc.frz 9 rfl ?_
   refine Vc.loopF [(0,true,.pure Y16),(12,true,.pure Y59),(15,false,.pure (.int .i64)),(16,false,.pure (.int .i64))] [2,3,4,5,6,7,8,9,10,11,13,33,88] (fun v=>dnInv (renS (bo0 c).1.2.1 [4,15]) ((bn2 (bo4 c).2).2,(boSs c),(bn1 (bo4 c).2).1) (bnN (bo4 c).2) (v.1,v.2.1,v.2.2.1) v.2.2.2.1) (fun v=>(v.2.2.2.1:Int).toNat) rfl ?_ ?_
   · exact dnStart (bnN_n _)
   rintro⟨c3,y,(t:Int),(j:Int),_⟩ hJ
   have hJ:dnInv (renS (bo0 c).1.2.1 [4,15]) ((bn2 (bo4 c).2).2,(boSs c),(bn1 (bo4 c).2).1) (bnN (bo4 c).2) (c3,y,t) j:=hJ
   have hqJ:=bnIn_P hk4 htS hJ
   have hc3:curOk c3:=hqJ.1
   have hy:tinyS y:=hqJ.2
   have hy3:=tiny_big hy
   refine Vq (Vm hG rfl ?_)
   refine Vk rfl ?_ ?_<;>intro h1
   · have hm:j>0:=oTr h1
     refine Vs (Vq (Vb (Vq ?_)))
     refine VrD mixed hG rfl (by kernel_rfl) ?_ ?_
     · repeat' (first | exact trivial | exact hc0 | exact hkf | exact hk0 | exact hix | exact hk1 | exact hk4 | exact hs0 | exact hsY | exact int_ok hk1 | exact int_ok (int_ok hk1) | exact Nat.succ_pos _ | exact statPiece_sm _ | exact int_ok hk4 | exact hc3 | exact below_ok hc3 | exact hy3 | exact renOk (below_ok hc3) hy | exact(Nat.le_of_ble_eq_true rfl:(1:Nat)≤maxApp) | refine And.intro ?_ ?_ | intro _)
     refine Vr hG rfl ?_ ?_
     · repeat' (first | exact trivial | exact hc0 | exact hkf | exact hk0 | exact hix | exact hk1 | exact hk4 | exact hs0 | exact hsY | exact int_ok hk1 | exact int_ok (int_ok hk1) | exact Nat.succ_pos _ | exact statPiece_sm _ | exact int_ok hk4 | exact hc3 | exact below_ok hc3 | exact hy3 | exact renOk (below_ok hc3) hy | exact(Nat.le_of_ble_eq_true rfl:(1:Nat)≤maxApp) | refine And.intro ?_ ?_ | intro _)
     refine Vn hG rfl ?_
     refine⟨rfl,?_⟩
     exact dnStep hJ hm
   · have hm:¬j>0:=oFa h1
     have hE:(c3,y,t)=itF (renS (bo0 c).1.2.1 [4,15]) (bnN (bo4 c).2).toNat ((bn2 (bo4 c).2).2,(boSs c),(bn1 (bo4 c).2).1):=dnEnd hJ hm
     refine Vx (Vq ?_)
     refine Vr hG rfl ?_ ?_
     · repeat' (first | exact trivial | exact hc0 | exact hkf | exact hk0 | exact hix | exact hk1 | exact hk4 | exact hs0 | exact hsY | exact int_ok hk1 | exact int_ok (int_ok hk1) | exact Nat.succ_pos _ | exact statPiece_sm _ | exact int_ok hk4 | exact hc3 | exact below_ok hc3 | exact hy3 | exact renOk (below_ok hc3) hy | exact(Nat.le_of_ble_eq_true rfl:(1:Nat)≤maxApp) | refine And.intro ?_ ?_ | intro _)
     refine Vq (Vq ?_)
     refine Vr hG rfl ?_ ?_
     · repeat' (first | exact trivial | exact hc0 | exact hkf | exact hk0 | exact hix | exact hk1 | exact hk4 | exact hs0 | exact hsY | exact int_ok hk1 | exact int_ok (int_ok hk1) | exact Nat.succ_pos _ | exact statPiece_sm _ | exact int_ok hk4 | exact hc3 | exact below_ok hc3 | exact hy3 | exact renOk (below_ok hc3) hy | exact(Nat.le_of_ble_eq_true rfl:(1:Nat)≤maxApp) | refine And.intro ?_ ?_ | intro _)
     refine Vk rfl ?_ ?_<;>intro h2
     · refine Vr hG rfl ?_ ?_
       · repeat' (first | exact trivial | exact hc0 | exact hkf | exact hk0 | exact hix | exact hk1 | exact hk4 | exact hs0 | exact hsY | exact int_ok hk1 | exact int_ok (int_ok hk1) | exact Nat.succ_pos _ | exact statPiece_sm _ | exact int_ok hk4 | exact hc3 | exact below_ok hc3 | exact hy3 | exact renOk (below_ok hc3) hy | exact(Nat.le_of_ble_eq_true rfl:(1:Nat)≤maxApp) | refine And.intro ?_ ?_ | intro _)
       refine Vq (VrD mixed hG rfl (by kernel_rfl) (by trivial) ?_)
       refine Vc.frz 2 rfl ?_
       refine Vc.frz 3 rfl ?_
       refine Vc.frz 4 rfl ?_
       refine Vc.frz 5 rfl ?_
       refine Vt ?_
       have e:=((bothD_eq c).trans (cT h0)).trans (bnOut_1 hE h2)
       refine⟨⟨?_,trivial⟩,?_,?_,?_,?_,?_,trivial⟩
       · exact(congrArg Prod.snd e).symm
       · exact(congrArg (fun r=>r.1.1) e).symm
       · exact(congrArg (fun r=>r.1.2.1) e).symm
       · exact(congrArg (fun r=>r.1.2.2.1) e).symm
       · exact(congrArg (fun r=>r.1.2.2.2.1) e).symm
       · exact(congrArg (fun r=>r.1.2.2.2.2) e).symm
     · refine Vs (Vq (VrD mixed hG rfl (by kernel_rfl) (by trivial) ?_))
       refine Vc.frz 2 rfl ?_
       refine Vc.frz 3 rfl ?_
       refine Vc.frz 4 rfl ?_
       refine Vc.frz 5 rfl ?_
       refine Vt ?_
       have e:=((bothD_eq c).trans (cT h0)).trans (bnOut_0 hE h2)
       refine⟨⟨?_,trivial⟩,?_,?_,?_,?_,?_,trivial⟩
       · exact(congrArg Prod.snd e).symm
       · exact(congrArg (fun r=>r.1.1) e).symm
       · exact(congrArg (fun r=>r.1.2.1) e).symm
       · exact(congrArg (fun r=>r.1.2.2.1) e).symm
       · exact(congrArg (fun r=>r.1.2.2.2.1) e).symm
       · exact(congrArg (fun r=>r.1.2.2.2.2) e).symm
 · refine Vs (Vq ?_)
   refine Vr hG rfl ?_ ?_
   · repeat' (first | exact trivial | exact hc0 | exact hkf | exact hk0 | exact hix | exact hk1 | exact hk4 | exact hs0 | exact hsY | exact int_ok hk1 | exact int_ok (int_ok hk1) | exact Nat.succ_pos _ | exact statPiece_sm _ | exact int_ok hk4 | exact hc3 | exact below_ok hc3 | exact hy3 | exact renOk (below_ok hc3) hy | exact(Nat.le_of_ble_eq_true rfl:(1:Nat)≤maxApp) | refine And.intro ?_ ?_ | intro _)
   refine Vq (Vq ?_)
   refine Vr hG rfl ?_ ?_
   · repeat' (first | exact trivial | exact hc0 | exact hkf | exact hk0 | exact hix | exact hk1 | exact hk4 | exact hs0 | exact hsY | exact int_ok hk1 | exact int_ok (int_ok hk1) | exact Nat.succ_pos _ | exact statPiece_sm _ | exact int_ok hk4 | exact hc3 | exact below_ok hc3 | exact hy3 | exact renOk (below_ok hc3) hy | exact(Nat.le_of_ble_eq_true rfl:(1:Nat)≤maxApp) | refine And.intro ?_ ?_ | intro _)
   refine Vb ?_
   refine Vc.frz 12 rfl ?_
   refine Vc.frz 9 rfl ?_
   refine Vc.loopF [(0,true,.pure Y16),(12,true,.pure Y59),(15,false,.pure (.int .i64)),(16,false,.pure (.int .i64))] [2,3,4,5,6,7,8,9,10,11,13,33,88] (fun v=>dnInv (renS (bo0 c).1.2.1 [4,15]) ((bn2 (bo1 c).2).2,(boYs c),(bn1 (bo1 c).2).1) (bnN (bo1 c).2) (v.1,v.2.1,v.2.2.1) v.2.2.2.1) (fun v=>(v.2.2.2.1:Int).toNat) rfl ?_ ?_
   · exact dnStart (bnN_n _)
   rintro⟨c3,y,(t:Int),(j:Int),_⟩ hJ
   have hJ:dnInv (renS (bo0 c).1.2.1 [4,15]) ((bn2 (bo1 c).2).2,(boYs c),(bn1 (bo1 c).2).1) (bnN (bo1 c).2) (c3,y,t) j:=hJ
   have hqJ:=bnIn_P hk1 htY hJ
   have hc3:curOk c3:=hqJ.1
   have hy:tinyS y:=hqJ.2
   have hy3:=tiny_big hy
   refine Vq (Vm hG rfl ?_)
   refine Vk rfl ?_ ?_<;>intro h3
   · have hm:j>0:=oTr h3
     refine Vs (Vq (Vb (Vq ?_)))
     refine VrD mixed hG rfl (by kernel_rfl) ?_ ?_
     · repeat' (first | exact trivial | exact hc0 | exact hkf | exact hk0 | exact hix | exact hk1 | exact hk4 | exact hs0 | exact hsY | exact int_ok hk1 | exact int_ok (int_ok hk1) | exact Nat.succ_pos _ | exact statPiece_sm _ | exact int_ok hk4 | exact hc3 | exact below_ok hc3 | exact hy3 | exact renOk (below_ok hc3) hy | exact(Nat.le_of_ble_eq_true rfl:(1:Nat)≤maxApp) | refine And.intro ?_ ?_ | intro _)
     refine Vr hG rfl ?_ ?_
     · repeat' (first | exact trivial | exact hc0 | exact hkf | exact hk0 | exact hix | exact hk1 | exact hk4 | exact hs0 | exact hsY | exact int_ok hk1 | exact int_ok (int_ok hk1) | exact Nat.succ_pos _ | exact statPiece_sm _ | exact int_ok hk4 | exact hc3 | exact below_ok hc3 | exact hy3 | exact renOk (below_ok hc3) hy | exact(Nat.le_of_ble_eq_true rfl:(1:Nat)≤maxApp) | refine And.intro ?_ ?_ | intro _)
     refine Vn hG rfl ?_
     refine⟨rfl,?_⟩
     exact dnStep hJ hm
   · have hm:¬j>0:=oFa h3
     have hE:(c3,y,t)=itF (renS (bo0 c).1.2.1 [4,15]) (bnN (bo1 c).2).toNat ((bn2 (bo1 c).2).2,(boYs c),(bn1 (bo1 c).2).1):=dnEnd hJ hm
     refine Vx (Vq ?_)
     refine Vr hG rfl ?_ ?_
     · repeat' (first | exact trivial | exact hc0 | exact hkf | exact hk0 | exact hix | exact hk1 | exact hk4 | exact hs0 | exact hsY | exact int_ok hk1 | exact int_ok (int_ok hk1) | exact Nat.succ_pos _ | exact statPiece_sm _ | exact int_ok hk4 | exact hc3 | exact below_ok hc3 | exact hy3 | exact renOk (below_ok hc3) hy | exact(Nat.le_of_ble_eq_true rfl:(1:Nat)≤maxApp) | refine And.intro ?_ ?_ | intro _)
     refine Vq (Vq ?_)
     refine Vr hG rfl ?_ ?_
     · repeat' (first | exact trivial | exact hc0 | exact hkf | exact hk0 | exact hix | exact hk1 | exact hk4 | exact hs0 | exact hsY | exact int_ok hk1 | exact int_ok (int_ok hk1) | exact Nat.succ_pos _ | exact statPiece_sm _ | exact int_ok hk4 | exact hc3 | exact below_ok hc3 | exact hy3 | exact renOk (below_ok hc3) hy | exact(Nat.le_of_ble_eq_true rfl:(1:Nat)≤maxApp) | refine And.intro ?_ ?_ | intro _)
     refine Vk rfl ?_ ?_<;>intro h4
     · refine Vr hG rfl ?_ ?_
       · repeat' (first | exact trivial | exact hc0 | exact hkf | exact hk0 | exact hix | exact hk1 | exact hk4 | exact hs0 | exact hsY | exact int_ok hk1 | exact int_ok (int_ok hk1) | exact Nat.succ_pos _ | exact statPiece_sm _ | exact int_ok hk4 | exact hc3 | exact below_ok hc3 | exact hy3 | exact renOk (below_ok hc3) hy | exact(Nat.le_of_ble_eq_true rfl:(1:Nat)≤maxApp) | refine And.intro ?_ ?_ | intro _)
       refine Vq (VrD mixed hG rfl (by kernel_rfl) (by trivial) ?_)
       refine Vc.frz 2 rfl ?_
       refine Vc.frz 3 rfl ?_
       refine Vc.frz 4 rfl ?_
       refine Vc.frz 5 rfl ?_
       refine Vt ?_
       have e:=((bothD_eq c).trans (cF h0)).trans (bnOut_1 hE h4)
       refine⟨⟨?_,trivial⟩,?_,?_,?_,?_,?_,trivial⟩
       · exact(congrArg Prod.snd e).symm
       · exact(congrArg (fun r=>r.1.1) e).symm
       · exact(congrArg (fun r=>r.1.2.1) e).symm
       · exact(congrArg (fun r=>r.1.2.2.1) e).symm
       · exact(congrArg (fun r=>r.1.2.2.2.1) e).symm
       · exact(congrArg (fun r=>r.1.2.2.2.2) e).symm
     · refine Vs (Vq (VrD mixed hG rfl (by kernel_rfl) (by trivial) ?_))
       refine Vc.frz 2 rfl ?_
       refine Vc.frz 3 rfl ?_
       refine Vc.frz 4 rfl ?_
       refine Vc.frz 5 rfl ?_
       refine Vt ?_
       have e:=((bothD_eq c).trans (cF h0)).trans (bnOut_0 hE h4)
       refine⟨⟨?_,trivial⟩,?_,?_,?_,?_,?_,trivial⟩
       · exact(congrArg Prod.snd e).symm
       · exact(congrArg (fun r=>r.1.1) e).symm
       · exact(congrArg (fun r=>r.1.2.1) e).symm
       · exact(congrArg (fun r=>r.1.2.2.1) e).symm
       · exact(congrArg (fun r=>r.1.2.2.2.1) e).symm
       · exact(congrArg (fun r=>r.1.2.2.2.2) e).symm
noncomputable def F21:Fun:=⟨[.slice (.int .u8)],[.pure Y60,.pure Y67,.pure Y67,.pure Y19,.pure Y48],fun _=>True,fun x=>((bothC x.1).1,(bothC x.1).2.1,(bothC x.1).2.2.1,(bothC x.1).2.2.2.1,(bothC x.1).2.2.2.2,())⟩
theorem F21_ok:Meets Tryz.prog 21 F21:=by
 refine mZ (C:=mkCP 17 [2,3,4,5,6,7] [0,2,3,4,5,6,7] [⟨73,_,F73_ok⟩] [] [] [⟨90,_,P90_ok⟩] []) (mkCP_ok _ _ _ _ _ _ _ _) (fO _) Tryz.func21 rfl rfl rfl (by decide) rfl ?_
 rintro⟨a0,_⟩ hwf hpre ⟨⟩ hG rfl rfl
 show Vc _ _ [(0,⟨0,0,.c Z1 a0⟩)] _
 refine Vm hG rfl (Vq ?_)
 refine Vr hG rfl ?_ ?_
 · repeat' (first | exact trivial | exact newCur_ok hwf.1.1 | refine And.intro ?_ ?_ | intro _)
 refine Vq ?_
 refine VrT hG rfl ?_ ?_
 · repeat' (first | exact trivial | exact newCur_ok hwf.1.1 | refine And.intro ?_ ?_ | intro _)
 refine Vc.frz 2 rfl ?_
 refine Vc.frz 3 rfl ?_
 refine Vc.frz 4 rfl ?_
 refine Vc.frz 5 rfl ?_
 refine Vt ?_
 refine⟨?_,?_,?_,?_,?_,trivial⟩
 all_goals exact rfl
end Fw
