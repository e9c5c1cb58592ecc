/- Walks of functions of the program: what each computes. Conditions: those that each contract names. -/
import Derived.Test.YtajkcodhmabmnaaGreatW56T
import Derived.Test.YtajkcodhmabmnaaGreatW56s0
import Derived.Test.YtajkcodhmabmnaaGreatW56s1
import Derived.Test.YtajkcodhmabmnaaGreatW56s2
namespace Fw
open Go Go.Proofs
set_option linter.unusedSimpArgs false
set_option maxRecDepth 100000
noncomputable def P66:PFun:=⟨.pure Y18,[],[.pure Y65,.pure Y72,.pure Y72,.pure Y21,.pure Y53],fun x _=>curOk x,fun x _=>(bothD x).2,fun x _=>((bothD x).1.1,(bothD x).1.2.1,(bothD x).1.2.2.1,(bothD x).1.2.2.2.1,(bothD x).1.2.2.2.2,())⟩
set_option maxHeartbeats 8000000 in
theorem P66_ok:MeetsP Tryz.prog 66 P66:=by
 refine meetsP_of_vc (C:=mkCP 97 [2,3,4,5,6] [0,2,3,4,5,6,7,8,9,10,11,12,13,15,16,33,65,88] [⟨109,_,F109_ok⟩,⟨40,_,F40_ok⟩,⟨110,_,F110_ok⟩,⟨112,_,F112_ok⟩,⟨111,_,F111_ok⟩,⟨114,_,F114_ok⟩] [] [] [⟨96,_,P96_ok⟩,⟨108,_,P108_ok⟩,⟨43,_,P43_ok⟩,⟨57,_,P57_ok⟩,⟨38,_,P38_ok⟩,⟨113,_,P113_ok⟩] [0]) (mkCP_ok _ _ _ _ _ _ _ _) (fO _) Tryz.func66 rfl rfl rfl (by decide) rfl rfl rfl ?_ rfl
 rintro c ⟨_⟩ hwc hwf hpre ⟨⟩ hG rfl rfl
 show Vc _ _ [(0,⟨0,0,.c (.ref Z22) c⟩)] _
 have hc0:curOk c:=hpre
 have hkf:=frameD_ok hc0
 have hk0:=(bo0_P hc0).2.1
 have hix:=boIdx hc0
 have hk1:=bo1_ok hc0
 have hk4:=bo4_ok hc0
 have htY:=boYs_tiny hc0
 have htS:=boSs_tiny hc0
 have hsY:=tiny_big htY
 have hs0:=sm_up (show 64≤big20 by decide) _ _ ((bo0_P hc0).1.1.1.2 _ (getD_mem hix (dflt TStrand)))
 refine Vm hG rfl (Vq ?_)
 refine Vr hG rfl ?_ ?_
 · repeat' (first | exact trivial | exact hc0 | exact hkf | exact hk0 | exact hix | exact hk1 | exact hk4 | exact hs0 | exact hsY | exact int_ok hk1 | exact int_ok (int_ok hk1) | exact Nat.succ_pos _ | exact statPiece_sm _ | exact int_ok hk4 | exact hc3 | exact below_ok hc3 | exact hy3 | exact renOk (below_ok hc3) hy | exact(Nat.le_of_ble_eq_true rfl:(1:Nat)≤maxApp) | refine And.intro ?_ ?_ | intro _)
 refine Vq ?_
 refine VrT hG rfl ?_ ?_
 · repeat' (first | exact trivial | exact hc0 | exact hkf | exact hk0 | exact hix | exact hk1 | exact hk4 | exact hs0 | exact hsY | exact int_ok hk1 | exact int_ok (int_ok hk1) | exact Nat.succ_pos _ | exact statPiece_sm _ | exact int_ok hk4 | exact hc3 | exact below_ok hc3 | exact hy3 | exact renOk (below_ok hc3) hy | exact(Nat.le_of_ble_eq_true rfl:(1:Nat)≤maxApp) | refine And.intro ?_ ?_ | intro _)
 refine Vm hG rfl (Vq ?_)
 refine Vr hG rfl ?_ ?_
 · repeat' (first | exact trivial | exact hc0 | exact hkf | exact hk0 | exact hix | exact hk1 | exact hk4 | exact hs0 | exact hsY | exact int_ok hk1 | exact int_ok (int_ok hk1) | exact Nat.succ_pos _ | exact statPiece_sm _ | exact int_ok hk4 | exact hc3 | exact below_ok hc3 | exact hy3 | exact renOk (below_ok hc3) hy | exact(Nat.le_of_ble_eq_true rfl:(1:Nat)≤maxApp) | refine And.intro ?_ ?_ | intro _)
 refine Vm hG rfl (Vq (Vq ?_))
 refine Vr hG rfl ?_ ?_
 · repeat' (first | exact trivial | exact hc0 | exact hkf | exact hk0 | exact hix | exact hk1 | exact hk4 | exact hs0 | exact hsY | exact int_ok hk1 | exact int_ok (int_ok hk1) | exact Nat.succ_pos _ | exact statPiece_sm _ | exact int_ok hk4 | exact hc3 | exact below_ok hc3 | exact hy3 | exact renOk (below_ok hc3) hy | exact(Nat.le_of_ble_eq_true rfl:(1:Nat)≤maxApp) | refine And.intro ?_ ?_ | intro _)
 refine Vk rfl ?_ ?_<;>intro h0
 · refine Vq ?_
   refine VrD mixed hG rfl (by kernel_rfl) ?_ ?_
   · repeat' (first | exact trivial | exact hc0 | exact hkf | exact hk0 | exact hix | exact hk1 | exact hk4 | exact hs0 | exact hsY | exact int_ok hk1 | exact int_ok (int_ok hk1) | exact Nat.succ_pos _ | exact statPiece_sm _ | exact int_ok hk4 | exact hc3 | exact below_ok hc3 | exact hy3 | exact renOk (below_ok hc3) hy | exact(Nat.le_of_ble_eq_true rfl:(1:Nat)≤maxApp) | refine And.intro ?_ ?_ | intro _)
   refine VrL mixed hG rfl (by kernel_rfl) ?_ ?_
   · repeat' (first | exact trivial | exact hc0 | exact hkf | exact hk0 | exact hix | exact hk1 | exact hk4 | exact hs0 | exact hsY | exact int_ok hk1 | exact int_ok (int_ok hk1) | exact Nat.succ_pos _ | exact statPiece_sm _ | exact int_ok hk4 | exact hc3 | exact below_ok hc3 | exact hy3 | exact renOk (below_ok hc3) hy | exact(Nat.le_of_ble_eq_true rfl:(1:Nat)≤maxApp) | refine And.intro ?_ ?_ | intro _)
   refine Vq ?_
   refine Vr hG rfl ?_ ?_
   · repeat' (first | exact trivial | exact hc0 | exact hkf | exact hk0 | exact hix | exact hk1 | exact hk4 | exact hs0 | exact hsY | exact int_ok hk1 | exact int_ok (int_ok hk1) | exact Nat.succ_pos _ | exact statPiece_sm _ | exact int_ok hk4 | exact hc3 | exact below_ok hc3 | exact hy3 | exact renOk (below_ok hc3) hy | exact(Nat.le_of_ble_eq_true rfl:(1:Nat)≤maxApp) | refine And.intro ?_ ?_ | intro _)
   refine Vq (Vq ?_)
   refine Vr hG rfl ?_ ?_
   · repeat' (first | exact trivial | exact hc0 | exact hkf | exact hk0 | exact hix | exact hk1 | exact hk4 | exact hs0 | exact hsY | exact int_ok hk1 | exact int_ok (int_ok hk1) | exact Nat.succ_pos _ | exact statPiece_sm _ | exact int_ok hk4 | exact hc3 | exact below_ok hc3 | exact hy3 | exact renOk (below_ok hc3) hy | exact(Nat.le_of_ble_eq_true rfl:(1:Nat)≤maxApp) | refine And.intro ?_ ?_ | intro _)
   refine Vb ?_
   refine Vc.frz 12 rfl ?_
   refine Vc.frz 9 rfl ?_
   refine Vc.loopF [(0,true,.pure Y18),(12,true,.pure Y64),(15,false,.pure (.int .i64)),(16,false,.pure (.int .i64))] [2,3,4,5,6,7,8,9,10,11,13,33,88] (fun v=>dnInv (renS (bo0 c).1.2.1 [4,15]) ((bn2 (bo4 c).2).2,(boSs c),(bn1 (bo4 c).2).1) (bnN (bo4 c).2) (v.1,v.2.1,v.2.2.1) v.2.2.2.1) (fun v=>(v.2.2.2.1:Int).toNat) rfl ?_ ?_
   · exact dnStart (bnN_n _)
   rintro⟨c3,y,(t:Int),(j:Int),_⟩ hJ
   have hJ:dnInv (renS (bo0 c).1.2.1 [4,15]) ((bn2 (bo4 c).2).2,(boSs c),(bn1 (bo4 c).2).1) (bnN (bo4 c).2) (c3,y,t) j:=hJ
   have hqJ:=bnIn_P hk4 htS hJ
   have hc3:curOk c3:=hqJ.1
   have hy:tinyS y:=hqJ.2
   have hy3:=tiny_big hy
   refine Vq (Vm hG rfl ?_)
   refine Vk rfl ?_ ?_<;>intro h1
   · have hm:j>0:=oTr h1
     refine Vs (Vq (Vb (Vq ?_)))
     refine VrD mixed hG rfl (by kernel_rfl) ?_ ?_
     · repeat' (first | exact trivial | exact hc0 | exact hkf | exact hk0 | exact hix | exact hk1 | exact hk4 | exact hs0 | exact hsY | exact int_ok hk1 | exact int_ok (int_ok hk1) | exact Nat.succ_pos _ | exact statPiece_sm _ | exact int_ok hk4 | exact hc3 | exact below_ok hc3 | exact hy3 | exact renOk (below_ok hc3) hy | exact(Nat.le_of_ble_eq_true rfl:(1:Nat)≤maxApp) | refine And.intro ?_ ?_ | intro _)
     refine Vr hG rfl ?_ ?_
     · repeat' (first | exact trivial | exact hc0 | exact hkf | exact hk0 | exact hix | exact hk1 | exact hk4 | exact hs0 | exact hsY | exact int_ok hk1 | exact int_ok (int_ok hk1) | exact Nat.succ_pos _ | exact statPiece_sm _ | exact int_ok hk4 | exact hc3 | exact below_ok hc3 | exact hy3 | exact renOk (below_ok hc3) hy | exact(Nat.le_of_ble_eq_true rfl:(1:Nat)≤maxApp) | refine And.intro ?_ ?_ | intro _)
     refine Vn hG rfl ?_
     refine⟨rfl,?_⟩
     exact dnStep hJ hm
   · have hm:¬j>0:=oFa h1
     have hE:(c3,y,t)=itF (renS (bo0 c).1.2.1 [4,15]) (bnN (bo4 c).2).toNat ((bn2 (bo4 c).2).2,(boSs c),(bn1 (bo4 c).2).1):=dnEnd hJ hm
     refine Vx (Vq ?_)
     refine Vr hG rfl ?_ ?_
     · repeat' (first | exact trivial | exact hc0 | exact hkf | exact hk0 | exact hix | exact hk1 | exact hk4 | exact hs0 | exact hsY | exact int_ok hk1 | exact int_ok (int_ok hk1) | exact Nat.succ_pos _ | exact statPiece_sm _ | exact int_ok hk4 | exact hc3 | exact below_ok hc3 | exact hy3 | exact renOk (below_ok hc3) hy | exact(Nat.le_of_ble_eq_true rfl:(1:Nat)≤maxApp) | refine And.intro ?_ ?_ | intro _)
     refine Vq (Vq ?_)
     refine Vr hG rfl ?_ ?_
     · repeat' (first | exact trivial | exact hc0 | exact hkf | exact hk0 | exact hix | exact hk1 | exact hk4 | exact hs0 | exact hsY | exact int_ok hk1 | exact int_ok (int_ok hk1) | exact Nat.succ_pos _ | exact statPiece_sm _ | exact int_ok hk4 | exact hc3 | exact below_ok hc3 | exact hy3 | exact renOk (below_ok hc3) hy | exact(Nat.le_of_ble_eq_true rfl:(1:Nat)≤maxApp) | refine And.intro ?_ ?_ | intro _)
     refine Vk rfl ?_ ?_<;>intro h2
     · refine Vr hG rfl ?_ ?_
       · repeat' (first | exact trivial | exact hc0 | exact hkf | exact hk0 | exact hix | exact hk1 | exact hk4 | exact hs0 | exact hsY | exact int_ok hk1 | exact int_ok (int_ok hk1) | exact Nat.succ_pos _ | exact statPiece_sm _ | exact int_ok hk4 | exact hc3 | exact below_ok hc3 | exact hy3 | exact renOk (below_ok hc3) hy | exact(Nat.le_of_ble_eq_true rfl:(1:Nat)≤maxApp) | refine And.intro ?_ ?_ | intro _)
       refine Vq (VrD mixed hG rfl (by kernel_rfl) (by trivial) ?_)
       refine Vc.frz 2 rfl ?_
       refine Vc.frz 3 rfl ?_
       refine Vc.frz 4 rfl ?_
       refine Vc.frz 5 rfl ?_
       refine Vt ?_
       have e:=((bothD_eq c).trans (cT h0)).trans (bnOut_1 hE h2)
       refine⟨⟨?_,trivial⟩,?_,?_,?_,?_,?_,trivial⟩
       · exact(congrArg Prod.snd e).symm
       · exact(congrArg (fun r=>r.1.1) e).symm
       · exact(congrArg (fun r=>r.1.2.1) e).symm
       · exact(congrArg (fun r=>r.1.2.2.1) e).symm
       · exact(congrArg (fun r=>r.1.2.2.2.1) e).symm
       · exact(congrArg (fun r=>r.1.2.2.2.2) e).symm
     · refine Vs (Vq (VrD mixed hG rfl (by kernel_rfl) (by trivial) ?_))
       refine Vc.frz 2 rfl ?_
       refine Vc.frz 3 rfl ?_
       refine Vc.frz 4 rfl ?_
       refine Vc.frz 5 rfl ?_
       refine Vt ?_
       have e:=((bothD_eq c).trans (cT h0)).trans (bnOut_0 hE h2)
       refine⟨⟨?_,trivial⟩,?_,?_,?_,?_,?_,trivial⟩
       · exact(congrArg Prod.snd e).symm
       · exact(congrArg (fun r=>r.1.1) e).symm
       · exact(congrArg (fun r=>r.1.2.1) e).symm
       · exact(congrArg (fun r=>r.1.2.2.1) e).symm
       · exact(congrArg (fun r=>r.1.2.2.2.1) e).symm
       · exact(congrArg (fun r=>r.1.2.2.2.2) e).symm
 · refine Vs (Vq ?_)
   refine Vr hG rfl ?_ ?_
   · repeat' (first | exact trivial | exact hc0 | exact hkf | exact hk0 | exact hix | exact hk1 | exact hk4 | exact hs0 | exact hsY | exact int_ok hk1 | exact int_ok (int_ok hk1) | exact Nat.succ_pos _ | exact statPiece_sm _ | exact int_ok hk4 | exact hc3 | exact below_ok hc3 | exact hy3 | exact renOk (below_ok hc3) hy | exact(Nat.le_of_ble_eq_true rfl:(1:Nat)≤maxApp) | refine And.intro ?_ ?_ | intro _)
   refine Vq (Vq ?_)
   refine Vr hG rfl ?_ ?_
   · repeat' (first | exact trivial | exact hc0 | exact hkf | exact hk0 | exact hix | exact hk1 | exact hk4 | exact hs0 | exact hsY | exact int_ok hk1 | exact int_ok (int_ok hk1) | exact Nat.succ_pos _ | exact statPiece_sm _ | exact int_ok hk4 | exact hc3 | exact below_ok hc3 | exact hy3 | exact renOk (below_ok hc3) hy | exact(Nat.le_of_ble_eq_true rfl:(1:Nat)≤maxApp) | refine And.intro ?_ ?_ | intro _)
   refine Vb ?_
   refine Vc.frz 12 rfl ?_
   refine Vc.frz 9 rfl ?_
   refine Vc.loopF [(0,true,.pure Y18),(12,true,.pure Y64),(15,false,.pure (.int .i64)),(16,false,.pure (.int .i64))] [2,3,4,5,6,7,8,9,10,11,13,33,88] (fun v=>dnInv (renS (bo0 c).1.2.1 [4,15]) ((bn2 (bo1 c).2).2,(boYs c),(bn1 (bo1 c).2).1) (bnN (bo1 c).2) (v.1,v.2.1,v.2.2.1) v.2.2.2.1) (fun v=>(v.2.2.2.1:Int).toNat) rfl ?_ ?_
   · exact dnStart (bnN_n _)
   rintro⟨c3,y,(t:Int),(j:Int),_⟩ hJ
   have hJ:dnInv (renS (bo0 c).1.2.1 [4,15]) ((bn2 (bo1 c).2).2,(boYs c),(bn1 (bo1 c).2).1) (bnN (bo1 c).2) (c3,y,t) j:=hJ
   have hqJ:=bnIn_P hk1 htY hJ
   have hc3:curOk c3:=hqJ.1
   have hy:tinyS y:=hqJ.2
   have hy3:=tiny_big hy
   refine Vq (Vm hG rfl ?_)
   refine Vk rfl ?_ ?_<;>intro h3
   · have hm:j>0:=oTr h3
     refine Vs (Vq (Vb (Vq ?_)))
     refine VrD mixed hG rfl (by kernel_rfl) ?_ ?_
     · repeat' (first | exact trivial | exact hc0 | exact hkf | exact hk0 | exact hix | exact hk1 | exact hk4 | exact hs0 | exact hsY | exact int_ok hk1 | exact int_ok (int_ok hk1) | exact Nat.succ_pos _ | exact statPiece_sm _ | exact int_ok hk4 | exact hc3 | exact below_ok hc3 | exact hy3 | exact renOk (below_ok hc3) hy | exact(Nat.le_of_ble_eq_true rfl:(1:Nat)≤maxApp) | refine And.intro ?_ ?_ | intro _)
     refine Vr hG rfl ?_ ?_
     · repeat' (first | exact trivial | exact hc0 | exact hkf | exact hk0 | exact hix | exact hk1 | exact hk4 | exact hs0 | exact hsY | exact int_ok hk1 | exact int_ok (int_ok hk1) | exact Nat.succ_pos _ | exact statPiece_sm _ | exact int_ok hk4 | exact hc3 | exact below_ok hc3 | exact hy3 | exact renOk (below_ok hc3) hy | exact(Nat.le_of_ble_eq_true rfl:(1:Nat)≤maxApp) | refine And.intro ?_ ?_ | intro _)
     refine Vn hG rfl ?_
     refine⟨rfl,?_⟩
     exact dnStep hJ hm
   · have hm:¬j>0:=oFa h3
     have hE:(c3,y,t)=itF (renS (bo0 c).1.2.1 [4,15]) (bnN (bo1 c).2).toNat ((bn2 (bo1 c).2).2,(boYs c),(bn1 (bo1 c).2).1):=dnEnd hJ hm
     refine Vx (Vq ?_)
     refine Vr hG rfl ?_ ?_
     · repeat' (first | exact trivial | exact hc0 | exact hkf | exact hk0 | exact hix | exact hk1 | exact hk4 | exact hs0 | exact hsY | exact int_ok hk1 | exact int_ok (int_ok hk1) | exact Nat.succ_pos _ | exact statPiece_sm _ | exact int_ok hk4 | exact hc3 | exact below_ok hc3 | exact hy3 | exact renOk (below_ok hc3) hy | exact(Nat.le_of_ble_eq_true rfl:(1:Nat)≤maxApp) | refine And.intro ?_ ?_ | intro _)
     refine Vq (Vq ?_)
     refine Vr hG rfl ?_ ?_
     · repeat' (first | exact trivial | exact hc0 | exact hkf | exact hk0 | exact hix | exact hk1 | exact hk4 | exact hs0 | exact hsY | exact int_ok hk1 | exact int_ok (int_ok hk1) | exact Nat.succ_pos _ | exact statPiece_sm _ | exact int_ok hk4 | exact hc3 | exact below_ok hc3 | exact hy3 | exact renOk (below_ok hc3) hy | exact(Nat.le_of_ble_eq_true rfl:(1:Nat)≤maxApp) | refine And.intro ?_ ?_ | intro _)
     refine Vk rfl ?_ ?_<;>intro h4
     · refine Vr hG rfl ?_ ?_
       · repeat' (first | exact trivial | exact hc0 | exact hkf | exact hk0 | exact hix | exact hk1 | exact hk4 | exact hs0 | exact hsY | exact int_ok hk1 | exact int_ok (int_ok hk1) | exact Nat.succ_pos _ | exact statPiece_sm _ | exact int_ok hk4 | exact hc3 | exact below_ok hc3 | exact hy3 | exact renOk (below_ok hc3) hy | exact(Nat.le_of_ble_eq_true rfl:(1:Nat)≤maxApp) | refine And.intro ?_ ?_ | intro _)
       refine Vq (VrD mixed hG rfl (by kernel_rfl) (by trivial) ?_)
       refine Vc.frz 2 rfl ?_
       refine Vc.frz 3 rfl ?_
       refine Vc.frz 4 rfl ?_
       refine Vc.frz 5 rfl ?_
       refine Vt ?_
       have e:=((bothD_eq c).trans (cF h0)).trans (bnOut_1 hE h4)
       refine⟨⟨?_,trivial⟩,?_,?_,?_,?_,?_,trivial⟩
       · exact(congrArg Prod.snd e).symm
       · exact(congrArg (fun r=>r.1.1) e).symm
       · exact(congrArg (fun r=>r.1.2.1) e).symm
       · exact(congrArg (fun r=>r.1.2.2.1) e).symm
       · exact(congrArg (fun r=>r.1.2.2.2.1) e).symm
       · exact(congrArg (fun r=>r.1.2.2.2.2) e).symm
     · refine Vs (Vq (VrD mixed hG rfl (by kernel_rfl) (by trivial) ?_))
       refine Vc.frz 2 rfl ?_
       refine Vc.frz 3 rfl ?_
       refine Vc.frz 4 rfl ?_
       refine Vc.frz 5 rfl ?_
       refine Vt ?_
       have e:=((bothD_eq c).trans (cF h0)).trans (bnOut_0 hE h4)
       refine⟨⟨?_,trivial⟩,?_,?_,?_,?_,?_,trivial⟩
       · exact(congrArg Prod.snd e).symm
       · exact(congrArg (fun r=>r.1.1) e).symm
       · exact(congrArg (fun r=>r.1.2.1) e).symm
       · exact(congrArg (fun r=>r.1.2.2.1) e).symm
       · exact(congrArg (fun r=>r.1.2.2.2.1) e).symm
       · exact(congrArg (fun r=>r.1.2.2.2.2) e).symm
noncomputable def F28:Fun:=⟨[.slice (.int .u8)],[.pure Y65,.pure Y72,.pure Y72,.pure Y21,.pure Y53],fun _=>True,fun x=>((bothC x.1).1,(bothC x.1).2.1,(bothC x.1).2.2.1,(bothC x.1).2.2.2.1,(bothC x.1).2.2.2.2,())⟩
theorem F28_ok:Meets Tryz.prog 28 F28:=by
 refine mZ (C:=mkCP 17 [2,3,4,5,6,7] [0,2,3,4,5,6,7] [⟨37,_,F37_ok⟩] [] [] [⟨66,_,P66_ok⟩] []) (mkCP_ok _ _ _ _ _ _ _ _) (fO _) Tryz.func28 rfl rfl rfl (by decide) rfl ?_
 rintro⟨a0,_⟩ hwf hpre ⟨⟩ hG rfl rfl
 show Vc _ _ [(0,⟨0,0,.c Z1 a0⟩)] _
 refine Vm hG rfl (Vq ?_)
 refine Vr hG rfl ?_ ?_
 · repeat' (first | exact trivial | exact newCur_ok hwf.1.1 | refine And.intro ?_ ?_ | intro _)
 refine Vq ?_
 refine VrT hG rfl ?_ ?_
 · repeat' (first | exact trivial | exact newCur_ok hwf.1.1 | refine And.intro ?_ ?_ | intro _)
 refine Vc.frz 2 rfl ?_
 refine Vc.frz 3 rfl ?_
 refine Vc.frz 4 rfl ?_
 refine Vc.frz 5 rfl ?_
 refine Vt ?_
 refine⟨?_,?_,?_,?_,?_,trivial⟩
 all_goals exact rfl
noncomputable def F118:Fun:=⟨[.pair Y67 Y39],[.pair Z71 Z41],fun x=>Sm big20 Y72 x.1,fun x=>(id x.1,())⟩
theorem F118_ok:Meets Tryz.prog 118 F118:=by
 refine mZ (C:=mkC 45 [2] [0,1,2,3,4,5,11,29] [⟨109,_,F109_ok⟩]) (mO _ _ _ _) (fO _) Tryz.func118 rfl rfl rfl (by decide) rfl ?_
 rintro⟨a0,_⟩ hwf hpre ⟨⟩ hG rfl rfl
 show Vc _ _ [(0,⟨0,0,.c Z73 a0⟩)] _
 have hS:List.length a0.1≤big20∧∀ x∈a0.1,Sm big20 Y64 x:=hpre.1
 have hT:List.length a0.2≤big20∧∀ x∈a0.2,Sm big20 (.slice TStamp) x:=hpre.2
 have hb:List.length a0.1≤bigLen:=hwf.1.1.1
 have hb2:List.length a0.2≤bigLen:=hwf.1.2.1
 refine Vm hG rfl (Vm hG rfl (Vq (Vm hG rfl ?_)))
 refine Vb ?_
 refine Vc.loopF [(3,true,.pair Z71 Z41),(4,false,.pure (.int .i64))] [0,1,2,5,29] (fun v=>v.1.2=[]∧cpInv a0.1 v.1.1 v.2.1) (fun v=>((List.length a0.1:Int)-v.2.1).toNat) rfl ?_ ?_
 · exact⟨rfl,cpStart⟩
 rintro⟨ev,(i:Int),_⟩ hI
 have hI:ev.2=[]∧cpInv a0.1 ev.1 i:=hI
 refine Vq (Vm hG rfl ?_)
 refine Vk rfl ?_ ?_<;>intro h0
 · have hl:i<(List.length a0.1:Int):=oTr h0
   have r1:=cpRange hI.2 hl
   have hE:=hS.2 _ (getD_mem r1 (dflt Y64))
   have hA:=cpLen hI.2 hl hS.1
   refine Vs (Vq (Vb ?_))
   refine VrD mixed hG rfl (by kernel_rfl) ?_ ?_
   · exact⟨r1,hE,hA⟩
   refine Vn hG rfl ?_
   refine⟨rfl,?_⟩
   have e:=cpStep (d:=dflt Y64) hI.2 hl hb rfl
   exact⟨⟨hI.1,e.1⟩,e.2⟩
 · have hl:¬i<(List.length a0.1:Int):=oFa h0
   have eI:=cpEnd hI.2 hl
   refine Vx (Vq (Vm hG rfl (Vb ?_)))
   refine Vc.loopF [(3,true,.pair Z71 Z41),(5,false,.pure (.int .i64))] [0,1,2,4,11] (fun v=>v.1.1=a0.1∧cpInv a0.2 v.1.2 v.2.1) (fun v=>((List.length a0.2:Int)-v.2.1).toNat) rfl ?_ ?_
   · exact⟨eI,by rw[hI.1];exact cpStart⟩
   rintro⟨ev2,(j:Int),_⟩ hJ
   have hJ:ev2.1=a0.1∧cpInv a0.2 ev2.2 j:=hJ
   refine Vq (Vm hG rfl ?_)
   refine Vk rfl ?_ ?_<;>intro h1
   · have hj:j<(List.length a0.2:Int):=oTr h1
     have r2:=cpRange hJ.2 hj
     have hF:List.length (List.getD a0.2 j.toNat (dflt (.slice TStamp)))≤big20:=(hT.2 _ (getD_mem r2 (dflt (.slice TStamp)))).1
     have hF4:List.length (List.getD a0.2 j.toNat (dflt (.slice TStamp)))≤4000000:=Nat.le_trans hF (by decide)
     have hA2:=cpLen hJ.2 hj hT.1
     refine Vs (Vq (Vb ?_))
     refine VrD mixed hG rfl (by kernel_rfl) ?_ ?_
     · exact⟨r2,appOk hF,hA2⟩
     refine Vn hG rfl ?_
     refine⟨rfl,?_⟩
     have e:=cpStep (d:=dflt (.slice TStamp)) hJ.2 hj hb2 rfl
     exact⟨⟨hJ.1,e.1⟩,e.2⟩
   · have hj:¬j<(List.length a0.2:Int):=oFa h1
     refine Vx (Vm hG rfl (Vt ?_))
     refine⟨?_,trivial⟩
     exact Prod.ext hJ.1 (cpEnd hJ.2 hj)
noncomputable def F203:Fun:=⟨[.pair (.int .i64) Y55,.pair (.int .i64) Y55],[.pure (.bool)],fun _=>True,fun x=>(eqC x.1 x.2.1,())⟩
theorem F203_ok:Meets Tryz.prog 203 F203:=by
 refine mZ (C:=mkC 80 [4] [0,1,2,3,4,5,6,43,48,61,66,79] []) (mO _ _ _ _) (fO _) Tryz.func203 rfl rfl rfl (by decide) rfl ?_
 rintro⟨a0,a1,_⟩ hwf hpre ⟨⟩ hG rfl rfl
 show Vc _ _ [(0,⟨0,0,.c Z60 a0⟩),(1,⟨0,0,.c Z60 a1⟩)] _
 have hb0:List.length a0.2.2.2.1≤bigLen:=hwf.1.2.2.2.1.1
 have hb1:List.length a0.2.2.2.2≤bigLen:=hwf.1.2.2.2.2.1
 refine Vm hG rfl (Vq (Vm hG rfl ?_))
 refine Vk rfl ?_ ?_<;>intro h0
 · refine Vm hG rfl (Vt ?_)
   refine⟨?_,trivial⟩
   refine eqC_no (fun e=>?_)
   have e:a0=a1:=e
   have g:(pick2 (pick2 (pick2 (pick2 (a0.1 != a1.1) true (a0.2.1 != a1.2.1)) true (a0.2.2.1 != a1.2.2.1)) true ((List.length a0.2.2.2.1:Int) != (List.length a1.2.2.2.1:Int))) true ((List.length a0.2.2.2.2:Int) != (List.length a1.2.2.2.2:Int)))=true:=h0
   subst e
   exact(noOr (noOr (noOr (noOr bself bself) bself) bself) bself) g
 · have g0:(pick2 (pick2 (pick2 (pick2 (a0.1 != a1.1) true (a0.2.1 != a1.2.1)) true (a0.2.2.1 != a1.2.2.1)) true ((List.length a0.2.2.2.1:Int) != (List.length a1.2.2.2.1:Int))) true ((List.length a0.2.2.2.2:Int) != (List.length a1.2.2.2.2:Int)))=false:=h0
   have f0_0:a0.1=a1.1:=(bneI (orF (orF (orF (orF g0).1).1).1).1)
   have f0_1:a0.2.1=a1.2.1:=(bneI (orF (orF (orF (orF g0).1).1).1).2)
   have f0_2:a0.2.2.1=a1.2.2.1:=(bneI (orF (orF (orF g0).1).1).2)
   have f0_3:List.length a0.2.2.2.1=List.length a1.2.2.2.1:=(lenEq (orF (orF g0).1).2)
   have f0_4:List.length a0.2.2.2.2=List.length a1.2.2.2.2:=(lenEq (orF g0).2)
   refine Vs (Vq (Vm hG rfl (Vb ?_)))
   refine Vc.loopF [(5,false,.pure (.int .i64))] [0,1,2,3,6,43,66,79] (fun v=>eqInv a0.2.2.2.1 a1.2.2.2.1 v.1) (fun v=>((List.length a0.2.2.2.1:Int)-v.1).toNat) rfl ?_ ?_
   · exact eqStart f0_3
   rintro⟨(i0:Int),_⟩ hI0
   have hI0:eqInv a0.2.2.2.1 a1.2.2.2.1 i0:=hI0
   refine Vq (Vm hG rfl ?_)
   refine Vk rfl ?_ ?_<;>intro h1
   · have hl0:i0<(List.length a0.2.2.2.1:Int):=oTr h1
     refine Vs (Vq (Vb (Vq ?_)))
     refine VrD mixed hG rfl (by kernel_rfl) ?_ ?_
     · exact⟨(eqRange hI0 hl0).1,(eqRange hI0 hl0).2⟩
     refine Vk rfl ?_ ?_<;>intro h2
     · refine Vm hG rfl (Vt ?_)
       refine⟨?_,trivial⟩
       refine eqC_no (fun e=>?_)
       have e:a0=a1:=e
       have g:(!(El.eq Y2 (List.getD a0.2.2.2.1 i0.toNat (dflt Y2)) (List.getD a1.2.2.2.1 i0.toNat (dflt Y2))))=true:=h2
       subst e
       exact(eself rfl) g
     · have g2:(!(El.eq Y2 (List.getD a0.2.2.2.1 i0.toNat (dflt Y2)) (List.getD a1.2.2.2.1 i0.toNat (dflt Y2))))=false:=h2
       have f2_0:(List.getD a0.2.2.2.1 i0.toNat (dflt Y2))=(List.getD a1.2.2.2.1 i0.toNat (dflt Y2)):=(notE g2 rfl)
       have s0:(List.getD a0.2.2.2.1 i0.toNat (dflt Y2))=(List.getD a1.2.2.2.1 i0.toNat (dflt Y2)):=f2_0
       refine Vs (Vn hG rfl ?_)
       refine⟨rfl,?_⟩
       exact⟨eqStep (d:=dflt Y2) hI0 hl0 hb0 s0,(upStep hI0.1 hl0 hb0).2.2⟩
   · have hl0:¬i0<(List.length a0.2.2.2.1:Int):=oFa h1
     have e0:a0.2.2.2.1=a1.2.2.2.1:=eqEnd hI0 hl0
     refine Vx (Vq (Vm hG rfl (Vb ?_)))
     refine Vc.loopF [(6,false,.pure (.int .i64))] [0,1,2,3,5,43,48,61] (fun v=>eqInv a0.2.2.2.2 a1.2.2.2.2 v.1) (fun v=>((List.length a0.2.2.2.2:Int)-v.1).toNat) rfl ?_ ?_
     · exact eqStart f0_4
     rintro⟨(i1:Int),_⟩ hI1
     have hI1:eqInv a0.2.2.2.2 a1.2.2.2.2 i1:=hI1
     refine Vq (Vm hG rfl ?_)
     refine Vk rfl ?_ ?_<;>intro h3
     · have hl1:i1<(List.length a0.2.2.2.2:Int):=oTr h3
       refine Vs (Vq (Vb (Vq ?_)))
       refine VrD mixed hG rfl (by kernel_rfl) ?_ ?_
       · exact⟨(eqRange hI1 hl1).1,(eqRange hI1 hl1).2⟩
       refine Vk rfl ?_ ?_<;>intro h4
       · refine Vm hG rfl (Vt ?_)
         refine⟨?_,trivial⟩
         refine eqC_no (fun e=>?_)
         have e:a0=a1:=e
         have g:(!(El.eq Y34 (List.getD a0.2.2.2.2 i1.toNat (dflt Y34)) (List.getD a1.2.2.2.2 i1.toNat (dflt Y34))))=true:=h4
         subst e
         exact(eself rfl) g
       · have g4:(!(El.eq Y34 (List.getD a0.2.2.2.2 i1.toNat (dflt Y34)) (List.getD a1.2.2.2.2 i1.toNat (dflt Y34))))=false:=h4
         have f4_0:(List.getD a0.2.2.2.2 i1.toNat (dflt Y34))=(List.getD a1.2.2.2.2 i1.toNat (dflt Y34)):=(notE g4 rfl)
         have s1:(List.getD a0.2.2.2.2 i1.toNat (dflt Y34))=(List.getD a1.2.2.2.2 i1.toNat (dflt Y34)):=f4_0
         refine Vs (Vn hG rfl ?_)
         refine⟨rfl,?_⟩
         exact⟨eqStep (d:=dflt Y34) hI1 hl1 hb1 s1,(upStep hI1.1 hl1 hb1).2.2⟩
     · have hl1:¬i1<(List.length a0.2.2.2.2:Int):=oFa h3
       have e1:a0.2.2.2.2=a1.2.2.2.2:=eqEnd hI1 hl1
       refine Vx (Vm hG rfl (Vt ?_))
       refine⟨?_,trivial⟩
       exact eqC_yes (Prod.ext f0_0 (Prod.ext f0_1 (Prod.ext f0_2 (Prod.ext e0 e1))))
noncomputable def F119:Fun:=⟨[.pair Y25 Y61,.pair Y25 Y61],[.pure (.bool)],fun _=>True,fun x=>(eqC x.1 x.2.1,())⟩
theorem F119_ok:Meets Tryz.prog 119 F119:=by
 refine mZ (C:=mkC 61 [4] [0,1,2,3,4,5,6,22,27,41,46,60] [⟨202,_,F202_ok⟩,⟨203,_,F203_ok⟩]) (mO _ _ _ _) (fO _) Tryz.func119 rfl rfl rfl (by decide) rfl ?_
 rintro⟨a0,a1,_⟩ hwf hpre ⟨⟩ hG rfl rfl
 show Vc _ _ [(0,⟨0,0,.c Z66 a0⟩),(1,⟨0,0,.c Z66 a1⟩)] _
 have hb0:List.length a0.1≤bigLen:=hwf.1.1.1
 have hb1:List.length a0.2≤bigLen:=hwf.1.2.1
 refine Vm hG rfl (Vq (Vm hG rfl ?_))
 refine Vk rfl ?_ ?_<;>intro h0
 · refine Vm hG rfl (Vt ?_)
   refine⟨?_,trivial⟩
   refine eqC_no (fun e=>?_)
   have e:a0=a1:=e
   have g:(pick2 ((List.length a0.1:Int) != (List.length a1.1:Int)) true ((List.length a0.2:Int) != (List.length a1.2:Int)))=true:=h0
   subst e
   exact(noOr bself bself) g
 · have g0:(pick2 ((List.length a0.1:Int) != (List.length a1.1:Int)) true ((List.length a0.2:Int) != (List.length a1.2:Int)))=false:=h0
   have f0_0:List.length a0.1=List.length a1.1:=(lenEq (orF g0).1)
   have f0_1:List.length a0.2=List.length a1.2:=(lenEq (orF g0).2)
   refine Vs (Vq (Vm hG rfl (Vb ?_)))
   refine Vc.loopF [(5,false,.pure (.int .i64))] [0,1,2,3,6,22,46,60] (fun v=>eqInv a0.1 a1.1 v.1) (fun v=>((List.length a0.1:Int)-v.1).toNat) rfl ?_ ?_
   · exact eqStart f0_0
   rintro⟨(i0:Int),_⟩ hI0
   have hI0:eqInv a0.1 a1.1 i0:=hI0
   refine Vq (Vm hG rfl ?_)
   refine Vk rfl ?_ ?_<;>intro h1
   · have hl0:i0<(List.length a0.1:Int):=oTr h1
     refine Vs (Vq (Vb (Vq ?_)))
     refine VrD mixed hG rfl (by kernel_rfl) ?_ ?_
     · exact⟨(eqRange hI0 hl0).1,(eqRange hI0 hl0).2,trivial⟩
     refine Vk rfl ?_ ?_<;>intro h2
     · refine Vm hG rfl (Vt ?_)
       refine⟨?_,trivial⟩
       refine eqC_no (fun e=>?_)
       have e:a0=a1:=e
       have g:(!(eqC (List.getD a0.1 i0.toNat (dflt Y19)) (List.getD a1.1 i0.toNat (dflt Y19))))=true:=h2
       subst e
       exact(nself (eqC_self _)) g
     · have g2:(!(eqC (List.getD a0.1 i0.toNat (dflt Y19)) (List.getD a1.1 i0.toNat (dflt Y19))))=false:=h2
       have f2_0:(List.getD a0.1 i0.toNat (dflt Y19))=(List.getD a1.1 i0.toNat (dflt Y19)):=(eqC_iff.1 (notF g2))
       have s0:(List.getD a0.1 i0.toNat (dflt Y19))=(List.getD a1.1 i0.toNat (dflt Y19)):=f2_0
       refine Vs (Vn hG rfl ?_)
       refine⟨rfl,?_⟩
       exact⟨eqStep (d:=dflt Y19) hI0 hl0 hb0 s0,(upStep hI0.1 hl0 hb0).2.2⟩
   · have hl0:¬i0<(List.length a0.1:Int):=oFa h1
     have e0:a0.1=a1.1:=eqEnd hI0 hl0
     refine Vx (Vq (Vm hG rfl (Vb ?_)))
     refine Vc.loopF [(6,false,.pure (.int .i64))] [0,1,2,3,5,22,27,41] (fun v=>eqInv a0.2 a1.2 v.1) (fun v=>((List.length a0.2:Int)-v.1).toNat) rfl ?_ ?_
     · exact eqStart f0_1
     rintro⟨(i1:Int),_⟩ hI1
     have hI1:eqInv a0.2 a1.2 i1:=hI1
     refine Vq (Vm hG rfl ?_)
     refine Vk rfl ?_ ?_<;>intro h3
     · have hl1:i1<(List.length a0.2:Int):=oTr h3
       refine Vs (Vq (Vb (Vq ?_)))
       refine VrD mixed hG rfl (by kernel_rfl) ?_ ?_
       · exact⟨(eqRange hI1 hl1).1,(eqRange hI1 hl1).2,trivial⟩
       refine Vk rfl ?_ ?_<;>intro h4
       · refine Vm hG rfl (Vt ?_)
         refine⟨?_,trivial⟩
         refine eqC_no (fun e=>?_)
         have e:a0=a1:=e
         have g:(!(eqC (List.getD a0.2 i1.toNat (dflt Y58)) (List.getD a1.2 i1.toNat (dflt Y58))))=true:=h4
         subst e
         exact(nself (eqC_self _)) g
       · have g4:(!(eqC (List.getD a0.2 i1.toNat (dflt Y58)) (List.getD a1.2 i1.toNat (dflt Y58))))=false:=h4
         have f4_0:(List.getD a0.2 i1.toNat (dflt Y58))=(List.getD a1.2 i1.toNat (dflt Y58)):=(eqC_iff.1 (notF g4))
         have s1:(List.getD a0.2 i1.toNat (dflt Y58))=(List.getD a1.2 i1.toNat (dflt Y58)):=f4_0
         refine Vs (Vn hG rfl ?_)
         refine⟨rfl,?_⟩
         exact⟨eqStep (d:=dflt Y58) hI1 hl1 hb1 s1,(upStep hI1.1 hl1 hb1).2.2⟩
     · have hl1:¬i1<(List.length a0.2:Int):=oFa h3
       have e1:a0.2=a1.2:=eqEnd hI1 hl1
       refine Vx (Vm hG rfl (Vt ?_))
       refine⟨?_,trivial⟩
       exact eqC_yes (Prod.ext e0 e1)
noncomputable def F120:Fun:=⟨[.slice Y34,.slice Y34],[.pure (.bool)],fun _=>True,fun x=>(eqC x.1 x.2.1,())⟩
theorem F120_ok:Meets Tryz.prog 120 F120:=by
 refine mZ (C:=mkC 26 [4] [0,1,4,5,10,14,25] []) (mO _ _ _ _) (fO _) Tryz.func120 rfl rfl rfl (by decide) rfl ?_
 rintro⟨a0,a1,_⟩ hwf hpre ⟨⟩ hG rfl rfl
 show Vc _ _ [(0,⟨0,0,.c Z38 a0⟩),(1,⟨0,0,.c Z38 a1⟩)] _
 have hb:List.length a0≤bigLen:=hwf.1.1
 refine Vm hG rfl (Vq (Vm hG rfl ?_))
 refine Vk rfl ?_ ?_<;>intro h0
 · have n0:List.length a0≠List.length a1:=lenNeq h0
   refine Vm hG rfl (Vt ?_)
   refine⟨?_,trivial⟩
   exact sameLen n0
 · have e0:List.length a0=List.length a1:=lenEq h0
   refine Vs (Vq (Vm hG rfl (Vb ?_)))
   refine Vc.loopF [(5,false,.pure (.int .i64))] [0,1,10] (fun v=>sameInv a0 a1 v.1) (fun v=>((List.length a0:Int)-v.1).toNat) rfl ?_ ?_
   · exact sameStart
   rintro⟨(i:Int),_⟩ hI
   have hI:sameInv a0 a1 i:=hI
   refine Vq (Vm hG rfl ?_)
   refine Vk rfl ?_ ?_<;>intro h1
   · have hl:i<(List.length a0:Int):=oTr h1
     refine Vs (Vq (Vb (Vq ?_)))
     refine VrD mixed hG rfl (by kernel_rfl) ?_ ?_
     · exact⟨upRange hI.1 hl,sameRange e0 (upRange hI.1 hl)⟩
     refine Vk rfl ?_ ?_<;>intro h2
     · have n2:=stNe h2
       refine Vm hG rfl (Vt ?_)
       refine⟨?_,trivial⟩
       exact sameBad hI hl n2
     · have g2:=stEq h2
       refine Vs (Vn hG rfl ?_)
       refine⟨rfl,?_⟩
       exact sameStep hI hl hb g2
   · have hl:¬i<(List.length a0:Int):=oFa h1
     refine Vx (Vm hG rfl (Vt ?_))
     refine⟨?_,trivial⟩
     exact sameEnd e0 hI hl
noncomputable def F68:Fun:=⟨[.pair Y67 Y39,.pair Y67 Y39],[.pair Z71 Z41],fun x=>(fun(a b:Evidence)=>Sm big20 Y72 a∧Sm big20 Y72 b) x.1 x.2.1,fun x=>(joinEvF x.1 x.2.1,())⟩
set_option maxHeartbeats 4000000 in
theorem F68_ok:Meets Tryz.prog 68 F68:=by
 refine mZ (C:=mkC 98 [4] [0,1,2,3,4,5,6,7,8,9,10,11,18,25,43,59,66,84] [⟨118,_,F118_ok⟩,⟨119,_,F119_ok⟩,⟨109,_,F109_ok⟩,⟨120,_,F120_ok⟩]) (mO _ _ _ _) (fO _) Tryz.func68 rfl rfl rfl (by decide) rfl ?_
 rintro⟨a0,a1,_⟩ hwf hpre ⟨⟩ hG rfl rfl
 show Vc _ _ [(0,⟨0,0,.c Z73 a0⟩),(1,⟨0,0,.c Z73 a1⟩)] _
 have ha:=hpre.1
 have hz:=hpre.2
 have hS:List.length a1.1≤1048576∧∀ x∈a1.1,Sm big20 Y64 x:=hpre.2.1
 have hT:List.length a1.2≤1048576∧∀ x∈a1.2,Sm big20 (.slice TStamp) x:=hpre.2.2
 have hA1:List.length a0.1≤1048576:=hpre.1.1.1
 have hA2:List.length a0.2≤1048576:=hpre.1.2.1
 have hb:List.length a1.1≤bigLen:=hwf.2.1.1.1
 have hb2:List.length a1.2≤bigLen:=hwf.2.1.2.1
 refine Vm hG rfl (Vq ?_)
 refine Vr hG rfl ?_ ?_
 · exact ha
 refine Vq (Vm hG rfl (Vb ?_))
 refine Vc.loopF [(5,true,.pair Z71 Z41),(6,false,.pure (.int .i64))] [0,1,2,3,4,9,10,11,59,66,84] (fun v=>v.1.2=a0.2∧foInv (newG eqC) a0.1 a1.1 v.1.1 v.2.1) (fun v=>((List.length a1.1:Int)-v.2.1).toNat) rfl ?_ ?_
 · exact⟨rfl,foStart⟩
 rintro⟨ev,(i:Int),_⟩ hI
 have hI:ev.2=a0.2∧foInv (newG eqC) a0.1 a1.1 ev.1 i:=hI
 refine Vq (Vm hG rfl ?_)
 refine Vk rfl ?_ ?_<;>intro h0
 · have hl:i<(List.length a1.1:Int):=oTr h0
   have r1:=foRange hI.2 hl
   have hE:=hS.2 _ (getD_mem r1 (dflt Y64))
   have hL:=newLenI hI.2 hA1 hS.1
   refine Vs (Vq (Vb (Vm hG rfl ?_)))
   refine Vq (Vm hG rfl (Vb ?_))
   refine Vc.loopF [(7,false,.pure (.bool)),(8,false,.pure (.int .i64))] [0,1,2,3,4,5,6,9,10,11,18,43,59,66,84] (fun v=>exInv (fun(x:Strand)=>eqC x (List.getD a1.1 i.toNat (dflt Y64))) ev.1 v.1 v.2.1) (fun v=>((List.length ev.1:Int)-v.2.1).toNat) rfl ?_ ?_
   · exact exStart
   rintro⟨b,(k:Int),_⟩ hK
   have hK:exInv (fun(x:Strand)=>eqC x (List.getD a1.1 i.toNat (dflt Y64))) ev.1 b k:=hK
   refine Vq (Vm hG rfl ?_)
   refine Vk rfl ?_ ?_<;>intro h1
   · have hm:k<(List.length ev.1:Int):=oTr h1
     have rk:=exRange hK hm
     refine Vs (Vq (Vb ?_))
     refine VrD mixed hG rfl (by kernel_rfl) ?_ ?_
     · exact⟨fun _=>rk,fun _=>r1,fun _=>trivial⟩
     refine Vn hG rfl ?_
     refine⟨rfl,?_⟩
     exact exStep (d:=dflt Y64) hK hm (newBig hL) rfl
   · have hm:¬k<(List.length ev.1:Int):=oFa h1
     have hX:=exEnd hK hm
     refine Vx (Vm hG rfl ?_)
     refine Vk rfl ?_ ?_<;>intro h2
     · have st:=foStepE (d:=dflt Y64) hI.2 hl hb (newY (q:=eqC) hX h2)
       refine VrD mixed hG rfl (by kernel_rfl) ?_ ?_
       · exact⟨r1,hE,newApW hL⟩
       refine Vn hG rfl ?_
       refine⟨rfl,?_⟩
       exact⟨⟨hI.1,st.1⟩,st.2⟩
     · have st:=foStepE (d:=dflt Y64) hI.2 hl hb (newN (q:=eqC) hX h2)
       refine Vs (Vn hG rfl ?_)
       refine⟨rfl,?_⟩
       exact⟨⟨hI.1,st.1⟩,st.2⟩
 · have hl:¬i<(List.length a1.1:Int):=oFa h0
   have eI:=foEnd hI.2 hl
   refine Vx (Vq (Vm hG rfl (Vb ?_)))
   refine Vc.loopF [(5,true,.pair Z71 Z41),(9,false,.pure (.int .i64))] [0,1,2,3,4,6,7,8,18,25,43] (fun v=>v.1.1=List.foldl (newG eqC) a0.1 a1.1∧foInv (newG eqC) a0.2 a1.2 v.1.2 v.2.1) (fun v=>((List.length a1.2:Int)-v.2.1).toNat) rfl ?_ ?_
   · exact⟨eI,by rw[hI.1];exact foStart⟩
   rintro⟨ev2,(j:Int),_⟩ hJ
   have hJ:ev2.1=List.foldl (newG eqC) a0.1 a1.1∧foInv (newG eqC) a0.2 a1.2 ev2.2 j:=hJ
   refine Vq (Vm hG rfl ?_)
   refine Vk rfl ?_ ?_<;>intro h3
   · have hj:j<(List.length a1.2:Int):=oTr h3
     have r2:=foRange hJ.2 hj
     have hF:List.length (List.getD a1.2 j.toNat (dflt (.slice TStamp)))≤big20:=(hT.2 _ (getD_mem r2 (dflt (.slice TStamp)))).1
     have hF4:List.length (List.getD a1.2 j.toNat (dflt (.slice TStamp)))≤4000000:=Nat.le_trans hF (by decide)
     have hL2:=newLenI hJ.2 hA2 hT.1
     refine Vs (Vq (Vb (Vm hG rfl ?_)))
     refine Vq (Vm hG rfl (Vb ?_))
     refine Vc.loopF [(10,false,.pure (.bool)),(11,false,.pure (.int .i64))] [0,1,2,3,4,5,6,7,8,9,18,25,43,59,84] (fun v=>exInv (fun(x:List Stamp)=>eqC x (List.getD a1.2 j.toNat (dflt (.slice TStamp)))) ev2.2 v.1 v.2.1) (fun v=>((List.length ev2.2:Int)-v.2.1).toNat) rfl ?_ ?_
     · exact exStart
     rintro⟨b2,(n:Int),_⟩ hN
     have hN:exInv (fun(x:List Stamp)=>eqC x (List.getD a1.2 j.toNat (dflt (.slice TStamp)))) ev2.2 b2 n:=hN
     refine Vq (Vm hG rfl ?_)
     refine Vk rfl ?_ ?_<;>intro h4
     · have hn:n<(List.length ev2.2:Int):=oTr h4
       have rn:=exRange hN hn
       refine Vs (Vq (Vb ?_))
       refine VrD mixed hG rfl (by kernel_rfl) ?_ ?_
       · exact⟨fun _=>rn,fun _=>r2,fun _=>trivial⟩
       refine Vn hG rfl ?_
       refine⟨rfl,?_⟩
       exact exStep (d:=dflt (.slice TStamp)) hN hn (newBig hL2) rfl
     · have hn:¬n<(List.length ev2.2:Int):=oFa h4
       have hY:=exEnd hN hn
       refine Vx (Vm hG rfl ?_)
       refine Vk rfl ?_ ?_<;>intro h5
       · have st:=foStepE (d:=dflt (.slice TStamp)) hJ.2 hj hb2 (newY (q:=eqC) hY h5)
         refine VrD mixed hG rfl (by kernel_rfl) ?_ ?_
         · exact⟨r2,appOk hF,newApW hL2⟩
         refine Vn hG rfl ?_
         refine⟨rfl,?_⟩
         exact⟨⟨hJ.1,st.1⟩,st.2⟩
       · have st:=foStepE (d:=dflt (.slice TStamp)) hJ.2 hj hb2 (newN (q:=eqC) hY h5)
         refine Vs (Vn hG rfl ?_)
         refine⟨rfl,?_⟩
         exact⟨⟨hJ.1,st.1⟩,st.2⟩
   · have hj:¬j<(List.length a1.2:Int):=oFa h3
     refine Vx (Vm hG rfl (Vt ?_))
     refine⟨?_,trivial⟩
     exact Prod.ext hJ.1 (foEnd hJ.2 hj)
noncomputable def F116:Fun:=⟨[.pair Y67 Y39,.pair (.int .i64) Y13],[.own Z0],fun x=>(fun(e:Evidence) (_:Doc)=>Sm big20 Y67 e.1) x.1 x.2.1,fun x=>(allDigsF x.1 x.2.1,())⟩
theorem F116_ok:Meets Tryz.prog 116 F116:=by
 refine mZ (C:=mkC 26 [4] [0,1,2,3,4,5,6,12] [⟨149,_,F149_ok⟩]) (mO _ _ _ _) (fO _) Tryz.func116 rfl rfl rfl (by decide) rfl ?_
 rintro⟨a0,a1,_⟩ hwf hpre ⟨⟩ hG rfl rfl
 show Vc _ _ [(0,⟨0,0,.c Z73 a0⟩),(1,⟨0,0,.c Z27 a1⟩)] _
 have hS:Sm big20 Y67 a0.1:=hpre
 have hs:List.length a0.1≤1048576:=hS.1
 have hb:List.length a0.1≤bigLen:=hwf.1.1.1
 refine Vm hG rfl (Vm hG rfl (Vq (Vm hG rfl ?_)))
 refine Vb ?_
 refine Vc.loopF [(5,false,.own Z0),(6,false,.pure (.int .i64))] [0,1,2,3,4] (fun v=>pkInv (adF a1) a0.1 v.1 v.2.1) (fun v=>((List.length a0.1:Int)-v.2.1).toNat) rfl ?_ ?_
 · exact pkStart
 rintro⟨acc,(i:Int),_⟩ hI
 have hI:pkInv (adF a1) a0.1 acc i:=hI
 refine Vq (Vm hG rfl ?_)
 refine Vk rfl ?_ ?_<;>intro h0
 · have hl:i<(List.length a0.1:Int):=oTr h0
   have r1:=pkRange hI hl
   have hE:List.length (List.getD a0.1 i.toNat (dflt Y64)).2≤2000000:=Nat.le_trans (hS.2 _ (getD_mem r1 _)).2.1 (by decide)
   refine Vs (Vq (Vb ?_))
   refine VrD mixed hG rfl (by kernel_rfl) ?_ ?_
   · exact⟨r1,hE,pkLen hI hs⟩
   refine Vn hG rfl ?_
   refine⟨rfl,?_⟩
   exact pkYes (d:=dflt Y64) hI hl hb rfl
 · have hl:¬i<(List.length a0.1:Int):=oFa h0
   refine Vx (Vm hG rfl (Vt ?_))
   refine⟨?_,trivial⟩
   exact pkEnd hI hl
noncomputable def F333:Fun:=⟨[.pair (.int .i64) Y26],[.pure (.bool)],fun _=>True,fun x=>(isKeyF x.1,())⟩
theorem F333_ok:Meets Tryz.prog 333 F333:=by
 refine mZ (C:=mkC 26 [2] [0,1,2] [⟨146,_,F146_ok⟩,⟨142,_,F142_ok⟩,⟨294,_,F294_ok⟩]) (mO _ _ _ _) (fO _) Tryz.func333 rfl rfl rfl (by decide) rfl ?_
 rintro⟨a0,_⟩ hwf hpre ⟨⟩ hG rfl rfl
 show Vc _ _ [(0,⟨0,0,.c Z35 a0⟩)] _
 refine Vm hG rfl (Vq ?_)
 refine Vr hG rfl ?_ ?_
 · repeat' (first | exact trivial | refine And.intro ?_ ?_ | intro _)
 refine Vt ?_
 refine⟨?_,trivial⟩
 all_goals exact rfl
noncomputable def F302:Fun:=⟨[.slice Y34],[.pure (.bool)],fun _=>True,fun x=>(areKeysF x.1,())⟩
theorem F302_ok:Meets Tryz.prog 302 F302:=by
 refine mZ (C:=mkC 37 [2] [0,2,3,7,33] [⟨333,_,F333_ok⟩]) (mO _ _ _ _) (fO _) Tryz.func302 rfl rfl rfl (by decide) rfl ?_
 rintro⟨a0,_⟩ hwf hpre ⟨⟩ hG rfl rfl
 show Vc _ _ [(0,⟨0,0,.c Z38 a0⟩)] _
 have hb:List.length a0≤bigLen:=hwf.1.1
 refine Vm hG rfl (Vq (Vm hG rfl (Vb ?_)))
 refine Vc.loopF [(3,false,.pure (.int .i64))] [0] (fun v=>kInv (areG isKeyF (fun k=>k.1) (dflt (TKey)) a0) a0 v.1) (fun v=>((List.length a0:Int)-v.1).toNat) rfl ?_ ?_
 · exact kStart
 rintro⟨(i:Int),_⟩ hI
 have hI:kInv (areG isKeyF (fun k=>k.1) (dflt (TKey)) a0) a0 i:=hI
 refine Vq (Vm hG rfl ?_)
 refine Vk rfl ?_ ?_<;>intro h0
 · have hl:i<(List.length a0:Int):=oTr h0
   refine Vs (Vq (Vb (Vq ?_)))
   refine VrD mixed hG rfl (by kernel_rfl) ?_ ?_
   · repeat' (first | exact trivial | exact kRange hI hl | (intro _ h2;exact prevIdx (kRange hI hl) (oTr h2) hb) | (intro h2;exact prevIdx (kRange hI hl) (oTr h2) hb) | refine And.intro ?_ ?_ | intro _)
   refine Vk rfl ?_ ?_<;>intro h1
   · have g1:areT isKeyF (fun k=>k.1) (dflt (TKey)) a0 i=true:=h1
     refine Vm hG rfl (Vt ?_)
     refine⟨?_,trivial⟩
     exact areBad (m:=12) hI hl hb g1
   · have g1:areT isKeyF (fun k=>k.1) (dflt (TKey)) a0 i=false:=h1
     refine Vs (Vn hG rfl ?_)
     refine⟨rfl,?_⟩
     exact areStep hI hl hb g1
 · have hl:¬i<(List.length a0:Int):=oFa h0
   refine Vx (Vm hG rfl (Vt ?_))
   refine⟨?_,trivial⟩
   exact areEnd (m:=12) hI hl
noncomputable def F303:Fun:=⟨[.slice Y15],[.pure (.bool)],fun _=>True,fun x=>(areAuthsF x.1,())⟩
theorem F303_ok:Meets Tryz.prog 303 F303:=by
 refine mZ (C:=mkC 56 [2] [0,2,3,7,52] [⟨146,_,F146_ok⟩]) (mO _ _ _ _) (fO _) Tryz.func303 rfl rfl rfl (by decide) rfl ?_
 rintro⟨a0,_⟩ hwf hpre ⟨⟩ hG rfl rfl
 show Vc _ _ [(0,⟨0,0,.c Z24 a0⟩)] _
 have hb:List.length a0≤bigLen:=hwf.1.1
 refine Vm hG rfl (Vq (Vm hG rfl (Vb ?_)))
 refine Vc.loopF [(3,false,.pure (.int .i64))] [0] (fun v=>kInv (areG isAuthF (fun k=>k.1) (dflt (TAuth)) a0) a0 v.1) (fun v=>((List.length a0:Int)-v.1).toNat) rfl ?_ ?_
 · exact kStart
 rintro⟨(i:Int),_⟩ hI
 have hI:kInv (areG isAuthF (fun k=>k.1) (dflt (TAuth)) a0) a0 i:=hI
 refine Vq (Vm hG rfl ?_)
 refine Vk rfl ?_ ?_<;>intro h0
 · have hl:i<(List.length a0:Int):=oTr h0
   refine Vs (Vq (Vb (Vq ?_)))
   refine VrD mixed hG rfl (by kernel_rfl) ?_ ?_
   · repeat' (first | exact trivial | exact kRange hI hl | (intro _ h2;exact prevIdx (kRange hI hl) (oTr h2) hb) | (intro h2;exact prevIdx (kRange hI hl) (oTr h2) hb) | refine And.intro ?_ ?_ | intro _)
   refine Vk rfl ?_ ?_<;>intro h1
   · have g1:areT isAuthF (fun k=>k.1) (dflt (TAuth)) a0 i=true:=(nor3 _ _ _ _).symm.trans h1
     refine Vm hG rfl (Vt ?_)
     refine⟨?_,trivial⟩
     exact areBad (m:=6) hI hl hb g1
   · have g1:areT isAuthF (fun k=>k.1) (dflt (TAuth)) a0 i=false:=(nor3 _ _ _ _).symm.trans h1
     refine Vs (Vn hG rfl ?_)
     refine⟨rfl,?_⟩
     exact areStep hI hl hb g1
 · have hl:¬i<(List.length a0:Int):=oFa h0
   refine Vx (Vm hG rfl (Vt ?_))
   refine⟨?_,trivial⟩
   exact areEnd (m:=6) hI hl
noncomputable def F334:Fun:=⟨[.pair (.int .i64) Y15],[.pure (.bool)],fun _=>True,fun x=>(isMethodF x.1,())⟩
theorem F334_ok:Meets Tryz.prog 334 F334:=by
 refine mZ (C:=mkC 35 [2] [0,1,2] [⟨146,_,F146_ok⟩,⟨142,_,F142_ok⟩]) (mO _ _ _ _) (fO _) Tryz.func334 rfl rfl rfl (by decide) rfl ?_
 rintro⟨a0,_⟩ hwf hpre ⟨⟩ hG rfl rfl
 show Vc _ _ [(0,⟨0,0,.c Z29 a0⟩)] _
 refine Vm hG rfl (Vq ?_)
 refine Vr hG rfl ?_ ?_
 · repeat' (first | exact trivial | refine And.intro ?_ ?_ | intro _)
 refine Vt ?_
 refine⟨?_,trivial⟩
 all_goals exact rfl
noncomputable def F304:Fun:=⟨[.slice Y26],[.pure (.bool)],fun _=>True,fun x=>(areMethodsF x.1,())⟩
theorem F304_ok:Meets Tryz.prog 304 F304:=by
 refine mZ (C:=mkC 37 [2] [0,2,3,7,33] [⟨334,_,F334_ok⟩]) (mO _ _ _ _) (fO _) Tryz.func304 rfl rfl rfl (by decide) rfl ?_
 rintro⟨a0,_⟩ hwf hpre ⟨⟩ hG rfl rfl
 show Vc _ _ [(0,⟨0,0,.c Z32 a0⟩)] _
 have hb:List.length a0≤bigLen:=hwf.1.1
 refine Vm hG rfl (Vq (Vm hG rfl (Vb ?_)))
 refine Vc.loopF [(3,false,.pure (.int .i64))] [0] (fun v=>kInv (areG isMethodF (fun k=>k.1) (dflt (TMethod)) a0) a0 v.1) (fun v=>((List.length a0:Int)-v.1).toNat) rfl ?_ ?_
 · exact kStart
 rintro⟨(i:Int),_⟩ hI
 have hI:kInv (areG isMethodF (fun k=>k.1) (dflt (TMethod)) a0) a0 i:=hI
 refine Vq (Vm hG rfl ?_)
 refine Vk rfl ?_ ?_<;>intro h0
 · have hl:i<(List.length a0:Int):=oTr h0
   refine Vs (Vq (Vb (Vq ?_)))
   refine VrD mixed hG rfl (by kernel_rfl) ?_ ?_
   · repeat' (first | exact trivial | exact kRange hI hl | (intro _ h2;exact prevIdx (kRange hI hl) (oTr h2) hb) | (intro h2;exact prevIdx (kRange hI hl) (oTr h2) hb) | refine And.intro ?_ ?_ | intro _)
   refine Vk rfl ?_ ?_<;>intro h1
   · have g1:areT isMethodF (fun k=>k.1) (dflt (TMethod)) a0 i=true:=h1
     refine Vm hG rfl (Vt ?_)
     refine⟨?_,trivial⟩
     exact areBad (m:=8) hI hl hb g1
   · have g1:areT isMethodF (fun k=>k.1) (dflt (TMethod)) a0 i=false:=h1
     refine Vs (Vn hG rfl ?_)
     refine⟨rfl,?_⟩
     exact areStep hI hl hb g1
 · have hl:¬i<(List.length a0:Int):=oFa h0
   refine Vx (Vm hG rfl (Vt ?_))
   refine⟨?_,trivial⟩
   exact areEnd (m:=8) hI hl
noncomputable def F248:Fun:=⟨[.pair Y36 Y57],[.pure (.bool)],fun _=>True,fun x=>(isFrameF x.1,())⟩
theorem F248_ok:Meets Tryz.prog 248 F248:=by
 refine mZ (C:=mkC 26 [2] [0,1,2] [⟨302,_,F302_ok⟩,⟨303,_,F303_ok⟩,⟨304,_,F304_ok⟩,⟨146,_,F146_ok⟩,⟨142,_,F142_ok⟩]) (mO _ _ _ _) (fO _) Tryz.func248 rfl rfl rfl (by decide) rfl ?_
 rintro⟨a0,_⟩ hwf hpre ⟨⟩ hG rfl rfl
 show Vc _ _ [(0,⟨0,0,.c Z68 a0⟩)] _
 refine Vm hG rfl (Vq ?_)
 refine Vr hG rfl ?_ ?_
 · repeat' (first | exact trivial | refine And.intro ?_ ?_ | intro _)
 refine Vt ?_
 refine⟨?_,trivial⟩
 all_goals exact rfl
noncomputable def F190:Fun:=⟨[.int .i64],[.pure Y26],fun _=>True,fun x=>((fun(r:Int)=>((3,r,(0,0)):Verdict)) x.1,())⟩
theorem F190_ok:Meets Tryz.prog 190 F190:=by
 refine mZ (C:=mkC 5 [2] [0,2] []) (mO _ _ _ _) (fO _) Tryz.func190 rfl rfl rfl (by decide) rfl ?_
 rintro⟨(a0:Int),_⟩ hwf hpre ⟨⟩ hG rfl rfl
 show Vc _ _ [(0,⟨0,0,.c (.pure (.int .i64)) a0⟩)] _
 refine Vm hG rfl (Vm hG rfl (Vt ?_))
 refine⟨?_,trivial⟩
 all_goals exact rfl
noncomputable def F249:Fun:=⟨[.int .i64],[.pure Y26],fun _=>True,fun x=>((fun(r:Int)=>((2,r,(0,0)):Verdict)) x.1,())⟩
theorem F249_ok:Meets Tryz.prog 249 F249:=by
 refine mZ (C:=mkC 5 [2] [0,2] []) (mO _ _ _ _) (fO _) Tryz.func249 rfl rfl rfl (by decide) rfl ?_
 rintro⟨(a0:Int),_⟩ hwf hpre ⟨⟩ hG rfl rfl
 show Vc _ _ [(0,⟨0,0,.c (.pure (.int .i64)) a0⟩)] _
 refine Vm hG rfl (Vm hG rfl (Vt ?_))
 refine⟨?_,trivial⟩
 all_goals exact rfl
noncomputable def F305:Fun:=⟨[.slice Y34,.int .i64,.slice (.int .i64),.int .i64],[.pure (.bool)],fun x=>(fun(_:List Key) (_:Int) (l:List Int) (_:Int)=>smallL l) x.1 x.2.1 x.2.2.1 x.2.2.2.1,fun x=>(checkMarkF x.1 x.2.1 x.2.2.1 x.2.2.2.1,())⟩
theorem F305_ok:Meets Tryz.prog 305 F305:=by
 refine mZ (C:=mkC 25 [8] [0,1,2,3,8,9] [⟨143,_,F143_ok⟩,⟨144,_,F144_ok⟩]) (mO _ _ _ _) (fO _) Tryz.func305 rfl rfl rfl (by decide) rfl ?_
 rintro⟨a0,(a1:Int),a2,(a3:Int),_⟩ hwf hpre ⟨⟩ hG rfl rfl
 show Vc _ _ [(0,⟨0,0,.c Z38 a0⟩),(1,⟨0,0,.c (.pure (.int .i64)) a1⟩),(2,⟨0,0,.c Z3 a2⟩),(3,⟨0,0,.c (.pure (.int .i64)) a3⟩)] _
 have hp:smallL a2:=hpre
 refine Vm hG rfl (Vm hG rfl (Vq ?_))
 refine Vr hG rfl ?_ ?_
 · exact⟨fun h=>findRange (show ¬keyI a0 a1<0 from by have:keyI a0 a1≥0:=oTr h;omega),fun _=>hp⟩
 refine Vt ?_
 refine⟨?_,trivial⟩
 all_goals exact rfl
noncomputable def F250:Fun:=⟨[.slice Y34,.pair (.int .i64) Y50],[.pure (.bool)],fun _=>True,fun x=>(checkSigF x.1 x.2.1,())⟩
theorem F250_ok:Meets Tryz.prog 250 F250:=by
 refine mZ (C:=mkC 17 [4] [0,1,3,4] [⟨242,_,F242_ok⟩,⟨243,_,F243_ok⟩,⟨305,_,F305_ok⟩]) (mO _ _ _ _) (fO _) Tryz.func250 rfl rfl rfl (by decide) rfl ?_
 rintro⟨a0,a1,_⟩ hwf hpre ⟨⟩ hG rfl rfl
 show Vc _ _ [(0,⟨0,0,.c Z38 a0⟩),(1,⟨0,0,.c Z54 a1⟩)] _
 refine Vm hG rfl (Vq ?_)
 refine VrD mixed hG rfl (by kernel_rfl) ?_ ?_
 · repeat' (first | exact trivial | exact smallLit (n:=9) rfl (by decide) | refine And.intro ?_ ?_ | intro _)
 refine Vt ?_
 refine⟨?_,trivial⟩
 all_goals exact rfl
end Fw
