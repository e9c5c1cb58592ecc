/- Walks of functions of the program: what each computes. Conditions: those that each contract names. -/
import Derived.Test.YtpcljloahdbjcaaGreatW54T
import Derived.Test.YtpcljloahdbjcaaGreatW54s0
import Derived.Test.YtpcljloahdbjcaaGreatW54s1
set_option linter.unusedVariables false
namespace Fw
open Go Go.Proofs
set_option linter.unusedSimpArgs false
set_option maxRecDepth 100000
noncomputable def P159:PFun:=⟨.pure Y18,[],[.pair Z69 Z42,.pure Y21,.pure Y53],fun x _=>curOk x,fun x _=>(caseD x).2,fun x _=>((caseD x).1.1,(caseD x).1.2.1,(caseD x).1.2.2,())⟩
set_option maxHeartbeats 8000000 in
theorem P159_ok:MeetsP Tryz.prog 159 P159:=by
 refine meetsP_of_vc (C:=mkCP 129 [2,3,4] [0,2,3,4,5,6,7,8,9,10,12,13,14,15,24,40,54,93,104] [⟨165,_,F165_ok⟩,⟨238,_,F238_ok⟩,⟨76,_,F76_ok⟩,⟨239,_,F239_ok⟩,⟨208,_,F208_ok⟩,⟨240,_,F240_ok⟩,⟨162,_,F162_ok⟩,⟨242,_,F242_ok⟩,⟨241,_,F241_ok⟩,⟨243,_,F243_ok⟩,⟨160,_,F160_ok⟩] [] [] [⟨237,_,P237_ok⟩,⟨79,_,P79_ok⟩,⟨138,_,P138_ok⟩,⟨74,_,P74_ok⟩,⟨164,_,P164_ok⟩] [0]) (mkCP_ok _ _ _ _ _ _ _ _) (fO _) Tryz.func159 rfl rfl rfl (by decide) rfl rfl rfl ?_ rfl
 rintro c ⟨_⟩ hwc hwf hpre ⟨⟩ hG rfl rfl
 show Vc _ _ [(0,⟨0,0,.c (.ref Z22) c⟩)] _
 have hc0:curOk c:=hpre
 have hk1:=ca1_ok hc0
 have hk2:=ca2_ok hc0
 have hk3:=ca3_ok hc0
 have hta:=caS5_tiny c 50
 have htb:=caS5_tiny c (caQ c).2.2.2.2.2.1
 have htc:=tiny_signed c
 have hsg:=(signed_P hc0).2
 refine Vm hG rfl (Vq ?_)
 refine VrT hG rfl ?_ ?_
 · repeat' (first | exact trivial | exact hc0 | exact hsg | exact hk1 | exact hk2 | exact hk3 | exact Nat.succ_pos _ | exact one0 | exact fz_len _ | exact hr | exact hs | exact stampPiece_sm _ _ | exact mandPiece_sm _ | exact hs4 | exact hsb | exact hc2 | exact int_ok hc2 | exact hc3 | exact below_ok hc3 | exact hy3 | exact renOk (below_ok hc3) hy | exact hA | exact(⟨Int.le_refl _,Int.ofNat_lt.2 (signed_pos c)⟩:inRange 0 _) | refine And.intro ?_ ?_ | intro _)
 refine Vm hG rfl (Vq (Vq ?_))
 refine Vr hG rfl ?_ ?_
 · repeat' (first | exact trivial | exact hc0 | exact hsg | exact hk1 | exact hk2 | exact hk3 | exact Nat.succ_pos _ | exact one0 | exact fz_len _ | exact hr | exact hs | exact stampPiece_sm _ _ | exact mandPiece_sm _ | exact hs4 | exact hsb | exact hc2 | exact int_ok hc2 | exact hc3 | exact below_ok hc3 | exact hy3 | exact renOk (below_ok hc3) hy | exact hA | exact(⟨Int.le_refl _,Int.ofNat_lt.2 (signed_pos c)⟩:inRange 0 _) | refine And.intro ?_ ?_ | intro _)
 refine Vk rfl ?_ ?_<;>intro h0
 · refine Vq ?_
   refine Vr hG rfl ?_ ?_
   · repeat' (first | exact trivial | exact hc0 | exact hsg | exact hk1 | exact hk2 | exact hk3 | exact Nat.succ_pos _ | exact one0 | exact fz_len _ | exact hr | exact hs | exact stampPiece_sm _ _ | exact mandPiece_sm _ | exact hs4 | exact hsb | exact hc2 | exact int_ok hc2 | exact hc3 | exact below_ok hc3 | exact hy3 | exact renOk (below_ok hc3) hy | exact hA | exact(⟨Int.le_refl _,Int.ofNat_lt.2 (signed_pos c)⟩:inRange 0 _) | refine And.intro ?_ ?_ | intro _)
   refine Vq ?_
   refine VrD mixed hG rfl (by kernel_rfl) ?_ ?_
   · repeat' (first | exact trivial | exact hc0 | exact hsg | exact hk1 | exact hk2 | exact hk3 | exact Nat.succ_pos _ | exact one0 | exact fz_len _ | exact hr | exact hs | exact stampPiece_sm _ _ | exact mandPiece_sm _ | exact hs4 | exact hsb | exact hc2 | exact int_ok hc2 | exact hc3 | exact below_ok hc3 | exact hy3 | exact renOk (below_ok hc3) hy | exact hA | exact(⟨Int.le_refl _,Int.ofNat_lt.2 (signed_pos c)⟩:inRange 0 _) | refine And.intro ?_ ?_ | intro _)
   refine Vq (Vq ?_)
   refine Vr hG rfl ?_ ?_
   · repeat' (first | exact trivial | exact hc0 | exact hsg | exact hk1 | exact hk2 | exact hk3 | exact Nat.succ_pos _ | exact one0 | exact fz_len _ | exact hr | exact hs | exact stampPiece_sm _ _ | exact mandPiece_sm _ | exact hs4 | exact hsb | exact hc2 | exact int_ok hc2 | exact hc3 | exact below_ok hc3 | exact hy3 | exact renOk (below_ok hc3) hy | exact hA | exact(⟨Int.le_refl _,Int.ofNat_lt.2 (signed_pos c)⟩:inRange 0 _) | refine And.intro ?_ ?_ | intro _)
   refine Vk rfl ?_ ?_<;>intro h1
   · refine Vn hG rfl (Vq ?_)
     refine VrD mixed hG rfl (by kernel_rfl) ?_ ?_
     · repeat' (first | exact trivial | exact hc0 | exact hsg | exact hk1 | exact hk2 | exact hk3 | exact Nat.succ_pos _ | exact one0 | exact fz_len _ | exact hr | exact hs | exact stampPiece_sm _ _ | exact mandPiece_sm _ | exact hs4 | exact hsb | exact hc2 | exact int_ok hc2 | exact hc3 | exact below_ok hc3 | exact hy3 | exact renOk (below_ok hc3) hy | exact hA | exact(⟨Int.le_refl _,Int.ofNat_lt.2 (signed_pos c)⟩:inRange 0 _) | refine And.intro ?_ ?_ | intro _)
     refine Vq ?_
     refine VrD mixed hG rfl (by kernel_rfl) ?_ ?_
     · repeat' (first | exact trivial | exact hc0 | exact hsg | exact hk1 | exact hk2 | exact hk3 | exact Nat.succ_pos _ | exact one0 | exact fz_len _ | exact hr | exact hs | exact stampPiece_sm _ _ | exact mandPiece_sm _ | exact hs4 | exact hsb | exact hc2 | exact int_ok hc2 | exact hc3 | exact below_ok hc3 | exact hy3 | exact renOk (below_ok hc3) hy | exact hA | exact(⟨Int.le_refl _,Int.ofNat_lt.2 (signed_pos c)⟩:inRange 0 _) | refine And.intro ?_ ?_ | intro _)
     refine Vq (Vm hG rfl (Vb ?_))
     refine Vc.frzIR 8 rfl rfl _ HEq.rfl ?_
     refine Vc.loopF [(5,true,.pair Z33 Z63),(9,false,.pure (.int .i64))] [0,2,3,4,6,7,8,10,12,13,14,15,24,40,93,104] (fun v=>caInv (caF c) (caS0 c 50) v.1 v.2.1) (fun v=>(4-v.2.1:Int).toNat) rfl ?_ ?_
     · exact caStart
     rintro⟨s,(i:Int),_⟩ hI
     have hI:caInv (caF c) (caS0 c 50) s i:=hI
     have hs:=tiny_big (caTiny hI (caS0_tiny c _))
     refine Vq (Vm hG rfl ?_)
     refine Vk rfl ?_ ?_<;>intro h2
     · have hl:i<4:=oTr h2
       have hr:=caRange hI hl (freshD_len _)
       refine Vs (Vq (Vb ?_))
       refine VrL mixed hG rfl (by kernel_rfl) ?_ ?_
       · repeat' (first | exact trivial | exact hc0 | exact hsg | exact hk1 | exact hk2 | exact hk3 | exact Nat.succ_pos _ | exact one0 | exact fz_len _ | exact hr | exact hs | exact stampPiece_sm _ _ | exact mandPiece_sm _ | exact hs4 | exact hsb | exact hc2 | exact int_ok hc2 | exact hc3 | exact below_ok hc3 | exact hy3 | exact renOk (below_ok hc3) hy | exact hA | exact(⟨Int.le_refl _,Int.ofNat_lt.2 (signed_pos c)⟩:inRange 0 _) | refine And.intro ?_ ?_ | intro _)
       refine Vn hG rfl ?_
       refine⟨rfl,?_⟩
       exact caStep hI hl rfl
     · have hl:¬i<4:=oFa h2
       have eS:=caEnd hI hl
       subst eS
       have hs4:=tiny_big (caS4_tiny c 50)
       have hs5:=tiny_big (caS5_tiny c 50)
       refine Vx (Vq ?_)
       refine VrD mixed hG rfl (by kernel_rfl) ?_ ?_
       · repeat' (first | exact trivial | exact hc0 | exact hsg | exact hk1 | exact hk2 | exact hk3 | exact Nat.succ_pos _ | exact one0 | exact fz_len _ | exact hr | exact hs | exact stampPiece_sm _ _ | exact mandPiece_sm _ | exact hs4 | exact hsb | exact hc2 | exact int_ok hc2 | exact hc3 | exact below_ok hc3 | exact hy3 | exact renOk (below_ok hc3) hy | exact hA | exact(⟨Int.le_refl _,Int.ofNat_lt.2 (signed_pos c)⟩:inRange 0 _) | refine And.intro ?_ ?_ | intro _)
       refine VrL mixed hG rfl (by kernel_rfl) ?_ ?_
       · repeat' (first | exact trivial | exact hc0 | exact hsg | exact hk1 | exact hk2 | exact hk3 | exact Nat.succ_pos _ | exact one0 | exact fz_len _ | exact hr | exact hs | exact stampPiece_sm _ _ | exact mandPiece_sm _ | exact hs4 | exact hsb | exact hc2 | exact int_ok hc2 | exact hc3 | exact below_ok hc3 | exact hy3 | exact renOk (below_ok hc3) hy | exact hA | exact(⟨Int.le_refl _,Int.ofNat_lt.2 (signed_pos c)⟩:inRange 0 _) | refine And.intro ?_ ?_ | intro _)
       refine Vq (Vq ?_)
       refine Vr hG rfl ?_ ?_
       · repeat' (first | exact trivial | exact hc0 | exact hsg | exact hk1 | exact hk2 | exact hk3 | exact Nat.succ_pos _ | exact one0 | exact fz_len _ | exact hr | exact hs | exact stampPiece_sm _ _ | exact mandPiece_sm _ | exact hs4 | exact hsb | exact hc2 | exact int_ok hc2 | exact hc3 | exact below_ok hc3 | exact hy3 | exact renOk (below_ok hc3) hy | exact hA | exact(⟨Int.le_refl _,Int.ofNat_lt.2 (signed_pos c)⟩:inRange 0 _) | refine And.intro ?_ ?_ | intro _)
       refine Vb ?_
       refine Vc.frz 6 rfl ?_
       refine Vc.loopF [(0,true,.pure Y18),(8,true,.pair Z69 Z42),(12,false,.pure (.int .i64))] [2,3,4,5,6,7,9,10,24,40,54] (fun v=>v.2.1.2=[caF c]∧dnInv (coS (signedD c).1.2.1 (caS5 c 50)) ((cn1 (ca3 c).2).2,[]) (cnN (ca3 c).2) (v.1,v.2.1.1) v.2.2.1) (fun v=>(v.2.2.1:Int).toNat) rfl ?_ ?_
       · exact⟨rfl,dnStart ⟨(cnN_n _).1,(cnN_n _).2.1⟩⟩
       rintro⟨c2,e,(i:Int),_⟩ ⟨hF,hI⟩
       have hF:e.2=[caF c]:=hF
       have hI:dnInv (coS (signedD c).1.2.1 (caS5 c 50)) ((cn1 (ca3 c).2).2,[]) (cnN (ca3 c).2) (c2,e.1) i:=hI
       obtain⟨hc2,hA⟩:=coInv_P hk3 hta hI
       have hsb:=tiny_big hta
       refine Vq (Vm hG rfl ?_)
       refine Vk rfl ?_ ?_<;>intro h3
       · have hl:i>0:=oTr h3
         refine Vs (Vq (Vb (Vq ?_)))
         refine Vr hG rfl ?_ ?_
         · repeat' (first | exact trivial | exact hc0 | exact hsg | exact hk1 | exact hk2 | exact hk3 | exact Nat.succ_pos _ | exact one0 | exact fz_len _ | exact hr | exact hs | exact stampPiece_sm _ _ | exact mandPiece_sm _ | exact hs4 | exact hsb | exact hc2 | exact int_ok hc2 | exact hc3 | exact below_ok hc3 | exact hy3 | exact renOk (below_ok hc3) hy | exact hA | exact(⟨Int.le_refl _,Int.ofNat_lt.2 (signed_pos c)⟩:inRange 0 _) | refine And.intro ?_ ?_ | intro _)
         refine Vq ?_
         refine Vr hG rfl ?_ ?_
         · repeat' (first | exact trivial | exact hc0 | exact hsg | exact hk1 | exact hk2 | exact hk3 | exact Nat.succ_pos _ | exact one0 | exact fz_len _ | exact hr | exact hs | exact stampPiece_sm _ _ | exact mandPiece_sm _ | exact hs4 | exact hsb | exact hc2 | exact int_ok hc2 | exact hc3 | exact below_ok hc3 | exact hy3 | exact renOk (below_ok hc3) hy | exact hA | exact(⟨Int.le_refl _,Int.ofNat_lt.2 (signed_pos c)⟩:inRange 0 _) | refine And.intro ?_ ?_ | intro _)
         refine Vq (Vq ?_)
         refine Vr hG rfl ?_ ?_
         · repeat' (first | exact trivial | exact hc0 | exact hsg | exact hk1 | exact hk2 | exact hk3 | exact Nat.succ_pos _ | exact one0 | exact fz_len _ | exact hr | exact hs | exact stampPiece_sm _ _ | exact mandPiece_sm _ | exact hs4 | exact hsb | exact hc2 | exact int_ok hc2 | exact hc3 | exact below_ok hc3 | exact hy3 | exact renOk (below_ok hc3) hy | exact hA | exact(⟨Int.le_refl _,Int.ofNat_lt.2 (signed_pos c)⟩:inRange 0 _) | refine And.intro ?_ ?_ | intro _)
         refine Vb ?_
         refine Vc.frz 13 rfl ?_
         refine Vc.loopF [(0,true,.pure Y18),(13,true,.pure Y64),(14,false,.pure (.int .i64)),(15,false,.pure (.int .i64))] [2,3,4,5,6,7,8,9,10,12,24,40,54,93] (fun v=>dnInv (renS (signedD c).1.2.1 [4,15,20]) ((co2 c2).2,(caS5 c 50),(co1 c2).1) (co2 c2).1 (v.1,v.2.1,v.2.2.1) v.2.2.2.1) (fun v=>(v.2.2.2.1:Int).toNat) rfl ?_ ?_
         · exact dnStart (co2_n c2)
         rintro⟨c3,y,(t:Int),(j:Int),_⟩ hJ
         have hJ:dnInv (renS (signedD c).1.2.1 [4,15,20]) ((co2 c2).2,(caS5 c 50),(co1 c2).1) (co2 c2).1 (c3,y,t) j:=hJ
         obtain⟨hc3,hy⟩:=coIn_P hc2 hta hJ
         have hy3:=tiny_big hy
         refine Vq (Vm hG rfl ?_)
         refine Vk rfl ?_ ?_<;>intro h4
         · have hm:j>0:=oTr h4
           refine Vs (Vq (Vb (Vq ?_)))
           refine VrD mixed hG rfl (by kernel_rfl) ?_ ?_
           · repeat' (first | exact trivial | exact hc0 | exact hsg | exact hk1 | exact hk2 | exact hk3 | exact Nat.succ_pos _ | exact one0 | exact fz_len _ | exact hr | exact hs | exact stampPiece_sm _ _ | exact mandPiece_sm _ | exact hs4 | exact hsb | exact hc2 | exact int_ok hc2 | exact hc3 | exact below_ok hc3 | exact hy3 | exact renOk (below_ok hc3) hy | exact hA | exact(⟨Int.le_refl _,Int.ofNat_lt.2 (signed_pos c)⟩:inRange 0 _) | refine And.intro ?_ ?_ | intro _)
           refine Vr hG rfl ?_ ?_
           · repeat' (first | exact trivial | exact hc0 | exact hsg | exact hk1 | exact hk2 | exact hk3 | exact Nat.succ_pos _ | exact one0 | exact fz_len _ | exact hr | exact hs | exact stampPiece_sm _ _ | exact mandPiece_sm _ | exact hs4 | exact hsb | exact hc2 | exact int_ok hc2 | exact hc3 | exact below_ok hc3 | exact hy3 | exact renOk (below_ok hc3) hy | exact hA | exact(⟨Int.le_refl _,Int.ofNat_lt.2 (signed_pos c)⟩:inRange 0 _) | refine And.intro ?_ ?_ | intro _)
           refine Vn hG rfl ?_
           refine⟨rfl,?_⟩
           exact dnStep hJ hm
         · have hm:¬j>0:=oFa h4
           have hE:(c3,y,t)=coZ (signedD c).1.2.1 (caS5 c 50) c2:=dnEnd hJ hm
           refine Vx ?_
           refine Vr hG rfl ?_ ?_
           · repeat' (first | exact trivial | exact hc0 | exact hsg | exact hk1 | exact hk2 | exact hk3 | exact Nat.succ_pos _ | exact one0 | exact fz_len _ | exact hr | exact hs | exact stampPiece_sm _ _ | exact mandPiece_sm _ | exact hs4 | exact hsb | exact hc2 | exact int_ok hc2 | exact hc3 | exact below_ok hc3 | exact hy3 | exact renOk (below_ok hc3) hy | exact hA | exact(⟨Int.le_refl _,Int.ofNat_lt.2 (signed_pos c)⟩:inRange 0 _) | refine And.intro ?_ ?_ | intro _)
           refine Vn hG rfl ?_
           refine⟨rfl,?_⟩
           have st:=coStep hI hl hE
           exact⟨⟨hF,st.1⟩,st.2⟩
       · have hl:¬i>0:=oFa h3
         have hE:=dnEnd hI hl
         refine Vx (Vq (VrD mixed hG rfl (by kernel_rfl) (by trivial) (Vt ?_)))
         have e:=((caseD_eq c).trans ((cT h0).trans (cT h1))).trans (caOut_eq (x:=(caY c 50)) hF hE)
         refine⟨⟨?_,trivial⟩,?_,?_,?_,trivial⟩
         · exact(congrArg Prod.snd e).symm
         · exact(congrArg (fun r=>r.1.1) e).symm
         · exact(congrArg (fun r=>r.1.2.1) e).symm
         · exact(congrArg (fun r=>r.1.2.2) e).symm
   · refine Vs (Vq ?_)
     refine VrD mixed hG rfl (by kernel_rfl) ?_ ?_
     · repeat' (first | exact trivial | exact hc0 | exact hsg | exact hk1 | exact hk2 | exact hk3 | exact Nat.succ_pos _ | exact one0 | exact fz_len _ | exact hr | exact hs | exact stampPiece_sm _ _ | exact mandPiece_sm _ | exact hs4 | exact hsb | exact hc2 | exact int_ok hc2 | exact hc3 | exact below_ok hc3 | exact hy3 | exact renOk (below_ok hc3) hy | exact hA | exact(⟨Int.le_refl _,Int.ofNat_lt.2 (signed_pos c)⟩:inRange 0 _) | refine And.intro ?_ ?_ | intro _)
     refine Vq ?_
     refine VrD mixed hG rfl (by kernel_rfl) ?_ ?_
     · repeat' (first | exact trivial | exact hc0 | exact hsg | exact hk1 | exact hk2 | exact hk3 | exact Nat.succ_pos _ | exact one0 | exact fz_len _ | exact hr | exact hs | exact stampPiece_sm _ _ | exact mandPiece_sm _ | exact hs4 | exact hsb | exact hc2 | exact int_ok hc2 | exact hc3 | exact below_ok hc3 | exact hy3 | exact renOk (below_ok hc3) hy | exact hA | exact(⟨Int.le_refl _,Int.ofNat_lt.2 (signed_pos c)⟩:inRange 0 _) | refine And.intro ?_ ?_ | intro _)
     refine Vq (Vm hG rfl (Vb ?_))
     refine Vc.frzIR 8 rfl rfl _ HEq.rfl ?_
     refine Vc.loopF [(5,true,.pair Z33 Z63),(9,false,.pure (.int .i64))] [0,2,3,4,6,7,8,10,12,13,14,15,24,40,93,104] (fun v=>caInv (caF c) (caS0 c (caQ c).2.2.2.2.2.1) v.1 v.2.1) (fun v=>(4-v.2.1:Int).toNat) rfl ?_ ?_
     · exact caStart
     rintro⟨s,(i:Int),_⟩ hI
     have hI:caInv (caF c) (caS0 c (caQ c).2.2.2.2.2.1) s i:=hI
     have hs:=tiny_big (caTiny hI (caS0_tiny c _))
     refine Vq (Vm hG rfl ?_)
     refine Vk rfl ?_ ?_<;>intro h5
     · have hl:i<4:=oTr h5
       have hr:=caRange hI hl (freshD_len _)
       refine Vs (Vq (Vb ?_))
       refine VrL mixed hG rfl (by kernel_rfl) ?_ ?_
       · repeat' (first | exact trivial | exact hc0 | exact hsg | exact hk1 | exact hk2 | exact hk3 | exact Nat.succ_pos _ | exact one0 | exact fz_len _ | exact hr | exact hs | exact stampPiece_sm _ _ | exact mandPiece_sm _ | exact hs4 | exact hsb | exact hc2 | exact int_ok hc2 | exact hc3 | exact below_ok hc3 | exact hy3 | exact renOk (below_ok hc3) hy | exact hA | exact(⟨Int.le_refl _,Int.ofNat_lt.2 (signed_pos c)⟩:inRange 0 _) | refine And.intro ?_ ?_ | intro _)
       refine Vn hG rfl ?_
       refine⟨rfl,?_⟩
       exact caStep hI hl rfl
     · have hl:¬i<4:=oFa h5
       have eS:=caEnd hI hl
       subst eS
       have hs4:=tiny_big (caS4_tiny c (caQ c).2.2.2.2.2.1)
       have hs5:=tiny_big (caS5_tiny c (caQ c).2.2.2.2.2.1)
       refine Vx (Vq ?_)
       refine VrD mixed hG rfl (by kernel_rfl) ?_ ?_
       · repeat' (first | exact trivial | exact hc0 | exact hsg | exact hk1 | exact hk2 | exact hk3 | exact Nat.succ_pos _ | exact one0 | exact fz_len _ | exact hr | exact hs | exact stampPiece_sm _ _ | exact mandPiece_sm _ | exact hs4 | exact hsb | exact hc2 | exact int_ok hc2 | exact hc3 | exact below_ok hc3 | exact hy3 | exact renOk (below_ok hc3) hy | exact hA | exact(⟨Int.le_refl _,Int.ofNat_lt.2 (signed_pos c)⟩:inRange 0 _) | refine And.intro ?_ ?_ | intro _)
       refine VrL mixed hG rfl (by kernel_rfl) ?_ ?_
       · repeat' (first | exact trivial | exact hc0 | exact hsg | exact hk1 | exact hk2 | exact hk3 | exact Nat.succ_pos _ | exact one0 | exact fz_len _ | exact hr | exact hs | exact stampPiece_sm _ _ | exact mandPiece_sm _ | exact hs4 | exact hsb | exact hc2 | exact int_ok hc2 | exact hc3 | exact below_ok hc3 | exact hy3 | exact renOk (below_ok hc3) hy | exact hA | exact(⟨Int.le_refl _,Int.ofNat_lt.2 (signed_pos c)⟩:inRange 0 _) | refine And.intro ?_ ?_ | intro _)
       refine Vq (Vq ?_)
       refine Vr hG rfl ?_ ?_
       · repeat' (first | exact trivial | exact hc0 | exact hsg | exact hk1 | exact hk2 | exact hk3 | exact Nat.succ_pos _ | exact one0 | exact fz_len _ | exact hr | exact hs | exact stampPiece_sm _ _ | exact mandPiece_sm _ | exact hs4 | exact hsb | exact hc2 | exact int_ok hc2 | exact hc3 | exact below_ok hc3 | exact hy3 | exact renOk (below_ok hc3) hy | exact hA | exact(⟨Int.le_refl _,Int.ofNat_lt.2 (signed_pos c)⟩:inRange 0 _) | refine And.intro ?_ ?_ | intro _)
       refine Vb ?_
       refine Vc.frz 6 rfl ?_
       refine Vc.loopF [(0,true,.pure Y18),(8,true,.pair Z69 Z42),(12,false,.pure (.int .i64))] [2,3,4,5,6,7,9,10,24,40,54] (fun v=>v.2.1.2=[caF c]∧dnInv (coS (signedD c).1.2.1 (caS5 c (caQ c).2.2.2.2.2.1)) ((cn1 (ca3 c).2).2,[]) (cnN (ca3 c).2) (v.1,v.2.1.1) v.2.2.1) (fun v=>(v.2.2.1:Int).toNat) rfl ?_ ?_
       · exact⟨rfl,dnStart ⟨(cnN_n _).1,(cnN_n _).2.1⟩⟩
       rintro⟨c2,e,(i:Int),_⟩ ⟨hF,hI⟩
       have hF:e.2=[caF c]:=hF
       have hI:dnInv (coS (signedD c).1.2.1 (caS5 c (caQ c).2.2.2.2.2.1)) ((cn1 (ca3 c).2).2,[]) (cnN (ca3 c).2) (c2,e.1) i:=hI
       obtain⟨hc2,hA⟩:=coInv_P hk3 htb hI
       have hsb:=tiny_big htb
       refine Vq (Vm hG rfl ?_)
       refine Vk rfl ?_ ?_<;>intro h6
       · have hl:i>0:=oTr h6
         refine Vs (Vq (Vb (Vq ?_)))
         refine Vr hG rfl ?_ ?_
         · repeat' (first | exact trivial | exact hc0 | exact hsg | exact hk1 | exact hk2 | exact hk3 | exact Nat.succ_pos _ | exact one0 | exact fz_len _ | exact hr | exact hs | exact stampPiece_sm _ _ | exact mandPiece_sm _ | exact hs4 | exact hsb | exact hc2 | exact int_ok hc2 | exact hc3 | exact below_ok hc3 | exact hy3 | exact renOk (below_ok hc3) hy | exact hA | exact(⟨Int.le_refl _,Int.ofNat_lt.2 (signed_pos c)⟩:inRange 0 _) | refine And.intro ?_ ?_ | intro _)
         refine Vq ?_
         refine Vr hG rfl ?_ ?_
         · repeat' (first | exact trivial | exact hc0 | exact hsg | exact hk1 | exact hk2 | exact hk3 | exact Nat.succ_pos _ | exact one0 | exact fz_len _ | exact hr | exact hs | exact stampPiece_sm _ _ | exact mandPiece_sm _ | exact hs4 | exact hsb | exact hc2 | exact int_ok hc2 | exact hc3 | exact below_ok hc3 | exact hy3 | exact renOk (below_ok hc3) hy | exact hA | exact(⟨Int.le_refl _,Int.ofNat_lt.2 (signed_pos c)⟩:inRange 0 _) | refine And.intro ?_ ?_ | intro _)
         refine Vq (Vq ?_)
         refine Vr hG rfl ?_ ?_
         · repeat' (first | exact trivial | exact hc0 | exact hsg | exact hk1 | exact hk2 | exact hk3 | exact Nat.succ_pos _ | exact one0 | exact fz_len _ | exact hr | exact hs | exact stampPiece_sm _ _ | exact mandPiece_sm _ | exact hs4 | exact hsb | exact hc2 | exact int_ok hc2 | exact hc3 | exact below_ok hc3 | exact hy3 | exact renOk (below_ok hc3) hy | exact hA | exact(⟨Int.le_refl _,Int.ofNat_lt.2 (signed_pos c)⟩:inRange 0 _) | refine And.intro ?_ ?_ | intro _)
         refine Vb ?_
         refine Vc.frz 13 rfl ?_
         refine Vc.loopF [(0,true,.pure Y18),(13,true,.pure Y64),(14,false,.pure (.int .i64)),(15,false,.pure (.int .i64))] [2,3,4,5,6,7,8,9,10,12,24,40,54,93] (fun v=>dnInv (renS (signedD c).1.2.1 [4,15,20]) ((co2 c2).2,(caS5 c (caQ c).2.2.2.2.2.1),(co1 c2).1) (co2 c2).1 (v.1,v.2.1,v.2.2.1) v.2.2.2.1) (fun v=>(v.2.2.2.1:Int).toNat) rfl ?_ ?_
         · exact dnStart (co2_n c2)
         rintro⟨c3,y,(t:Int),(j:Int),_⟩ hJ
         have hJ:dnInv (renS (signedD c).1.2.1 [4,15,20]) ((co2 c2).2,(caS5 c (caQ c).2.2.2.2.2.1),(co1 c2).1) (co2 c2).1 (c3,y,t) j:=hJ
         obtain⟨hc3,hy⟩:=coIn_P hc2 htb hJ
         have hy3:=tiny_big hy
         refine Vq (Vm hG rfl ?_)
         refine Vk rfl ?_ ?_<;>intro h7
         · have hm:j>0:=oTr h7
           refine Vs (Vq (Vb (Vq ?_)))
           refine VrD mixed hG rfl (by kernel_rfl) ?_ ?_
           · repeat' (first | exact trivial | exact hc0 | exact hsg | exact hk1 | exact hk2 | exact hk3 | exact Nat.succ_pos _ | exact one0 | exact fz_len _ | exact hr | exact hs | exact stampPiece_sm _ _ | exact mandPiece_sm _ | exact hs4 | exact hsb | exact hc2 | exact int_ok hc2 | exact hc3 | exact below_ok hc3 | exact hy3 | exact renOk (below_ok hc3) hy | exact hA | exact(⟨Int.le_refl _,Int.ofNat_lt.2 (signed_pos c)⟩:inRange 0 _) | refine And.intro ?_ ?_ | intro _)
           refine Vr hG rfl ?_ ?_
           · repeat' (first | exact trivial | exact hc0 | exact hsg | exact hk1 | exact hk2 | exact hk3 | exact Nat.succ_pos _ | exact one0 | exact fz_len _ | exact hr | exact hs | exact stampPiece_sm _ _ | exact mandPiece_sm _ | exact hs4 | exact hsb | exact hc2 | exact int_ok hc2 | exact hc3 | exact below_ok hc3 | exact hy3 | exact renOk (below_ok hc3) hy | exact hA | exact(⟨Int.le_refl _,Int.ofNat_lt.2 (signed_pos c)⟩:inRange 0 _) | refine And.intro ?_ ?_ | intro _)
           refine Vn hG rfl ?_
           refine⟨rfl,?_⟩
           exact dnStep hJ hm
         · have hm:¬j>0:=oFa h7
           have hE:(c3,y,t)=coZ (signedD c).1.2.1 (caS5 c (caQ c).2.2.2.2.2.1) c2:=dnEnd hJ hm
           refine Vx ?_
           refine Vr hG rfl ?_ ?_
           · repeat' (first | exact trivial | exact hc0 | exact hsg | exact hk1 | exact hk2 | exact hk3 | exact Nat.succ_pos _ | exact one0 | exact fz_len _ | exact hr | exact hs | exact stampPiece_sm _ _ | exact mandPiece_sm _ | exact hs4 | exact hsb | exact hc2 | exact int_ok hc2 | exact hc3 | exact below_ok hc3 | exact hy3 | exact renOk (below_ok hc3) hy | exact hA | exact(⟨Int.le_refl _,Int.ofNat_lt.2 (signed_pos c)⟩:inRange 0 _) | refine And.intro ?_ ?_ | intro _)
           refine Vn hG rfl ?_
           refine⟨rfl,?_⟩
           have st:=coStep hI hl hE
           exact⟨⟨hF,st.1⟩,st.2⟩
       · have hl:¬i>0:=oFa h6
         have hE:=dnEnd hI hl
         refine Vx (Vq (VrD mixed hG rfl (by kernel_rfl) (by trivial) (Vt ?_)))
         have e:=((caseD_eq c).trans ((cT h0).trans (cF h1))).trans (caOut_eq (x:=(caY c (caQ c).2.2.2.2.2.1)) hF hE)
         refine⟨⟨?_,trivial⟩,?_,?_,?_,trivial⟩
         · exact(congrArg Prod.snd e).symm
         · exact(congrArg (fun r=>r.1.1) e).symm
         · exact(congrArg (fun r=>r.1.2.1) e).symm
         · exact(congrArg (fun r=>r.1.2.2) e).symm
 · refine Vs (Vq (Vq ?_))
   refine Vr hG rfl ?_ ?_
   · repeat' (first | exact trivial | exact hc0 | exact hsg | exact hk1 | exact hk2 | exact hk3 | exact Nat.succ_pos _ | exact one0 | exact fz_len _ | exact hr | exact hs | exact stampPiece_sm _ _ | exact mandPiece_sm _ | exact hs4 | exact hsb | exact hc2 | exact int_ok hc2 | exact hc3 | exact below_ok hc3 | exact hy3 | exact renOk (below_ok hc3) hy | exact hA | exact(⟨Int.le_refl _,Int.ofNat_lt.2 (signed_pos c)⟩:inRange 0 _) | refine And.intro ?_ ?_ | intro _)
   refine Vb ?_
   refine Vc.frz 6 rfl ?_
   refine Vc.loopF [(0,true,.pure Y18),(8,true,.pair Z69 Z42),(12,false,.pure (.int .i64))] [2,3,4,5,6,7,9,10,24,40,54] (fun v=>v.2.1.2=[]∧dnInv (coS (signedD c).1.2.1 (signedD c).1.1) ((cn1 (ca1 c).2).2,[]) (cnN (ca1 c).2) (v.1,v.2.1.1) v.2.2.1) (fun v=>(v.2.2.1:Int).toNat) rfl ?_ ?_
   · exact⟨rfl,dnStart ⟨(cnN_n _).1,(cnN_n _).2.1⟩⟩
   rintro⟨c2,e,(i:Int),_⟩ ⟨hF,hI⟩
   have hF:e.2=[]:=hF
   have hI:dnInv (coS (signedD c).1.2.1 (signedD c).1.1) ((cn1 (ca1 c).2).2,[]) (cnN (ca1 c).2) (c2,e.1) i:=hI
   obtain⟨hc2,hA⟩:=coInv_P hk1 htc hI
   have hsb:=tiny_big htc
   refine Vq (Vm hG rfl ?_)
   refine Vk rfl ?_ ?_<;>intro h8
   · have hl:i>0:=oTr h8
     refine Vs (Vq (Vb (Vq ?_)))
     refine Vr hG rfl ?_ ?_
     · repeat' (first | exact trivial | exact hc0 | exact hsg | exact hk1 | exact hk2 | exact hk3 | exact Nat.succ_pos _ | exact one0 | exact fz_len _ | exact hr | exact hs | exact stampPiece_sm _ _ | exact mandPiece_sm _ | exact hs4 | exact hsb | exact hc2 | exact int_ok hc2 | exact hc3 | exact below_ok hc3 | exact hy3 | exact renOk (below_ok hc3) hy | exact hA | exact(⟨Int.le_refl _,Int.ofNat_lt.2 (signed_pos c)⟩:inRange 0 _) | refine And.intro ?_ ?_ | intro _)
     refine Vq ?_
     refine Vr hG rfl ?_ ?_
     · repeat' (first | exact trivial | exact hc0 | exact hsg | exact hk1 | exact hk2 | exact hk3 | exact Nat.succ_pos _ | exact one0 | exact fz_len _ | exact hr | exact hs | exact stampPiece_sm _ _ | exact mandPiece_sm _ | exact hs4 | exact hsb | exact hc2 | exact int_ok hc2 | exact hc3 | exact below_ok hc3 | exact hy3 | exact renOk (below_ok hc3) hy | exact hA | exact(⟨Int.le_refl _,Int.ofNat_lt.2 (signed_pos c)⟩:inRange 0 _) | refine And.intro ?_ ?_ | intro _)
     refine Vq (Vq ?_)
     refine Vr hG rfl ?_ ?_
     · repeat' (first | exact trivial | exact hc0 | exact hsg | exact hk1 | exact hk2 | exact hk3 | exact Nat.succ_pos _ | exact one0 | exact fz_len _ | exact hr | exact hs | exact stampPiece_sm _ _ | exact mandPiece_sm _ | exact hs4 | exact hsb | exact hc2 | exact int_ok hc2 | exact hc3 | exact below_ok hc3 | exact hy3 | exact renOk (below_ok hc3) hy | exact hA | exact(⟨Int.le_refl _,Int.ofNat_lt.2 (signed_pos c)⟩:inRange 0 _) | refine And.intro ?_ ?_ | intro _)
     refine Vb ?_
     refine Vc.frz 13 rfl ?_
     refine Vc.loopF [(0,true,.pure Y18),(13,true,.pure Y64),(14,false,.pure (.int .i64)),(15,false,.pure (.int .i64))] [2,3,4,5,6,7,8,9,10,12,24,40,54,93] (fun v=>dnInv (renS (signedD c).1.2.1 [4,15,20]) ((co2 c2).2,(signedD c).1.1,(co1 c2).1) (co2 c2).1 (v.1,v.2.1,v.2.2.1) v.2.2.2.1) (fun v=>(v.2.2.2.1:Int).toNat) rfl ?_ ?_
     · exact dnStart (co2_n c2)
     rintro⟨c3,y,(t:Int),(j:Int),_⟩ hJ
     have hJ:dnInv (renS (signedD c).1.2.1 [4,15,20]) ((co2 c2).2,(signedD c).1.1,(co1 c2).1) (co2 c2).1 (c3,y,t) j:=hJ
     obtain⟨hc3,hy⟩:=coIn_P hc2 htc hJ
     have hy3:=tiny_big hy
     refine Vq (Vm hG rfl ?_)
     refine Vk rfl ?_ ?_<;>intro h9
     · have hm:j>0:=oTr h9
       refine Vs (Vq (Vb (Vq ?_)))
       refine VrD mixed hG rfl (by kernel_rfl) ?_ ?_
       · repeat' (first | exact trivial | exact hc0 | exact hsg | exact hk1 | exact hk2 | exact hk3 | exact Nat.succ_pos _ | exact one0 | exact fz_len _ | exact hr | exact hs | exact stampPiece_sm _ _ | exact mandPiece_sm _ | exact hs4 | exact hsb | exact hc2 | exact int_ok hc2 | exact hc3 | exact below_ok hc3 | exact hy3 | exact renOk (below_ok hc3) hy | exact hA | exact(⟨Int.le_refl _,Int.ofNat_lt.2 (signed_pos c)⟩:inRange 0 _) | refine And.intro ?_ ?_ | intro _)
       refine Vr hG rfl ?_ ?_
       · repeat' (first | exact trivial | exact hc0 | exact hsg | exact hk1 | exact hk2 | exact hk3 | exact Nat.succ_pos _ | exact one0 | exact fz_len _ | exact hr | exact hs | exact stampPiece_sm _ _ | exact mandPiece_sm _ | exact hs4 | exact hsb | exact hc2 | exact int_ok hc2 | exact hc3 | exact below_ok hc3 | exact hy3 | exact renOk (below_ok hc3) hy | exact hA | exact(⟨Int.le_refl _,Int.ofNat_lt.2 (signed_pos c)⟩:inRange 0 _) | refine And.intro ?_ ?_ | intro _)
       refine Vn hG rfl ?_
       refine⟨rfl,?_⟩
       exact dnStep hJ hm
     · have hm:¬j>0:=oFa h9
       have hE:(c3,y,t)=coZ (signedD c).1.2.1 (signedD c).1.1 c2:=dnEnd hJ hm
       refine Vx ?_
       refine Vr hG rfl ?_ ?_
       · repeat' (first | exact trivial | exact hc0 | exact hsg | exact hk1 | exact hk2 | exact hk3 | exact Nat.succ_pos _ | exact one0 | exact fz_len _ | exact hr | exact hs | exact stampPiece_sm _ _ | exact mandPiece_sm _ | exact hs4 | exact hsb | exact hc2 | exact int_ok hc2 | exact hc3 | exact below_ok hc3 | exact hy3 | exact renOk (below_ok hc3) hy | exact hA | exact(⟨Int.le_refl _,Int.ofNat_lt.2 (signed_pos c)⟩:inRange 0 _) | refine And.intro ?_ ?_ | intro _)
       refine Vn hG rfl ?_
       refine⟨rfl,?_⟩
       have st:=coStep hI hl hE
       exact⟨⟨hF,st.1⟩,st.2⟩
   · have hl:¬i>0:=oFa h8
     have hE:=dnEnd hI hl
     refine Vx (Vq (VrD mixed hG rfl (by kernel_rfl) (by trivial) (Vt ?_)))
     have e:=((caseD_eq c).trans (cF h0)).trans (caOut_eq (x:=(caQ c)) hF hE)
     refine⟨⟨?_,trivial⟩,?_,?_,?_,trivial⟩
     · exact(congrArg Prod.snd e).symm
     · exact(congrArg (fun r=>r.1.1) e).symm
     · exact(congrArg (fun r=>r.1.2.1) e).symm
     · exact(congrArg (fun r=>r.1.2.2) e).symm
end Fw
