/- Walks of functions of the program: what each computes. Conditions: those that each contract names. -/
import Derived.Test.YtpcljloahdbjcaaGreatW54T
import Derived.Test.YtpcljloahdbjcaaGreatW54i0
import Derived.Test.YtpcljloahdbjcaaGreatW54i1
set_option linter.unusedVariables false
namespace Fw
open Go Go.Proofs
set_option linter.unusedSimpArgs false
set_option maxRecDepth 100000
noncomputable def F30:Fun:=⟨[.pair Y36 Y57,.pair Y67 Y39,.slice Y19,.pair (.int .i64) Y50],[.pure (.int .i64)],fun x=>(fun(_:Frame) (e:Evidence) (_:List Piece) (_:Sig)=>Sm big20 (.slice (.slice TStamp)) e.2) x.1 x.2.1 x.2.2.1 x.2.2.2.1,fun x=>(freshG x.1 x.2.1 x.2.2.1 x.2.2.2.1,())⟩
set_option maxHeartbeats 2000000 in
theorem F30_ok:Meets Tryz.prog 30 F30:=by
 refine mZ (C:=mkC 92 [8] [0,1,2,3,4,5,7,8,9,10,12,13,15,16,17,24,32,33,34,35,54,55,56,57,58,85] [⟨34,_,F34_ok⟩,⟨108,_,F108_ok⟩,⟨109,_,F109_ok⟩,⟨111,_,F111_ok⟩,⟨110,_,F110_ok⟩,⟨97,_,F97_ok⟩,⟨112,_,F112_ok⟩]) (mO _ _ _ _) (fO _) Tryz.func30 rfl rfl rfl (by decide) rfl ?_
 rintro⟨a0,a1,a2,a3,_⟩ hwf hpre ⟨⟩ hG rfl rfl
 show Vc _ _ [(0,⟨0,0,.c Z68 a0⟩),(1,⟨0,0,.c Z73 a1⟩),(2,⟨0,0,.c Z28 a2⟩),(3,⟨0,0,.c Z54 a3⟩)] _
 have hp:List.length a1.2≤big20∧∀ l∈a1.2,Sm big20 (.slice TStamp) l:=hpre
 have hb:List.length a1.2≤bigLen:=hwf.2.1.2.1
 refine Vm hG rfl (Vm hG rfl (Vq (Vm hG rfl ?_)))
 refine Vm hG rfl ?_
 refine Vk rfl ?_ ?_<;>intro h0
 · have g0:keyI a0.1 a3.1≥0:=oTr h0
   have eb:=born1 g0
   refine Vr hG rfl ?_ ?_
   · exact findRange (show ¬keyI a0.1 a3.1<0 from by omega)
   refine Vq (Vm hG rfl (Vb ?_))
   refine Vc.loopF [(9,false,.pure (.int .i64)),(34,false,.pure (.int .i64))] [0,1,2,3,4,5,7,8,10,24,32,33] (fun v=>foInv (frG a0 a2 a3) (bornF a0 a3) a1.2 v.1 v.2.1) (fun v=>((List.length a1.2:Int)-v.2.1).toNat) rfl ?_ ?_
   · exact frStart eb
   rintro⟨(t:Int),(i:Int),_⟩ hI
   have hI:foInv (frG a0 a2 a3) (bornF a0 a3) a1.2 t i:=hI
   refine Vm hG rfl (Vq ?_)
   refine Vk rfl ?_ ?_<;>intro h1
   · have hl:i<(List.length a1.2:Int):=oTr h1
     have r1:=foRange hI hl
     have hE:List.length (List.getD a1.2 i.toNat (dflt (.slice TStamp)))≤1048576:=(hp.2 _ (getD_mem r1 _)).1
     have hbk:List.length (List.getD a1.2 i.toNat (dflt (.slice TStamp)))≤bigLen:=Nat.le_trans hE (by decide)
     refine Vs (Vq (Vb (Vq ?_)))
     refine Vr hG rfl ?_ ?_
     · exact r1
     refine Vq (Vq ?_)
     refine VrD mixed hG rfl (by kernel_rfl) ?_ ?_
     · exact⟨fun _=>trivial,fun _=>hE⟩
     refine Vk rfl ?_ ?_<;>intro h2
     · have g1:pick2 (pick2 (a3.2.2.2.2.2.2.2.1==0) true (!(riseF (List.getD a1.2 i.toNat (dflt (.slice TStamp)))))) true (stampsDgF a3.2.2.1 (List.getD a1.2 i.toNat (dflt (.slice TStamp))) != a3.2.2.2.2.2.2.2.1)=true:=h2
       have st:=foStepE (d:=dflt (.slice TStamp)) hI hl hb (frSkip (t:=t) g1)
       refine Vx (Vn hG rfl ?_)
       refine⟨rfl,?_⟩
       exact st
     · have g1:pick2 (pick2 (a3.2.2.2.2.2.2.2.1==0) true (!(riseF (List.getD a1.2 i.toNat (dflt (.slice TStamp)))))) true (stampsDgF a3.2.2.1 (List.getD a1.2 i.toNat (dflt (.slice TStamp))) != a3.2.2.2.2.2.2.2.1)=false:=h2
       refine Vs (Vm hG rfl (Vq (Vm hG rfl ?_)))
       refine Vb ?_
       refine Vc.loopF [(13,false,.pure (.bool)),(57,false,.pure (.int .i64))] [0,1,2,3,4,5,7,8,9,10,12,16,17,24,32,33,34,35,54,55,56,85] (fun v=>hbInv a0 a2 (List.getD a1.2 i.toNat (dflt (.slice TStamp))) v.1 v.2.1) (fun v=>((List.length (List.getD a1.2 i.toNat (dflt (.slice TStamp))):Int)-v.2.1).toNat) rfl ?_ ?_
       · exact hbStart
       rintro⟨b,(k:Int),_⟩ hK
       have hK:hbInv a0 a2 (List.getD a1.2 i.toNat (dflt (.slice TStamp))) b k:=hK
       refine Vm hG rfl (Vq ?_)
       refine Vk rfl ?_ ?_<;>intro h3
       · have hm:k<(List.length (List.getD a1.2 i.toNat (dflt (.slice TStamp))):Int):=oTr h3
         refine Vs (Vq (Vb (Vq ?_)))
         refine Vr hG rfl ?_ ?_
         · exact hbRange hK hm
         refine VrD mixed hG rfl (by kernel_rfl) ?_ ?_
         · repeat' (first | exact trivial | refine And.intro ?_ ?_ | intro _)
         refine Vn hG rfl ?_
         refine⟨rfl,?_⟩
         exact hbStep hK hm hbk rfl
       · have hm:¬k<(List.length (List.getD a1.2 i.toNat (dflt (.slice TStamp))):Int):=oFa h3
         have hB:=hbEnd hK hm
         refine Vx (Vq ?_)
         refine Vr hG rfl ?_ ?_
         · exact hE
         refine Vm hG rfl ?_
         refine Vk rfl ?_ ?_<;>intro h4
         · have st:=foStepE (d:=dflt (.slice TStamp)) hI hl hb (frMax g1 hB h4)
           refine Vn hG rfl (Vn hG rfl ?_)
           refine⟨rfl,?_⟩
           exact st
         · have st:=foStepE (d:=dflt (.slice TStamp)) hI hl hb (frKeep (t:=t) (x:=a3) hB h4)
           refine Vs (Vn hG rfl ?_)
           refine⟨rfl,?_⟩
           exact st
   · have hl:¬i<(List.length a1.2:Int):=oFa h1
     refine Vx (Vm hG rfl (Vt ?_))
     refine⟨?_,trivial⟩
     exact foEnd hI hl
 · have g0:¬keyI a0.1 a3.1≥0:=oFa h0
   have eb:=born0 g0
   refine Vs (Vq (Vm hG rfl (Vb ?_)))
   refine Vc.loopF [(9,false,.pure (.int .i64)),(34,false,.pure (.int .i64))] [0,1,2,3,4,5,7,8,10,24,32,33] (fun v=>foInv (frG a0 a2 a3) (bornF a0 a3) a1.2 v.1 v.2.1) (fun v=>((List.length a1.2:Int)-v.2.1).toNat) rfl ?_ ?_
   · exact frStart eb
   rintro⟨(t:Int),(i:Int),_⟩ hI
   have hI:foInv (frG a0 a2 a3) (bornF a0 a3) a1.2 t i:=hI
   refine Vm hG rfl (Vq ?_)
   refine Vk rfl ?_ ?_<;>intro h5
   · have hl:i<(List.length a1.2:Int):=oTr h5
     have r1:=foRange hI hl
     have hE:List.length (List.getD a1.2 i.toNat (dflt (.slice TStamp)))≤1048576:=(hp.2 _ (getD_mem r1 _)).1
     have hbk:List.length (List.getD a1.2 i.toNat (dflt (.slice TStamp)))≤bigLen:=Nat.le_trans hE (by decide)
     refine Vs (Vq (Vb (Vq ?_)))
     refine Vr hG rfl ?_ ?_
     · exact r1
     refine Vq (Vq ?_)
     refine VrD mixed hG rfl (by kernel_rfl) ?_ ?_
     · exact⟨fun _=>trivial,fun _=>hE⟩
     refine Vk rfl ?_ ?_<;>intro h6
     · have g1:pick2 (pick2 (a3.2.2.2.2.2.2.2.1==0) true (!(riseF (List.getD a1.2 i.toNat (dflt (.slice TStamp)))))) true (stampsDgF a3.2.2.1 (List.getD a1.2 i.toNat (dflt (.slice TStamp))) != a3.2.2.2.2.2.2.2.1)=true:=h6
       have st:=foStepE (d:=dflt (.slice TStamp)) hI hl hb (frSkip (t:=t) g1)
       refine Vx (Vn hG rfl ?_)
       refine⟨rfl,?_⟩
       exact st
     · have g1:pick2 (pick2 (a3.2.2.2.2.2.2.2.1==0) true (!(riseF (List.getD a1.2 i.toNat (dflt (.slice TStamp)))))) true (stampsDgF a3.2.2.1 (List.getD a1.2 i.toNat (dflt (.slice TStamp))) != a3.2.2.2.2.2.2.2.1)=false:=h6
       refine Vs (Vm hG rfl (Vq (Vm hG rfl ?_)))
       refine Vb ?_
       refine Vc.loopF [(13,false,.pure (.bool)),(57,false,.pure (.int .i64))] [0,1,2,3,4,5,7,8,9,10,12,16,17,24,32,33,34,35,54,55,56,85] (fun v=>hbInv a0 a2 (List.getD a1.2 i.toNat (dflt (.slice TStamp))) v.1 v.2.1) (fun v=>((List.length (List.getD a1.2 i.toNat (dflt (.slice TStamp))):Int)-v.2.1).toNat) rfl ?_ ?_
       · exact hbStart
       rintro⟨b,(k:Int),_⟩ hK
       have hK:hbInv a0 a2 (List.getD a1.2 i.toNat (dflt (.slice TStamp))) b k:=hK
       refine Vm hG rfl (Vq ?_)
       refine Vk rfl ?_ ?_<;>intro h7
       · have hm:k<(List.length (List.getD a1.2 i.toNat (dflt (.slice TStamp))):Int):=oTr h7
         refine Vs (Vq (Vb (Vq ?_)))
         refine Vr hG rfl ?_ ?_
         · exact hbRange hK hm
         refine VrD mixed hG rfl (by kernel_rfl) ?_ ?_
         · repeat' (first | exact trivial | refine And.intro ?_ ?_ | intro _)
         refine Vn hG rfl ?_
         refine⟨rfl,?_⟩
         exact hbStep hK hm hbk rfl
       · have hm:¬k<(List.length (List.getD a1.2 i.toNat (dflt (.slice TStamp))):Int):=oFa h7
         have hB:=hbEnd hK hm
         refine Vx (Vq ?_)
         refine Vr hG rfl ?_ ?_
         · exact hE
         refine Vm hG rfl ?_
         refine Vk rfl ?_ ?_<;>intro h8
         · have st:=foStepE (d:=dflt (.slice TStamp)) hI hl hb (frMax g1 hB h8)
           refine Vn hG rfl (Vn hG rfl ?_)
           refine⟨rfl,?_⟩
           exact st
         · have st:=foStepE (d:=dflt (.slice TStamp)) hI hl hb (frKeep (t:=t) (x:=a3) hB h8)
           refine Vs (Vn hG rfl ?_)
           refine⟨rfl,?_⟩
           exact st
   · have hl:¬i<(List.length a1.2:Int):=oFa h5
     refine Vx (Vm hG rfl (Vt ?_))
     refine⟨?_,trivial⟩
     exact foEnd hI hl
noncomputable def F42:Fun:=⟨[.slice Y19,.pair (.int .i64) Y40],[.own Z35],fun x=>(fun a0 _=>List.length a0≤2000000000) x.1 x.2.1,fun x=>(statusesF x.1 x.2.1,())⟩
theorem F42_ok:Meets Tryz.prog 42 F42:=by
 refine mZ (C:=mkC 42 [4] [0,1,3,4,5,7,8,9,10,11,12,13,35] [⟨102,_,F102_ok⟩]) (mO _ _ _ _) (fO _) Tryz.func42 rfl rfl rfl (by decide) rfl ?_
 rintro⟨a0,a1,_⟩ hwf hpre ⟨⟩ hG rfl rfl
 show Vc _ _ [(0,⟨0,0,.c Z28 a0⟩),(1,⟨0,0,.c Z48 a1⟩)] _
 have hb:List.length a0≤bigLen:=hwf.1.1
 have hs:List.length a0≤2000000000:=hpre
 refine Vm hG rfl (Vm hG rfl (Vq (Vm hG rfl ?_)))
 refine Vb ?_
 refine Vc.loopF [(5,false,.own Z35),(12,false,.pure (.int .i64))] [0,1,3,4,10,11] (fun v=>pkInv (statFor a1) a0 v.1 v.2.1) (fun v=>((List.length a0:Int)-v.2.1).toNat) rfl ?_ ?_
 · exact pkStart
 rintro⟨acc,(i:Int),_⟩ hI
 have hI:pkInv (statFor a1) a0 acc i:=hI
 refine Vm hG rfl (Vq ?_)
 refine Vk rfl ?_ ?_<;>intro h0
 · have hl:i<(List.length a0:Int):=oTr h0
   refine Vs (Vq (Vb (Vq ?_)))
   refine Vr hG rfl ?_ ?_
   · exact pkRange hI hl
   refine Vm hG rfl (Vm hG rfl ?_)
   refine Vk rfl ?_ ?_<;>intro h1
   · have g1:((statFor a1) (List.getD a0 i.toNat (dflt Y19))).2=true:=h1
     refine Vr hG rfl ?_ ?_
     · exact pkLenW hI hs
     refine Vn hG rfl ?_
     refine⟨rfl,?_⟩
     first
       | exact pkYes (d:=dflt Y19) hI hl hb g1
       | exact pkNo (d:=dflt Y19) hI hl hb g1
   · have g1:((statFor a1) (List.getD a0 i.toNat (dflt Y19))).2=false:=h1
     refine Vs (Vn hG rfl ?_)
     refine⟨rfl,?_⟩
     first
       | exact pkYes (d:=dflt Y19) hI hl hb g1
       | exact pkNo (d:=dflt Y19) hI hl hb g1
 · have hl:¬i<(List.length a0:Int):=oFa h0
   refine Vx (Vm hG rfl (Vt ?_))
   refine⟨?_,trivial⟩
   exact pkEnd hI hl
noncomputable def K320:KFun:=⟨.own Z9,[.int .i64,.int .i64],fun x xs=>(fun(l:List Span) (_ _:Int)=>List.length l≤1000) x xs.1 xs.2.1,fun x xs=>bPut x xs.1 xs.2.1⟩
theorem K320_ok:MeetsK Tryz.prog 320 K320:=by
 refine meetsK_of_vc (C:=mkCM 18 [] [0,1,2,5,6,13] [⟨256,_,F256_ok⟩] [] [] [2]) (mkCM_ok _ _ _ _ _ _ _) (fO _) Tryz.func320 rfl rfl rfl (by decide) rfl rfl rfl ?_ rfl
 rintro x ⟨(a0:Int),(a1:Int),_⟩ hwx hwf hpre ⟨⟩ hG rfl rfl
 show Vc _ _ [(2,⟨0,0,.c (.ref (.own Z9)) x⟩),(0,⟨0,0,.c (.pure (.int .i64)) a0⟩),(1,⟨0,0,.c (.pure (.int .i64)) a1⟩)] _
 have hs:List.length x≤1000:=hpre
 refine Vm hG rfl (Vm hG rfl ?_)
 refine Vk rfl ?_ ?_<;>intro h0
 · refine Vr hG rfl ?_ ?_
   · exact bpApp hs
   refine⟨?_,trivial⟩
   exact bpY h0
 · refine Vs ?_
   refine⟨?_,trivial⟩
   exact bpN h0
noncomputable def F124:Fun:=⟨[.slice Y34,.int .i64],[.pure (.int .i64),.pure (.int .i64),.pure (.int .i64)],fun _=>True,fun x=>(((fun a0 a1=>(leastF a0 a1,mostF a0 a1,goodF a0 a1)) x.1 x.2.1).1,((fun a0 a1=>(leastF a0 a1,mostF a0 a1,goodF a0 a1)) x.1 x.2.1).2.1,((fun a0 a1=>(leastF a0 a1,mostF a0 a1,goodF a0 a1)) x.1 x.2.1).2.2,())⟩
theorem F124_ok:Meets Tryz.prog 124 F124:=by
 refine mZ (C:=mkC 49 [4,5,6] [0,1,4,5,6,7,8,9,11,12,13,14,15,25,32,37] []) (mO _ _ _ _) (fO _) Tryz.func124 rfl rfl rfl (by decide) rfl ?_
 rintro⟨a0,(a1:Int),_⟩ hwf hpre ⟨⟩ hG rfl rfl
 show Vc _ _ [(0,⟨0,0,.c Z38 a0⟩),(1,⟨0,0,.c (.pure (.int .i64)) a1⟩)] _
 have hb:List.length a0≤bigLen:=hwf.1.1
 refine Vm hG rfl (Vm hG rfl (Vq (Vm hG rfl ?_)))
 refine Vb ?_
 refine Vc.loopF [(7,false,.pure (.int .i64)),(8,false,.pure (.int .i64)),(9,false,.pure (.int .i64)),(14,false,.pure (.int .i64))] [0,1,4,5,6,12,13] (fun v=>foInv (lsS a1) (-1) a0 v.1 v.2.2.2.1∧foInv (msS a1) (-1) a0 v.2.1 v.2.2.2.1∧foInv (gsS a1) (-1) a0 v.2.2.1 v.2.2.2.1) (fun v=>((List.length a0:Int)-v.2.2.2.1).toNat) rfl ?_ ?_
 · exact⟨foStart,foStart,foStart⟩
 rintro⟨(x:Int),(y:Int),(z:Int),(i:Int),_⟩ hI
 have hI:foInv (lsS a1) (-1) a0 x i∧foInv (msS a1) (-1) a0 y i∧foInv (gsS a1) (-1) a0 z i:=hI
 refine Vm hG rfl (Vq ?_)
 refine Vk rfl ?_ ?_<;>intro h0
 · have hl:i<(List.length a0:Int):=oTr h0
   refine Vs (Vq (Vb (Vq ?_)))
   refine Vr hG rfl ?_ ?_
   · exact foRange hI.1 hl
   refine Vb (Vm hG rfl ?_)
   refine Vk rfl ?_ ?_<;>intro h1
   · have g1:((List.getD a0 i.toNat (dflt Y34)).1 != a1)=true:=h1
     have st:=fo3 (d:=dflt Y34) hI hl hb (lsN1 g1) (msN1 g1) (gsN1 g1)
     refine Vs (Vn hG rfl ?_)
     refine⟨rfl,?_⟩
     exact st
   · have g1:((List.getD a0 i.toNat (dflt Y34)).1 != a1)=false:=h1
     refine Vm hG rfl ?_
     refine Vk rfl ?_ ?_<;>intro h2
     · have g2:(List.getD a0 i.toNat (dflt Y34)).2.2.1<0:=oTr h2
       have st:=fo3 (d:=dflt Y34) hI hl hb (lsN2 g2) (msN2 g2) (gsY g1 g2)
       refine Vn hG rfl (Vn hG rfl ?_)
       refine⟨rfl,?_⟩
       exact st
     · have g2:¬(List.getD a0 i.toNat (dflt Y34)).2.2.1<0:=oFa h2
       refine Vq (Vm hG rfl ?_)
       refine Vk rfl ?_ ?_<;>intro h3
       · have st:=fo3 (d:=dflt Y34) hI hl hb (lsY g1 g2 h3) (msY g1 g2) (gsN2 g2)
         refine Vn hG rfl (Vn hG rfl (Vn hG rfl ?_))
         refine⟨rfl,?_⟩
         exact st
       · have st:=fo3 (d:=dflt Y34) hI hl hb (lsN3 h3) (msY g1 g2) (gsN2 g2)
         refine Vs (Vn hG rfl (Vn hG rfl ?_))
         refine⟨rfl,?_⟩
         exact st
 · have hl:¬i<(List.length a0:Int):=oFa h0
   refine Vx (Vm hG rfl (Vt ?_))
   refine⟨?_,?_,?_,trivial⟩
   · exact foEnd hI.1 hl
   · exact foEnd hI.2.1 hl
   · exact foEnd hI.2.2 hl
noncomputable def F224:Fun:=⟨[.slice Y34,.int .i64],[.pure (.int .i64)],fun _=>True,fun x=>(badFromF x.1 x.2.1,())⟩
theorem F224_ok:Meets Tryz.prog 224 F224:=by
 refine mZ (C:=mkC 21 [4] [0,1,4,6,7,16] [⟨124,_,F124_ok⟩]) (mO _ _ _ _) (fO _) Tryz.func224 rfl rfl rfl (by decide) rfl ?_
 rintro⟨a0,(a1:Int),_⟩ hwf hpre ⟨⟩ hG rfl rfl
 show Vc _ _ [(0,⟨0,0,.c Z38 a0⟩),(1,⟨0,0,.c (.pure (.int .i64)) a1⟩)] _
 refine Vm hG rfl (Vm hG rfl (Vq (Vm hG rfl ?_)))
 refine Vk rfl ?_ ?_<;>intro h0
 · refine Vm hG rfl (Vt ?_)
   refine⟨?_,trivial⟩
   exact bfA rfl h0
 · refine Vs (Vm hG rfl (Vt ?_))
   refine⟨?_,trivial⟩
   exact bfB rfl rfl h0
noncomputable def F192:Fun:=⟨[.slice Y5],[.own Z9],fun x=>(fun(l:List Span)=>List.length l≤2000000000) x.1,fun x=>(joinF x.1,())⟩
theorem F192_ok:Meets Tryz.prog 192 F192:=by
 refine mZ (C:=mkC 85 [2] [0,2,3,5,6,8,9,10,11,12,13,18,19,20,21,22,38,68] [⟨123,_,F123_ok⟩]) (mO _ _ _ _) (fO _) Tryz.func192 rfl rfl rfl (by decide) rfl ?_
 rintro⟨a0,_⟩ hwf hpre ⟨⟩ hG rfl rfl
 show Vc _ _ [(0,⟨0,0,.c Z14 a0⟩)] _
 have hs:List.length a0≤2000000000:=hpre
 have hb:List.length a0≤bigLen:=hwf.1.1
 refine Vm hG rfl (Vm hG rfl (Vq (Vm hG rfl ?_)))
 refine Vb ?_
 refine Vc.loopF [(3,false,.own Z9),(12,false,.pure (.int .i64))] [0,2,10,11] (fun v=>foInv joinG [] a0 v.1 v.2.1) (fun v=>((List.length a0:Int)-v.2.1).toNat) rfl ?_ ?_
 · exact foStart
 rintro⟨acc,(i:Int),_⟩ hI
 have hI:foInv joinG [] a0 acc i:=hI
 have hA:List.length acc≤2000000000:=joinLenI hI hs
 refine Vm hG rfl (Vq ?_)
 refine Vk rfl ?_ ?_<;>intro h0
 · have hl:i<(List.length a0:Int):=oTr h0
   refine Vs (Vq (Vb (Vq ?_)))
   refine Vr hG rfl ?_ ?_
   · exact foRange hI hl
   refine Vq (Vm hG rfl ?_)
   refine Vk rfl ?_ ?_<;>intro h1
   · have g1:isSpanF (List.getD a0 i.toNat (dflt Y5))=false:=notT' h1
     have st:=foStepE (d:=dflt Y5) hI hl hb (joinN g1)
     refine Vx (Vn hG rfl ?_)
     refine⟨rfl,?_⟩
     exact st
   · have g1:isSpanF (List.getD a0 i.toNat (dflt Y5))=true:=notF h1
     have hbA:List.length acc≤bigLen:=Nat.le_trans hA (by decide)
     refine Vs (Vm hG rfl (Vq (Vm hG rfl ?_)))
     refine Vb ?_
     refine Vc.loopF [(5,true,.pure Y5),(6,false,.own Z9),(21,false,.pure (.int .i64))] [0,2,3,9,10,11,12,13,18,19,20,68] (fun v=>foInv jG ([],(List.getD a0 i.toNat (dflt Y5))) acc (v.2.1,v.1) v.2.2.1) (fun v=>((List.length acc:Int)-v.2.2.1).toNat) rfl ?_ ?_
     · exact foStart
     rintro⟨s,nx,(j:Int),_⟩ hJ
     have hJ:foInv jG ([],(List.getD a0 i.toNat (dflt Y5))) acc (nx,s) j:=hJ
     have hN:List.length nx≤2000000000:=jLenI hJ hA
     refine Vm hG rfl (Vq ?_)
     refine Vk rfl ?_ ?_<;>intro h2
     · have hm:j<(List.length acc:Int):=oTr h2
       refine Vs (Vq (Vb (Vq ?_)))
       refine Vr hG rfl ?_ ?_
       · exact foRange hJ hm
       refine Vm hG rfl ?_
       refine Vk rfl ?_ ?_<;>intro h3
       · have g3:jApart (List.getD acc j.toNat (dflt Y5)) s=true:=h3
         have st2:=foStepE (d:=dflt Y5) hJ hm hbA (jY (n:=nx) g3)
         refine Vr hG rfl ?_ ?_
         · exact jApp hN
         refine Vn hG rfl ?_
         refine⟨rfl,?_⟩
         exact st2
       · have g3:jApart (List.getD acc j.toNat (dflt Y5)) s=false:=h3
         have st2:=foStepE (d:=dflt Y5) hJ hm hbA (jN (n:=nx) g3)
         refine Vn hG rfl (Vn hG rfl ?_)
         refine⟨rfl,?_⟩
         exact st2
     · have hm:¬j<(List.length acc:Int):=oFa h2
       refine Vx (Vm hG rfl (Vq (Vb ?_)))
       refine Vc.loopF [(9,false,.pure (.int .i64))] [0,2,3,5,6,8,10,11,12,13,18,19,20,21,22,38] (fun v=>tkInv (jP s) nx v.1) (fun v=>((List.length nx:Int)-v.1).toNat) rfl ?_ ?_
       · exact tkStart
       rintro⟨(k:Int),_⟩ hQ
       have hQ:tkInv (jP s) nx k:=hQ
       refine Vq (Vq ?_)
       refine VrD mixed hG rfl (by kernel_rfl) ?_ ?_
       · exact fun h=>tkRange hQ (oTr h)
       refine Vk rfl ?_ ?_<;>intro h4
       · have g4:pick2 (decide (k<(List.length nx:Int))) (jP s (List.getD nx k.toNat (dflt Y5))) false=true:=h4
         refine Vs (Vb (Vn hG rfl ?_))
         refine⟨rfl,?_⟩
         exact tkStepW (p:=jP s) hQ hN g4
       · have g4:pick2 (decide (k<(List.length nx:Int))) (jP s (List.getD nx k.toNat (dflt Y5))) false=false:=h4
         have hk:=tkEnd (p:=jP s) hQ g4
         have st:=foStepE (d:=dflt Y5) hI hl hb ((jDone hJ hm hQ hk).trans (joinY g1))
         refine Vx ?_
         refine VrD mixed hG rfl (by kernel_rfl) ?_ ?_
         · exact jConds hQ hN
         refine Vn hG rfl ?_
         refine⟨rfl,?_⟩
         exact st
 · have hl:¬i<(List.length a0:Int):=oFa h0
   refine Vx (Vm hG rfl (Vt ?_))
   refine⟨?_,trivial⟩
   exact foEnd hI hl
end Fw
