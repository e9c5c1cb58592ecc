/- Walks of functions of the program: what each computes. Conditions: those that each contract names. -/
import Derived.Test.YtajkcodhmabmnaaGreatW56T
import Derived.Test.YtajkcodhmabmnaaGreatW56s0
import Derived.Test.YtajkcodhmabmnaaGreatW56s3
import Derived.Test.YtajkcodhmabmnaaGreatW56s4
namespace Fw
open Go Go.Proofs
set_option linter.unusedSimpArgs false
set_option maxRecDepth 100000
noncomputable def F193:Fun:=⟨[.pair Y36 Y57,.pair Y67 Y39,.slice Y19,.pair (.int .i64) Y50],[.pure (.int .i64)],fun x=>(fun(_:Frame) (e:Evidence) (_:List Piece) (_:Sig)=>Sm big20 (.slice (.slice TStamp)) e.2) x.1 x.2.1 x.2.2.1 x.2.2.2.1,fun x=>(freshG x.1 x.2.1 x.2.2.1 x.2.2.2.1,())⟩
set_option maxHeartbeats 2000000 in
theorem F193_ok:Meets Tryz.prog 193 F193:=by
 refine mZ (C:=mkC 66 [8] [0,1,2,3,4,5,7,8,9,10,11,12,13,20,36,49,61] [⟨143,_,F143_ok⟩,⟨172,_,F172_ok⟩,⟨258,_,F258_ok⟩,⟨241,_,F241_ok⟩]) (mO _ _ _ _) (fO _) Tryz.func193 rfl rfl rfl (by decide) rfl ?_
 rintro⟨a0,a1,a2,a3,_⟩ hwf hpre ⟨⟩ hG rfl rfl
 show Vc _ _ [(0,⟨0,0,.c Z68 a0⟩),(1,⟨0,0,.c Z73 a1⟩),(2,⟨0,0,.c Z28 a2⟩),(3,⟨0,0,.c Z54 a3⟩)] _
 have hp:List.length a1.2≤big20∧∀ l∈a1.2,Sm big20 (.slice TStamp) l:=hpre
 have hb:List.length a1.2≤bigLen:=hwf.2.1.2.1
 refine Vm hG rfl (Vm hG rfl (Vm hG rfl (Vq ?_)))
 refine Vm hG rfl ?_
 refine Vk rfl ?_ ?_<;>intro h0
 · have g0:keyI a0.1 a3.1≥0:=oTr h0
   have eb:=born1 g0
   refine Vr hG rfl ?_ ?_
   · exact findRange (show ¬keyI a0.1 a3.1<0 from by omega)
   refine Vq (Vm hG rfl (Vb ?_))
   refine Vc.loopF [(9,false,.pure (.int .i64)),(11,false,.pure (.int .i64))] [0,1,2,3,4,5,7,8,10,20] (fun v=>foInv (frG a0 a2 a3) (bornF a0 a3) a1.2 v.1 v.2.1) (fun v=>((List.length a1.2:Int)-v.2.1).toNat) rfl ?_ ?_
   · exact frStart eb
   rintro⟨(t:Int),(i:Int),_⟩ hI
   have hI:foInv (frG a0 a2 a3) (bornF a0 a3) a1.2 t i:=hI
   refine Vq (Vm hG rfl ?_)
   refine Vk rfl ?_ ?_<;>intro h1
   · have hl:i<(List.length a1.2:Int):=oTr (andT h1).1
     have ga:(a3.2.2.2.2.2.2.2.1 != 0)=true:=(andT h1).2
     have r1:=foRange hI hl
     have hE:List.length (List.getD a1.2 i.toNat (dflt (.slice TStamp)))≤1048576:=(hp.2 _ (getD_mem r1 _)).1
     have hbk:List.length (List.getD a1.2 i.toNat (dflt (.slice TStamp)))≤bigLen:=Nat.le_trans hE (by decide)
     refine Vs (Vq (Vb (Vq ?_)))
     refine Vq ?_
     refine VrD mixed hG rfl (by kernel_rfl) ?_ ?_
     · exact⟨r1,hE⟩
     refine Vk rfl ?_ ?_<;>intro h2
     · have g1:(stampsDgF a3.2.2.1 (List.getD a1.2 i.toNat (dflt (.slice TStamp))) != a3.2.2.2.2.2.2.2.1)=true:=h2
       have st:=foStepE (d:=dflt (.slice TStamp)) hI hl hb (frNo1 g1)
       refine Vx (Vn hG rfl ?_)
       refine⟨rfl,?_⟩
       exact st
     · have g1:(stampsDgF a3.2.2.1 (List.getD a1.2 i.toNat (dflt (.slice TStamp))) != a3.2.2.2.2.2.2.2.1)=false:=h2
       refine Vs (Vq ?_)
       refine VrD mixed hG rfl (by kernel_rfl) ?_ ?_
       · exact⟨r1,hE⟩
       refine Vm hG rfl ?_
       refine Vk rfl ?_ ?_<;>intro h3
       · have g2:(l23F a0 a2 (List.getD a1.2 i.toNat (dflt (.slice TStamp)))).2=true:=h3
         have st:=foStepE (d:=dflt (.slice TStamp)) hI hl hb (frYes ga g1 g2)
         refine Vn hG rfl (Vn hG rfl ?_)
         refine⟨rfl,?_⟩
         exact st
       · have g2:(l23F a0 a2 (List.getD a1.2 i.toNat (dflt (.slice TStamp)))).2=false:=h3
         have st:=foStepE (d:=dflt (.slice TStamp)) hI hl hb (frNo2 (t:=t) g2)
         refine Vs (Vn hG rfl ?_)
         refine⟨rfl,?_⟩
         exact st
   · have gz:=h1
     refine Vx (Vm hG rfl (Vt ?_))
     refine⟨?_,trivial⟩
     exact frEnd hI gz
 · have g0:¬keyI a0.1 a3.1≥0:=oFa h0
   have eb:=born0 g0
   refine Vs (Vq (Vm hG rfl (Vb ?_)))
   refine Vc.loopF [(9,false,.pure (.int .i64)),(11,false,.pure (.int .i64))] [0,1,2,3,4,5,7,8,10,20] (fun v=>foInv (frG a0 a2 a3) (bornF a0 a3) a1.2 v.1 v.2.1) (fun v=>((List.length a1.2:Int)-v.2.1).toNat) rfl ?_ ?_
   · exact frStart eb
   rintro⟨(t:Int),(i:Int),_⟩ hI
   have hI:foInv (frG a0 a2 a3) (bornF a0 a3) a1.2 t i:=hI
   refine Vq (Vm hG rfl ?_)
   refine Vk rfl ?_ ?_<;>intro h4
   · have hl:i<(List.length a1.2:Int):=oTr (andT h4).1
     have ga:(a3.2.2.2.2.2.2.2.1 != 0)=true:=(andT h4).2
     have r1:=foRange hI hl
     have hE:List.length (List.getD a1.2 i.toNat (dflt (.slice TStamp)))≤1048576:=(hp.2 _ (getD_mem r1 _)).1
     have hbk:List.length (List.getD a1.2 i.toNat (dflt (.slice TStamp)))≤bigLen:=Nat.le_trans hE (by decide)
     refine Vs (Vq (Vb (Vq ?_)))
     refine Vq ?_
     refine VrD mixed hG rfl (by kernel_rfl) ?_ ?_
     · exact⟨r1,hE⟩
     refine Vk rfl ?_ ?_<;>intro h5
     · have g1:(stampsDgF a3.2.2.1 (List.getD a1.2 i.toNat (dflt (.slice TStamp))) != a3.2.2.2.2.2.2.2.1)=true:=h5
       have st:=foStepE (d:=dflt (.slice TStamp)) hI hl hb (frNo1 g1)
       refine Vx (Vn hG rfl ?_)
       refine⟨rfl,?_⟩
       exact st
     · have g1:(stampsDgF a3.2.2.1 (List.getD a1.2 i.toNat (dflt (.slice TStamp))) != a3.2.2.2.2.2.2.2.1)=false:=h5
       refine Vs (Vq ?_)
       refine VrD mixed hG rfl (by kernel_rfl) ?_ ?_
       · exact⟨r1,hE⟩
       refine Vm hG rfl ?_
       refine Vk rfl ?_ ?_<;>intro h6
       · have g2:(l23F a0 a2 (List.getD a1.2 i.toNat (dflt (.slice TStamp)))).2=true:=h6
         have st:=foStepE (d:=dflt (.slice TStamp)) hI hl hb (frYes ga g1 g2)
         refine Vn hG rfl (Vn hG rfl ?_)
         refine⟨rfl,?_⟩
         exact st
       · have g2:(l23F a0 a2 (List.getD a1.2 i.toNat (dflt (.slice TStamp)))).2=false:=h6
         have st:=foStepE (d:=dflt (.slice TStamp)) hI hl hb (frNo2 (t:=t) g2)
         refine Vs (Vn hG rfl ?_)
         refine⟨rfl,?_⟩
         exact st
   · have gz:=h4
     refine Vx (Vm hG rfl (Vt ?_))
     refine⟨?_,trivial⟩
     exact frEnd hI gz
noncomputable def F194:Fun:=⟨[.slice Y19,.pair (.int .i64) Y40],[.own Z35],fun x=>(fun a0 _=>List.length a0≤2000000000) x.1 x.2.1,fun x=>(statusesF x.1 x.2.1,())⟩
theorem F194_ok:Meets Tryz.prog 194 F194:=by
 refine mZ (C:=mkC 44 [4] [0,1,3,4,5,6,7,8,13,38] [⟨259,_,F259_ok⟩]) (mO _ _ _ _) (fO _) Tryz.func194 rfl rfl rfl (by decide) rfl ?_
 rintro⟨a0,a1,_⟩ hwf hpre ⟨⟩ hG rfl rfl
 show Vc _ _ [(0,⟨0,0,.c Z28 a0⟩),(1,⟨0,0,.c Z48 a1⟩)] _
 have hb:List.length a0≤bigLen:=hwf.1.1
 have hs:List.length a0≤2000000000:=hpre
 refine Vm hG rfl (Vm hG rfl (Vq (Vm hG rfl ?_)))
 refine Vb ?_
 refine Vc.loopF [(5,false,.own Z35),(6,false,.pure (.int .i64))] [0,1,3,4] (fun v=>pkInv (statFor a1) a0 v.1 v.2.1) (fun v=>((List.length a0:Int)-v.2.1).toNat) rfl ?_ ?_
 · exact pkStart
 rintro⟨acc,(i:Int),_⟩ hI
 have hI:pkInv (statFor a1) a0 acc i:=hI
 refine Vq (Vm hG rfl ?_)
 refine Vk rfl ?_ ?_<;>intro h0
 · have hl:i<(List.length a0:Int):=oTr h0
   refine Vs (Vq (Vb (Vq ?_)))
   refine Vr hG rfl ?_ ?_
   · exact⟨pkRange hI hl,trivial⟩
   refine Vm hG rfl ?_
   refine Vk rfl ?_ ?_<;>intro h1
   · have g1:((statFor a1) (List.getD a0 i.toNat (dflt Y19))).2=true:=h1
     refine Vr hG rfl ?_ ?_
     · exact pkLenW hI hs
     refine Vn hG rfl ?_
     refine⟨rfl,?_⟩
     first
       | exact pkYes (d:=dflt Y19) hI hl hb g1
       | exact pkNo (d:=dflt Y19) hI hl hb g1
   · have g1:((statFor a1) (List.getD a0 i.toNat (dflt Y19))).2=false:=h1
     refine Vs (Vn hG rfl ?_)
     refine⟨rfl,?_⟩
     first
       | exact pkYes (d:=dflt Y19) hI hl hb g1
       | exact pkNo (d:=dflt Y19) hI hl hb g1
 · have hl:¬i<(List.length a0:Int):=oFa h0
   refine Vx (Vm hG rfl (Vt ?_))
   refine⟨?_,trivial⟩
   exact pkEnd hI hl
noncomputable def T316:TFun:=⟨.own Z9,[.int .i64,.int .i64],.own Z9,fun x xs=>(fun(l:List Span) (_ _:Int)=>List.length l≤1000) x xs.1 xs.2.1,fun x xs=>bPut x xs.1 xs.2.1⟩
theorem T316_ok:MeetsT Tryz.prog 316 T316:=by
 refine meetsT_of_vc (C:=mkCM 22 [6] [0,1,2,6,7,8,16] [⟨319,_,F319_ok⟩] [] [] []) (mkCM_ok _ _ _ _ _ _ _) (fO _) Tryz.func316 rfl rfl rfl (by decide) rfl rfl rfl rfl ?_ rfl
 rintro a0 ⟨(a1:Int),(a2:Int),_⟩ hwf0 hwf hpre ⟨⟩ hG rfl rfl
 show Vc _ _ [(0,⟨0,0,.c (.own Z9) a0⟩),(1,⟨0,0,.c (.pure (.int .i64)) a1⟩),(2,⟨0,0,.c (.pure (.int .i64)) a2⟩)] _
 have hs:List.length a0≤1000:=hpre
 refine Vm hG rfl (Vm hG rfl (Vq (Vm hG rfl ?_)))
 refine Vk rfl ?_ ?_<;>intro h0
 · refine Vm hG rfl (Vt ?_)
   refine⟨?_,trivial⟩
   exact bpN (notT' h0)
 · refine Vs (Vq ?_)
   refine Vr hG rfl ?_ ?_
   · exact bpApp hs
   refine Vt ?_
   refine⟨?_,trivial⟩
   exact bpY (notF h0)
noncomputable def F317:Fun:=⟨[.slice Y34,.int .i64],[.pure (.int .i64)],fun _=>True,fun x=>(badFromF x.1 x.2.1,())⟩
theorem F317_ok:Meets Tryz.prog 317 F317:=by
 refine mZ (C:=mkC 47 [4] [0,1,4,5,6,7,11,20,26,42] [⟨241,_,F241_ok⟩]) (mO _ _ _ _) (fO _) Tryz.func317 rfl rfl rfl (by decide) rfl ?_
 rintro⟨a0,(a1:Int),_⟩ hwf hpre ⟨⟩ hG rfl rfl
 show Vc _ _ [(0,⟨0,0,.c Z38 a0⟩),(1,⟨0,0,.c (.pure (.int .i64)) a1⟩)] _
 have hb:List.length a0≤bigLen:=hwf.1.1
 refine Vm hG rfl (Vm hG rfl (Vm hG rfl (Vq ?_)))
 refine Vm hG rfl (Vb ?_)
 refine Vc.loopF [(5,false,.pure (.int .i64)),(6,false,.pure (.int .i64)),(7,false,.pure (.int .i64))] [0,1,4,42] (fun v=>foInv (msS a1) (-1) a0 v.1 v.2.2.1∧foInv (gsS a1) (-1) a0 v.2.1 v.2.2.1) (fun v=>((List.length a0:Int)-v.2.2.1).toNat) rfl ?_ ?_
 · exact⟨foStart,foStart⟩
 rintro⟨(x:Int),(y:Int),(i:Int),_⟩ hI
 have hI:foInv (msS a1) (-1) a0 x i∧foInv (gsS a1) (-1) a0 y i:=hI
 refine Vq (Vm hG rfl ?_)
 refine Vk rfl ?_ ?_<;>intro h0
 · have hl:i<(List.length a0:Int):=oTr h0
   refine Vs (Vq (Vb (Vq ?_)))
   refine Vq ?_
   refine Vr hG rfl ?_ ?_
   · exact foRange hI.1 hl
   refine Vk rfl ?_ ?_<;>intro h1
   · have g1:((List.getD a0 i.toNat (dflt Y34)).1 != a1)=true:=h1
     have st:=fo2 (d:=dflt Y34) hI hl hb (msN1 g1) (gsN1 g1)
     refine Vx (Vn hG rfl ?_)
     refine⟨rfl,?_⟩
     exact st
   · have g1:((List.getD a0 i.toNat (dflt Y34)).1 != a1)=false:=h1
     refine Vs (Vq ?_)
     refine Vr hG rfl ?_ ?_
     · exact foRange hI.1 hl
     refine Vk rfl ?_ ?_<;>intro h2
     · have g2:¬(List.getD a0 i.toNat (dflt Y34)).2.2.1<0:=Int.not_lt.2 (oTr h2)
       have st:=fo2 (d:=dflt Y34) hI hl hb (msY g1 g2) (gsN2 g2)
       refine Vr hG rfl ?_ ?_
       · exact⟨foRange hI.1 hl,trivial⟩
       refine Vn hG rfl ?_
       refine⟨rfl,?_⟩
       exact st
     · have g2:(List.getD a0 i.toNat (dflt Y34)).2.2.1<0:=Int.not_le.1 (oFa h2)
       have st:=fo2 (d:=dflt Y34) hI hl hb (msN2 g2) (gsY g1 g2)
       refine Vr hG rfl ?_ ?_
       · exact⟨foRange hI.1 hl,trivial⟩
       refine Vn hG rfl ?_
       refine⟨rfl,?_⟩
       exact st
 · have hl:¬i<(List.length a0:Int):=oFa h0
   refine Vx (Vq (Vm hG rfl ?_))
   refine Vk rfl ?_ ?_<;>intro h3
   · refine Vm hG rfl (Vt ?_)
     refine⟨?_,trivial⟩
     exact bfA (foEnd hI.1 hl) h3
   · refine Vs (Vm hG rfl (Vt ?_))
     refine⟨?_,trivial⟩
     exact bfB (foEnd hI.1 hl) (foEnd hI.2 hl) h3
noncomputable def F339:Fun:=⟨[.slice Y5,.pair (.int .i64) (.int .i64)],[.own Z9],fun x=>(fun(l:List Span) (_:Span)=>List.length l≤2000000000) x.1 x.2.1,fun x=>(jPut x.1 x.2.1,())⟩
theorem F339_ok:Meets Tryz.prog 339 F339:=by
 refine mZ (C:=mkC 78 [4] [0,1,3,4,5,6,7,8,13,33,63] [⟨251,_,F251_ok⟩,⟨241,_,F241_ok⟩]) (mO _ _ _ _) (fO _) Tryz.func339 rfl rfl rfl (by decide) rfl ?_
 rintro⟨a0,a1,_⟩ hwf hpre ⟨⟩ hG rfl rfl
 show Vc _ _ [(0,⟨0,0,.c Z14 a0⟩),(1,⟨0,0,.c Z9 a1⟩)] _
 have hs:List.length a0≤2000000000:=hpre
 have hb:List.length a0≤bigLen:=hwf.1.1
 refine Vm hG rfl (Vm hG rfl (Vq (Vm hG rfl ?_)))
 refine Vb ?_
 refine Vc.loopF [(3,true,.pure Y5),(5,false,.own Z9),(6,false,.pure (.int .i64))] [0,1,4,8,63] (fun v=>foInv jG ([],a1) a0 (v.2.1,v.1) v.2.2.1) (fun v=>((List.length a0:Int)-v.2.2.1).toNat) rfl ?_ ?_
 · exact foStart
 rintro⟨s,nx,(j:Int),_⟩ hJ
 have hJ:foInv jG ([],a1) a0 (nx,s) j:=hJ
 have hN:List.length nx≤2000000000:=jLenI hJ hs
 refine Vq (Vm hG rfl ?_)
 refine Vk rfl ?_ ?_<;>intro h0
 · have hm:j<(List.length a0:Int):=oTr h0
   refine Vs (Vq (Vb (Vq ?_)))
   refine Vr hG rfl ?_ ?_
   · exact foRange hJ hm
   refine Vq (Vm hG rfl ?_)
   refine Vk rfl ?_ ?_<;>intro h1
   · have g3:jApart (List.getD a0 j.toNat (dflt Y5)) s=true:=h1
     have st2:=foStepE (d:=dflt Y5) hJ hm hb (jY (n:=nx) g3)
     refine Vq ?_
     refine Vr hG rfl ?_ ?_
     · exact jApp hN
     refine Vx (Vn hG rfl ?_)
     refine⟨rfl,?_⟩
     exact st2
   · have g3:jApart (List.getD a0 j.toNat (dflt Y5)) s=false:=h1
     have st2:=foStepE (d:=dflt Y5) hJ hm hb (jN (n:=nx) g3)
     refine Vs (Vm hG rfl (Vn hG rfl (Vn hG rfl ?_)))
     refine⟨rfl,?_⟩
     exact st2
 · have hm:¬j<(List.length a0:Int):=oFa h0
   refine Vx (Vm hG rfl (Vq (Vb ?_)))
   refine Vc.loopF [(8,false,.pure (.int .i64))] [0,1,3,4,5,6,7,13,33] (fun v=>tkInv (jP s) nx v.1) (fun v=>((List.length nx:Int)-v.1).toNat) rfl ?_ ?_
   · exact tkStart
   rintro⟨(k:Int),_⟩ hQ
   have hQ:tkInv (jP s) nx k:=hQ
   refine Vq (Vq ?_)
   refine VrD mixed hG rfl (by kernel_rfl) ?_ ?_
   · exact fun h=>tkRange hQ (oTr h)
   refine Vk rfl ?_ ?_<;>intro h2
   · have g4:pick2 (decide (k<(List.length nx:Int))) (jP s (List.getD nx k.toNat (dflt Y5))) false=true:=h2
     refine Vs (Vb (Vn hG rfl ?_))
     refine⟨rfl,?_⟩
     exact tkStepW (p:=jP s) hQ hN g4
   · have g4:pick2 (decide (k<(List.length nx:Int))) (jP s (List.getD nx k.toNat (dflt Y5))) false=false:=h2
     have hk:=tkEnd (p:=jP s) hQ g4
     refine Vx (Vq ?_)
     refine VrD mixed hG rfl (by kernel_rfl) ?_ ?_
     · exact jConds hQ hN
     refine Vt ?_
     refine⟨?_,trivial⟩
     exact jDone hJ hm hQ hk
noncomputable def F314:Fun:=⟨[.slice Y5],[.own Z9],fun x=>(fun(l:List Span)=>List.length l≤2000000000) x.1,fun x=>(joinF x.1,())⟩
theorem F314_ok:Meets Tryz.prog 314 F314:=by
 refine mZ (C:=mkC 24 [2] [0,2,3,4,9,16] [⟨263,_,F263_ok⟩,⟨339,_,F339_ok⟩]) (mO _ _ _ _) (fO _) Tryz.func314 rfl rfl rfl (by decide) rfl ?_
 rintro⟨a0,_⟩ hwf hpre ⟨⟩ hG rfl rfl
 show Vc _ _ [(0,⟨0,0,.c Z14 a0⟩)] _
 have hs:List.length a0≤2000000000:=hpre
 have hb:List.length a0≤bigLen:=hwf.1.1
 refine Vm hG rfl (Vm hG rfl (Vq (Vm hG rfl ?_)))
 refine Vb ?_
 refine Vc.loopF [(3,false,.own Z9),(4,false,.pure (.int .i64))] [0,2] (fun v=>foInv joinG [] a0 v.1 v.2.1) (fun v=>((List.length a0:Int)-v.2.1).toNat) rfl ?_ ?_
 · exact foStart
 rintro⟨acc,(i:Int),_⟩ hI
 have hI:foInv joinG [] a0 acc i:=hI
 have hA:List.length acc≤2000000000:=joinLenI hI hs
 refine Vq (Vm hG rfl ?_)
 refine Vk rfl ?_ ?_<;>intro h0
 · have hl:i<(List.length a0:Int):=oTr h0
   refine Vs (Vq (Vb (Vq ?_)))
   refine Vr hG rfl ?_ ?_
   · exact⟨foRange hI hl,trivial⟩
   refine Vk rfl ?_ ?_<;>intro h1
   · have g1:isSpanF (List.getD a0 i.toNat (dflt Y5))=true:=h1
     have st:=foStepE (d:=dflt Y5) hI hl hb (joinY g1)
     refine Vr hG rfl ?_ ?_
     · exact⟨foRange hI hl,hA⟩
     refine Vn hG rfl ?_
     refine⟨rfl,?_⟩
     exact st
   · have g1:isSpanF (List.getD a0 i.toNat (dflt Y5))=false:=h1
     have st:=foStepE (d:=dflt Y5) hI hl hb (joinN g1)
     refine Vs (Vn hG rfl ?_)
     refine⟨rfl,?_⟩
     exact st
 · have hl:¬i<(List.length a0:Int):=oFa h0
   refine Vx (Vm hG rfl (Vt ?_))
   refine⟨?_,trivial⟩
   exact foEnd hI hl
noncomputable def F261:Fun:=⟨[.pair (.int .i64) Y40,.slice Y34],[.own Z9],fun _=>True,fun x=>(badSpansF x.1 x.2.1,())⟩
theorem F261_ok:Meets Tryz.prog 261 F261:=by
 refine mZ (C:=mkCM 30 [4] [0,1,2,4,5,9,17] [⟨317,_,F317_ok⟩,⟨314,_,F314_ok⟩] [] [⟨316,_,T316_ok⟩] []) (mkCM_ok _ _ _ _ _ _ _) (fO _) Tryz.func261 rfl rfl rfl (by decide) rfl ?_
 rintro⟨a0,a1,_⟩ hwf hpre ⟨⟩ hG rfl rfl
 show Vc _ _ [(0,⟨0,0,.c Z48 a0⟩),(1,⟨0,0,.c Z38 a1⟩)] _
 refine Vm hG rfl (Vm hG rfl (Vq (Vm hG rfl ?_)))
 refine Vk rfl ?_ ?_<;>intro h0
 · refine Vr hG rfl ?_ ?_
   · exact Nat.zero_le _
   refine Vq (Vm hG rfl ?_)
   refine Vk rfl ?_ ?_<;>intro h1
   · refine Vr hG rfl ?_ ?_
     · first
         | exact bp1
         | exact Nat.zero_le _
     refine Vq ?_
     refine Vr hG rfl ?_ ?_
     · exact⟨trivial,(by first | exact bp2 | exact bp1 | exact Nat.zero_le _),(Nat.le_trans (by first | exact bp3 | exact bp2 | exact bp1) (show 1000≤2000000000 by decide))⟩
     refine Vt ?_
     refine⟨?_,trivial⟩
     exact bdYY h0 h1
   · refine Vs (Vq ?_)
     refine Vr hG rfl ?_ ?_
     · exact⟨trivial,(by first | exact bp2 | exact bp1 | exact Nat.zero_le _),(Nat.le_trans (by first | exact bp3 | exact bp2 | exact bp1) (show 1000≤2000000000 by decide))⟩
     refine Vt ?_
     refine⟨?_,trivial⟩
     exact bdYN h0 h1
 · refine Vs (Vq (Vm hG rfl ?_))
   refine Vk rfl ?_ ?_<;>intro h2
   · refine Vr hG rfl ?_ ?_
     · first
         | exact bp1
         | exact Nat.zero_le _
     refine Vq ?_
     refine Vr hG rfl ?_ ?_
     · exact⟨trivial,(by first | exact bp2 | exact bp1 | exact Nat.zero_le _),(Nat.le_trans (by first | exact bp3 | exact bp2 | exact bp1) (show 1000≤2000000000 by decide))⟩
     refine Vt ?_
     refine⟨?_,trivial⟩
     exact bdNY h0 h2
   · refine Vs (Vq ?_)
     refine Vr hG rfl ?_ ?_
     · exact⟨trivial,(by first | exact bp2 | exact bp1 | exact Nat.zero_le _),(Nat.le_trans (by first | exact bp3 | exact bp2 | exact bp1) (show 1000≤2000000000 by decide))⟩
     refine Vt ?_
     refine⟨?_,trivial⟩
     exact bdNN h0 h2
noncomputable def F315:Fun:=⟨[.pair (.int .i64) (.int .i64),.pair (.int .i64) (.int .i64)],[.pure (.bool)],fun _=>True,fun x=>(isInsideF x.1 x.2.1,())⟩
theorem F315_ok:Meets Tryz.prog 315 F315:=by
 refine mZ (C:=mkC 25 [4] [0,1,2,3,4] [⟨263,_,F263_ok⟩]) (mO _ _ _ _) (fO _) Tryz.func315 rfl rfl rfl (by decide) rfl ?_
 rintro⟨a0,a1,_⟩ hwf hpre ⟨⟩ hG rfl rfl
 show Vc _ _ [(0,⟨0,0,.c Z9 a0⟩),(1,⟨0,0,.c Z9 a1⟩)] _
 refine Vm hG rfl (Vq ?_)
 refine Vr hG rfl ?_ ?_
 · repeat' (first | exact trivial | refine And.intro ?_ ?_ | intro _)
 refine Vt ?_
 refine⟨?_,trivial⟩
 all_goals exact rfl
noncomputable def F260:Fun:=⟨[.slice Y5,.pair (.int .i64) (.int .i64)],[.pure (.bool)],fun x=>(fun(l:List Span) (_:Span)=>List.length l≤2000000000) x.1 x.2.1,fun x=>(coversF x.1 x.2.1,())⟩
theorem F260_ok:Meets Tryz.prog 260 F260:=by
 refine mZ (C:=mkC 21 [4] [0,1,3,4,5,6,12,20] [⟨314,_,F314_ok⟩,⟨315,_,F315_ok⟩]) (mO _ _ _ _) (fO _) Tryz.func260 rfl rfl rfl (by decide) rfl ?_
 rintro⟨a0,a1,_⟩ hwf hpre ⟨⟩ hG rfl rfl
 show Vc _ _ [(0,⟨0,0,.c Z14 a0⟩),(1,⟨0,0,.c Z9 a1⟩)] _
 have hs:List.length a0≤2000000000:=hpre
 have hb:List.length a0≤bigLen:=hwf.1.1
 have hbj:List.length (joinF a0)≤bigLen:=Nat.le_trans (joinLen a0) hb
 refine Vm hG rfl (Vq ?_)
 refine Vr hG rfl ?_ ?_
 · exact hs
 refine Vq (Vm hG rfl (Vb ?_))
 refine Vc.loopF [(6,false,.pure (.int .i64))] [0,1,3,5] (fun v=>fInv (fun x=>isInsideF a1 x) (joinF a0) v.1) (fun v=>((List.length (joinF a0):Int)-v.1).toNat) rfl ?_ ?_
 · exact fStart
 rintro⟨(i:Int),_⟩ hI
 have hI:fInv (fun x=>isInsideF a1 x) (joinF a0) i:=hI
 refine Vq (Vm hG rfl ?_)
 refine Vk rfl ?_ ?_<;>intro h0
 · have hl:i<(List.length (joinF a0):Int):=oTr h0
   refine Vs (Vq (Vb (Vq ?_)))
   refine VrD mixed hG rfl (by kernel_rfl) ?_ ?_
   · exact⟨fRange hI hl,trivial⟩
   refine Vk rfl ?_ ?_<;>intro h1
   · have g1:isInsideF a1 (List.getD (joinF a0) i.toNat (dflt Y5))=true:=h1
     refine Vm hG rfl (Vt ?_)
     refine⟨?_,trivial⟩
     exact cvHit rfl hI hl g1
   · have g1:(fun x=>isInsideF a1 x) (List.getD (joinF a0) i.toNat (dflt Y5))=false:=h1
     refine Vs (Vn hG rfl ?_)
     refine⟨rfl,?_⟩
     exact fStep hI hl hbj g1
 · have hl:¬i<(List.length (joinF a0):Int):=oFa h0
   refine Vx (Vm hG rfl (Vt ?_))
   refine⟨?_,trivial⟩
   exact cvEnd rfl hI hl
noncomputable def F195:Fun:=⟨[.pair (.int .i64) Y40,.slice Y34,.pair (.int .i64) (.int .i64)],[.pure (.bool)],fun _=>True,fun x=>((fun c l s=>coversF (badSpansF c l) s) x.1 x.2.1 x.2.2.1,())⟩
theorem F195_ok:Meets Tryz.prog 195 F195:=by
 refine mZ (C:=mkC 12 [6] [0,1,2,3,5,6] [⟨261,_,F261_ok⟩,⟨260,_,F260_ok⟩]) (mO _ _ _ _) (fO _) Tryz.func195 rfl rfl rfl (by decide) rfl ?_
 rintro⟨a0,a1,a2,_⟩ hwf hpre ⟨⟩ hG rfl rfl
 show Vc _ _ [(0,⟨0,0,.c Z48 a0⟩),(1,⟨0,0,.c Z38 a1⟩),(2,⟨0,0,.c Z9 a2⟩)] _
 refine Vm hG rfl (Vq ?_)
 refine VrD mixed hG rfl (by kernel_rfl) ?_ ?_
 · exact⟨trivial,Nat.le_trans (badLen a0 a1) (by decide)⟩
 refine Vt ?_
 refine⟨?_,trivial⟩
 all_goals exact rfl
noncomputable def F318:Fun:=⟨[.slice Y34,.int .i64],[.pure (.int .i64)],fun _=>True,fun x=>(goodUntilF x.1 x.2.1,())⟩
theorem F318_ok:Meets Tryz.prog 318 F318:=by
 refine mZ (C:=mkC 55 [4] [0,1,4,5,6,7,11,20,26,44,51] [⟨241,_,F241_ok⟩]) (mO _ _ _ _) (fO _) Tryz.func318 rfl rfl rfl (by decide) rfl ?_
 rintro⟨a0,(a1:Int),_⟩ hwf hpre ⟨⟩ hG rfl rfl
 show Vc _ _ [(0,⟨0,0,.c Z38 a0⟩),(1,⟨0,0,.c (.pure (.int .i64)) a1⟩)] _
 have hb:List.length a0≤bigLen:=hwf.1.1
 refine Vm hG rfl (Vm hG rfl (Vm hG rfl (Vq ?_)))
 refine Vm hG rfl (Vb ?_)
 refine Vc.loopF [(5,false,.pure (.int .i64)),(6,false,.pure (.int .i64)),(7,false,.pure (.int .i64))] [0,1,4,51] (fun v=>foInv (lsS a1) (-1) a0 v.1 v.2.2.1∧foInv (gsS a1) (-1) a0 v.2.1 v.2.2.1) (fun v=>((List.length a0:Int)-v.2.2.1).toNat) rfl ?_ ?_
 · exact⟨foStart,foStart⟩
 rintro⟨(x:Int),(y:Int),(i:Int),_⟩ hI
 have hI:foInv (lsS a1) (-1) a0 x i∧foInv (gsS a1) (-1) a0 y i:=hI
 refine Vq (Vm hG rfl ?_)
 refine Vk rfl ?_ ?_<;>intro h0
 · have hl:i<(List.length a0:Int):=oTr h0
   refine Vs (Vq (Vb (Vq ?_)))
   refine Vq ?_
   refine Vr hG rfl ?_ ?_
   · exact foRange hI.1 hl
   refine Vk rfl ?_ ?_<;>intro h1
   · have g1:((List.getD a0 i.toNat (dflt Y34)).1 != a1)=true:=h1
     have st:=fo2 (d:=dflt Y34) hI hl hb (lsN1 g1) (gsN1 g1)
     refine Vx (Vn hG rfl ?_)
     refine⟨rfl,?_⟩
     exact st
   · have g1:((List.getD a0 i.toNat (dflt Y34)).1 != a1)=false:=h1
     refine Vs (Vq ?_)
     refine Vr hG rfl ?_ ?_
     · exact foRange hI.1 hl
     refine Vk rfl ?_ ?_<;>intro h2
     · have g2:(List.getD a0 i.toNat (dflt Y34)).2.2.1<0:=oTr h2
       have st:=fo2 (d:=dflt Y34) hI hl hb (lsN2 g2) (gsY g1 g2)
       refine Vr hG rfl ?_ ?_
       · exact⟨foRange hI.1 hl,trivial⟩
       refine Vn hG rfl ?_
       refine⟨rfl,?_⟩
       exact st
     · have g2:¬(List.getD a0 i.toNat (dflt Y34)).2.2.1<0:=oFa h2
       refine Vq ?_
       refine Vr hG rfl ?_ ?_
       · repeat' (first | exact trivial | exact foRange hI.1 hl | refine And.intro ?_ ?_ | intro _)
       refine Vk rfl ?_ ?_<;>intro h3
       · have st:=fo2 (d:=dflt Y34) hI hl hb (lsY g1 g2 h3) (gsN2 g2)
         refine Vr hG rfl ?_ ?_
         · exact foRange hI.1 hl
         refine Vn hG rfl ?_
         refine⟨rfl,?_⟩
         exact st
       · have st:=fo2 (d:=dflt Y34) hI hl hb (lsN3 h3) (gsN2 g2)
         refine Vs (Vn hG rfl ?_)
         refine⟨rfl,?_⟩
         exact st
 · have hl:¬i<(List.length a0:Int):=oFa h0
   refine Vx (Vq (Vm hG rfl ?_))
   refine Vk rfl ?_ ?_<;>intro h4
   · refine Vm hG rfl (Vt ?_)
     refine⟨?_,trivial⟩
     exact guA (foEnd hI.1 hl) h4
   · refine Vs (Vm hG rfl (Vt ?_))
     refine⟨?_,trivial⟩
     exact guB (foEnd hI.1 hl) (foEnd hI.2 hl) h4
noncomputable def F340:Fun:=⟨[.pair (.int .i64) (.int .i64),.pair (.int .i64) (.int .i64)],[.pure Y5,.pure (.bool)],fun _=>True,fun x=>((meetF x.1 x.2.1).1,(meetF x.1 x.2.1).2,())⟩
theorem F340_ok:Meets Tryz.prog 340 F340:=by
 refine mZ (C:=mkC 28 [4,5] [0,1,2,3,4,5,13] [⟨263,_,F263_ok⟩,⟨241,_,F241_ok⟩,⟨251,_,F251_ok⟩,⟨319,_,F319_ok⟩]) (mO _ _ _ _) (fO _) Tryz.func340 rfl rfl rfl (by decide) rfl ?_
 rintro⟨a0,a1,_⟩ hwf hpre ⟨⟩ hG rfl rfl
 show Vc _ _ [(0,⟨0,0,.c Z9 a0⟩),(1,⟨0,0,.c Z9 a1⟩)] _
 refine Vm hG rfl (Vq (Vq ?_))
 refine Vr hG rfl ?_ ?_
 · repeat' (first | exact trivial | refine And.intro ?_ ?_ | intro _)
 refine Vk rfl ?_ ?_<;>intro h0
 · refine Vm hG rfl (Vt ?_)
   have e:=meS0 h0
   refine⟨?_,?_,trivial⟩
   · exact(congrArg Prod.fst e).symm
   · exact(congrArg Prod.snd e).symm
 · refine Vs (Vq (VrD mixed hG rfl (by kernel_rfl) (by trivial) (Vt ?_)))
   have e:=meS1 h0
   refine⟨?_,?_,trivial⟩
   · exact(congrArg Prod.fst e).symm
   · exact(congrArg Prod.snd e).symm
noncomputable def F320:Fun:=⟨[.slice Y5,.slice Y5],[.own Z9],fun x=>(fun(a b:List Span)=>List.length a≤1000∧List.length b≤1000) x.1 x.2.1,fun x=>(meetAllF x.1 x.2.1,())⟩
theorem F320_ok:Meets Tryz.prog 320 F320:=by
 refine mZ (C:=mkC 42 [4] [0,1,4,5,6,7,8,9,14,20,35] [⟨340,_,F340_ok⟩,⟨314,_,F314_ok⟩]) (mO _ _ _ _) (fO _) Tryz.func320 rfl rfl rfl (by decide) rfl ?_
 rintro⟨a0,a1,_⟩ hwf hpre ⟨⟩ hG rfl rfl
 show Vc _ _ [(0,⟨0,0,.c Z14 a0⟩),(1,⟨0,0,.c Z14 a1⟩)] _
 have hp1:List.length a0≤1000:=hpre.1
 have hp2:List.length a1≤1000:=hpre.2
 have hb:List.length a0≤bigLen:=hwf.1.1
 have hb1:List.length a1≤bigLen:=hwf.2.1.1
 refine Vm hG rfl (Vm hG rfl (Vq (Vm hG rfl ?_)))
 refine Vb ?_
 refine Vc.loopF [(5,false,.own Z9),(6,false,.pure (.int .i64))] [0,1,4] (fun v=>foInv (meR a1) [] a0 v.1 v.2.1) (fun v=>((List.length a0:Int)-v.2.1).toNat) rfl ?_ ?_
 · exact foStart
 rintro⟨acc,(i:Int),_⟩ hI
 have hI:foInv (meR a1) [] a0 acc i:=hI
 have hA:List.length acc≤1000000:=meLenI hI hp1 hp2
 refine Vq (Vm hG rfl ?_)
 refine Vk rfl ?_ ?_<;>intro h0
 · have hl:i<(List.length a0:Int):=oTr h0
   refine Vs (Vq (Vb (Vm hG rfl ?_)))
   refine Vb ?_
   refine Vc.loopF [(5,false,.own Z9),(7,false,.pure (.int .i64))] [0,1,4,6,14] (fun v=>foInv (meG (List.getD a0 i.toNat (dflt Y5))) acc a1 v.1 v.2.1) (fun v=>((List.length a1:Int)-v.2.1).toNat) rfl ?_ ?_
   · exact foStart
   rintro⟨ac2,(k:Int),_⟩ hK
   have hK:foInv (meG (List.getD a0 i.toNat (dflt Y5))) acc a1 ac2 k:=hK
   have hA2:List.length ac2≤2000000:=meLenJ hK hA hp2
   refine Vq (Vm hG rfl ?_)
   refine Vk rfl ?_ ?_<;>intro h1
   · have hm:k<(List.length a1:Int):=oTr h1
     refine Vs (Vq (Vb (Vq ?_)))
     refine VrD mixed hG rfl (by kernel_rfl) ?_ ?_
     · exact⟨foRange hI hl,foRange hK hm,trivial⟩
     refine Vm hG rfl ?_
     refine Vk rfl ?_ ?_<;>intro h2
     · have g2:(meetF (List.getD a0 i.toNat (dflt Y5)) (List.getD a1 k.toNat (dflt Y5))).2=true:=h2
       have st:=foStepE (d:=dflt Y5) hK hm hb1 (meY g2)
       refine Vr hG rfl ?_ ?_
       · exact meApp hA2
       refine Vn hG rfl ?_
       refine⟨rfl,?_⟩
       exact st
     · have g2:(meetF (List.getD a0 i.toNat (dflt Y5)) (List.getD a1 k.toNat (dflt Y5))).2=false:=h2
       have st:=foStepE (d:=dflt Y5) hK hm hb1 (meN (acc:=ac2) g2)
       refine Vs (Vn hG rfl ?_)
       refine⟨rfl,?_⟩
       exact st
   · have hm:¬k<(List.length a1:Int):=oFa h1
     refine Vx (Vn hG rfl ?_)
     refine⟨rfl,?_⟩
     exact foStepE (d:=dflt Y5) hI hl hb (foEnd hK hm)
 · have hl:¬i<(List.length a0:Int):=oFa h0
   refine Vx (Vq ?_)
   refine Vr hG rfl ?_ ?_
   · exact meBig hp1 hp2 (foEnd hI hl)
   refine Vt ?_
   refine⟨?_,trivial⟩
   exact congrArg joinF (foEnd hI hl)
noncomputable def F262:Fun:=⟨[.pair (.int .i64) Y40,.slice Y34],[.own Z9],fun _=>True,fun x=>(goodSpansF x.1 x.2.1,())⟩
theorem F262_ok:Meets Tryz.prog 262 F262:=by
 refine mZ (C:=mkC 30 [4] [0,1,2,4,5,6,7,22] [⟨318,_,F318_ok⟩,⟨319,_,F319_ok⟩,⟨321,_,F321_ok⟩,⟨320,_,F320_ok⟩]) (mO _ _ _ _) (fO _) Tryz.func262 rfl rfl rfl (by decide) rfl ?_
 rintro⟨a0,a1,_⟩ hwf hpre ⟨⟩ hG rfl rfl
 show Vc _ _ [(0,⟨0,0,.c Z48 a0⟩),(1,⟨0,0,.c Z38 a1⟩)] _
 refine Vm hG rfl (Vm hG rfl (Vm hG rfl (Vq ?_)))
 refine Vm hG rfl ?_
 refine Vk rfl ?_ ?_<;>intro h0
 · refine Vm hG rfl (Vt ?_)
   refine⟨?_,trivial⟩
   exact gsNone h0
 · refine Vs (Vq ?_)
   refine VrD mixed hG rfl (by kernel_rfl) ?_ ?_
   · exact⟨trivial,one1,one1⟩
   refine Vt ?_
   refine⟨?_,trivial⟩
   exact gsSome h0
noncomputable def F196:Fun:=⟨[.pair (.int .i64) Y40,.slice Y34,.pair (.int .i64) (.int .i64)],[.pure (.bool)],fun _=>True,fun x=>((fun c l s=>coversF (goodSpansF c l) s) x.1 x.2.1 x.2.2.1,())⟩
theorem F196_ok:Meets Tryz.prog 196 F196:=by
 refine mZ (C:=mkC 12 [6] [0,1,2,3,5,6] [⟨262,_,F262_ok⟩,⟨260,_,F260_ok⟩]) (mO _ _ _ _) (fO _) Tryz.func196 rfl rfl rfl (by decide) rfl ?_
 rintro⟨a0,a1,a2,_⟩ hwf hpre ⟨⟩ hG rfl rfl
 show Vc _ _ [(0,⟨0,0,.c Z48 a0⟩),(1,⟨0,0,.c Z38 a1⟩),(2,⟨0,0,.c Z9 a2⟩)] _
 refine Vm hG rfl (Vq ?_)
 refine VrD mixed hG rfl (by kernel_rfl) ?_ ?_
 · exact⟨trivial,Nat.le_trans (goodLen a0 a1) (by decide)⟩
 refine Vt ?_
 refine⟨?_,trivial⟩
 all_goals exact rfl
noncomputable def F198:Fun:=⟨[.slice Y19],[.own Z43],fun x=>(fun a0=>List.length a0≤2000000000) x.1,fun x=>(mandatesF x.1,())⟩
theorem F198_ok:Meets Tryz.prog 198 F198:=by
 refine mZ (C:=mkC 28 [2] [0,2,3,4,5,6,11,22] [⟨265,_,F265_ok⟩]) (mO _ _ _ _) (fO _) Tryz.func198 rfl rfl rfl (by decide) rfl ?_
 rintro⟨a0,_⟩ hwf hpre ⟨⟩ hG rfl rfl
 show Vc _ _ [(0,⟨0,0,.c Z28 a0⟩)] _
 have hb:List.length a0≤bigLen:=hwf.1.1
 have hs:List.length a0≤2000000000:=hpre
 refine Vm hG rfl (Vm hG rfl (Vq (Vm hG rfl ?_)))
 refine Vb ?_
 refine Vc.loopF [(3,false,.own Z43),(4,false,.pure (.int .i64))] [0,2] (fun v=>pkInv (pieceMandF) a0 v.1 v.2.1) (fun v=>((List.length a0:Int)-v.2.1).toNat) rfl ?_ ?_
 · exact pkStart
 rintro⟨acc,(i:Int),_⟩ hI
 have hI:pkInv (pieceMandF) a0 acc i:=hI
 refine Vq (Vm hG rfl ?_)
 refine Vk rfl ?_ ?_<;>intro h0
 · have hl:i<(List.length a0:Int):=oTr h0
   refine Vs (Vq (Vb (Vq ?_)))
   refine Vr hG rfl ?_ ?_
   · exact⟨pkRange hI hl,trivial⟩
   refine Vm hG rfl ?_
   refine Vk rfl ?_ ?_<;>intro h1
   · have g1:((pieceMandF) (List.getD a0 i.toNat (dflt Y19))).2=true:=h1
     refine Vr hG rfl ?_ ?_
     · exact pkLenW hI hs
     refine Vn hG rfl ?_
     refine⟨rfl,?_⟩
     first
       | exact pkYes (d:=dflt Y19) hI hl hb g1
       | exact pkNo (d:=dflt Y19) hI hl hb g1
   · have g1:((pieceMandF) (List.getD a0 i.toNat (dflt Y19))).2=false:=h1
     refine Vs (Vn hG rfl ?_)
     refine⟨rfl,?_⟩
     first
       | exact pkYes (d:=dflt Y19) hI hl hb g1
       | exact pkNo (d:=dflt Y19) hI hl hb g1
 · have hl:¬i<(List.length a0:Int):=oFa h0
   refine Vx (Vm hG rfl (Vt ?_))
   refine⟨?_,trivial⟩
   exact pkEnd hI hl
noncomputable def F322:Fun:=⟨[.slice Y34,.pair (.int .i64) Y34],[.pure (.bool)],fun _=>True,fun x=>(checkMandF x.1 x.2.1,())⟩
theorem F322_ok:Meets Tryz.prog 322 F322:=by
 refine mZ (C:=mkC 26 [4] [0,1,3,4] [⟨244,_,F244_ok⟩,⟨177,_,F177_ok⟩,⟨245,_,F245_ok⟩,⟨305,_,F305_ok⟩]) (mO _ _ _ _) (fO _) Tryz.func322 rfl rfl rfl (by decide) rfl ?_
 rintro⟨a0,a1,_⟩ hwf hpre ⟨⟩ hG rfl rfl
 show Vc _ _ [(0,⟨0,0,.c Z38 a0⟩),(1,⟨0,0,.c Z43 a1⟩)] _
 refine Vm hG rfl (Vq ?_)
 refine VrD mixed hG rfl (by kernel_rfl) ?_ ?_
 · repeat' (first | exact trivial | exact smallLit (n:=6) rfl (by decide) | refine And.intro ?_ ?_ | intro _)
 refine Vt ?_
 refine⟨?_,trivial⟩
 all_goals exact rfl
noncomputable def F264:Fun:=⟨[.slice Y34,.slice Y40,.int .i64,.int .i64],[.own Z9],fun x=>(fun(_:List Key) (l:List Mandate) (_ _:Int)=>List.length l≤2000000000) x.1 x.2.1 x.2.2.1 x.2.2.2.1,fun x=>(mandSpansF x.1 x.2.1 x.2.2.1 x.2.2.2.1,())⟩
theorem F264_ok:Meets Tryz.prog 264 F264:=by
 refine mZ (C:=mkC 58 [8] [0,1,2,3,8,9,10,15,41] [⟨322,_,F322_ok⟩,⟨314,_,F314_ok⟩]) (mO _ _ _ _) (fO _) Tryz.func264 rfl rfl rfl (by decide) rfl ?_
 rintro⟨a0,a1,(a2:Int),(a3:Int),_⟩ hwf hpre ⟨⟩ hG rfl rfl
 show Vc _ _ [(0,⟨0,0,.c Z38 a0⟩),(1,⟨0,0,.c Z46 a1⟩),(2,⟨0,0,.c (.pure (.int .i64)) a2⟩),(3,⟨0,0,.c (.pure (.int .i64)) a3⟩)] _
 have hs:List.length a1≤2000000000:=hpre
 have hb:List.length a1≤bigLen:=hwf.2.1.1
 refine Vm hG rfl (Vm hG rfl (Vq (Vm hG rfl ?_)))
 refine Vb ?_
 refine Vc.loopF [(9,false,.own Z9),(10,false,.pure (.int .i64))] [0,1,2,3,8] (fun v=>pkInv (mdF a0 a2 a3) a1 v.1 v.2.1) (fun v=>((List.length a1:Int)-v.2.1).toNat) rfl ?_ ?_
 · exact pkStart
 rintro⟨acc,(i:Int),_⟩ hI
 have hI:pkInv (mdF a0 a2 a3) a1 acc i:=hI
 refine Vq (Vm hG rfl ?_)
 refine Vk rfl ?_ ?_<;>intro h0
 · have hl:i<(List.length a1:Int):=oTr h0
   refine Vs (Vq (Vb (Vq ?_)))
   refine Vr hG rfl ?_ ?_
   · repeat' (first | exact pkRange hI hl | exact trivial | refine And.intro ?_ ?_ | intro _)
   refine Vk rfl ?_ ?_<;>intro h1
   · have g1:((mdF a0 a2 a3) (List.getD a1 i.toNat (dflt Y40))).2=true:=h1
     have st:=pkYes (d:=dflt Y40) hI hl hb g1
     refine VrD mixed hG rfl (by kernel_rfl) ?_ ?_
     · exact⟨pkRange hI hl,pkRange hI hl,pkLenW hI hs⟩
     refine Vn hG rfl ?_
     refine⟨rfl,?_⟩
     exact st
   · have g1:((mdF a0 a2 a3) (List.getD a1 i.toNat (dflt Y40))).2=false:=h1
     have st:=pkNo (d:=dflt Y40) hI hl hb g1
     refine Vs (Vn hG rfl ?_)
     refine⟨rfl,?_⟩
     exact st
 · have hl:¬i<(List.length a1:Int):=oFa h0
   refine Vx (Vq ?_)
   refine Vr hG rfl ?_ ?_
   · exact pkBigW hs (pkEnd hI hl)
   refine Vt ?_
   refine⟨?_,trivial⟩
   exact congrArg joinF (pkEnd hI hl)
noncomputable def F197:Fun:=⟨[.slice Y34,.slice Y40,.int .i64,.int .i64,.pair (.int .i64) (.int .i64)],[.pure (.bool)],fun x=>(fun(_:List Key) (l:List Mandate) (_ _:Int) (_:Span)=>List.length l≤2000000000) x.1 x.2.1 x.2.2.1 x.2.2.2.1 x.2.2.2.2.1,fun x=>(maySignF x.1 x.2.1 x.2.2.1 x.2.2.2.1 x.2.2.2.2.1,())⟩
theorem F197_ok:Meets Tryz.prog 197 F197:=by
 refine mZ (C:=mkC 22 [10] [0,1,2,3,4,9,10,12] [⟨263,_,F263_ok⟩,⟨264,_,F264_ok⟩,⟨260,_,F260_ok⟩]) (mO _ _ _ _) (fO _) Tryz.func197 rfl rfl rfl (by decide) rfl ?_
 rintro⟨a0,a1,(a2:Int),(a3:Int),a4,_⟩ hwf hpre ⟨⟩ hG rfl rfl
 show Vc _ _ [(0,⟨0,0,.c Z38 a0⟩),(1,⟨0,0,.c Z46 a1⟩),(2,⟨0,0,.c (.pure (.int .i64)) a2⟩),(3,⟨0,0,.c (.pure (.int .i64)) a3⟩),(4,⟨0,0,.c Z9 a4⟩)] _
 have hs:List.length a1≤2000000000:=hpre
 refine Vm hG rfl (Vq (Vm hG rfl ?_))
 refine Vk rfl ?_ ?_<;>intro h0
 · refine Vm hG rfl (Vt ?_)
   refine⟨?_,trivial⟩
   exact mayS h0
 · refine Vs (Vq ?_)
   refine VrD mixed hG rfl (by kernel_rfl) ?_ ?_
   · exact⟨hs,mandSpLen hs⟩
   refine Vt ?_
   refine⟨?_,trivial⟩
   exact mayN h0
end Fw
