/- Walks of functions of the program: what each computes. Conditions: those that each contract names. -/
import Derived.Test.YtajkcodhmabmnaaGreatW52T
import Derived.Test.YtajkcodhmabmnaaGreatW52i0
import Derived.Test.YtajkcodhmabmnaaGreatW52i3
namespace Fw
open Go Go.Proofs
set_option linter.unusedSimpArgs false
set_option maxRecDepth 100000
noncomputable def T105:TFun:=⟨.own (.pure (.int .i64)),[.int .i64],.own (.pure (.int .i64)),fun x xs=>(fun(l:List Int) (_:Int)=>List.length l≤2000000) x xs.1,fun x xs=>insF x xs.1⟩
theorem T105_ok:MeetsT Tryz.prog 105 T105:=by
 refine meetsT_of_vc (C:=mkCM 44 [4] [0,1,4,5,17,31] [⟨103,_,F103_ok⟩] [] [] []) (mkCM_ok _ _ _ _ _ _ _) (fO _) Tryz.func105 rfl rfl rfl (by decide) rfl rfl rfl rfl ?_ rfl
 rintro a0 ⟨(a1:Int),_⟩ hwf0 hwf hpre ⟨⟩ hG rfl rfl
 show Vc _ _ [(0,⟨0,0,.c Z0 a0⟩),(1,⟨0,0,.c (.pure (.int .i64)) a1⟩)] _
 have hs:List.length a0≤2000000:=hpre
 refine Vm hG rfl (Vm hG rfl (Vq (Vb ?_)))
 refine Vc.loopF [(5,false,.pure (.int .i64))] [0,1,4,31] (fun v=>ikInv a0 a1 v.1) (fun v=>((List.length a0:Int)-v.1).toNat) rfl ?_ ?_
 · exact ikStart
 rintro⟨(i:Int),_⟩ hI
 have hI:ikInv a0 a1 i:=hI
 refine Vq (Vq ?_)
 refine Vr hG rfl ?_ ?_
 · exact fun h=>ikRange hI (oTr h)
 refine Vk rfl ?_ ?_<;>intro h0
 · have g0:pick2 (decide (i<(List.length a0:Int))) (decide (List.getD a0 i.toNat (dflt TI)<a1)) false=true:=h0
   refine Vs (Vb (Vn hG rfl ?_))
   refine⟨rfl,?_⟩
   exact ikStep hI hs g0
 · have g0:pick2 (decide (i<(List.length a0:Int))) (decide (List.getD a0 i.toNat (dflt TI)<a1)) false=false:=h0
   have hk:=ikEnd hI g0
   refine Vx (Vq (Vq ?_))
   refine Vr hG rfl ?_ ?_
   · exact fun h=>ikRange hI (oTr h)
   refine Vk rfl ?_ ?_<;>intro h1
   · have g1:pick2 (decide (i<(List.length a0:Int))) (List.getD a0 i.toNat (dflt TI)==a1) false=true:=h1
     refine Vm hG rfl (Vt ?_)
     refine⟨?_,trivial⟩
     exact insYes hI hk g1
   · have g1:pick2 (decide (i<(List.length a0:Int))) (List.getD a0 i.toNat (dflt TI)==a1) false=false:=h1
     refine Vs (Vq ?_)
     refine VrD mixed hG rfl (by kernel_rfl) ?_ ?_
     · exact insConds hI hs
     refine Vt ?_
     refine⟨?_,trivial⟩
     exact insNo hI hk g1
noncomputable def F63:Fun:=⟨[.pair (.int .i64) Y84],[.own (.pure (.int .i64))],fun x=>Sm big20 Y85 x.1,fun x=>(methodsF x.1,())⟩
theorem F63_ok:Meets Tryz.prog 63 F63:=by
 refine mZ (C:=mkCM 24 [2] [0,1,2,3,5,12,13,14,15] [] [] [⟨105,_,T105_ok⟩] []) (mkCM_ok _ _ _ _ _ _ _) (fO _) Tryz.func63 rfl rfl rfl (by decide) rfl ?_
 rintro⟨a0,_⟩ hwf hpre ⟨⟩ hG rfl rfl
 show Vc _ _ [(0,⟨0,0,.c Z86 a0⟩)] _
 have hs:List.length a0.2.2.2.2.2≤1048576:=hpre.2.2.2.2.2.1
 have hb:List.length a0.2.2.2.2.2≤bigLen:=hwf.1.2.2.2.2.2.1
 refine Vm hG rfl (Vm hG rfl (Vq (Vm hG rfl ?_)))
 refine Vb ?_
 refine Vc.loopF [(3,false,.own (.pure (.int .i64))),(14,false,.pure (.int .i64))] [0,1,2,12,13] (fun v=>moInv a0 v.1 v.2.1) (fun v=>((List.length a0.2.2.2.2.2:Int)-v.2.1).toNat) rfl ?_ ?_
 · exact moStart
 rintro⟨acc,(i:Int),_⟩ hI
 have hI:moInv a0 acc i:=hI
 refine Vm hG rfl (Vq ?_)
 refine Vk rfl ?_ ?_<;>intro h0
 · have hl:i<(List.length a0.2.2.2.2.2:Int):=oTr h0
   refine Vs (Vq (Vb (Vq ?_)))
   refine Vr hG rfl ?_ ?_
   · exact moRange hI hl
   refine Vr hG rfl ?_ ?_
   · exact moLen hI hs hl
   refine Vn hG rfl ?_
   refine⟨rfl,?_⟩
   exact moStep hI hl hb
 · have hl:¬i<(List.length a0.2.2.2.2.2:Int):=oFa h0
   refine Vx (Vm hG rfl (Vt ?_))
   refine⟨?_,trivial⟩
   exact moEnd hI hl
noncomputable def F167:Fun:=⟨[.slice (.int .i64),.int .i64],[.pure (.int .i64)],fun _=>True,fun x=>((fun a0 a1=>findI (fun y=>y==a1) a0) x.1 x.2.1,())⟩
theorem F167_ok:Meets Tryz.prog 167 F167:=by
 refine mZ (C:=mkC 19 [4] [0,1,4,5,6,7,8,9,10,16] []) (mO _ _ _ _) (fO _) Tryz.func167 rfl rfl rfl (by decide) rfl ?_
 rintro⟨a0,(a1:Int),_⟩ hwf hpre ⟨⟩ hG rfl rfl
 show Vc _ _ [(0,⟨0,0,.c Z3 a0⟩),(1,⟨0,0,.c (.pure (.int .i64)) a1⟩)] _
 have hb:List.length a0≤bigLen:=hwf.1.1
 refine Vm hG rfl (Vq (Vm hG rfl (Vb ?_)))
 refine Vc.loopF [(9,false,.pure (.int .i64))] [0,1,7,8] (fun v=>fInv (fun y=>y==a1) a0 v.1) (fun v=>((List.length a0:Int)-v.1).toNat) rfl ?_ ?_
 · exact fStart
 rintro⟨(i:Int),_⟩ hI
 have hI:fInv (fun y=>y==a1) a0 i:=hI
 refine Vm hG rfl (Vq ?_)
 refine Vk rfl ?_ ?_<;>intro h0
 · have hl:i<(List.length a0:Int):=oTr h0
   refine Vs (Vq (Vb (Vq ?_)))
   refine Vr hG rfl ?_ ?_
   · exact fRange hI hl
   refine Vm hG rfl ?_
   refine Vk rfl ?_ ?_<;>intro h1
   · have g1:(fun y=>y==a1) (List.getD a0 i.toNat (dflt (.int .i64)))=true:=h1
     refine Vm hG rfl (Vt ?_)
     refine⟨?_,trivial⟩
     exact fHit hI hl g1
   · have g1:(fun y=>y==a1) (List.getD a0 i.toNat (dflt (.int .i64)))=false:=h1
     refine Vs (Vn hG rfl ?_)
     refine⟨rfl,?_⟩
     exact fStep hI hl hb g1
 · have hl:¬i<(List.length a0:Int):=oFa h0
   refine Vx (Vm hG rfl (Vt ?_))
   refine⟨?_,trivial⟩
   exact fEnd hI hl
noncomputable def F104:Fun:=⟨[.slice (.int .i64),.int .i64],[.pure (.bool)],fun _=>True,fun x=>(hasNF x.1 x.2.1,())⟩
theorem F104_ok:Meets Tryz.prog 104 F104:=by
 refine mZ (C:=mkC 9 [4] [0,1,4] [⟨167,_,F167_ok⟩]) (mO _ _ _ _) (fO _) Tryz.func104 rfl rfl rfl (by decide) rfl ?_
 rintro⟨a0,(a1:Int),_⟩ hwf hpre ⟨⟩ hG rfl rfl
 show Vc _ _ [(0,⟨0,0,.c Z3 a0⟩),(1,⟨0,0,.c (.pure (.int .i64)) a1⟩)] _
 refine Vm hG rfl (Vm hG rfl (Vt ?_))
 refine⟨?_,trivial⟩
 exact idxHas a0 a1
noncomputable def F62:Fun:=⟨[.slice (.int .i64),.pair (.int .i64) Y14,.slice (.int .i64)],[.pair (.pure (.int .i64)) Z59,.pure (.bool)],fun x=>(fun(l:List Int) (_:Doc) (_:List Int)=>List.length l≤2000000) x.1 x.2.1 x.2.2.1,fun x=>((redF x.1 x.2.1 x.2.2.1).1,(redF x.1 x.2.1 x.2.2.1).2,())⟩
theorem F62_ok:Meets Tryz.prog 62 F62:=by
 refine mZ (C:=mkC 83 [6,7] [0,1,2,4,6,7,8,9,10,11,12,13,15,18,26,27,28,29,41,42,43,44,45] [⟨86,_,F86_ok⟩,⟨103,_,F103_ok⟩,⟨104,_,F104_ok⟩,⟨92,_,F92_ok⟩]) (mO _ _ _ _) (fO _) Tryz.func62 rfl rfl rfl (by decide) rfl ?_
 rintro⟨a0,a1,a2,_⟩ hwf hpre ⟨⟩ hG rfl rfl
 show Vc _ _ [(0,⟨0,0,.c Z3 a0⟩),(1,⟨0,0,.c Z31 a1⟩),(2,⟨0,0,.c Z3 a2⟩)] _
 have hm2:List.length a0≤2000000:=hpre
 have hb:List.length a1.2.1≤bigLen:=hwf.2.1.2.1.1
 have hbm:List.length a0≤bigLen:=hwf.1.1
 refine Vm hG rfl (Vq (Vm hG rfl ?_))
 refine Vk rfl ?_ ?_<;>intro h0
 · have g0:(!(docF a1))=true:=h0
   refine Vm hG rfl (Vt ?_)
   have e:=rdBad (methods:=a0) (hide:=a2) g0
   refine⟨?_,?_,trivial⟩
   · exact(congrArg Prod.fst e).symm
   · exact(congrArg Prod.snd e).symm
 · have g0:(!(docF a1))=false:=h0
   obtain⟨d6,dS,dP⟩:=rdDoc g0
   refine Vs (Vq ?_)
   refine VrD mixed hG rfl (by kernel_rfl) ?_ ?_
   · exact Nat.le_trans hm2 (by decide)
   refine Vq (Vm hG rfl (Vb ?_))
   refine Vc.loopF [(8,true,.pair (.pure (.int .i64)) Z59),(28,false,.pure (.int .i64))] [0,1,2,4,6,7,18,26,27] (fun v=>rdInv a0 a1 a2 v.1 v.2.1) (fun v=>((List.length a1.2.1:Int)-v.2.1).toNat) rfl ?_ ?_
   · exact rdStart
   rintro⟨r,(i:Int),_⟩ hI
   have hI:rdInv a0 a1 a2 r i:=hI
   refine Vm hG rfl (Vq ?_)
   refine Vk rfl ?_ ?_<;>intro h1
   · have hl:i<(List.length a1.2.1:Int):=oTr h1
     obtain⟨l1,l2,l3,l4⟩:=rdLen hI hl d6
     have hr:=upRange hI.1 hl
     have hrs:inRange i (List.length a1.2.2):=by rw[dS];exact hr
     have hP:List.length (List.getD a1.2.1 i.toNat (dflt .str))≤40:=dP _ (by have:=hr.1;have:=hr.2;omega)
     refine Vs (Vq (Vb (Vq ?_)))
     refine Vr hG rfl ?_ ?_
     · exact hr
     refine Vq ?_
     refine Vr hG rfl ?_ ?_
     · exact hrs
     refine Vm hG rfl (Vm hG rfl (Vq (Vm hG rfl ?_)))
     refine Vk rfl ?_ ?_<;>intro h2
     · have g2:hasNF a2 i=true:=h2
       refine Vq (Vm hG rfl (Vb ?_))
       refine Vc.loopF [(12,false,.own (.pure (.int .i64))),(44,false,.pure (.int .i64))] [0,1,2,4,6,7,8,9,10,11,13,18,26,27,28,29,41,42,43] (fun v=>pkInv (pdG (List.getD a1.2.1 i.toNat (dflt .str)) (List.getD a1.2.2 i.toNat (dflt TI))) a0 v.1 v.2.1) (fun v=>((List.length a0:Int)-v.2.1).toNat) rfl ?_ ?_
       · exact pkStart
       rintro⟨acc,(j:Int),_⟩ hJ
       have hJ:pkInv (pdG (List.getD a1.2.1 i.toNat (dflt .str)) (List.getD a1.2.2 i.toNat (dflt TI))) a0 acc j:=hJ
       refine Vm hG rfl (Vq ?_)
       refine Vk rfl ?_ ?_<;>intro h3
       · have hm:j<(List.length a0:Int):=oTr h3
         refine Vs (Vq (Vb (Vq ?_)))
         refine Vr hG rfl ?_ ?_
         · exact pkRange hJ hm
         refine Vr hG rfl ?_ ?_
         · exact⟨hP,pkLen2 hJ hm2⟩
         refine Vn hG rfl ?_
         refine⟨rfl,?_⟩
         exact pkYes (d:=dflt TI) hJ hm hbm rfl
       · have hm:¬j<(List.length a0:Int):=oFa h3
         refine Vx (Vn hG rfl (Vq ?_))
         refine Vr hG rfl ?_ ?_
         · exact l1
         refine Vq ?_
         refine Vr hG rfl ?_ ?_
         · exact l2
         refine Vq ?_
         refine Vr hG rfl ?_ ?_
         · exact l3
         refine Vr hG rfl ?_ ?_
         · exact l4
         refine Vn hG rfl ?_
         refine⟨rfl,?_⟩
         first
           | exact rdYes hI hl hb g2 hJ hm rfl
           | exact rdNo hI hl hb g2 rfl
     · have g2:hasNF a2 i=false:=h2
       refine Vs (Vq ?_)
       refine Vr hG rfl ?_ ?_
       · exact l1
       refine Vq ?_
       refine Vr hG rfl ?_ ?_
       · exact l2
       refine Vq ?_
       refine Vr hG rfl ?_ ?_
       · exact l3
       refine Vr hG rfl ?_ ?_
       · exact l4
       refine Vn hG rfl ?_
       refine⟨rfl,?_⟩
       first
         | exact rdYes hI hl hb g2 hJ hm rfl
         | exact rdNo hI hl hb g2 rfl
   · have hl:¬i<(List.length a1.2.1:Int):=oFa h1
     refine Vx (Vm hG rfl (Vt ?_))
     have e:=rdEnd hI hl g0
     refine⟨?_,?_,trivial⟩
     · exact(congrArg Prod.fst e).symm
     · exact(congrArg Prod.snd e).symm
noncomputable def F23:Fun:=⟨[.pair (.int .i64) Y84,.slice (.int .i64)],[.pair (.pure (.int .i64)) Z59,.pure (.bool)],fun x=>(fun(x:Item) (_:List Int)=>Sm big20 Y85 x) x.1 x.2.1,fun x=>((redItemF x.1 x.2.1).1,(redItemF x.1 x.2.1).2,())⟩
theorem F23_ok:Meets Tryz.prog 23 F23:=by
 refine mZ (C:=mkC 14 [4,5] [0,1,2,4,5] [⟨63,_,F63_ok⟩,⟨62,_,F62_ok⟩]) (mO _ _ _ _) (fO _) Tryz.func23 rfl rfl rfl (by decide) rfl ?_
 rintro⟨a0,a1,_⟩ hwf hpre ⟨⟩ hG rfl rfl
 show Vc _ _ [(0,⟨0,0,.c Z86 a0⟩),(1,⟨0,0,.c Z3 a1⟩)] _
 have hp:Sm big20 Y85 a0:=hpre
 refine Vm hG rfl (Vq ?_)
 refine VrL mixed hG rfl (by kernel_rfl) ?_ ?_
 · exact⟨hp,methodsLen hp⟩
 refine Vt ?_
 refine⟨?_,?_,trivial⟩
 all_goals exact rfl
noncomputable def F169:Fun:=⟨[.pair (.int .i64) Y53],[.pure (.bool)],fun _=>True,fun x=>(isRedF x.1,())⟩
set_option maxHeartbeats 2000000 in
theorem F169_ok:Meets Tryz.prog 169 F169:=by
 refine mZ (C:=mkC 113 [2] [0,1,2,3,4,5,6,33,38,39,40,41,45,52,98] [⟨51,_,F51_ok⟩,⟨86,_,F86_ok⟩]) (mO _ _ _ _) (fO _) Tryz.func169 rfl rfl rfl (by decide) rfl ?_
 rintro⟨a0,_⟩ hwf hpre ⟨⟩ hG rfl rfl
 show Vc _ _ [(0,⟨0,0,.c Z60 a0⟩)] _
 have hb:List.length a0.2.2.1≤bigLen:=hwf.1.2.2.1.1
 refine Vm hG rfl (Vm hG rfl (Vq (Vm hG rfl ?_)))
 refine Vk rfl ?_ ?_<;>intro h0
 · have g0:rdBad0 a0=true:=h0
   refine Vm hG rfl (Vt ?_)
   refine⟨?_,trivial⟩
   exact irBad0 g0
 · have g0:rdBad0 a0=false:=h0
   have hL:=rdLens g0
   refine Vs (Vm hG rfl (Vq (Vm hG rfl ?_)))
   refine Vb ?_
   refine Vc.loopF [(4,true,.pair (.pure (.int .i64)) Z18),(40,false,.pure (.int .i64))] [0,1,3,33,38,39] (fun v=>irInv a0 v.1 v.2.1) (fun v=>((List.length a0.2.2.1:Int)-v.2.1).toNat) rfl ?_ ?_
   · exact irStart
   rintro⟨d,(i:Int),_⟩ hI
   have hI:irInv a0 d i:=hI
   refine Vm hG rfl (Vq ?_)
   refine Vk rfl ?_ ?_<;>intro h1
   · have hl:i<(List.length a0.2.2.1:Int):=oTr h1
     have ri:=irRange hI hl
     have rp:inRange i (List.length a0.2.2.2.1):=⟨ri.1,by have:=ri.2;omega⟩
     have rs:inRange i (List.length a0.2.2.2.2.1):=⟨ri.1,by have:=ri.2;omega⟩
     have rg:inRange i (List.length a0.2.2.2.2.2):=⟨ri.1,by have:=ri.2;omega⟩
     have hA:=irLen hI hl hL.1
     refine Vs (Vq (Vb (Vq ?_)))
     refine Vr hG rfl ?_ ?_
     · exact ri
     refine Vm hG rfl ?_
     refine Vk rfl ?_ ?_<;>intro h2
     · have g2:rdS a0 i.toNat=true:=h2
       refine Vq (Vq ?_)
       refine Vr hG rfl ?_ ?_
       · exact rg
       refine Vk rfl ?_ ?_<;>intro h3
       · have n3:¬rowP a0 i.toNat:=fun q=>by have q2:=(rowY g2).2 q;have q3:decide (((rdDg a0 i.toNat).length:Int)>0)=true:=h3;rw[q2]at q3;cases q3
         refine Vm hG rfl (Vt ?_)
         refine⟨?_,trivial⟩
         exact irBad hI hl n3
       · have st:=irY hI hl hb g2 ((rowY g2).1 h3)
         refine Vs (Vq ?_)
         refine VrD mixed hG rfl (by kernel_rfl) ?_ ?_
         · exact⟨rp,hA.1⟩
         refine VrD mixed hG rfl (by kernel_rfl) ?_ ?_
         · exact⟨rs,hA.2⟩
         refine Vn hG rfl ?_
         refine⟨rfl,?_⟩
         exact st
     · have g2:rdS a0 i.toNat=false:=h2
       refine Vq ?_
       refine VrD mixed hG rfl (by kernel_rfl) ?_ ?_
       · repeat' (first | exact trivial | exact ri | exact rp | exact rs | exact rg | refine And.intro ?_ ?_ | intro _)
       refine Vk rfl ?_ ?_<;>intro h4
       · have n4:¬rowP a0 i.toNat:=fun q=>by have q2:=(rowN g2).2 q;have q3:pick2 (pick2 (rdPt a0 i.toNat != []) true (rdSl a0 i.toNat != 0)) true (((rdDg a0 i.toNat).length:Int) != (List.length a0.2.1:Int))=true:=h4;rw[q2]at q3;cases q3
         refine Vm hG rfl (Vt ?_)
         refine⟨?_,trivial⟩
         exact irBad hI hl n4
       · have st:=irN hI hl hb g2 ((rowN g2).1 h4)
         refine Vs (Vn hG rfl ?_)
         refine⟨rfl,?_⟩
         exact st
   · have hl:¬i<(List.length a0.2.2.1:Int):=oFa h1
     refine Vx (Vq ?_)
     refine Vr hG rfl ?_ ?_
     · repeat' (first | exact trivial | refine And.intro ?_ ?_ | intro _)
     refine Vt ?_
     refine⟨?_,trivial⟩
     exact irEnd g0 hI hl
noncomputable def F170:Fun:=⟨[.pair (.int .i64) Y53],[.pure (.int .i64)],fun _=>True,fun x=>(cshF x.1,())⟩
theorem F170_ok:Meets Tryz.prog 170 F170:=by
 refine mZ (C:=mkC 18 [2] [0,1,2,3,5,7,8,9,10,13] []) (mO _ _ _ _) (fO _) Tryz.func170 rfl rfl rfl (by decide) rfl ?_
 rintro⟨a0,_⟩ hwf hpre ⟨⟩ hG rfl rfl
 show Vc _ _ [(0,⟨0,0,.c Z60 a0⟩)] _
 have hb:List.length a0.2.2.1≤bigLen:=hwf.1.2.2.1.1
 refine Vm hG rfl (Vm hG rfl (Vq (Vm hG rfl ?_)))
 refine Vb ?_
 refine Vc.loopF [(3,false,.pure (.int .i64)),(9,false,.pure (.int .i64))] [0,1,2,7,8] (fun v=>foInv cshG 0 a0.2.2.1 v.1 v.2.1) (fun v=>((List.length a0.2.2.1:Int)-v.2.1).toNat) rfl ?_ ?_
 · exact foStart
 rintro⟨(n:Int),(i:Int),_⟩ hI
 have hI:foInv cshG 0 a0.2.2.1 n i:=hI
 refine Vm hG rfl (Vq ?_)
 refine Vk rfl ?_ ?_<;>intro h0
 · have hl:i<(List.length a0.2.2.1:Int):=oTr h0
   refine Vs (Vq (Vb (Vq ?_)))
   refine Vr hG rfl ?_ ?_
   · exact foRange hI hl
   refine Vm hG rfl ?_
   refine Vk rfl ?_ ?_<;>intro h1
   · have st:=foStepE (d:=dflt .bool) hI hl hb (cshY (n:=n) h1)
     refine Vn hG rfl (Vn hG rfl ?_)
     refine⟨rfl,?_⟩
     exact st
   · have st:=foStepE (d:=dflt .bool) hI hl hb (cshN (n:=n) h1)
     refine Vs (Vn hG rfl ?_)
     refine⟨rfl,?_⟩
     exact st
 · have hl:¬i<(List.length a0.2.2.1:Int):=oFa h0
   refine Vx (Vm hG rfl (Vt ?_))
   refine⟨?_,trivial⟩
   exact foEnd hI hl
noncomputable def F107:Fun:=⟨[.int .i64,.pair (.int .i64) Y53],[.pure (.int .i64)],fun _=>True,fun x=>(redDigF x.1 x.2.1,())⟩
set_option maxHeartbeats 2000000 in
theorem F107_ok:Meets Tryz.prog 107 F107:=by
 refine mZ (C:=mkC 70 [4] [0,1,3,4,5,6,7,8,27,32,33,34,35,39] [⟨167,_,F167_ok⟩,⟨169,_,F169_ok⟩,⟨170,_,F170_ok⟩,⟨92,_,F92_ok⟩,⟨89,_,F89_ok⟩]) (mO _ _ _ _) (fO _) Tryz.func107 rfl rfl rfl (by decide) rfl ?_
 rintro⟨(a0:Int),a1,_⟩ hwf hpre ⟨⟩ hG rfl rfl
 show Vc _ _ [(0,⟨0,0,.c (.pure (.int .i64)) a0⟩),(1,⟨0,0,.c Z60 a1⟩)] _
 have hb:List.length a1.2.2.1≤bigLen:=hwf.2.1.2.2.1.1
 have hbm:List.length a1.2.1≤bigLen:=hwf.2.1.2.1.1
 refine Vm hG rfl (Vm hG rfl (Vq (Vq ?_)))
 refine VrD mixed hG rfl (by kernel_rfl) ?_ ?_
 · repeat' (first | exact trivial | refine And.intro ?_ ?_ | intro _)
 refine Vk rfl ?_ ?_<;>intro h0
 · have g0:rgTest a0 a1=true:=h0
   refine Vm hG rfl (Vt ?_)
   refine⟨?_,trivial⟩
   exact rgBadI g0 hb
 · have g0:rgTest a0 a1=false:=h0
   have hR:isRedF a1=true:=rgOk g0
   have hL:=rdLens (isRed_iff.1 hR).1
   refine Vs (Vm hG rfl (Vq (Vm hG rfl ?_)))
   refine Vb ?_
   refine Vc.loopF [(6,false,.own (.pure (.int .i64))),(34,false,.pure (.int .i64))] [0,1,3,4,5,27,32,33] (fun v=>rgInv a0 a1 v.1 v.2.1) (fun v=>((List.length a1.2.2.1:Int)-v.2.1).toNat) rfl ?_ ?_
   · exact rgStart
   rintro⟨acc,(i:Int),_⟩ hI
   have hI:rgInv a0 a1 acc i:=hI
   refine Vm hG rfl (Vq ?_)
   refine Vk rfl ?_ ?_<;>intro h1
   · have hl:i<(List.length a1.2.2.1:Int):=oTr h1
     have ri:=rgRange hI hl
     have rp:inRange i (List.length a1.2.2.2.1):=⟨ri.1,by have:=ri.2;omega⟩
     have rs:inRange i (List.length a1.2.2.2.2.1):=⟨ri.1,by have:=ri.2;omega⟩
     have rg:inRange i (List.length a1.2.2.2.2.2):=⟨ri.1,by have:=ri.2;omega⟩
     have hA:=rgLen hI hl hL.1
     have hk:i.toNat<List.length a1.2.2.1:=by have:=ri.1;have:=ri.2;omega
     refine Vs (Vq (Vb (Vq ?_)))
     refine Vr hG rfl ?_ ?_
     · exact ri
     refine Vm hG rfl ?_
     refine Vk rfl ?_ ?_<;>intro h2
     · have g2:rdS a1 i.toNat=true:=h2
       have st:=rgStep hI hl hb (rgY g2) (fun _=>g2)
       refine VrD mixed hG rfl (by kernel_rfl) ?_ ?_
       · exact⟨rp,rs,red40 hR hk g2,hA⟩
       refine Vn hG rfl ?_
       refine⟨rfl,?_⟩
       exact st
     · have g2:rdS a1 i.toNat=false:=h2
       have nj:=rgNeg g0 hb hk g2
       have ej:=idxPos nj
       have gj:redIdx a0 a1≠List.length a1.2.1:=fun q=>nj (idxNeg.2 q)
       have st:=rgStep hI hl hb (rgN (a:=(findI (fun y=>y==a0) a1.2.1)) g2 ej) (fun q=>absurd q gj)
       refine Vr hG rfl ?_ ?_
       · exact⟨rg,rgIdx hR hI hl g2 (Int.not_lt.1 nj) ej gj,hA⟩
       refine Vn hG rfl ?_
       refine⟨rfl,?_⟩
       exact st
   · have hl:¬i<(List.length a1.2.2.1:Int):=oFa h1
     refine Vx (Vq ?_)
     refine Vr hG rfl ?_ ?_
     · exact rgSmall hI hL.1
     refine Vt ?_
     refine⟨?_,trivial⟩
     exact rgEnd hI hl hR
noncomputable def F168:Fun:=⟨[.pair Y29 Y70,.pair (.int .i64) Y53],[.own (.pure (.int .i64))],fun x=>(fun(s:Strand) (_:Red)=>List.length s.2≤2000000) x.1 x.2.1,fun x=>(redDigsF x.1 x.2.1,())⟩
theorem F168_ok:Meets Tryz.prog 168 F168:=by
 refine mZ (C:=mkC 24 [4] [0,1,2,3,4,5,7,9,10,11,12] [⟨107,_,F107_ok⟩]) (mO _ _ _ _) (fO _) Tryz.func168 rfl rfl rfl (by decide) rfl ?_
 rintro⟨a0,a1,_⟩ hwf hpre ⟨⟩ hG rfl rfl
 show Vc _ _ [(0,⟨0,0,.c Z75 a0⟩),(1,⟨0,0,.c Z60 a1⟩)] _
 have hs:List.length a0.2≤2000000:=hpre
 have hb:List.length a0.2≤bigLen:=hwf.1.2.1
 refine Vm hG rfl (Vm hG rfl (Vq (Vm hG rfl ?_)))
 refine Vb ?_
 refine Vc.loopF [(5,false,.own (.pure (.int .i64))),(11,false,.pure (.int .i64))] [0,1,2,3,4,9,10] (fun v=>pkInv (rdgF a1) a0.2 v.1 v.2.1) (fun v=>((List.length a0.2:Int)-v.2.1).toNat) rfl ?_ ?_
 · exact pkStart
 rintro⟨acc,(i:Int),_⟩ hI
 have hI:pkInv (rdgF a1) a0.2 acc i:=hI
 refine Vm hG rfl (Vq ?_)
 refine Vk rfl ?_ ?_<;>intro h0
 · have hl:i<(List.length a0.2:Int):=oTr h0
   refine Vs (Vq (Vb (Vq ?_)))
   refine Vr hG rfl ?_ ?_
   · exact pkRange hI hl
   refine Vr hG rfl ?_ ?_
   · exact⟨trivial,pkLen2 hI hs⟩
   refine Vn hG rfl ?_
   refine⟨rfl,?_⟩
   exact pkYes (d:=dflt Y67) hI hl hb rfl
 · have hl:¬i<(List.length a0.2:Int):=oFa h0
   refine Vx (Vm hG rfl (Vt ?_))
   refine⟨?_,trivial⟩
   exact pkEnd hI hl
noncomputable def F106:Fun:=⟨[.pair Y76 Y47,.pair (.int .i64) Y53],[.own Z0],fun x=>(fun(e:Evidence) (_:Red)=>Sm big20 Y76 e.1) x.1 x.2.1,fun x=>(allRedF x.1 x.2.1,())⟩
theorem F106_ok:Meets Tryz.prog 106 F106:=by
 refine mZ (C:=mkC 23 [4] [0,1,2,3,4,5,7,9,10,11,12] [⟨168,_,F168_ok⟩]) (mO _ _ _ _) (fO _) Tryz.func106 rfl rfl rfl (by decide) rfl ?_
 rintro⟨a0,a1,_⟩ hwf hpre ⟨⟩ hG rfl rfl
 show Vc _ _ [(0,⟨0,0,.c Z80 a0⟩),(1,⟨0,0,.c Z60 a1⟩)] _
 have hS:Sm big20 Y76 a0.1:=hpre
 have hs:List.length a0.1≤1048576:=hS.1
 have hb:List.length a0.1≤bigLen:=hwf.1.1.1
 refine Vm hG rfl (Vm hG rfl (Vq (Vm hG rfl ?_)))
 refine Vb ?_
 refine Vc.loopF [(5,false,.own Z0),(11,false,.pure (.int .i64))] [0,1,2,3,4,9,10] (fun v=>pkInv (arF a1) a0.1 v.1 v.2.1) (fun v=>((List.length a0.1:Int)-v.2.1).toNat) rfl ?_ ?_
 · exact pkStart
 rintro⟨acc,(i:Int),_⟩ hI
 have hI:pkInv (arF a1) a0.1 acc i:=hI
 refine Vm hG rfl (Vq ?_)
 refine Vk rfl ?_ ?_<;>intro h0
 · have hl:i<(List.length a0.1:Int):=oTr h0
   have r1:=pkRange hI hl
   have hE:List.length (List.getD a0.1 i.toNat (dflt Y73)).2≤2000000:=Nat.le_trans (hS.2 _ (getD_mem r1 _)).2.1 (by decide)
   refine Vs (Vq (Vb (Vq ?_)))
   refine Vr hG rfl ?_ ?_
   · exact pkRange hI hl
   refine Vr hG rfl ?_ ?_
   · exact⟨hE,pkLen hI hs⟩
   refine Vn hG rfl ?_
   refine⟨rfl,?_⟩
   exact pkYes (d:=dflt Y73) hI hl hb rfl
 · have hl:¬i<(List.length a0.1:Int):=oFa h0
   refine Vx (Vm hG rfl (Vt ?_))
   refine⟨?_,trivial⟩
   exact pkEnd hI hl
noncomputable def F64:Fun:=⟨[.pair Y43 Y66,.pair Y76 Y47,.pair (.int .i64) Y53,.pair (.int .i64) Y56],[.pure Y30],fun x=>(fun(_:Frame) (e:Evidence) (_:Red) (_:Sig)=>Sm big20 Y79 e∧((cellsC Y76 e.1:Nat):Int)≤2000000000) x.1 x.2.1 x.2.2.1 x.2.2.2.1,fun x=>(judgeRedF x.1 x.2.1 x.2.2.1 x.2.2.2.1,())⟩
theorem F64_ok:Meets Tryz.prog 64 F64:=by
 refine mZ (C:=mkC 20 [8] [0,1,2,3,4,5,6,7,8] [⟨106,_,F106_ok⟩,⟨107,_,F107_ok⟩,⟨74,_,F74_ok⟩]) (mO _ _ _ _) (fO _) Tryz.func64 rfl rfl rfl (by decide) rfl ?_
 rintro⟨a0,a1,a2,a3,_⟩ hwf hpre ⟨⟩ hG rfl rfl
 show Vc _ _ [(0,⟨0,0,.c Z77 a0⟩),(1,⟨0,0,.c Z80 a1⟩),(2,⟨0,0,.c Z60 a2⟩),(3,⟨0,0,.c Z63 a3⟩)] _
 have hS:Sm big20 Y76 a1.1:=hpre.1.1
 have hT:Sm big20 (.slice (.slice TStamp)) a1.2:=hpre.1.2
 have hc:((cellsC Y76 a1.1:Nat):Int)≤2000000000:=hpre.2
 refine Vm hG rfl (Vq ?_)
 refine VrD mixed hG rfl (by kernel_rfl) ?_ ?_
 · exact⟨hS,trivial,hpre⟩
 refine Vt ?_
 refine⟨?_,trivial⟩
 all_goals exact rfl
noncomputable def F24:Fun:=⟨[.pair Y43 Y66,.pair (.int .i64) Y84,.pair (.int .i64) Y53],[.pure Y30],fun x=>(fun(_:Frame) (x:Item) (_:Red)=>Sm big20 Y85 x∧((cellsC Y85 x:Nat):Int)≤2000000000) x.1 x.2.1 x.2.2.1,fun x=>(judgeHidF x.1 x.2.1 x.2.2.1,())⟩
theorem F24_ok:Meets Tryz.prog 24 F24:=by
 refine mZ (C:=mkC 14 [6] [0,1,2,3,4,5,6] [⟨61,_,F61_ok⟩,⟨64,_,F64_ok⟩]) (mO _ _ _ _) (fO _) Tryz.func24 rfl rfl rfl (by decide) rfl ?_
 rintro⟨a0,a1,a2,_⟩ hwf hpre ⟨⟩ hG rfl rfl
 show Vc _ _ [(0,⟨0,0,.c Z77 a0⟩),(1,⟨0,0,.c Z86 a1⟩),(2,⟨0,0,.c Z60 a2⟩)] _
 have hi:Sm big20 Y85 a1:=hpre.1
 have hc:((cellsC Y85 a1:Nat):Int)≤2000000000:=hpre.2
 refine Vm hG rfl (Vq ?_)
 refine VrD mixed hG rfl (by kernel_rfl) ?_ ?_
 · exact⟨hi,itSm hi,itCells hc⟩
 refine Vt ?_
 refine⟨?_,trivial⟩
 all_goals exact rfl
noncomputable def F44:Fun:=⟨[.pair (.int .i64) Y87],[.pair (.pure (.int .i64)) Z93],fun x=>Sm big20 Y88 x.1,fun x=>(id x.1,())⟩
theorem F44_ok:Meets Tryz.prog 44 F44:=by
 refine mZ (C:=mkC 25 [2] [0,1,2,3,5,10,11,12,13] [⟨58,_,F58_ok⟩]) (mO _ _ _ _) (fO _) Tryz.func44 rfl rfl rfl (by decide) rfl ?_
 rintro⟨a0,_⟩ hwf hpre ⟨⟩ hG rfl rfl
 show Vc _ _ [(0,⟨0,0,.c Z89 a0⟩)] _
 have hp:_∧_:=hpre.2
 have hb:List.length a0.2≤bigLen:=hwf.1.2.1
 refine Vm hG rfl (Vm hG rfl (Vq (Vm hG rfl ?_)))
 refine Vb ?_
 refine Vc.loopF [(3,true,.pair (.pure (.int .i64)) Z93),(12,false,.pure (.int .i64))] [0,1,2,10,11] (fun v=>v.1.1=a0.1∧cpInv a0.2 v.1.2 v.2.1) (fun v=>((List.length a0.2:Int)-v.2.1).toNat) rfl ?_ ?_
 · exact⟨rfl,cpStart⟩
 rintro⟨acc,(i:Int),_⟩ hI
 have hI:acc.1=a0.1∧cpInv a0.2 acc.2 i:=hI
 refine Vm hG rfl (Vq ?_)
 refine Vk rfl ?_ ?_<;>intro h0
 · have hl:i<(List.length a0.2:Int):=oTr h0
   have hE:Sm big20 Y85 (List.getD a0.2 i.toNat (dflt Y85)):=hp.2 _ (upElem hI.2.1 hl)
   refine Vs (Vq (Vb (Vq ?_)))
   refine Vr hG rfl ?_ ?_
   · exact cpRange hI.2 hl
   refine VrD mixed hG rfl (by kernel_rfl) ?_ ?_
   · exact⟨hE,cpLen hI.2 hl hp.1⟩
   refine Vn hG rfl ?_
   refine⟨rfl,?_⟩
   have e:=cpStep (d:=dflt Y85) hI.2 hl hb rfl
   exact⟨⟨hI.1,e.1⟩,e.2⟩
 · have hl:¬i<(List.length a0.2:Int):=oFa h0
   refine Vx (Vm hG rfl (Vt ?_))
   refine⟨?_,trivial⟩
   exact Prod.ext hI.1 (cpEnd hI.2 hl)
noncomputable def F26:Fun:=⟨[.pair (.int .i64) Y87,.int .i64],[.pair (.pure (.int .i64)) Z93,.pure (.bool)],fun x=>(fun(a:Archive) (_:Int)=>Sm big20 Y88 a) x.1 x.2.1,fun x=>((dropItemF x.1 x.2.1).1,(dropItemF x.1 x.2.1).2,())⟩
theorem F26_ok:Meets Tryz.prog 26 F26:=by
 refine mZ (C:=mkC 28 [4,5] [0,1,2,4,5,6,7,14] [⟨44,_,F44_ok⟩,⟨20,_,F20_ok⟩]) (mO _ _ _ _) (fO _) Tryz.func26 rfl rfl rfl (by decide) rfl ?_
 rintro⟨a0,(a1:Int),_⟩ hwf hpre ⟨⟩ hG rfl rfl
 show Vc _ _ [(0,⟨0,0,.c Z89 a0⟩),(1,⟨0,0,.c (.pure (.int .i64)) a1⟩)] _
 have hp1:Sm big20 Y88 a0:=hpre
 have hs:List.length a0.2≤1048576:=hp1.2.1
 have hb:List.length a0.2≤bigLen:=hwf.1.2.1
 refine Vm hG rfl (Vq ?_)
 refine Vr hG rfl ?_ ?_
 · exact hp1
 refine Vm hG rfl (Vq (Vm hG rfl ?_))
 refine Vk rfl ?_ ?_<;>intro h0
 · have g0:itAt a0 a1<0:=oTr h0
   refine Vm hG rfl (Vt ?_)
   have e:=di0 g0
   refine⟨?_,?_,trivial⟩
   · exact(congrArg Prod.fst e).symm
   · exact(congrArg Prod.snd e).symm
 · have g0:¬itAt a0 a1<0:=oFa h0
   refine Vs (Vq ?_)
   refine VrD mixed hG rfl (by kernel_rfl) ?_ ?_
   · exact diConds g0 hs hb
   refine Vm hG rfl (Vt ?_)
   have e:=di1i g0 hb
   refine⟨?_,?_,trivial⟩
   · exact(congrArg Prod.fst e).symm
   · exact(congrArg Prod.snd e).symm
noncomputable def F27:Fun:=⟨[.pair (.int .i64) Y87],[.pure (.int .i64)],fun _=>True,fun x=>((fun a0=>List.foldl (fun(n:Int) (s:El Y85)=>max n s.2.1) (-1) a0.2) x.1,())⟩
theorem F27_ok:Meets Tryz.prog 27 F27:=by
 refine mZ (C:=mkC 19 [2] [0,1,2,3,5,7,8,9,10] []) (mO _ _ _ _) (fO _) Tryz.func27 rfl rfl rfl (by decide) rfl ?_
 rintro⟨a0,_⟩ hwf hpre ⟨⟩ hG rfl rfl
 show Vc _ _ [(0,⟨0,0,.c Z89 a0⟩)] _
 have hb:List.length a0.2≤bigLen:=hwf.1.2.1
 refine Vm hG rfl (Vm hG rfl (Vq (Vm hG rfl ?_)))
 refine Vb ?_
 refine Vc.loopF [(3,false,.pure (.int .i64)),(9,false,.pure (.int .i64))] [0,1,2,7,8] (fun v=>foInv (fun(n:Int) (s:El Y85)=>max n s.2.1) (-1) a0.2 v.1 v.2.1) (fun v=>((List.length a0.2:Int)-v.2.1).toNat) rfl ?_ ?_
 · exact foStart
 rintro⟨acc,(i:Int),_⟩ hI
 have hI:foInv (fun(n:Int) (s:El Y85)=>max n s.2.1) (-1) a0.2 acc i:=hI
 refine Vm hG rfl (Vq ?_)
 refine Vk rfl ?_ ?_<;>intro h0
 · have hl:i<(List.length a0.2:Int):=oTr h0
   refine Vs (Vq (Vb (Vq ?_)))
   refine Vr hG rfl ?_ ?_
   · exact foRange hI hl
   refine Vn hG rfl (Vn hG rfl ?_)
   refine⟨rfl,?_⟩
   exact foStep hI hl hb
 · have hl:¬i<(List.length a0.2:Int):=oFa h0
   refine Vx (Vm hG rfl (Vt ?_))
   refine⟨?_,trivial⟩
   exact foEnd hI hl
end Fw
