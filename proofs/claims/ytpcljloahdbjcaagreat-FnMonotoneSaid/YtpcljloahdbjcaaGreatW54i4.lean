/- Walks of functions of the program: what each computes. Conditions: those that each contract names. -/
import Derived.Test.YtpcljloahdbjcaaGreatW54T
import Derived.Test.YtpcljloahdbjcaaGreatW54i0
import Derived.Test.YtpcljloahdbjcaaGreatW54i1
import Derived.Test.YtpcljloahdbjcaaGreatW54i2
import Derived.Test.YtpcljloahdbjcaaGreatW54i3
set_option linter.unusedVariables false
namespace Fw
open Go Go.Proofs
set_option linter.unusedSimpArgs false
set_option maxRecDepth 100000
noncomputable def F93:Fun:=⟨[.slice Y34,.slice Y34],[.pure (.bool)],fun _=>True,fun x=>(eqC x.1 x.2.1,())⟩
theorem F93_ok:Meets Tryz.prog 93 F93:=by
 refine mZ (C:=mkC 26 [4] [0,1,4,5,10,12,13,14,24] []) (mO _ _ _ _) (fO _) Tryz.func93 rfl rfl rfl (by decide) rfl ?_
 rintro⟨a0,a1,_⟩ hwf hpre ⟨⟩ hG rfl rfl
 show Vc _ _ [(0,⟨0,0,.c Z38 a0⟩),(1,⟨0,0,.c Z38 a1⟩)] _
 have hb0:List.length a0≤bigLen:=hwf.1.1
 refine Vm hG rfl (Vq (Vm hG rfl ?_))
 refine Vk rfl ?_ ?_<;>intro h0
 · refine Vm hG rfl (Vt ?_)
   refine⟨?_,trivial⟩
   refine eqC_no (fun e=>?_)
   have e:a0=a1:=e
   have g:((List.length a0:Int) != (List.length a1:Int))=true:=h0
   subst e
   exact bself g
 · have g0:((List.length a0:Int) != (List.length a1:Int))=false:=h0
   have f0_0:List.length a0=List.length a1:=(lenEq g0)
   refine Vs (Vq (Vm hG rfl (Vb ?_)))
   refine Vc.loopF [(13,false,.pure (.int .i64))] [0,1,10,12] (fun v=>eqInv a0 a1 v.1) (fun v=>((List.length a0:Int)-v.1).toNat) rfl ?_ ?_
   · exact eqStart f0_0
   rintro⟨(i0:Int),_⟩ hI0
   have hI0:eqInv a0 a1 i0:=hI0
   refine Vm hG rfl (Vq ?_)
   refine Vk rfl ?_ ?_<;>intro h1
   · have hl0:i0<(List.length a0:Int):=oTr h1
     refine Vs (Vq (Vb (Vm hG rfl ?_)))
     refine Vq ?_
     refine VrD mixed hG rfl (by kernel_rfl) ?_ ?_
     · exact⟨(eqRange hI0 hl0).1,(eqRange hI0 hl0).2⟩
     refine Vk rfl ?_ ?_<;>intro h2
     · refine Vm hG rfl (Vt ?_)
       refine⟨?_,trivial⟩
       refine eqC_no (fun e=>?_)
       have e:a0=a1:=e
       have g:(!(El.eq Y34 (List.getD a0 i0.toNat (dflt Y34)) (List.getD a1 i0.toNat (dflt Y34))))=true:=h2
       subst e
       exact(eself rfl) g
     · have g2:(!(El.eq Y34 (List.getD a0 i0.toNat (dflt Y34)) (List.getD a1 i0.toNat (dflt Y34))))=false:=h2
       have f2_0:(List.getD a0 i0.toNat (dflt Y34))=(List.getD a1 i0.toNat (dflt Y34)):=(notE g2 rfl)
       have s0:(List.getD a0 i0.toNat (dflt Y34))=(List.getD a1 i0.toNat (dflt Y34)):=f2_0
       refine Vs (Vn hG rfl ?_)
       refine⟨rfl,?_⟩
       exact⟨eqStep (d:=dflt Y34) hI0 hl0 hb0 s0,(upStep hI0.1 hl0 hb0).2.2⟩
   · have hl0:¬i0<(List.length a0:Int):=oFa h1
     have e0:a0=a1:=eqEnd hI0 hl0
     refine Vx (Vm hG rfl (Vt ?_))
     refine⟨?_,trivial⟩
     exact eqC_yes e0
noncomputable def F137:Fun:=⟨[.pair (.int .i64) Y55,.pair (.int .i64) Y55],[.pure (.bool)],fun _=>True,fun x=>(eqC x.1 x.2.1,())⟩
theorem F137_ok:Meets Tryz.prog 137 F137:=by
 refine mZ (C:=mkC 57 [4] [0,1,2,3,4,5,33,36,37,38,50] [⟨93,_,F93_ok⟩]) (mO _ _ _ _) (fO _) Tryz.func137 rfl rfl rfl (by decide) rfl ?_
 rintro⟨a0,a1,_⟩ hwf hpre ⟨⟩ hG rfl rfl
 show Vc _ _ [(0,⟨0,0,.c Z59 a0⟩),(1,⟨0,0,.c Z59 a1⟩)] _
 have hb0:List.length a0.2.2.2.1≤bigLen:=hwf.1.2.2.2.1.1
 refine Vm hG rfl (Vq (Vm hG rfl ?_))
 refine Vk rfl ?_ ?_<;>intro h0
 · refine Vm hG rfl (Vt ?_)
   refine⟨?_,trivial⟩
   refine eqC_no (fun e=>?_)
   have e:a0=a1:=e
   have g:(pick2 (pick2 (pick2 (a0.1 != a1.1) true (a0.2.1 != a1.2.1)) true (a0.2.2.1 != a1.2.2.1)) true ((List.length a0.2.2.2.1:Int) != (List.length a1.2.2.2.1:Int)))=true:=h0
   subst e
   exact(noOr (noOr (noOr bself bself) bself) bself) g
 · have g0:(pick2 (pick2 (pick2 (a0.1 != a1.1) true (a0.2.1 != a1.2.1)) true (a0.2.2.1 != a1.2.2.1)) true ((List.length a0.2.2.2.1:Int) != (List.length a1.2.2.2.1:Int)))=false:=h0
   have f0_0:a0.1=a1.1:=(bneI (orF (orF (orF g0).1).1).1)
   have f0_1:a0.2.1=a1.2.1:=(bneI (orF (orF (orF g0).1).1).2)
   have f0_2:a0.2.2.1=a1.2.2.1:=(bneI (orF (orF g0).1).2)
   have f0_3:List.length a0.2.2.2.1=List.length a1.2.2.2.1:=(lenEq (orF g0).2)
   refine Vs (Vq (Vm hG rfl (Vb ?_)))
   refine Vc.loopF [(37,false,.pure (.int .i64))] [0,1,2,3,33,36] (fun v=>eqInv a0.2.2.2.1 a1.2.2.2.1 v.1) (fun v=>((List.length a0.2.2.2.1:Int)-v.1).toNat) rfl ?_ ?_
   · exact eqStart f0_3
   rintro⟨(i0:Int),_⟩ hI0
   have hI0:eqInv a0.2.2.2.1 a1.2.2.2.1 i0:=hI0
   refine Vm hG rfl (Vq ?_)
   refine Vk rfl ?_ ?_<;>intro h1
   · have hl0:i0<(List.length a0.2.2.2.1:Int):=oTr h1
     refine Vs (Vq (Vb (Vm hG rfl ?_)))
     refine Vq ?_
     refine VrD mixed hG rfl (by kernel_rfl) ?_ ?_
     · exact⟨(eqRange hI0 hl0).1,(eqRange hI0 hl0).2⟩
     refine Vk rfl ?_ ?_<;>intro h2
     · refine Vm hG rfl (Vt ?_)
       refine⟨?_,trivial⟩
       refine eqC_no (fun e=>?_)
       have e:a0=a1:=e
       have g:(!(El.eq Y2 (List.getD a0.2.2.2.1 i0.toNat (dflt Y2)) (List.getD a1.2.2.2.1 i0.toNat (dflt Y2))))=true:=h2
       subst e
       exact(eself rfl) g
     · have g2:(!(El.eq Y2 (List.getD a0.2.2.2.1 i0.toNat (dflt Y2)) (List.getD a1.2.2.2.1 i0.toNat (dflt Y2))))=false:=h2
       have f2_0:(List.getD a0.2.2.2.1 i0.toNat (dflt Y2))=(List.getD a1.2.2.2.1 i0.toNat (dflt Y2)):=(notE g2 rfl)
       have s0:(List.getD a0.2.2.2.1 i0.toNat (dflt Y2))=(List.getD a1.2.2.2.1 i0.toNat (dflt Y2)):=f2_0
       refine Vs (Vn hG rfl ?_)
       refine⟨rfl,?_⟩
       exact⟨eqStep (d:=dflt Y2) hI0 hl0 hb0 s0,(upStep hI0.1 hl0 hb0).2.2⟩
   · have hl0:¬i0<(List.length a0.2.2.2.1:Int):=oFa h1
     have e0:a0.2.2.2.1=a1.2.2.2.1:=eqEnd hI0 hl0
     refine Vx (Vq ?_)
     refine Vr hG rfl ?_ ?_
     · repeat' (first | exact trivial | refine And.intro ?_ ?_ | intro _)
     refine Vt ?_
     refine⟨?_,trivial⟩
     refine eqC_by (fun e=>?_) (fun e=>?_)
     · have e:(eqC a0.2.2.2.2 a1.2.2.2.2)=true:=e
       have r_0:a0.2.2.2.2=a1.2.2.2.2:=(eqC_iff.1 e)
       exact(Prod.ext f0_0 (Prod.ext f0_1 (Prod.ext f0_2 (Prod.ext e0 r_0))))
     · have e:a0=a1:=e
       subst e
       exact(eqC_self _)
noncomputable def F54:Fun:=⟨[.pair Y25 Y61,.pair Y25 Y61],[.pure (.bool)],fun _=>True,fun x=>(eqC x.1 x.2.1,())⟩
theorem F54_ok:Meets Tryz.prog 54 F54:=by
 refine mZ (C:=mkC 40 [4] [0,1,2,3,4,5,20,23,24,25,38] [⟨136,_,F136_ok⟩,⟨137,_,F137_ok⟩]) (mO _ _ _ _) (fO _) Tryz.func54 rfl rfl rfl (by decide) rfl ?_
 rintro⟨a0,a1,_⟩ hwf hpre ⟨⟩ hG rfl rfl
 show Vc _ _ [(0,⟨0,0,.c Z66 a0⟩),(1,⟨0,0,.c Z66 a1⟩)] _
 have hb0:List.length a0.2≤bigLen:=hwf.1.2.1
 refine Vm hG rfl (Vq (Vq ?_))
 refine Vr hG rfl ?_ ?_
 · repeat' (first | exact trivial | refine And.intro ?_ ?_ | intro _)
 refine Vk rfl ?_ ?_<;>intro h0
 · refine Vm hG rfl (Vt ?_)
   refine⟨?_,trivial⟩
   refine eqC_no (fun e=>?_)
   have e:a0=a1:=e
   have g:(pick2 (!(eqC a0.1 a1.1)) true ((List.length a0.2:Int) != (List.length a1.2:Int)))=true:=h0
   subst e
   exact(noOr (nself (eqC_self _)) bself) g
 · have g0:(pick2 (!(eqC a0.1 a1.1)) true ((List.length a0.2:Int) != (List.length a1.2:Int)))=false:=h0
   have f0_0:a0.1=a1.1:=(eqC_iff.1 (notF (orF g0).1))
   have f0_1:List.length a0.2=List.length a1.2:=(lenEq (orF g0).2)
   refine Vs (Vq (Vm hG rfl (Vb ?_)))
   refine Vc.loopF [(24,false,.pure (.int .i64))] [0,1,2,3,20,23] (fun v=>eqInv a0.2 a1.2 v.1) (fun v=>((List.length a0.2:Int)-v.1).toNat) rfl ?_ ?_
   · exact eqStart f0_1
   rintro⟨(i0:Int),_⟩ hI0
   have hI0:eqInv a0.2 a1.2 i0:=hI0
   refine Vm hG rfl (Vq ?_)
   refine Vk rfl ?_ ?_<;>intro h1
   · have hl0:i0<(List.length a0.2:Int):=oTr h1
     refine Vs (Vq (Vb (Vm hG rfl ?_)))
     refine Vq ?_
     refine VrD mixed hG rfl (by kernel_rfl) ?_ ?_
     · exact⟨(eqRange hI0 hl0).1,(eqRange hI0 hl0).2,trivial⟩
     refine Vk rfl ?_ ?_<;>intro h2
     · refine Vm hG rfl (Vt ?_)
       refine⟨?_,trivial⟩
       refine eqC_no (fun e=>?_)
       have e:a0=a1:=e
       have g:(!(eqC (List.getD a0.2 i0.toNat (dflt Y58)) (List.getD a1.2 i0.toNat (dflt Y58))))=true:=h2
       subst e
       exact(nself (eqC_self _)) g
     · have g2:(!(eqC (List.getD a0.2 i0.toNat (dflt Y58)) (List.getD a1.2 i0.toNat (dflt Y58))))=false:=h2
       have f2_0:(List.getD a0.2 i0.toNat (dflt Y58))=(List.getD a1.2 i0.toNat (dflt Y58)):=(eqC_iff.1 (notF g2))
       have s0:(List.getD a0.2 i0.toNat (dflt Y58))=(List.getD a1.2 i0.toNat (dflt Y58)):=f2_0
       refine Vs (Vn hG rfl ?_)
       refine⟨rfl,?_⟩
       exact⟨eqStep (d:=dflt Y58) hI0 hl0 hb0 s0,(upStep hI0.1 hl0 hb0).2.2⟩
   · have hl0:¬i0<(List.length a0.2:Int):=oFa h1
     have e0:a0.2=a1.2:=eqEnd hI0 hl0
     refine Vx (Vm hG rfl (Vt ?_))
     refine⟨?_,trivial⟩
     exact eqC_yes (Prod.ext f0_0 e0)
noncomputable def F22:Fun:=⟨[.pair Y67 Y39,.pair Y67 Y39],[.pair Z71 Z41],fun x=>(fun(a b:Evidence)=>Sm big20 Y72 a∧Sm big20 Y72 b) x.1 x.2.1,fun x=>(joinEvF x.1 x.2.1,())⟩
set_option maxHeartbeats 4000000 in
theorem F22_ok:Meets Tryz.prog 22 F22:=by
 refine mZ (C:=mkC 81 [4] [0,1,2,3,4,5,7,8,10,12,13,15,19,20,21,22,26,27,28,29,40,50,51,52,53,57,58,59,60,71] [⟨91,_,F91_ok⟩,⟨54,_,F54_ok⟩,⟨92,_,F92_ok⟩,⟨93,_,F93_ok⟩,⟨94,_,F94_ok⟩]) (mO _ _ _ _) (fO _) Tryz.func22 rfl rfl rfl (by decide) rfl ?_
 rintro⟨a0,a1,_⟩ hwf hpre ⟨⟩ hG rfl rfl
 show Vc _ _ [(0,⟨0,0,.c Z73 a0⟩),(1,⟨0,0,.c Z73 a1⟩)] _
 have ha:=hpre.1
 have hz:=hpre.2
 have hS:List.length a1.1≤1048576∧∀ x∈a1.1,Sm big20 Y64 x:=hpre.2.1
 have hT:List.length a1.2≤1048576∧∀ x∈a1.2,Sm big20 (.slice TStamp) x:=hpre.2.2
 have hA1:List.length a0.1≤1048576:=hpre.1.1.1
 have hA2:List.length a0.2≤1048576:=hpre.1.2.1
 have hb:List.length a1.1≤bigLen:=hwf.2.1.1.1
 have hb2:List.length a1.2≤bigLen:=hwf.2.1.2.1
 refine Vm hG rfl (Vq ?_)
 refine Vr hG rfl ?_ ?_
 · exact ha
 refine Vq (Vm hG rfl (Vb ?_))
 refine Vc.loopF [(5,true,.pair Z71 Z41),(21,false,.pure (.int .i64))] [0,1,2,3,4,12,13,15,19,20,50,51,52,53,57,58,59,60,71] (fun v=>v.1.2=a0.2∧foInv (newG eqC) a0.1 a1.1 v.1.1 v.2.1) (fun v=>((List.length a1.1:Int)-v.2.1).toNat) rfl ?_ ?_
 · exact⟨rfl,foStart⟩
 rintro⟨ev,(i:Int),_⟩ hI
 have hI:ev.2=a0.2∧foInv (newG eqC) a0.1 a1.1 ev.1 i:=hI
 refine Vm hG rfl (Vq ?_)
 refine Vk rfl ?_ ?_<;>intro h0
 · have hl:i<(List.length a1.1:Int):=oTr h0
   have r1:=foRange hI.2 hl
   have hE:=hS.2 _ (getD_mem r1 (dflt Y64))
   have hL:=newLenI hI.2 hA1 hS.1
   refine Vs (Vq (Vb (Vq ?_)))
   refine Vr hG rfl ?_ ?_
   · exact r1
   refine Vm hG rfl (Vq (Vm hG rfl (Vb ?_)))
   refine Vc.loopF [(8,false,.pure (.bool)),(28,false,.pure (.int .i64))] [0,1,2,3,4,5,7,12,13,15,19,20,21,22,26,27,40,50,51,52,53,57,58,59,60,71] (fun v=>exInv (fun(x:Strand)=>eqC x (List.getD a1.1 i.toNat (dflt Y64))) ev.1 v.1 v.2.1) (fun v=>((List.length ev.1:Int)-v.2.1).toNat) rfl ?_ ?_
   · exact exStart
   rintro⟨b,(k:Int),_⟩ hK
   have hK:exInv (fun(x:Strand)=>eqC x (List.getD a1.1 i.toNat (dflt Y64))) ev.1 b k:=hK
   refine Vm hG rfl (Vq ?_)
   refine Vk rfl ?_ ?_<;>intro h1
   · have hm:k<(List.length ev.1:Int):=oTr h1
     have rk:=exRange hK hm
     refine Vs (Vq (Vb (Vq ?_)))
     refine VrB hG rfl ?_ ?_
     · exact rk
     refine Vr hG rfl ?_ ?_
     · repeat' (first | exact trivial | refine And.intro ?_ ?_ | intro _)
     refine Vn hG rfl ?_
     refine⟨rfl,?_⟩
     exact exStep (d:=dflt Y64) hK hm (newBig hL) rfl
   · have hm:¬k<(List.length ev.1:Int):=oFa h1
     have hX:=exEnd hK hm
     refine Vx (Vm hG rfl ?_)
     refine Vk rfl ?_ ?_<;>intro h2
     · have st:=foStepE (d:=dflt Y64) hI.2 hl hb (newY (q:=eqC) hX h2)
       refine VrD mixed hG rfl (by kernel_rfl) ?_ ?_
       · exact⟨hE,newApW hL⟩
       refine Vn hG rfl ?_
       refine⟨rfl,?_⟩
       exact⟨⟨hI.1,st.1⟩,st.2⟩
     · have st:=foStepE (d:=dflt Y64) hI.2 hl hb (newN (q:=eqC) hX h2)
       refine Vs (Vn hG rfl ?_)
       refine⟨rfl,?_⟩
       exact⟨⟨hI.1,st.1⟩,st.2⟩
 · have hl:¬i<(List.length a1.1:Int):=oFa h0
   have eI:=foEnd hI.2 hl
   refine Vx (Vq (Vm hG rfl (Vb ?_)))
   refine Vc.loopF [(5,true,.pair Z71 Z41),(52,false,.pure (.int .i64))] [0,1,2,3,4,7,8,10,19,20,21,22,26,27,28,29,40,50,51] (fun v=>v.1.1=List.foldl (newG eqC) a0.1 a1.1∧foInv (newG eqC) a0.2 a1.2 v.1.2 v.2.1) (fun v=>((List.length a1.2:Int)-v.2.1).toNat) rfl ?_ ?_
   · exact⟨eI,by rw[hI.1];exact foStart⟩
   rintro⟨ev2,(j:Int),_⟩ hJ
   have hJ:ev2.1=List.foldl (newG eqC) a0.1 a1.1∧foInv (newG eqC) a0.2 a1.2 ev2.2 j:=hJ
   refine Vm hG rfl (Vq ?_)
   refine Vk rfl ?_ ?_<;>intro h3
   · have hj:j<(List.length a1.2:Int):=oTr h3
     have r2:=foRange hJ.2 hj
     have hF:List.length (List.getD a1.2 j.toNat (dflt (.slice TStamp)))≤big20:=(hT.2 _ (getD_mem r2 (dflt (.slice TStamp)))).1
     have hF4:List.length (List.getD a1.2 j.toNat (dflt (.slice TStamp)))≤4000000:=Nat.le_trans hF (by decide)
     have hL2:=newLenI hJ.2 hA2 hT.1
     refine Vs (Vq (Vb (Vq ?_)))
     refine Vr hG rfl ?_ ?_
     · exact r2
     refine Vm hG rfl (Vq (Vm hG rfl (Vb ?_)))
     refine Vc.loopF [(13,false,.pure (.bool)),(59,false,.pure (.int .i64))] [0,1,2,3,4,5,7,8,10,12,19,20,21,22,26,27,28,29,40,50,51,52,53,57,58,71] (fun v=>exInv (fun(x:List Stamp)=>eqC x (List.getD a1.2 j.toNat (dflt (.slice TStamp)))) ev2.2 v.1 v.2.1) (fun v=>((List.length ev2.2:Int)-v.2.1).toNat) rfl ?_ ?_
     · exact exStart
     rintro⟨b2,(n:Int),_⟩ hN
     have hN:exInv (fun(x:List Stamp)=>eqC x (List.getD a1.2 j.toNat (dflt (.slice TStamp)))) ev2.2 b2 n:=hN
     refine Vm hG rfl (Vq ?_)
     refine Vk rfl ?_ ?_<;>intro h4
     · have hn:n<(List.length ev2.2:Int):=oTr h4
       have rn:=exRange hN hn
       refine Vs (Vq (Vb (Vq ?_)))
       refine Vr hG rfl ?_ ?_
       · exact rn
       refine Vr hG rfl ?_ ?_
       · repeat' (first | exact trivial | refine And.intro ?_ ?_ | intro _)
       refine Vn hG rfl ?_
       refine⟨rfl,?_⟩
       exact exStep (d:=dflt (.slice TStamp)) hN hn (newBig hL2) rfl
     · have hn:¬n<(List.length ev2.2:Int):=oFa h4
       have hY:=exEnd hN hn
       refine Vx (Vm hG rfl ?_)
       refine Vk rfl ?_ ?_<;>intro h5
       · have st:=foStepE (d:=dflt (.slice TStamp)) hJ.2 hj hb2 (newY (q:=eqC) hY h5)
         refine VrD mixed hG rfl (by kernel_rfl) ?_ ?_
         · exact⟨hF4,newApW hL2⟩
         refine Vn hG rfl ?_
         refine⟨rfl,?_⟩
         exact⟨⟨hJ.1,st.1⟩,st.2⟩
       · have st:=foStepE (d:=dflt (.slice TStamp)) hJ.2 hj hb2 (newN (q:=eqC) hY h5)
         refine Vs (Vn hG rfl ?_)
         refine⟨rfl,?_⟩
         exact⟨⟨hJ.1,st.1⟩,st.2⟩
   · have hj:¬j<(List.length a1.2:Int):=oFa h3
     refine Vx (Vm hG rfl (Vt ?_))
     refine⟨?_,trivial⟩
     exact Prod.ext hJ.1 (foEnd hJ.2 hj)
noncomputable def F64:Fun:=⟨[.pair Y36 Y57,.pair Y67 Y39,.pair Y67 Y39,.pair (.int .i64) Y13,.pair (.int .i64) Y50],[.pure Y26],fun x=>(fun(_:Frame) (a b:Evidence) (_:Doc) (_:Sig)=>Sm big20 Y72 a∧Sm big20 Y72 b∧Sm big20 Y72 (joinEvF a b)∧((cellsC Y67 (joinEvF a b).1:Nat):Int)≤2000000000) x.1 x.2.1 x.2.2.1 x.2.2.2.1 x.2.2.2.2.1,fun x=>(judgeBothF x.1 x.2.1 x.2.2.1 x.2.2.2.1 x.2.2.2.2.1,())⟩
theorem F64_ok:Meets Tryz.prog 64 F64:=by
 refine mZ (C:=mkC 18 [10] [0,1,2,3,4,5,6,7,8,9,10] [⟨22,_,F22_ok⟩,⟨33,_,F33_ok⟩]) (mO _ _ _ _) (fO _) Tryz.func64 rfl rfl rfl (by decide) rfl ?_
 rintro⟨a0,a1,a2,a3,a4,_⟩ hwf hpre ⟨⟩ hG rfl rfl
 show Vc _ _ [(0,⟨0,0,.c Z68 a0⟩),(1,⟨0,0,.c Z73 a1⟩),(2,⟨0,0,.c Z73 a2⟩),(3,⟨0,0,.c Z27 a3⟩),(4,⟨0,0,.c Z54 a4⟩)] _
 have hp:=hpre
 refine Vm hG rfl (Vq ?_)
 refine VrD mixed hG rfl (by kernel_rfl) ?_ ?_
 · exact⟨⟨hp.1,hp.2.1⟩,hp.2.2⟩
 refine Vt ?_
 refine⟨?_,trivial⟩
 all_goals exact rfl
noncomputable def F146:Fun:=⟨[.slice Y34,.int .i64],[.pure (.bool)],fun _=>True,fun x=>(isAgreedF x.1 x.2.1,())⟩
theorem F146_ok:Meets Tryz.prog 146 F146:=by
 refine mZ (C:=mkC 19 [4] [0,1,4,5] [⟨224,_,F224_ok⟩,⟨41,_,F41_ok⟩]) (mO _ _ _ _) (fO _) Tryz.func146 rfl rfl rfl (by decide) rfl ?_
 rintro⟨a0,(a1:Int),_⟩ hwf hpre ⟨⟩ hG rfl rfl
 show Vc _ _ [(0,⟨0,0,.c Z38 a0⟩),(1,⟨0,0,.c (.pure (.int .i64)) a1⟩)] _
 refine Vm hG rfl (Vm hG rfl (Vq ?_))
 refine Vr hG rfl ?_ ?_
 · repeat' (first | exact trivial | refine And.intro ?_ ?_ | intro _)
 refine Vt ?_
 refine⟨?_,trivial⟩
 all_goals exact rfl
noncomputable def F65:Fun:=⟨[.pair Y36 Y57,.pair Y67 Y39,.pair (.int .i64) Y13,.pair (.int .i64) Y50],[.pure (.bool)],fun x=>(fun(_:Frame) (e:Evidence) (_:Doc) (_:Sig)=>Sm big20 Y72 e∧((cellsC Y67 e.1:Nat):Int)≤2000000000) x.1 x.2.1 x.2.2.1 x.2.2.2.1,fun x=>(consF x.1 x.2.1 x.2.2.1 x.2.2.2.1,())⟩
theorem F65_ok:Meets Tryz.prog 65 F65:=by
 refine mZ (C:=mkC 50 [8] [0,1,2,3,4,5,6,7,8,9,10,11,12] [⟨23,_,F23_ok⟩,⟨26,_,F26_ok⟩,⟨35,_,F35_ok⟩,⟨42,_,F42_ok⟩,⟨146,_,F146_ok⟩,⟨30,_,F30_ok⟩,⟨24,_,F24_ok⟩,⟨25,_,F25_ok⟩]) (mO _ _ _ _) (fO _) Tryz.func65 rfl rfl rfl (by decide) rfl ?_
 rintro⟨a0,a1,a2,a3,_⟩ hwf hpre ⟨⟩ hG rfl rfl
 show Vc _ _ [(0,⟨0,0,.c Z68 a0⟩),(1,⟨0,0,.c Z73 a1⟩),(2,⟨0,0,.c Z27 a2⟩),(3,⟨0,0,.c Z54 a3⟩)] _
 have hS:Sm big20 Y67 a1.1:=hpre.1.1
 have hT:Sm big20 (.slice (.slice TStamp)) a1.2:=hpre.1.2
 have hc:((cellsC Y67 a1.1:Nat):Int)≤2000000000:=hpre.2
 refine Vm hG rfl (Vq ?_)
 refine Vr hG rfl ?_ ?_
 · exact hS
 refine Vq ?_
 refine Vr hG rfl ?_ ?_
 · exact⟨hS,hc⟩
 refine Vm hG rfl (Vq ?_)
 refine VrD mixed hG rfl (by kernel_rfl) ?_ ?_
 · repeat' (first | exact trivial | exact usPieceLen hc | exact hT | exact hS | refine And.intro ?_ ?_ | intro _)
 refine Vt ?_
 refine⟨?_,trivial⟩
 all_goals exact rfl
noncomputable def F66:Fun:=⟨[.pair (.int .i64) Y15,.pair (.int .i64) Y15],[.pure (.bool)],fun _=>True,fun x=>(isKept2 x.1 x.2.1,())⟩
theorem F66_ok:Meets Tryz.prog 66 F66:=by
 refine mZ (C:=mkC 15 [4] [0,1,2,3,4] []) (mO _ _ _ _) (fO _) Tryz.func66 rfl rfl rfl (by decide) rfl ?_
 rintro⟨a0,a1,_⟩ hwf hpre ⟨⟩ hG rfl rfl
 show Vc _ _ [(0,⟨0,0,.c Z29 a0⟩),(1,⟨0,0,.c Z29 a1⟩)] _
 refine Vm hG rfl (Vm hG rfl (Vt ?_))
 refine⟨?_,trivial⟩
 all_goals exact rfl
noncomputable def F67:Fun:=⟨[.pair (.int .i64) Y15,.pair (.int .i64) Y15],[.pure (.bool)],fun _=>True,fun x=>(isNarrowerF x.1 x.2.1,())⟩
theorem F67_ok:Meets Tryz.prog 67 F67:=by
 refine mZ (C:=mkC 10 [4] [0,1,2,3,4] [⟨39,_,F39_ok⟩]) (mO _ _ _ _) (fO _) Tryz.func67 rfl rfl rfl (by decide) rfl ?_
 rintro⟨a0,a1,_⟩ hwf hpre ⟨⟩ hG rfl rfl
 show Vc _ _ [(0,⟨0,0,.c Z29 a0⟩),(1,⟨0,0,.c Z29 a1⟩)] _
 refine Vm hG rfl (Vm hG rfl (Vt ?_))
 refine⟨?_,trivial⟩
 all_goals exact rfl
end Fw
