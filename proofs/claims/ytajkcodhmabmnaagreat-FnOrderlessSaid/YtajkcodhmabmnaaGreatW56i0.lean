/- Walks of functions of the program: what each computes. Conditions: those that each contract names. -/
import Derived.Test.YtajkcodhmabmnaaGreatW56T
namespace Fw
open Go Go.Proofs
set_option linter.unusedSimpArgs false
set_option maxRecDepth 100000
noncomputable def F103:Fun:=⟨[.slice (.int .i64)],[.own (.pure (.int .i64))],fun x=>(fun l=>List.length l≤4000000) x.1,fun x=>(id x.1,())⟩
theorem F103_ok:Meets Tryz.prog 103 F103:=by
 refine mZ (C:=mkC 6 [2] [0,2] []) (mO _ _ _ _) (fO _) Tryz.func103 rfl rfl rfl (by decide) rfl ?_
 rintro⟨a0,_⟩ hwf hpre ⟨⟩ hG rfl rfl
 show Vc _ _ [(0,⟨0,0,.c Z3 a0⟩)] _
 have hp:List.length a0≤4000000:=hpre
 refine Vm hG rfl (Vq ?_)
 refine Vr hG rfl ?_ ?_
 · exact appMore hp
 refine Vt ?_
 refine⟨?_,trivial⟩
 all_goals exact rfl
noncomputable def F204:Fun:=⟨[.pair (.int .i64) Y10],[.pair (.pure (.int .i64)) Z16],fun x=>Sm big20 Y19 x.1,fun x=>(id x.1,())⟩
theorem F204_ok:Meets Tryz.prog 204 F204:=by
 refine mZ (C:=mkC 8 [2] [0,1,2] [⟨103,_,F103_ok⟩]) (mO _ _ _ _) (fO _) Tryz.func204 rfl rfl rfl (by decide) rfl ?_
 rintro⟨a0,_⟩ hwf hpre ⟨⟩ hG rfl rfl
 show Vc _ _ [(0,⟨0,0,.c Z23 a0⟩)] _
 have hp:List.length a0.2.1≤4000000:=Nat.le_trans hpre.2.1.1 (by decide)
 refine Vm hG rfl (Vq ?_)
 refine Vr hG rfl ?_ ?_
 · exact hp
 refine Vm hG rfl (Vt ?_)
 refine⟨?_,trivial⟩
 all_goals exact rfl
noncomputable def F123:Fun:=⟨[.slice Y19],[.own Z31],fun x=>Sm big20 Y25 x.1,fun x=>(id x.1,())⟩
theorem F123_ok:Meets Tryz.prog 123 F123:=by
 refine mZ (C:=mkC 19 [2] [0,2,3,5,6,7,8,9] [⟨204,_,F204_ok⟩]) (mO _ _ _ _) (fO _) Tryz.func123 rfl rfl rfl (by decide) rfl ?_
 rintro⟨a0,_⟩ hwf hpre ⟨⟩ hG rfl rfl
 show Vc _ _ [(0,⟨0,0,.c Z28 a0⟩)] _
 have hp:_∧_:=hpre
 have hb:List.length a0≤bigLen:=hwf.1.1
 refine Vm hG rfl (Vm hG rfl (Vq (Vm hG rfl ?_)))
 refine Vb ?_
 refine Vc.loopF [(3,false,.own Z31),(8,false,.pure (.int .i64))] [0,2,6,7] (fun v=>cpInv a0 v.1 v.2.1) (fun v=>((List.length a0:Int)-v.2.1).toNat) rfl ?_ ?_
 · exact cpStart
 rintro⟨acc,(i:Int),_⟩ hI
 have hI:cpInv a0 acc i:=hI
 refine Vm hG rfl (Vq ?_)
 refine Vk rfl ?_ ?_<;>intro h0
 · have hl:i<(List.length a0:Int):=oTr h0
   have hE:Sm big20 Y19 (List.getD a0 i.toNat (dflt Y19)):=hp.2 _ (upElem hI.1 hl)
   refine Vs (Vq (Vb (Vq ?_)))
   refine Vr hG rfl ?_ ?_
   · exact cpRange hI hl
   refine Vr hG rfl ?_ ?_
   · exact⟨hE,cpLen hI hl hp.1⟩
   refine Vn hG rfl ?_
   refine⟨rfl,?_⟩
   exact cpStep (d:=dflt Y19) hI hl hb rfl
 · have hl:¬i<(List.length a0:Int):=oFa h0
   refine Vx (Vm hG rfl (Vt ?_))
   refine⟨?_,trivial⟩
   exact cpEnd hI hl
noncomputable def F73:Fun:=⟨[.slice Y34],[.own Z35],fun x=>(fun l=>List.length l≤4000000) x.1,fun x=>(id x.1,())⟩
theorem F73_ok:Meets Tryz.prog 73 F73:=by
 refine mZ (C:=mkC 6 [2] [0,2] []) (mO _ _ _ _) (fO _) Tryz.func73 rfl rfl rfl (by decide) rfl ?_
 rintro⟨a0,_⟩ hwf hpre ⟨⟩ hG rfl rfl
 show Vc _ _ [(0,⟨0,0,.c Z38 a0⟩)] _
 have hp:List.length a0≤4000000:=hpre
 refine Vm hG rfl (Vq ?_)
 refine Vr hG rfl ?_ ?_
 · exact appMore hp
 refine Vt ?_
 refine⟨?_,trivial⟩
 all_goals exact rfl
noncomputable def F81:Fun:=⟨[.pair (.int .i64) Y55],[.pair (.pure (.int .i64)) Z59],fun x=>Sm big20 Y58 x.1,fun x=>(id x.1,())⟩
theorem F81_ok:Meets Tryz.prog 81 F81:=by
 refine mZ (C:=mkC 13 [2] [0,1,2] [⟨73,_,F73_ok⟩]) (mO _ _ _ _) (fO _) Tryz.func81 rfl rfl rfl (by decide) rfl ?_
 rintro⟨a0,_⟩ hwf hpre ⟨⟩ hG rfl rfl
 show Vc _ _ [(0,⟨0,0,.c Z60 a0⟩)] _
 have hp1:List.length a0.2.2.2.1≤big20:=hpre.2.2.2.1.1
 have hp2:List.length a0.2.2.2.2≤4000000:=Nat.le_trans hpre.2.2.2.2.1 (by decide)
 refine Vm hG rfl (Vq ?_)
 refine Vr hG rfl ?_ ?_
 · exact appOk hp1
 refine Vq ?_
 refine Vr hG rfl ?_ ?_
 · exact hp2
 refine Vm hG rfl (Vt ?_)
 refine⟨?_,trivial⟩
 all_goals exact rfl
noncomputable def F71:Fun:=⟨[.pair Y25 Y61],[.pair Z33 Z63],fun x=>Sm big20 Y64 x.1,fun x=>(id x.1,())⟩
theorem F71_ok:Meets Tryz.prog 71 F71:=by
 refine mZ (C:=mkC 26 [2] [0,1,2,3,5,11,12,13,14] [⟨123,_,F123_ok⟩,⟨81,_,F81_ok⟩]) (mO _ _ _ _) (fO _) Tryz.func71 rfl rfl rfl (by decide) rfl ?_
 rintro⟨a0,_⟩ hwf hpre ⟨⟩ hG rfl rfl
 show Vc _ _ [(0,⟨0,0,.c Z66 a0⟩)] _
 have hp0:Sm big20 Y25 a0.1:=hpre.1
 have hp:_∧_:=hpre.2
 have hb:List.length a0.2≤bigLen:=hwf.1.2.1
 refine Vm hG rfl (Vq ?_)
 refine Vr hG rfl ?_ ?_
 · exact hp0
 refine Vq (Vm hG rfl (Vb ?_))
 refine Vc.loopF [(3,true,.pair Z33 Z63),(13,false,.pure (.int .i64))] [0,1,2,11,12] (fun v=>v.1.1=a0.1∧cpInv a0.2 v.1.2 v.2.1) (fun v=>((List.length a0.2:Int)-v.2.1).toNat) rfl ?_ ?_
 · exact⟨rfl,cpStart⟩
 rintro⟨acc,(i:Int),_⟩ hI
 have hI:acc.1=a0.1∧cpInv a0.2 acc.2 i:=hI
 refine Vm hG rfl (Vq ?_)
 refine Vk rfl ?_ ?_<;>intro h0
 · have hl:i<(List.length a0.2:Int):=oTr h0
   have hE:Sm big20 Y58 (List.getD a0.2 i.toNat (dflt Y58)):=hp.2 _ (upElem hI.2.1 hl)
   refine Vs (Vq (Vb (Vq ?_)))
   refine Vr hG rfl ?_ ?_
   · exact cpRange hI.2 hl
   refine VrD mixed hG rfl (by kernel_rfl) ?_ ?_
   · exact⟨hE,cpLen hI.2 hl hp.1⟩
   refine Vn hG rfl ?_
   refine⟨rfl,?_⟩
   have e:=cpStep (d:=dflt Y58) hI.2 hl hb rfl
   exact⟨⟨hI.1,e.1⟩,e.2⟩
 · have hl:¬i<(List.length a0.2:Int):=oFa h0
   refine Vx (Vm hG rfl (Vt ?_))
   refine⟨?_,trivial⟩
   exact Prod.ext hI.1 (cpEnd hI.2 hl)
noncomputable def F69:Fun:=⟨[.pair Y67 Y39],[.pair Z71 Z41],fun x=>Sm big20 Y72 x.1,fun x=>(id x.1,())⟩
theorem F69_ok:Meets Tryz.prog 69 F69:=by
 refine mZ (C:=mkC 39 [2] [0,1,2,3,5,7,9,10,11,12,24,25,26,27] [⟨71,_,F71_ok⟩,⟨73,_,F73_ok⟩]) (mO _ _ _ _) (fO _) Tryz.func69 rfl rfl rfl (by decide) rfl ?_
 rintro⟨a0,_⟩ hwf hpre ⟨⟩ hG rfl rfl
 show Vc _ _ [(0,⟨0,0,.c Z73 a0⟩)] _
 have hS:List.length a0.1≤big20∧∀ x∈a0.1,Sm big20 Y64 x:=hpre.1
 have hT:List.length a0.2≤big20∧∀ x∈a0.2,Sm big20 (.slice TStamp) x:=hpre.2
 have hb:List.length a0.1≤bigLen:=hwf.1.1.1
 have hb2:List.length a0.2≤bigLen:=hwf.1.2.1
 refine Vm hG rfl (Vm hG rfl (Vq (Vm hG rfl ?_)))
 refine Vb ?_
 refine Vc.loopF [(3,true,.pair Z71 Z41),(11,false,.pure (.int .i64))] [0,1,2,7,9,10,24,25,26,27] (fun v=>v.1.2=[]∧cpInv a0.1 v.1.1 v.2.1) (fun v=>((List.length a0.1:Int)-v.2.1).toNat) rfl ?_ ?_
 · exact⟨rfl,cpStart⟩
 rintro⟨ev,(i:Int),_⟩ hI
 have hI:ev.2=[]∧cpInv a0.1 ev.1 i:=hI
 refine Vm hG rfl (Vq ?_)
 refine Vk rfl ?_ ?_<;>intro h0
 · have hl:i<(List.length a0.1:Int):=oTr h0
   have r1:=cpRange hI.2 hl
   have hE:=hS.2 _ (getD_mem r1 (dflt Y64))
   have hA:=cpLen hI.2 hl hS.1
   refine Vs (Vq (Vb (Vq ?_)))
   refine Vr hG rfl ?_ ?_
   · exact r1
   refine VrD mixed hG rfl (by kernel_rfl) ?_ ?_
   · exact⟨hE,hA⟩
   refine Vn hG rfl ?_
   refine⟨rfl,?_⟩
   have e:=cpStep (d:=dflt Y64) hI.2 hl hb rfl
   exact⟨⟨hI.1,e.1⟩,e.2⟩
 · have hl:¬i<(List.length a0.1:Int):=oFa h0
   have eI:=cpEnd hI.2 hl
   refine Vx (Vq (Vm hG rfl (Vb ?_)))
   refine Vc.loopF [(3,true,.pair Z71 Z41),(26,false,.pure (.int .i64))] [0,1,2,5,9,10,11,12,24,25] (fun v=>v.1.1=a0.1∧cpInv a0.2 v.1.2 v.2.1) (fun v=>((List.length a0.2:Int)-v.2.1).toNat) rfl ?_ ?_
   · exact⟨eI,by rw[hI.1];exact cpStart⟩
   rintro⟨ev2,(j:Int),_⟩ hJ
   have hJ:ev2.1=a0.1∧cpInv a0.2 ev2.2 j:=hJ
   refine Vm hG rfl (Vq ?_)
   refine Vk rfl ?_ ?_<;>intro h1
   · have hj:j<(List.length a0.2:Int):=oTr h1
     have r2:=cpRange hJ.2 hj
     have hF:List.length (List.getD a0.2 j.toNat (dflt (.slice TStamp)))≤big20:=(hT.2 _ (getD_mem r2 (dflt (.slice TStamp)))).1
     have hF4:List.length (List.getD a0.2 j.toNat (dflt (.slice TStamp)))≤4000000:=Nat.le_trans hF (by decide)
     have hA2:=cpLen hJ.2 hj hT.1
     refine Vs (Vq (Vb (Vq ?_)))
     refine Vr hG rfl ?_ ?_
     · exact r2
     refine VrD mixed hG rfl (by kernel_rfl) ?_ ?_
     · exact⟨hF4,hA2⟩
     refine Vn hG rfl ?_
     refine⟨rfl,?_⟩
     have e:=cpStep (d:=dflt (.slice TStamp)) hJ.2 hj hb2 rfl
     exact⟨⟨hJ.1,e.1⟩,e.2⟩
   · have hj:¬j<(List.length a0.2:Int):=oFa h1
     refine Vx (Vm hG rfl (Vt ?_))
     refine⟨?_,trivial⟩
     exact Prod.ext hJ.1 (cpEnd hJ.2 hj)
noncomputable def F152:Fun:=⟨[.slice (.int .i64),.slice (.int .i64)],[.pure (.bool)],fun _=>True,fun x=>(eqC x.1 x.2.1,())⟩
theorem F152_ok:Meets Tryz.prog 152 F152:=by
 refine mZ (C:=mkC 26 [4] [0,1,4,5,10,12,13,14,24] []) (mO _ _ _ _) (fO _) Tryz.func152 rfl rfl rfl (by decide) rfl ?_
 rintro⟨a0,a1,_⟩ hwf hpre ⟨⟩ hG rfl rfl
 show Vc _ _ [(0,⟨0,0,.c Z3 a0⟩),(1,⟨0,0,.c Z3 a1⟩)] _
 have hb0:List.length a0≤bigLen:=hwf.1.1
 refine Vm hG rfl (Vq (Vm hG rfl ?_))
 refine Vk rfl ?_ ?_<;>intro h0
 · refine Vm hG rfl (Vt ?_)
   refine⟨?_,trivial⟩
   refine eqC_no (fun e=>?_)
   have e:a0=a1:=e
   have g:((List.length a0:Int) != (List.length a1:Int))=true:=h0
   subst e
   exact bself g
 · have g0:((List.length a0:Int) != (List.length a1:Int))=false:=h0
   have f0_0:List.length a0=List.length a1:=(lenEq g0)
   refine Vs (Vq (Vm hG rfl (Vb ?_)))
   refine Vc.loopF [(13,false,.pure (.int .i64))] [0,1,10,12] (fun v=>eqInv a0 a1 v.1) (fun v=>((List.length a0:Int)-v.1).toNat) rfl ?_ ?_
   · exact eqStart f0_0
   rintro⟨(i0:Int),_⟩ hI0
   have hI0:eqInv a0 a1 i0:=hI0
   refine Vm hG rfl (Vq ?_)
   refine Vk rfl ?_ ?_<;>intro h1
   · have hl0:i0<(List.length a0:Int):=oTr h1
     refine Vs (Vq (Vb (Vm hG rfl ?_)))
     refine Vq ?_
     refine VrD mixed hG rfl (by kernel_rfl) ?_ ?_
     · exact⟨(eqRange hI0 hl0).1,(eqRange hI0 hl0).2⟩
     refine Vk rfl ?_ ?_<;>intro h2
     · refine Vm hG rfl (Vt ?_)
       refine⟨?_,trivial⟩
       refine eqC_no (fun e=>?_)
       have e:a0=a1:=e
       have g:((List.getD a0 i0.toNat (dflt (.int .i64))) != (List.getD a1 i0.toNat (dflt (.int .i64))))=true:=h2
       subst e
       exact bself g
     · have g2:((List.getD a0 i0.toNat (dflt (.int .i64))) != (List.getD a1 i0.toNat (dflt (.int .i64))))=false:=h2
       have f2_0:(List.getD a0 i0.toNat (dflt (.int .i64)))=(List.getD a1 i0.toNat (dflt (.int .i64))):=(bneI g2)
       have s0:(List.getD a0 i0.toNat (dflt (.int .i64)))=(List.getD a1 i0.toNat (dflt (.int .i64))):=f2_0
       refine Vs (Vn hG rfl ?_)
       refine⟨rfl,?_⟩
       exact⟨eqStep (d:=dflt (.int .i64)) hI0 hl0 hb0 s0,(upStep hI0.1 hl0 hb0).2.2⟩
   · have hl0:¬i0<(List.length a0:Int):=oFa h1
     have e0:a0=a1:=eqEnd hI0 hl0
     refine Vx (Vm hG rfl (Vt ?_))
     refine⟨?_,trivial⟩
     exact eqC_yes e0
noncomputable def F87:Fun:=⟨[.pair (.int .i64) Y10,.pair (.int .i64) Y10],[.pure (.bool)],fun _=>True,fun x=>(eqC x.1 x.2.1,())⟩
theorem F87_ok:Meets Tryz.prog 87 F87:=by
 refine mZ (C:=mkC 24 [4] [0,1,2,3,4] [⟨152,_,F152_ok⟩]) (mO _ _ _ _) (fO _) Tryz.func87 rfl rfl rfl (by decide) rfl ?_
 rintro⟨a0,a1,_⟩ hwf hpre ⟨⟩ hG rfl rfl
 show Vc _ _ [(0,⟨0,0,.c Z23 a0⟩),(1,⟨0,0,.c Z23 a1⟩)] _
 refine Vm hG rfl (Vq ?_)
 refine Vr hG rfl ?_ ?_
 · repeat' (first | exact trivial | refine And.intro ?_ ?_ | intro _)
 refine Vt ?_
 refine⟨?_,trivial⟩
 refine eqC_by (fun e=>?_) (fun e=>?_)
 · have e:(pick2 (pick2 (a0.1==a1.1) (a0.2.2==a1.2.2) false) (eqC a0.2.1 a1.2.1) false)=true:=e
   have r_0:a0.1=a1.1:=(beqI2 (andT (andT e).1).1)
   have r_1:a0.2.2=a1.2.2:=(beqI2 (andT (andT e).1).2)
   have r_2:a0.2.1=a1.2.1:=(eqC_iff.1 (andT e).2)
   exact(Prod.ext r_0 (Prod.ext r_2 r_1))
 · have e:a0=a1:=e
   subst e
   exact(yesAnd (yesAnd beqSelf beqSelf) (eqC_self _))
noncomputable def F121:Fun:=⟨[.slice Y19,.slice Y19],[.pure (.bool)],fun _=>True,fun x=>(eqC x.1 x.2.1,())⟩
theorem F121_ok:Meets Tryz.prog 121 F121:=by
 refine mZ (C:=mkC 27 [4] [0,1,4,5,10,12,13,14,25] [⟨87,_,F87_ok⟩]) (mO _ _ _ _) (fO _) Tryz.func121 rfl rfl rfl (by decide) rfl ?_
 rintro⟨a0,a1,_⟩ hwf hpre ⟨⟩ hG rfl rfl
 show Vc _ _ [(0,⟨0,0,.c Z28 a0⟩),(1,⟨0,0,.c Z28 a1⟩)] _
 have hb0:List.length a0≤bigLen:=hwf.1.1
 refine Vm hG rfl (Vq (Vm hG rfl ?_))
 refine Vk rfl ?_ ?_<;>intro h0
 · refine Vm hG rfl (Vt ?_)
   refine⟨?_,trivial⟩
   refine eqC_no (fun e=>?_)
   have e:a0=a1:=e
   have g:((List.length a0:Int) != (List.length a1:Int))=true:=h0
   subst e
   exact bself g
 · have g0:((List.length a0:Int) != (List.length a1:Int))=false:=h0
   have f0_0:List.length a0=List.length a1:=(lenEq g0)
   refine Vs (Vq (Vm hG rfl (Vb ?_)))
   refine Vc.loopF [(13,false,.pure (.int .i64))] [0,1,10,12] (fun v=>eqInv a0 a1 v.1) (fun v=>((List.length a0:Int)-v.1).toNat) rfl ?_ ?_
   · exact eqStart f0_0
   rintro⟨(i0:Int),_⟩ hI0
   have hI0:eqInv a0 a1 i0:=hI0
   refine Vm hG rfl (Vq ?_)
   refine Vk rfl ?_ ?_<;>intro h1
   · have hl0:i0<(List.length a0:Int):=oTr h1
     refine Vs (Vq (Vb (Vm hG rfl ?_)))
     refine Vq ?_
     refine VrD mixed hG rfl (by kernel_rfl) ?_ ?_
     · exact⟨(eqRange hI0 hl0).1,(eqRange hI0 hl0).2,trivial⟩
     refine Vk rfl ?_ ?_<;>intro h2
     · refine Vm hG rfl (Vt ?_)
       refine⟨?_,trivial⟩
       refine eqC_no (fun e=>?_)
       have e:a0=a1:=e
       have g:(!(eqC (List.getD a0 i0.toNat (dflt Y19)) (List.getD a1 i0.toNat (dflt Y19))))=true:=h2
       subst e
       exact(nself (eqC_self _)) g
     · have g2:(!(eqC (List.getD a0 i0.toNat (dflt Y19)) (List.getD a1 i0.toNat (dflt Y19))))=false:=h2
       have f2_0:(List.getD a0 i0.toNat (dflt Y19))=(List.getD a1 i0.toNat (dflt Y19)):=(eqC_iff.1 (notF g2))
       have s0:(List.getD a0 i0.toNat (dflt Y19))=(List.getD a1 i0.toNat (dflt Y19)):=f2_0
       refine Vs (Vn hG rfl ?_)
       refine⟨rfl,?_⟩
       exact⟨eqStep (d:=dflt Y19) hI0 hl0 hb0 s0,(upStep hI0.1 hl0 hb0).2.2⟩
   · have hl0:¬i0<(List.length a0:Int):=oFa h1
     have e0:a0=a1:=eqEnd hI0 hl0
     refine Vx (Vm hG rfl (Vt ?_))
     refine⟨?_,trivial⟩
     exact eqC_yes e0
noncomputable def F72:Fun:=⟨[.slice Y34,.slice Y34],[.pure (.bool)],fun _=>True,fun x=>(eqC x.1 x.2.1,())⟩
theorem F72_ok:Meets Tryz.prog 72 F72:=by
 refine mZ (C:=mkC 26 [4] [0,1,4,5,10,12,13,14,24] []) (mO _ _ _ _) (fO _) Tryz.func72 rfl rfl rfl (by decide) rfl ?_
 rintro⟨a0,a1,_⟩ hwf hpre ⟨⟩ hG rfl rfl
 show Vc _ _ [(0,⟨0,0,.c Z38 a0⟩),(1,⟨0,0,.c Z38 a1⟩)] _
 have hb0:List.length a0≤bigLen:=hwf.1.1
 refine Vm hG rfl (Vq (Vm hG rfl ?_))
 refine Vk rfl ?_ ?_<;>intro h0
 · refine Vm hG rfl (Vt ?_)
   refine⟨?_,trivial⟩
   refine eqC_no (fun e=>?_)
   have e:a0=a1:=e
   have g:((List.length a0:Int) != (List.length a1:Int))=true:=h0
   subst e
   exact bself g
 · have g0:((List.length a0:Int) != (List.length a1:Int))=false:=h0
   have f0_0:List.length a0=List.length a1:=(lenEq g0)
   refine Vs (Vq (Vm hG rfl (Vb ?_)))
   refine Vc.loopF [(13,false,.pure (.int .i64))] [0,1,10,12] (fun v=>eqInv a0 a1 v.1) (fun v=>((List.length a0:Int)-v.1).toNat) rfl ?_ ?_
   · exact eqStart f0_0
   rintro⟨(i0:Int),_⟩ hI0
   have hI0:eqInv a0 a1 i0:=hI0
   refine Vm hG rfl (Vq ?_)
   refine Vk rfl ?_ ?_<;>intro h1
   · have hl0:i0<(List.length a0:Int):=oTr h1
     refine Vs (Vq (Vb (Vm hG rfl ?_)))
     refine Vq ?_
     refine VrD mixed hG rfl (by kernel_rfl) ?_ ?_
     · exact⟨(eqRange hI0 hl0).1,(eqRange hI0 hl0).2⟩
     refine Vk rfl ?_ ?_<;>intro h2
     · refine Vm hG rfl (Vt ?_)
       refine⟨?_,trivial⟩
       refine eqC_no (fun e=>?_)
       have e:a0=a1:=e
       have g:(!(El.eq Y34 (List.getD a0 i0.toNat (dflt Y34)) (List.getD a1 i0.toNat (dflt Y34))))=true:=h2
       subst e
       exact(eself rfl) g
     · have g2:(!(El.eq Y34 (List.getD a0 i0.toNat (dflt Y34)) (List.getD a1 i0.toNat (dflt Y34))))=false:=h2
       have f2_0:(List.getD a0 i0.toNat (dflt Y34))=(List.getD a1 i0.toNat (dflt Y34)):=(notE g2 rfl)
       have s0:(List.getD a0 i0.toNat (dflt Y34))=(List.getD a1 i0.toNat (dflt Y34)):=f2_0
       refine Vs (Vn hG rfl ?_)
       refine⟨rfl,?_⟩
       exact⟨eqStep (d:=dflt Y34) hI0 hl0 hb0 s0,(upStep hI0.1 hl0 hb0).2.2⟩
   · have hl0:¬i0<(List.length a0:Int):=oFa h1
     have e0:a0=a1:=eqEnd hI0 hl0
     refine Vx (Vm hG rfl (Vt ?_))
     refine⟨?_,trivial⟩
     exact eqC_yes e0
noncomputable def F122:Fun:=⟨[.pair (.int .i64) Y55,.pair (.int .i64) Y55],[.pure (.bool)],fun _=>True,fun x=>(eqC x.1 x.2.1,())⟩
theorem F122_ok:Meets Tryz.prog 122 F122:=by
 refine mZ (C:=mkC 57 [4] [0,1,2,3,4,5,33,36,37,38,50] [⟨72,_,F72_ok⟩]) (mO _ _ _ _) (fO _) Tryz.func122 rfl rfl rfl (by decide) rfl ?_
 rintro⟨a0,a1,_⟩ hwf hpre ⟨⟩ hG rfl rfl
 show Vc _ _ [(0,⟨0,0,.c Z60 a0⟩),(1,⟨0,0,.c Z60 a1⟩)] _
 have hb0:List.length a0.2.2.2.1≤bigLen:=hwf.1.2.2.2.1.1
 refine Vm hG rfl (Vq (Vm hG rfl ?_))
 refine Vk rfl ?_ ?_<;>intro h0
 · refine Vm hG rfl (Vt ?_)
   refine⟨?_,trivial⟩
   refine eqC_no (fun e=>?_)
   have e:a0=a1:=e
   have g:(pick2 (pick2 (pick2 (a0.1 != a1.1) true (a0.2.1 != a1.2.1)) true (a0.2.2.1 != a1.2.2.1)) true ((List.length a0.2.2.2.1:Int) != (List.length a1.2.2.2.1:Int)))=true:=h0
   subst e
   exact(noOr (noOr (noOr bself bself) bself) bself) g
 · have g0:(pick2 (pick2 (pick2 (a0.1 != a1.1) true (a0.2.1 != a1.2.1)) true (a0.2.2.1 != a1.2.2.1)) true ((List.length a0.2.2.2.1:Int) != (List.length a1.2.2.2.1:Int)))=false:=h0
   have f0_0:a0.1=a1.1:=(bneI (orF (orF (orF g0).1).1).1)
   have f0_1:a0.2.1=a1.2.1:=(bneI (orF (orF (orF g0).1).1).2)
   have f0_2:a0.2.2.1=a1.2.2.1:=(bneI (orF (orF g0).1).2)
   have f0_3:List.length a0.2.2.2.1=List.length a1.2.2.2.1:=(lenEq (orF g0).2)
   refine Vs (Vq (Vm hG rfl (Vb ?_)))
   refine Vc.loopF [(37,false,.pure (.int .i64))] [0,1,2,3,33,36] (fun v=>eqInv a0.2.2.2.1 a1.2.2.2.1 v.1) (fun v=>((List.length a0.2.2.2.1:Int)-v.1).toNat) rfl ?_ ?_
   · exact eqStart f0_3
   rintro⟨(i0:Int),_⟩ hI0
   have hI0:eqInv a0.2.2.2.1 a1.2.2.2.1 i0:=hI0
   refine Vm hG rfl (Vq ?_)
   refine Vk rfl ?_ ?_<;>intro h1
   · have hl0:i0<(List.length a0.2.2.2.1:Int):=oTr h1
     refine Vs (Vq (Vb (Vm hG rfl ?_)))
     refine Vq ?_
     refine VrD mixed hG rfl (by kernel_rfl) ?_ ?_
     · exact⟨(eqRange hI0 hl0).1,(eqRange hI0 hl0).2⟩
     refine Vk rfl ?_ ?_<;>intro h2
     · refine Vm hG rfl (Vt ?_)
       refine⟨?_,trivial⟩
       refine eqC_no (fun e=>?_)
       have e:a0=a1:=e
       have g:(!(El.eq Y2 (List.getD a0.2.2.2.1 i0.toNat (dflt Y2)) (List.getD a1.2.2.2.1 i0.toNat (dflt Y2))))=true:=h2
       subst e
       exact(eself rfl) g
     · have g2:(!(El.eq Y2 (List.getD a0.2.2.2.1 i0.toNat (dflt Y2)) (List.getD a1.2.2.2.1 i0.toNat (dflt Y2))))=false:=h2
       have f2_0:(List.getD a0.2.2.2.1 i0.toNat (dflt Y2))=(List.getD a1.2.2.2.1 i0.toNat (dflt Y2)):=(notE g2 rfl)
       have s0:(List.getD a0.2.2.2.1 i0.toNat (dflt Y2))=(List.getD a1.2.2.2.1 i0.toNat (dflt Y2)):=f2_0
       refine Vs (Vn hG rfl ?_)
       refine⟨rfl,?_⟩
       exact⟨eqStep (d:=dflt Y2) hI0 hl0 hb0 s0,(upStep hI0.1 hl0 hb0).2.2⟩
   · have hl0:¬i0<(List.length a0.2.2.2.1:Int):=oFa h1
     have e0:a0.2.2.2.1=a1.2.2.2.1:=eqEnd hI0 hl0
     refine Vx (Vq ?_)
     refine Vr hG rfl ?_ ?_
     · repeat' (first | exact trivial | refine And.intro ?_ ?_ | intro _)
     refine Vt ?_
     refine⟨?_,trivial⟩
     refine eqC_by (fun e=>?_) (fun e=>?_)
     · have e:(eqC a0.2.2.2.2 a1.2.2.2.2)=true:=e
       have r_0:a0.2.2.2.2=a1.2.2.2.2:=(eqC_iff.1 e)
       exact(Prod.ext f0_0 (Prod.ext f0_1 (Prod.ext f0_2 (Prod.ext e0 r_0))))
     · have e:a0=a1:=e
       subst e
       exact(eqC_self _)
noncomputable def F70:Fun:=⟨[.pair Y25 Y61,.pair Y25 Y61],[.pure (.bool)],fun _=>True,fun x=>(eqC x.1 x.2.1,())⟩
theorem F70_ok:Meets Tryz.prog 70 F70:=by
 refine mZ (C:=mkC 40 [4] [0,1,2,3,4,5,20,23,24,25,38] [⟨121,_,F121_ok⟩,⟨122,_,F122_ok⟩]) (mO _ _ _ _) (fO _) Tryz.func70 rfl rfl rfl (by decide) rfl ?_
 rintro⟨a0,a1,_⟩ hwf hpre ⟨⟩ hG rfl rfl
 show Vc _ _ [(0,⟨0,0,.c Z66 a0⟩),(1,⟨0,0,.c Z66 a1⟩)] _
 have hb0:List.length a0.2≤bigLen:=hwf.1.2.1
 refine Vm hG rfl (Vq (Vq ?_))
 refine Vr hG rfl ?_ ?_
 · repeat' (first | exact trivial | refine And.intro ?_ ?_ | intro _)
 refine Vk rfl ?_ ?_<;>intro h0
 · refine Vm hG rfl (Vt ?_)
   refine⟨?_,trivial⟩
   refine eqC_no (fun e=>?_)
   have e:a0=a1:=e
   have g:(pick2 (!(eqC a0.1 a1.1)) true ((List.length a0.2:Int) != (List.length a1.2:Int)))=true:=h0
   subst e
   exact(noOr (nself (eqC_self _)) bself) g
 · have g0:(pick2 (!(eqC a0.1 a1.1)) true ((List.length a0.2:Int) != (List.length a1.2:Int)))=false:=h0
   have f0_0:a0.1=a1.1:=(eqC_iff.1 (notF (orF g0).1))
   have f0_1:List.length a0.2=List.length a1.2:=(lenEq (orF g0).2)
   refine Vs (Vq (Vm hG rfl (Vb ?_)))
   refine Vc.loopF [(24,false,.pure (.int .i64))] [0,1,2,3,20,23] (fun v=>eqInv a0.2 a1.2 v.1) (fun v=>((List.length a0.2:Int)-v.1).toNat) rfl ?_ ?_
   · exact eqStart f0_1
   rintro⟨(i0:Int),_⟩ hI0
   have hI0:eqInv a0.2 a1.2 i0:=hI0
   refine Vm hG rfl (Vq ?_)
   refine Vk rfl ?_ ?_<;>intro h1
   · have hl0:i0<(List.length a0.2:Int):=oTr h1
     refine Vs (Vq (Vb (Vm hG rfl ?_)))
     refine Vq ?_
     refine VrD mixed hG rfl (by kernel_rfl) ?_ ?_
     · exact⟨(eqRange hI0 hl0).1,(eqRange hI0 hl0).2,trivial⟩
     refine Vk rfl ?_ ?_<;>intro h2
     · refine Vm hG rfl (Vt ?_)
       refine⟨?_,trivial⟩
       refine eqC_no (fun e=>?_)
       have e:a0=a1:=e
       have g:(!(eqC (List.getD a0.2 i0.toNat (dflt Y58)) (List.getD a1.2 i0.toNat (dflt Y58))))=true:=h2
       subst e
       exact(nself (eqC_self _)) g
     · have g2:(!(eqC (List.getD a0.2 i0.toNat (dflt Y58)) (List.getD a1.2 i0.toNat (dflt Y58))))=false:=h2
       have f2_0:(List.getD a0.2 i0.toNat (dflt Y58))=(List.getD a1.2 i0.toNat (dflt Y58)):=(eqC_iff.1 (notF g2))
       have s0:(List.getD a0.2 i0.toNat (dflt Y58))=(List.getD a1.2 i0.toNat (dflt Y58)):=f2_0
       refine Vs (Vn hG rfl ?_)
       refine⟨rfl,?_⟩
       exact⟨eqStep (d:=dflt Y58) hI0 hl0 hb0 s0,(upStep hI0.1 hl0 hb0).2.2⟩
   · have hl0:¬i0<(List.length a0.2:Int):=oFa h1
     have e0:a0.2=a1.2:=eqEnd hI0 hl0
     refine Vx (Vm hG rfl (Vt ?_))
     refine⟨?_,trivial⟩
     exact eqC_yes (Prod.ext f0_0 e0)
noncomputable def F32:Fun:=⟨[.pair Y67 Y39,.pair Y67 Y39],[.pair Z71 Z41],fun x=>(fun(a b:Evidence)=>Sm big20 Y72 a∧Sm big20 Y72 b) x.1 x.2.1,fun x=>(joinEvF x.1 x.2.1,())⟩
set_option maxHeartbeats 4000000 in
theorem F32_ok:Meets Tryz.prog 32 F32:=by
 refine mZ (C:=mkC 81 [4] [0,1,2,3,4,5,7,8,10,12,13,15,19,20,21,22,26,27,28,29,40,50,51,52,53,57,58,59,60,71] [⟨69,_,F69_ok⟩,⟨70,_,F70_ok⟩,⟨71,_,F71_ok⟩,⟨72,_,F72_ok⟩,⟨73,_,F73_ok⟩]) (mO _ _ _ _) (fO _) Tryz.func32 rfl rfl rfl (by decide) rfl ?_
 rintro⟨a0,a1,_⟩ hwf hpre ⟨⟩ hG rfl rfl
 show Vc _ _ [(0,⟨0,0,.c Z73 a0⟩),(1,⟨0,0,.c Z73 a1⟩)] _
 have ha:=hpre.1
 have hz:=hpre.2
 have hS:List.length a1.1≤1048576∧∀ x∈a1.1,Sm big20 Y64 x:=hpre.2.1
 have hT:List.length a1.2≤1048576∧∀ x∈a1.2,Sm big20 (.slice TStamp) x:=hpre.2.2
 have hA1:List.length a0.1≤1048576:=hpre.1.1.1
 have hA2:List.length a0.2≤1048576:=hpre.1.2.1
 have hb:List.length a1.1≤bigLen:=hwf.2.1.1.1
 have hb2:List.length a1.2≤bigLen:=hwf.2.1.2.1
 refine Vm hG rfl (Vq ?_)
 refine Vr hG rfl ?_ ?_
 · exact ha
 refine Vq (Vm hG rfl (Vb ?_))
 refine Vc.loopF [(5,true,.pair Z71 Z41),(21,false,.pure (.int .i64))] [0,1,2,3,4,12,13,15,19,20,50,51,52,53,57,58,59,60,71] (fun v=>v.1.2=a0.2∧foInv (newG eqC) a0.1 a1.1 v.1.1 v.2.1) (fun v=>((List.length a1.1:Int)-v.2.1).toNat) rfl ?_ ?_
 · exact⟨rfl,foStart⟩
 rintro⟨ev,(i:Int),_⟩ hI
 have hI:ev.2=a0.2∧foInv (newG eqC) a0.1 a1.1 ev.1 i:=hI
 refine Vm hG rfl (Vq ?_)
 refine Vk rfl ?_ ?_<;>intro h0
 · have hl:i<(List.length a1.1:Int):=oTr h0
   have r1:=foRange hI.2 hl
   have hE:=hS.2 _ (getD_mem r1 (dflt Y64))
   have hL:=newLenI hI.2 hA1 hS.1
   refine Vs (Vq (Vb (Vq ?_)))
   refine Vr hG rfl ?_ ?_
   · exact r1
   refine Vm hG rfl (Vq (Vm hG rfl (Vb ?_)))
   refine Vc.loopF [(8,false,.pure (.bool)),(28,false,.pure (.int .i64))] [0,1,2,3,4,5,7,12,13,15,19,20,21,22,26,27,40,50,51,52,53,57,58,59,60,71] (fun v=>exInv (fun(x:Strand)=>eqC x (List.getD a1.1 i.toNat (dflt Y64))) ev.1 v.1 v.2.1) (fun v=>((List.length ev.1:Int)-v.2.1).toNat) rfl ?_ ?_
   · exact exStart
   rintro⟨b,(k:Int),_⟩ hK
   have hK:exInv (fun(x:Strand)=>eqC x (List.getD a1.1 i.toNat (dflt Y64))) ev.1 b k:=hK
   refine Vm hG rfl (Vq ?_)
   refine Vk rfl ?_ ?_<;>intro h1
   · have hm:k<(List.length ev.1:Int):=oTr h1
     have rk:=exRange hK hm
     refine Vs (Vq (Vb (Vq ?_)))
     refine VrB hG rfl ?_ ?_
     · exact rk
     refine Vr hG rfl ?_ ?_
     · repeat' (first | exact trivial | refine And.intro ?_ ?_ | intro _)
     refine Vn hG rfl ?_
     refine⟨rfl,?_⟩
     exact exStep (d:=dflt Y64) hK hm (newBig hL) rfl
   · have hm:¬k<(List.length ev.1:Int):=oFa h1
     have hX:=exEnd hK hm
     refine Vx (Vm hG rfl ?_)
     refine Vk rfl ?_ ?_<;>intro h2
     · have st:=foStepE (d:=dflt Y64) hI.2 hl hb (newY (q:=eqC) hX h2)
       refine VrD mixed hG rfl (by kernel_rfl) ?_ ?_
       · exact⟨hE,newApW hL⟩
       refine Vn hG rfl ?_
       refine⟨rfl,?_⟩
       exact⟨⟨hI.1,st.1⟩,st.2⟩
     · have st:=foStepE (d:=dflt Y64) hI.2 hl hb (newN (q:=eqC) hX h2)
       refine Vs (Vn hG rfl ?_)
       refine⟨rfl,?_⟩
       exact⟨⟨hI.1,st.1⟩,st.2⟩
 · have hl:¬i<(List.length a1.1:Int):=oFa h0
   have eI:=foEnd hI.2 hl
   refine Vx (Vq (Vm hG rfl (Vb ?_)))
   refine Vc.loopF [(5,true,.pair Z71 Z41),(52,false,.pure (.int .i64))] [0,1,2,3,4,7,8,10,19,20,21,22,26,27,28,29,40,50,51] (fun v=>v.1.1=List.foldl (newG eqC) a0.1 a1.1∧foInv (newG eqC) a0.2 a1.2 v.1.2 v.2.1) (fun v=>((List.length a1.2:Int)-v.2.1).toNat) rfl ?_ ?_
   · exact⟨eI,by rw[hI.1];exact foStart⟩
   rintro⟨ev2,(j:Int),_⟩ hJ
   have hJ:ev2.1=List.foldl (newG eqC) a0.1 a1.1∧foInv (newG eqC) a0.2 a1.2 ev2.2 j:=hJ
   refine Vm hG rfl (Vq ?_)
   refine Vk rfl ?_ ?_<;>intro h3
   · have hj:j<(List.length a1.2:Int):=oTr h3
     have r2:=foRange hJ.2 hj
     have hF:List.length (List.getD a1.2 j.toNat (dflt (.slice TStamp)))≤big20:=(hT.2 _ (getD_mem r2 (dflt (.slice TStamp)))).1
     have hF4:List.length (List.getD a1.2 j.toNat (dflt (.slice TStamp)))≤4000000:=Nat.le_trans hF (by decide)
     have hL2:=newLenI hJ.2 hA2 hT.1
     refine Vs (Vq (Vb (Vq ?_)))
     refine Vr hG rfl ?_ ?_
     · exact r2
     refine Vm hG rfl (Vq (Vm hG rfl (Vb ?_)))
     refine Vc.loopF [(13,false,.pure (.bool)),(59,false,.pure (.int .i64))] [0,1,2,3,4,5,7,8,10,12,19,20,21,22,26,27,28,29,40,50,51,52,53,57,58,71] (fun v=>exInv (fun(x:List Stamp)=>eqC x (List.getD a1.2 j.toNat (dflt (.slice TStamp)))) ev2.2 v.1 v.2.1) (fun v=>((List.length ev2.2:Int)-v.2.1).toNat) rfl ?_ ?_
     · exact exStart
     rintro⟨b2,(n:Int),_⟩ hN
     have hN:exInv (fun(x:List Stamp)=>eqC x (List.getD a1.2 j.toNat (dflt (.slice TStamp)))) ev2.2 b2 n:=hN
     refine Vm hG rfl (Vq ?_)
     refine Vk rfl ?_ ?_<;>intro h4
     · have hn:n<(List.length ev2.2:Int):=oTr h4
       have rn:=exRange hN hn
       refine Vs (Vq (Vb (Vq ?_)))
       refine Vr hG rfl ?_ ?_
       · exact rn
       refine Vr hG rfl ?_ ?_
       · repeat' (first | exact trivial | refine And.intro ?_ ?_ | intro _)
       refine Vn hG rfl ?_
       refine⟨rfl,?_⟩
       exact exStep (d:=dflt (.slice TStamp)) hN hn (newBig hL2) rfl
     · have hn:¬n<(List.length ev2.2:Int):=oFa h4
       have hY:=exEnd hN hn
       refine Vx (Vm hG rfl ?_)
       refine Vk rfl ?_ ?_<;>intro h5
       · have st:=foStepE (d:=dflt (.slice TStamp)) hJ.2 hj hb2 (newY (q:=eqC) hY h5)
         refine VrD mixed hG rfl (by kernel_rfl) ?_ ?_
         · exact⟨hF4,newApW hL2⟩
         refine Vn hG rfl ?_
         refine⟨rfl,?_⟩
         exact⟨⟨hJ.1,st.1⟩,st.2⟩
       · have st:=foStepE (d:=dflt (.slice TStamp)) hJ.2 hj hb2 (newN (q:=eqC) hY h5)
         refine Vs (Vn hG rfl ?_)
         refine⟨rfl,?_⟩
         exact⟨⟨hJ.1,st.1⟩,st.2⟩
   · have hj:¬j<(List.length a1.2:Int):=oFa h3
     refine Vx (Vm hG rfl (Vt ?_))
     refine⟨?_,trivial⟩
     exact Prod.ext hJ.1 (foEnd hJ.2 hj)
noncomputable def F51:Fun:=⟨[.int .i64,.int .i64,.int .i64],[.pure (.bool)],fun _=>True,fun x=>(inRangeF x.1 x.2.1 x.2.2.1,())⟩
theorem F51_ok:Meets Tryz.prog 51 F51:=by
 refine mZ (C:=mkC 15 [6] [0,1,2,6] []) (mO _ _ _ _) (fO _) Tryz.func51 rfl rfl rfl (by decide) rfl ?_
 rintro⟨(a0:Int),(a1:Int),(a2:Int),_⟩ hwf hpre ⟨⟩ hG rfl rfl
 show Vc _ _ [(0,⟨0,0,.c (.pure (.int .i64)) a0⟩),(1,⟨0,0,.c (.pure (.int .i64)) a1⟩),(2,⟨0,0,.c (.pure (.int .i64)) a2⟩)] _
 refine Vm hG rfl (Vm hG rfl (Vt ?_))
 refine⟨?_,trivial⟩
 all_goals exact rfl
noncomputable def F86:Fun:=⟨[.pair (.int .i64) Y13],[.pure (.bool)],fun _=>True,fun x=>(docF x.1,())⟩
theorem F86_ok:Meets Tryz.prog 86 F86:=by
 refine mZ (C:=mkC 46 [2] [0,1,2,3,4,24,26,27,28,29,44] [⟨51,_,F51_ok⟩]) (mO _ _ _ _) (fO _) Tryz.func86 rfl rfl rfl (by decide) rfl ?_
 rintro⟨a0,_⟩ hwf hpre ⟨⟩ hG rfl rfl
 show Vc _ _ [(0,⟨0,0,.c Z27 a0⟩)] _
 have hb0:List.length a0.2.1≤bigLen:=hwf.1.2.1.1
 refine Vm hG rfl (Vq (Vq ?_))
 refine Vr hG rfl ?_ ?_
 · repeat' (first | exact trivial | refine And.intro ?_ ?_ | intro _)
 refine Vk rfl ?_ ?_<;>intro h0
 · have g0:pick2 (pick2 (!(inRangeF a0.1 0 999)) true (!(inRangeF (List.length a0.2.1:Int) 1 6))) true ((List.length a0.2.2:Int) != (List.length a0.2.1:Int))=true:=h0
   refine Vm hG rfl (Vt ?_)
   refine⟨?_,trivial⟩
   refine boolC_no (P:=docP a0) (fun h=>?_)
   exact noOr (noOr (nself h.1) (nself h.2.1)) (lenNe h.2.2.1) g0
 · have g0:pick2 (pick2 (!(inRangeF a0.1 0 999)) true (!(inRangeF (List.length a0.2.1:Int) 1 6))) true ((List.length a0.2.2:Int) != (List.length a0.2.1:Int))=false:=h0
   have f0:inRangeF a0.1 0 999=true∧inRangeF (List.length a0.2.1:Int) 1 6=true∧List.length a0.2.2=List.length a0.2.1:=⟨notF (orF (orF g0).1).1,notF (orF (orF g0).1).2,lenEq (orF g0).2⟩
   refine Vs (Vq (Vm hG rfl (Vb ?_)))
   refine Vc.loopF [(28,false,.pure (.int .i64))] [0,1,24,26,27] (fun v=>kInv (fun k=>(List.length (List.getD a0.2.1 k (dflt .str)):Int)≤40∧inRangeF (List.getD a0.2.2 k (dflt (.int .i64))) 1 1000000000000=true) a0.2.1 v.1) (fun v=>((List.length a0.2.1:Int)-v.1).toNat) rfl ?_ ?_
   · exact kStart
   rintro⟨(i:Int),_⟩ hI0
   have hI0:kInv (fun k=>(List.length (List.getD a0.2.1 k (dflt .str)):Int)≤40∧inRangeF (List.getD a0.2.2 k (dflt (.int .i64))) 1 1000000000000=true) a0.2.1 i:=hI0
   refine Vm hG rfl (Vq ?_)
   refine Vk rfl ?_ ?_<;>intro h1
   · have hl0:i<(List.length a0.2.1:Int):=oTr h1
     refine Vs (Vq (Vb (Vq ?_)))
     refine Vr hG rfl ?_ ?_
     · exact kRange hI0 hl0
     refine Vq ?_
     refine Vr hG rfl ?_ ?_
     · exact⟨fun _=>(show inRange i (List.length a0.2.2)from by rw[f0.2.2];exact kRange hI0 hl0),fun _=>trivial⟩
     refine Vk rfl ?_ ?_<;>intro h2
     · have g2:pick2 (decide ((List.length (List.getD a0.2.1 i.toNat (dflt .str)):Int)>40)) true (!(inRangeF (List.getD a0.2.2 i.toNat (dflt (.int .i64))) 1 1000000000000))=true:=h2
       refine Vm hG rfl (Vt ?_)
       refine⟨?_,trivial⟩
       refine boolC_no (P:=docP a0) (fun h=>?_)
       exact noOr (fun q=>absurd (h.2.2.2.1 i.toNat (kLt hI0 hl0)) (Int.not_le.2 (oTr q))) (nself (h.2.2.2.2 i.toNat (by rw[h.2.2.1];exact kLt hI0 hl0))) g2
     · have g2:pick2 (decide ((List.length (List.getD a0.2.1 i.toNat (dflt .str)):Int)>40)) true (!(inRangeF (List.getD a0.2.2 i.toNat (dflt (.int .i64))) 1 1000000000000))=false:=h2
       have s0:(fun k=>(List.length (List.getD a0.2.1 k (dflt .str)):Int)≤40∧inRangeF (List.getD a0.2.2 k (dflt (.int .i64))) 1 1000000000000=true) i.toNat:=⟨Int.not_lt.1 (oFa (orF g2).1),notF (orF g2).2⟩
       refine Vs (Vn hG rfl ?_)
       refine⟨rfl,?_⟩
       exact kStep hI0 hl0 hb0 s0
   · have hl0:¬i<(List.length a0.2.1:Int):=oFa h1
     refine Vx (Vm hG rfl (Vt ?_))
     refine⟨?_,trivial⟩
     exact boolC_yes (P:=docP a0) ⟨f0.1,f0.2.1,f0.2.2,fun k hk=>(kEnd hI0 hl0 k hk).1,fun k hk=>(kEnd hI0 hl0 k (by rw[←f0.2.2];exact hk)).2⟩
noncomputable def F155:Fun:=⟨[.slice (.int .u8)],[.own (.pure (.int .i64))],fun x=>(fun(l:List Int)=>l.length≤40) x.1,fun x=>(bytesF x.1,())⟩
theorem F155_ok:Meets Tryz.prog 155 F155:=by
 refine mZ (C:=mkC 19 [2] [0,2,3,5,6,7,8,9] []) (mO _ _ _ _) (fO _) Tryz.func155 rfl rfl rfl (by decide) rfl ?_
 rintro⟨a0,_⟩ hwf hpre ⟨⟩ hG rfl rfl
 show Vc _ _ [(0,⟨0,0,.c Z1 a0⟩)] _
 have hp:List.length a0≤40:=hpre
 have hb:List.length a0≤bigLen:=hwf.1.1
 refine Vm hG rfl (Vm hG rfl (Vq (Vm hG rfl ?_)))
 refine Vb ?_
 refine Vc.loopF [(3,false,.own (.pure (.int .i64))),(8,false,.pure (.int .i64))] [0,2,6,7] (fun v=>gsInv (byteG a0) [] a0 v.1 v.2.1) (fun v=>((List.length a0:Int)-v.2.1).toNat) rfl ?_ ?_
 · exact gsStart
 rintro⟨acc,(i:Int),_⟩ hI
 have hI:gsInv (byteG a0) [] a0 acc i:=hI
 have hA:List.length acc≤40:=gsLen (c:=1) (m:=40) hI (fun _=>Nat.le_refl _) hp (by simp)
 refine Vm hG rfl (Vq ?_)
 refine Vk rfl ?_ ?_<;>intro h0
 · have hl:i<(List.length a0:Int):=oTr h0
   refine Vs (Vq (Vb (Vq ?_)))
   refine Vr hG rfl ?_ ?_
   · exact gsRange hI hl
   refine Vr hG rfl ?_ ?_
   · exact(show List.length acc+1≤maxApp from by unfold maxApp;omega)
   refine Vn hG rfl ?_
   refine⟨rfl,?_⟩
   exact gsStep hI hl hb rfl
 · have hl:¬i<(List.length a0:Int):=oFa h0
   refine Vx (Vm hG rfl (Vt ?_))
   refine⟨?_,trivial⟩
   exact gsEnd hI hl
noncomputable def F231:Fun:=⟨[.int .i64,.int .i64],[.pure (.int .i64)],fun _=>True,fun x=>(modF x.1 x.2.1,())⟩
theorem F231_ok:Meets Tryz.prog 231 F231:=by
 refine mZ (C:=mkC 15 [4] [0,1,4,7] [⟨51,_,F51_ok⟩]) (mO _ _ _ _) (fO _) Tryz.func231 rfl rfl rfl (by decide) rfl ?_
 rintro⟨(a0:Int),(a1:Int),_⟩ hwf hpre ⟨⟩ hG rfl rfl
 show Vc _ _ [(0,⟨0,0,.c (.pure (.int .i64)) a0⟩),(1,⟨0,0,.c (.pure (.int .i64)) a1⟩)] _
 refine Vm hG rfl (Vq (Vm hG rfl ?_))
 refine Vk rfl ?_ ?_<;>intro h0
 · have g0:(!(inRangeF a1 1 1000000000000))=true:=h0
   refine Vm hG rfl (Vt ?_)
   refine⟨?_,trivial⟩
   show (0:Int)=modF a0 a1
   unfold modF
   rw[if_neg (by simpa using g0)]
 · have g0:(!(inRangeF a1 1 1000000000000))=false:=h0
   refine Vs (Vq ?_)
   refine Vr hG rfl ?_ ?_
   · exact⟨inR_pos h0,inR_pos h0⟩
   refine Vt ?_
   refine⟨?_,trivial⟩
   show _=modF a0 a1
   unfold modF
   rw[if_pos (by simpa using g0)]
noncomputable def F154:Fun:=⟨[.slice (.int .i64)],[.pure (.int .i64)],fun _=>True,fun x=>(hashF x.1,())⟩
theorem F154_ok:Meets Tryz.prog 154 F154:=by
 refine mZ (C:=mkC 21 [2] [0,2,3,5,6,7,8,9] [⟨231,_,F231_ok⟩]) (mO _ _ _ _) (fO _) Tryz.func154 rfl rfl rfl (by decide) rfl ?_
 rintro⟨a0,_⟩ hwf hpre ⟨⟩ hG rfl rfl
 show Vc _ _ [(0,⟨0,0,.c Z3 a0⟩)] _
 have hb:List.length a0≤bigLen:=hwf.1.1
 refine Vm hG rfl (Vm hG rfl (Vq (Vm hG rfl ?_)))
 refine Vb ?_
 refine Vc.loopF [(3,false,.pure (.int .i64)),(8,false,.pure (.int .i64))] [0,2,6,7] (fun v=>foInv (hstep) (11) a0 v.1 v.2.1) (fun v=>((List.length a0:Int)-v.2.1).toNat) rfl ?_ ?_
 · exact foStart
 rintro⟨acc,(i:Int),_⟩ hI
 have hI:foInv (hstep) (11) a0 acc i:=hI
 refine Vm hG rfl (Vq ?_)
 refine Vk rfl ?_ ?_<;>intro h0
 · have hl:i<(List.length a0:Int):=oTr h0
   refine Vs (Vq (Vb (Vq ?_)))
   refine Vr hG rfl ?_ ?_
   · exact foRange hI hl
   refine Vr hG rfl ?_ ?_
   · exact⟨trivial,(show (2147483647:Int)≠0 by decide)⟩
   refine Vn hG rfl ?_
   refine⟨rfl,?_⟩
   exact foStep hI hl hb
 · have hl:¬i<(List.length a0:Int):=oFa h0
   refine Vx (Vm hG rfl (Vt ?_))
   refine⟨?_,trivial⟩
   exact foEnd hI hl
noncomputable def F89:Fun:=⟨[.int .i64,.slice (.int .i64)],[.pure (.int .i64)],fun x=>(fun(_:Int) (l:List Int)=>smallL l) x.1 x.2.1,fun x=>(digestF x.1 x.2.1,())⟩
theorem F89_ok:Meets Tryz.prog 89 F89:=by
 refine mZ (C:=mkC 10 [4] [0,1,4] [⟨154,_,F154_ok⟩]) (mO _ _ _ _) (fO _) Tryz.func89 rfl rfl rfl (by decide) rfl ?_
 rintro⟨(a0:Int),a1,_⟩ hwf hpre ⟨⟩ hG rfl rfl
 show Vc _ _ [(0,⟨0,0,.c (.pure (.int .i64)) a0⟩),(1,⟨0,0,.c Z3 a1⟩)] _
 have hp:List.length a1≤1000000000:=hpre
 refine Vm hG rfl (Vq ?_)
 refine Vr hG rfl ?_ ?_
 · refine⟨?_,trivial⟩
   show 2+List.length a1≤maxApp
   unfold maxApp;omega
 refine Vt ?_
 refine⟨?_,trivial⟩
 exact(digest_eq a0 a1).symm
noncomputable def F92:Fun:=⟨[.int .i64,.str,.int .i64],[.pure (.int .i64)],fun x=>(fun(_:Int) (s:List UInt8) (_:Int)=>s.length≤40) x.1 x.2.1 x.2.2.1,fun x=>(partF x.1 x.2.1 x.2.2.1,())⟩
theorem F92_ok:Meets Tryz.prog 92 F92:=by
 refine mZ (C:=mkC 15 [6] [0,1,2,6] [⟨155,_,F155_ok⟩,⟨89,_,F89_ok⟩]) (mO _ _ _ _) (fO _) Tryz.func92 rfl rfl rfl (by decide) rfl ?_
 rintro⟨(a0:Int),a1,(a2:Int),_⟩ hwf hpre ⟨⟩ hG rfl rfl
 show Vc _ _ [(0,⟨0,0,.c (.pure (.int .i64)) a0⟩),(1,⟨0,0,.c (.pure (.str)) a1⟩),(2,⟨0,0,.c (.pure (.int .i64)) a2⟩)] _
 have hp:List.length a1≤40:=hpre
 have hq:List.length (bytesF (bytesOf a1))=List.length a1:=bytesLen a1
 have hq2:List.length (bytesOf a1)=List.length a1:=List.length_map _
 refine Vm hG rfl (Vq ?_)
 refine Vr hG rfl ?_ ?_
 · exact⟨(show List.length a1≤maxNew from by unfold maxNew;omega),(show List.length (bytesOf a1)≤40 from by omega),(show 1+List.length (bytesF (bytesOf a1))≤maxApp from by unfold maxApp;omega),(show List.length ([a2]++bytesF (bytesOf a1))≤1000000000 from by rw[List.length_append,hq];simp;omega)⟩
 refine Vt ?_
 refine⟨?_,trivial⟩
 exact congrArg (fun l=>digestF a0 ([a2]++l)) (bytesEq a1)
noncomputable def F55:Fun:=⟨[.int .i64,.pair (.int .i64) Y13],[.pure (.int .i64)],fun _=>True,fun x=>(docDigF x.1 x.2.1,())⟩
theorem F55_ok:Meets Tryz.prog 55 F55:=by
 refine mZ (C:=mkC 37 [4] [0,1,3,4,5,6,7,10,15,16,17,18] [⟨86,_,F86_ok⟩,⟨92,_,F92_ok⟩,⟨89,_,F89_ok⟩]) (mO _ _ _ _) (fO _) Tryz.func55 rfl rfl rfl (by decide) rfl ?_
 rintro⟨(a0:Int),a1,_⟩ hwf hpre ⟨⟩ hG rfl rfl
 show Vc _ _ [(0,⟨0,0,.c (.pure (.int .i64)) a0⟩),(1,⟨0,0,.c Z27 a1⟩)] _
 have hb:List.length a1.2.1≤bigLen:=hwf.2.1.2.1.1
 refine Vm hG rfl (Vq (Vm hG rfl ?_))
 refine Vk rfl ?_ ?_<;>intro h0
 · have g0:(!(docF a1))=true:=h0
   refine Vm hG rfl (Vt ?_)
   refine⟨?_,trivial⟩
   exact docDig0 g0
 · have g0:(!(docF a1))=false:=h0
   have hd:=docP_of g0
   have h6:List.length a1.2.1≤6:=docN hd
   refine Vs (Vm hG rfl (Vq (Vm hG rfl ?_)))
   refine Vb ?_
   refine Vc.loopF [(5,false,.own (.pure (.int .i64))),(17,false,.pure (.int .i64))] [0,1,3,4,10,15,16] (fun v=>gsInv (docG a0 a1) [a1.1] a1.2.1 v.1 v.2.1) (fun v=>((List.length a1.2.1:Int)-v.2.1).toNat) rfl ?_ ?_
   · exact gsStart
   rintro⟨acc,(i:Int),_⟩ hI
   have hI:gsInv (docG a0 a1) [a1.1] a1.2.1 acc i:=hI
   have hA:List.length acc≤7:=gsLen (c:=1) (m:=6) hI (fun _=>Nat.le_refl _) h6 (by simp)
   refine Vm hG rfl (Vq ?_)
   refine Vk rfl ?_ ?_<;>intro h1
   · have hl:i<(List.length a1.2.1:Int):=oTr h1
     refine Vs (Vq (Vb (Vq ?_)))
     refine Vr hG rfl ?_ ?_
     · exact gsRange hI hl
     refine Vr hG rfl ?_ ?_
     · exact⟨docX hd hI hl,doc40 hd hI hl,(show List.length acc+1≤maxApp from by unfold maxApp;omega)⟩
     refine Vn hG rfl ?_
     refine⟨rfl,?_⟩
     exact gsStep hI hl hb rfl
   · have hl:¬i<(List.length a1.2.1:Int):=oFa h1
     refine Vx (Vq ?_)
     refine Vr hG rfl ?_ ?_
     · exact(show List.length acc≤1000000000 from by omega)
     refine Vt ?_
     refine⟨?_,trivial⟩
     have e:=docDig1 (id:=a0) (d:=a1) (acc:=acc) (i:=i) g0 hI hl
     exact e
noncomputable def F15:Fun:=⟨[.pair Y25 Y61,.pair (.int .i64) Y13],[.own (.pure (.int .i64))],fun x=>(fun(s:Strand) (_:Doc)=>List.length s.2≤2000000) x.1 x.2.1,fun x=>(docDigsF x.1 x.2.1,())⟩
theorem F15_ok:Meets Tryz.prog 15 F15:=by
 refine mZ (C:=mkC 24 [4] [0,1,2,3,4,5,7,9,10,11,12] [⟨55,_,F55_ok⟩]) (mO _ _ _ _) (fO _) Tryz.func15 rfl rfl rfl (by decide) rfl ?_
 rintro⟨a0,a1,_⟩ hwf hpre ⟨⟩ hG rfl rfl
 show Vc _ _ [(0,⟨0,0,.c Z66 a0⟩),(1,⟨0,0,.c Z27 a1⟩)] _
 have hs:List.length a0.2≤2000000:=hpre
 have hb:List.length a0.2≤bigLen:=hwf.1.2.1
 refine Vm hG rfl (Vm hG rfl (Vq (Vm hG rfl ?_)))
 refine Vb ?_
 refine Vc.loopF [(5,false,.own (.pure (.int .i64))),(11,false,.pure (.int .i64))] [0,1,2,3,4,9,10] (fun v=>pkInv (ddF a1) a0.2 v.1 v.2.1) (fun v=>((List.length a0.2:Int)-v.2.1).toNat) rfl ?_ ?_
 · exact pkStart
 rintro⟨acc,(i:Int),_⟩ hI
 have hI:pkInv (ddF a1) a0.2 acc i:=hI
 refine Vm hG rfl (Vq ?_)
 refine Vk rfl ?_ ?_<;>intro h0
 · have hl:i<(List.length a0.2:Int):=oTr h0
   refine Vs (Vq (Vb (Vq ?_)))
   refine Vr hG rfl ?_ ?_
   · exact pkRange hI hl
   refine Vr hG rfl ?_ ?_
   · exact⟨trivial,pkLen2 hI hs⟩
   refine Vn hG rfl ?_
   refine⟨rfl,?_⟩
   exact pkYes (d:=dflt Y58) hI hl hb rfl
 · have hl:¬i<(List.length a0.2:Int):=oFa h0
   refine Vx (Vm hG rfl (Vt ?_))
   refine⟨?_,trivial⟩
   exact pkEnd hI hl
noncomputable def F75:Fun:=⟨[.pair Y67 Y39,.pair (.int .i64) Y13],[.own Z0],fun x=>(fun(e:Evidence) (_:Doc)=>Sm big20 Y67 e.1) x.1 x.2.1,fun x=>(allDigsF x.1 x.2.1,())⟩
theorem F75_ok:Meets Tryz.prog 75 F75:=by
 refine mZ (C:=mkC 23 [4] [0,1,2,3,4,5,7,9,10,11,12] [⟨15,_,F15_ok⟩]) (mO _ _ _ _) (fO _) Tryz.func75 rfl rfl rfl (by decide) rfl ?_
 rintro⟨a0,a1,_⟩ hwf hpre ⟨⟩ hG rfl rfl
 show Vc _ _ [(0,⟨0,0,.c Z73 a0⟩),(1,⟨0,0,.c Z27 a1⟩)] _
 have hS:Sm big20 Y67 a0.1:=hpre
 have hs:List.length a0.1≤1048576:=hS.1
 have hb:List.length a0.1≤bigLen:=hwf.1.1.1
 refine Vm hG rfl (Vm hG rfl (Vq (Vm hG rfl ?_)))
 refine Vb ?_
 refine Vc.loopF [(5,false,.own Z0),(11,false,.pure (.int .i64))] [0,1,2,3,4,9,10] (fun v=>pkInv (adF a1) a0.1 v.1 v.2.1) (fun v=>((List.length a0.1:Int)-v.2.1).toNat) rfl ?_ ?_
 · exact pkStart
 rintro⟨acc,(i:Int),_⟩ hI
 have hI:pkInv (adF a1) a0.1 acc i:=hI
 refine Vm hG rfl (Vq ?_)
 refine Vk rfl ?_ ?_<;>intro h0
 · have hl:i<(List.length a0.1:Int):=oTr h0
   have r1:=pkRange hI hl
   have hE:List.length (List.getD a0.1 i.toNat (dflt Y64)).2≤2000000:=Nat.le_trans (hS.2 _ (getD_mem r1 _)).2.1 (by decide)
   refine Vs (Vq (Vb (Vq ?_)))
   refine Vr hG rfl ?_ ?_
   · exact pkRange hI hl
   refine Vr hG rfl ?_ ?_
   · exact⟨hE,pkLen hI hs⟩
   refine Vn hG rfl ?_
   refine⟨rfl,?_⟩
   exact pkYes (d:=dflt Y64) hI hl hb rfl
 · have hl:¬i<(List.length a0.1:Int):=oFa h0
   refine Vx (Vm hG rfl (Vt ?_))
   refine⟨?_,trivial⟩
   exact pkEnd hI hl
noncomputable def F85:Fun:=⟨[.int .i64],[.pure (.bool)],fun _=>True,fun x=>(isTimeF x.1,())⟩
theorem F85_ok:Meets Tryz.prog 85 F85:=by
 refine mZ (C:=mkC 5 [2] [0,2] [⟨51,_,F51_ok⟩]) (mO _ _ _ _) (fO _) Tryz.func85 rfl rfl rfl (by decide) rfl ?_
 rintro⟨(a0:Int),_⟩ hwf hpre ⟨⟩ hG rfl rfl
 show Vc _ _ [(0,⟨0,0,.c (.pure (.int .i64)) a0⟩)] _
 refine Vm hG rfl (Vm hG rfl (Vt ?_))
 refine⟨?_,trivial⟩
 all_goals exact rfl
noncomputable def F324:Fun:=⟨[.int .i64],[.pure (.bool)],fun _=>True,fun x=>(validKeyF x.1,())⟩
theorem F324_ok:Meets Tryz.prog 324 F324:=by
 refine mZ (C:=mkC 5 [2] [0,2] [⟨51,_,F51_ok⟩]) (mO _ _ _ _) (fO _) Tryz.func324 rfl rfl rfl (by decide) rfl ?_
 rintro⟨(a0:Int),_⟩ hwf hpre ⟨⟩ hG rfl rfl
 show Vc _ _ [(0,⟨0,0,.c (.pure (.int .i64)) a0⟩)] _
 refine Vm hG rfl (Vm hG rfl (Vt ?_))
 refine⟨?_,trivial⟩
 all_goals exact rfl
noncomputable def F268:Fun:=⟨[.pair (.int .i64) Y26],[.pure (.bool)],fun _=>True,fun x=>(isKeyF x.1,())⟩
theorem F268_ok:Meets Tryz.prog 268 F268:=by
 refine mZ (C:=mkC 26 [2] [0,1,2] [⟨51,_,F51_ok⟩,⟨85,_,F85_ok⟩,⟨324,_,F324_ok⟩]) (mO _ _ _ _) (fO _) Tryz.func268 rfl rfl rfl (by decide) rfl ?_
 rintro⟨a0,_⟩ hwf hpre ⟨⟩ hG rfl rfl
 show Vc _ _ [(0,⟨0,0,.c Z35 a0⟩)] _
 refine Vm hG rfl (Vq ?_)
 refine Vr hG rfl ?_ ?_
 · repeat' (first | exact trivial | refine And.intro ?_ ?_ | intro _)
 refine Vt ?_
 refine⟨?_,trivial⟩
 all_goals exact rfl
noncomputable def F205:Fun:=⟨[.slice Y34],[.pure (.bool)],fun _=>True,fun x=>(areKeysF x.1,())⟩
theorem F205_ok:Meets Tryz.prog 205 F205:=by
 refine mZ (C:=mkC 34 [2] [0,2,3,4,5,6,7,8,29] [⟨268,_,F268_ok⟩]) (mO _ _ _ _) (fO _) Tryz.func205 rfl rfl rfl (by decide) rfl ?_
 rintro⟨a0,_⟩ hwf hpre ⟨⟩ hG rfl rfl
 show Vc _ _ [(0,⟨0,0,.c Z38 a0⟩)] _
 have hb:List.length a0≤bigLen:=hwf.1.1
 refine Vm hG rfl (Vq (Vm hG rfl (Vb ?_)))
 refine Vc.loopF [(7,false,.pure (.int .i64))] [0,5,6] (fun v=>kInv (areG isKeyF (fun k=>k.1) (dflt (TKey)) a0) a0 v.1) (fun v=>((List.length a0:Int)-v.1).toNat) rfl ?_ ?_
 · exact kStart
 rintro⟨(i:Int),_⟩ hI
 have hI:kInv (areG isKeyF (fun k=>k.1) (dflt (TKey)) a0) a0 i:=hI
 refine Vm hG rfl (Vq ?_)
 refine Vk rfl ?_ ?_<;>intro h0
 · have hl:i<(List.length a0:Int):=oTr h0
   refine Vs (Vq (Vb (Vq ?_)))
   refine Vr hG rfl ?_ ?_
   · exact kRange hI hl
   refine Vq ?_
   refine VrD mixed hG rfl (by kernel_rfl) ?_ ?_
   · repeat' (first | exact trivial | exact kRange hI hl | (intro _ h2;exact prevIdx (kRange hI hl) (oTr h2) hb) | (intro h2;exact prevIdx (kRange hI hl) (oTr h2) hb) | refine And.intro ?_ ?_ | intro _)
   refine Vk rfl ?_ ?_<;>intro h1
   · have g1:areT isKeyF (fun k=>k.1) (dflt (TKey)) a0 i=true:=h1
     refine Vm hG rfl (Vt ?_)
     refine⟨?_,trivial⟩
     exact areBad (m:=12) hI hl hb g1
   · have g1:areT isKeyF (fun k=>k.1) (dflt (TKey)) a0 i=false:=h1
     refine Vs (Vn hG rfl ?_)
     refine⟨rfl,?_⟩
     exact areStep hI hl hb g1
 · have hl:¬i<(List.length a0:Int):=oFa h0
   refine Vx (Vm hG rfl (Vt ?_))
   refine⟨?_,trivial⟩
   exact areEnd (m:=12) hI hl
noncomputable def F206:Fun:=⟨[.slice Y15],[.pure (.bool)],fun _=>True,fun x=>(areAuthsF x.1,())⟩
theorem F206_ok:Meets Tryz.prog 206 F206:=by
 refine mZ (C:=mkC 47 [2] [0,2,3,4,5,6,7,8,42] [⟨51,_,F51_ok⟩]) (mO _ _ _ _) (fO _) Tryz.func206 rfl rfl rfl (by decide) rfl ?_
 rintro⟨a0,_⟩ hwf hpre ⟨⟩ hG rfl rfl
 show Vc _ _ [(0,⟨0,0,.c Z24 a0⟩)] _
 have hb:List.length a0≤bigLen:=hwf.1.1
 refine Vm hG rfl (Vq (Vm hG rfl (Vb ?_)))
 refine Vc.loopF [(7,false,.pure (.int .i64))] [0,5,6] (fun v=>kInv (areG isAuthF (fun k=>k.1) (dflt (TAuth)) a0) a0 v.1) (fun v=>((List.length a0:Int)-v.1).toNat) rfl ?_ ?_
 · exact kStart
 rintro⟨(i:Int),_⟩ hI
 have hI:kInv (areG isAuthF (fun k=>k.1) (dflt (TAuth)) a0) a0 i:=hI
 refine Vm hG rfl (Vq ?_)
 refine Vk rfl ?_ ?_<;>intro h0
 · have hl:i<(List.length a0:Int):=oTr h0
   refine Vs (Vq (Vb (Vq ?_)))
   refine Vr hG rfl ?_ ?_
   · exact kRange hI hl
   refine Vq ?_
   refine VrD mixed hG rfl (by kernel_rfl) ?_ ?_
   · repeat' (first | exact trivial | exact kRange hI hl | (intro _ h2;exact prevIdx (kRange hI hl) (oTr h2) hb) | (intro h2;exact prevIdx (kRange hI hl) (oTr h2) hb) | refine And.intro ?_ ?_ | intro _)
   refine Vk rfl ?_ ?_<;>intro h1
   · have g1:areT isAuthF (fun k=>k.1) (dflt (TAuth)) a0 i=true:=(nor3 _ _ _ _).symm.trans h1
     refine Vm hG rfl (Vt ?_)
     refine⟨?_,trivial⟩
     exact areBad (m:=6) hI hl hb g1
   · have g1:areT isAuthF (fun k=>k.1) (dflt (TAuth)) a0 i=false:=(nor3 _ _ _ _).symm.trans h1
     refine Vs (Vn hG rfl ?_)
     refine⟨rfl,?_⟩
     exact areStep hI hl hb g1
 · have hl:¬i<(List.length a0:Int):=oFa h0
   refine Vx (Vm hG rfl (Vt ?_))
   refine⟨?_,trivial⟩
   exact areEnd (m:=6) hI hl
noncomputable def F269:Fun:=⟨[.pair (.int .i64) Y15],[.pure (.bool)],fun _=>True,fun x=>(isMethodF x.1,())⟩
theorem F269_ok:Meets Tryz.prog 269 F269:=by
 refine mZ (C:=mkC 35 [2] [0,1,2] [⟨51,_,F51_ok⟩,⟨85,_,F85_ok⟩]) (mO _ _ _ _) (fO _) Tryz.func269 rfl rfl rfl (by decide) rfl ?_
 rintro⟨a0,_⟩ hwf hpre ⟨⟩ hG rfl rfl
 show Vc _ _ [(0,⟨0,0,.c Z29 a0⟩)] _
 refine Vm hG rfl (Vq ?_)
 refine Vr hG rfl ?_ ?_
 · repeat' (first | exact trivial | refine And.intro ?_ ?_ | intro _)
 refine Vt ?_
 refine⟨?_,trivial⟩
 all_goals exact rfl
noncomputable def F207:Fun:=⟨[.slice Y26],[.pure (.bool)],fun _=>True,fun x=>(areMethodsF x.1,())⟩
theorem F207_ok:Meets Tryz.prog 207 F207:=by
 refine mZ (C:=mkC 34 [2] [0,2,3,4,5,6,7,8,29] [⟨269,_,F269_ok⟩]) (mO _ _ _ _) (fO _) Tryz.func207 rfl rfl rfl (by decide) rfl ?_
 rintro⟨a0,_⟩ hwf hpre ⟨⟩ hG rfl rfl
 show Vc _ _ [(0,⟨0,0,.c Z32 a0⟩)] _
 have hb:List.length a0≤bigLen:=hwf.1.1
 refine Vm hG rfl (Vq (Vm hG rfl (Vb ?_)))
 refine Vc.loopF [(7,false,.pure (.int .i64))] [0,5,6] (fun v=>kInv (areG isMethodF (fun k=>k.1) (dflt (TMethod)) a0) a0 v.1) (fun v=>((List.length a0:Int)-v.1).toNat) rfl ?_ ?_
 · exact kStart
 rintro⟨(i:Int),_⟩ hI
 have hI:kInv (areG isMethodF (fun k=>k.1) (dflt (TMethod)) a0) a0 i:=hI
 refine Vm hG rfl (Vq ?_)
 refine Vk rfl ?_ ?_<;>intro h0
 · have hl:i<(List.length a0:Int):=oTr h0
   refine Vs (Vq (Vb (Vq ?_)))
   refine Vr hG rfl ?_ ?_
   · exact kRange hI hl
   refine Vq ?_
   refine VrD mixed hG rfl (by kernel_rfl) ?_ ?_
   · repeat' (first | exact trivial | exact kRange hI hl | (intro _ h2;exact prevIdx (kRange hI hl) (oTr h2) hb) | (intro h2;exact prevIdx (kRange hI hl) (oTr h2) hb) | refine And.intro ?_ ?_ | intro _)
   refine Vk rfl ?_ ?_<;>intro h1
   · have g1:areT isMethodF (fun k=>k.1) (dflt (TMethod)) a0 i=true:=h1
     refine Vm hG rfl (Vt ?_)
     refine⟨?_,trivial⟩
     exact areBad (m:=8) hI hl hb g1
   · have g1:areT isMethodF (fun k=>k.1) (dflt (TMethod)) a0 i=false:=h1
     refine Vs (Vn hG rfl ?_)
     refine⟨rfl,?_⟩
     exact areStep hI hl hb g1
 · have hl:¬i<(List.length a0:Int):=oFa h0
   refine Vx (Vm hG rfl (Vt ?_))
   refine⟨?_,trivial⟩
   exact areEnd (m:=8) hI hl
noncomputable def F124:Fun:=⟨[.pair Y36 Y57],[.pure (.bool)],fun _=>True,fun x=>(isFrameF x.1,())⟩
theorem F124_ok:Meets Tryz.prog 124 F124:=by
 refine mZ (C:=mkC 26 [2] [0,1,2] [⟨205,_,F205_ok⟩,⟨206,_,F206_ok⟩,⟨207,_,F207_ok⟩,⟨51,_,F51_ok⟩,⟨85,_,F85_ok⟩]) (mO _ _ _ _) (fO _) Tryz.func124 rfl rfl rfl (by decide) rfl ?_
 rintro⟨a0,_⟩ hwf hpre ⟨⟩ hG rfl rfl
 show Vc _ _ [(0,⟨0,0,.c Z68 a0⟩)] _
 refine Vm hG rfl (Vq ?_)
 refine Vr hG rfl ?_ ?_
 · repeat' (first | exact trivial | refine And.intro ?_ ?_ | intro _)
 refine Vt ?_
 refine⟨?_,trivial⟩
 all_goals exact rfl
noncomputable def F125:Fun:=⟨[.int .i64],[.pure Y26],fun _=>True,fun x=>((fun(r:Int)=>((3,r,(0,0)):Verdict)) x.1,())⟩
theorem F125_ok:Meets Tryz.prog 125 F125:=by
 refine mZ (C:=mkC 5 [2] [0,2] []) (mO _ _ _ _) (fO _) Tryz.func125 rfl rfl rfl (by decide) rfl ?_
 rintro⟨(a0:Int),_⟩ hwf hpre ⟨⟩ hG rfl rfl
 show Vc _ _ [(0,⟨0,0,.c (.pure (.int .i64)) a0⟩)] _
 refine Vm hG rfl (Vm hG rfl (Vt ?_))
 refine⟨?_,trivial⟩
 all_goals exact rfl
noncomputable def F126:Fun:=⟨[.pair (.int .i64) Y50],[.pure (.bool)],fun _=>True,fun x=>(isSigF x.1,())⟩
theorem F126_ok:Meets Tryz.prog 126 F126:=by
 refine mZ (C:=mkC 41 [2] [0,1,2] [⟨51,_,F51_ok⟩]) (mO _ _ _ _) (fO _) Tryz.func126 rfl rfl rfl (by decide) rfl ?_
 rintro⟨a0,_⟩ hwf hpre ⟨⟩ hG rfl rfl
 show Vc _ _ [(0,⟨0,0,.c Z54 a0⟩)] _
 refine Vm hG rfl (Vq ?_)
 refine Vr hG rfl ?_ ?_
 · repeat' (first | exact trivial | refine And.intro ?_ ?_ | intro _)
 refine Vt ?_
 refine⟨?_,trivial⟩
 all_goals exact rfl
noncomputable def F127:Fun:=⟨[.int .i64],[.pure Y26],fun _=>True,fun x=>((fun(r:Int)=>((2,r,(0,0)):Verdict)) x.1,())⟩
theorem F127_ok:Meets Tryz.prog 127 F127:=by
 refine mZ (C:=mkC 5 [2] [0,2] []) (mO _ _ _ _) (fO _) Tryz.func127 rfl rfl rfl (by decide) rfl ?_
 rintro⟨(a0:Int),_⟩ hwf hpre ⟨⟩ hG rfl rfl
 show Vc _ _ [(0,⟨0,0,.c (.pure (.int .i64)) a0⟩)] _
 refine Vm hG rfl (Vm hG rfl (Vt ?_))
 refine⟨?_,trivial⟩
 all_goals exact rfl
noncomputable def F128:Fun:=⟨[.slice Y34,.int .i64],[.pure (.int .i64)],fun _=>True,fun x=>((fun a0 a1=>findI (fun x=>x.1==a1) a0) x.1 x.2.1,())⟩
theorem F128_ok:Meets Tryz.prog 128 F128:=by
 refine mZ (C:=mkC 20 [4] [0,1,4,5,6,7,8,9,10,17] []) (mO _ _ _ _) (fO _) Tryz.func128 rfl rfl rfl (by decide) rfl ?_
 rintro⟨a0,(a1:Int),_⟩ hwf hpre ⟨⟩ hG rfl rfl
 show Vc _ _ [(0,⟨0,0,.c Z38 a0⟩),(1,⟨0,0,.c (.pure (.int .i64)) a1⟩)] _
 have hb:List.length a0≤bigLen:=hwf.1.1
 refine Vm hG rfl (Vq (Vm hG rfl (Vb ?_)))
 refine Vc.loopF [(9,false,.pure (.int .i64))] [0,1,7,8] (fun v=>fInv (fun x=>x.1==a1) a0 v.1) (fun v=>((List.length a0:Int)-v.1).toNat) rfl ?_ ?_
 · exact fStart
 rintro⟨(i:Int),_⟩ hI
 have hI:fInv (fun x=>x.1==a1) a0 i:=hI
 refine Vm hG rfl (Vq ?_)
 refine Vk rfl ?_ ?_<;>intro h0
 · have hl:i<(List.length a0:Int):=oTr h0
   refine Vs (Vq (Vb (Vq ?_)))
   refine Vr hG rfl ?_ ?_
   · exact fRange hI hl
   refine Vm hG rfl ?_
   refine Vk rfl ?_ ?_<;>intro h1
   · have g1:(fun x=>x.1==a1) (List.getD a0 i.toNat (dflt Y34))=true:=h1
     refine Vm hG rfl (Vt ?_)
     refine⟨?_,trivial⟩
     exact fHit hI hl g1
   · have g1:(fun x=>x.1==a1) (List.getD a0 i.toNat (dflt Y34))=false:=h1
     refine Vs (Vn hG rfl ?_)
     refine⟨rfl,?_⟩
     exact fStep hI hl hb g1
 · have hl:¬i<(List.length a0:Int):=oFa h0
   refine Vx (Vm hG rfl (Vt ?_))
   refine⟨?_,trivial⟩
   exact fEnd hI hl
noncomputable def F153:Fun:=⟨[.pair (.int .i64) Y50],[.own (.pure (.int .i64))],fun _=>True,fun x=>(sigIntsF x.1,())⟩
theorem F153_ok:Meets Tryz.prog 153 F153:=by
 refine mZ (C:=mkC 20 [2] [0,1,2] []) (mO _ _ _ _) (fO _) Tryz.func153 rfl rfl rfl (by decide) rfl ?_
 rintro⟨a0,_⟩ hwf hpre ⟨⟩ hG rfl rfl
 show Vc _ _ [(0,⟨0,0,.c Z54 a0⟩)] _
 refine Vm hG rfl (Vm hG rfl (Vt ?_))
 refine⟨?_,trivial⟩
 all_goals exact rfl
noncomputable def F341:Fun:=⟨[.int .i64,.slice (.int .i64)],[.pure (.int .i64)],fun x=>(fun(_:Int) (l:List Int)=>l.length≤1000000001) x.1 x.2.1,fun x=>(keyedF x.1 x.2.1,())⟩
theorem F341_ok:Meets Tryz.prog 341 F341:=by
 refine mZ (C:=mkC 13 [4] [0,1,4] [⟨154,_,F154_ok⟩]) (mO _ _ _ _) (fO _) Tryz.func341 rfl rfl rfl (by decide) rfl ?_
 rintro⟨(a0:Int),a1,_⟩ hwf hpre ⟨⟩ hG rfl rfl
 show Vc _ _ [(0,⟨0,0,.c (.pure (.int .i64)) a0⟩),(1,⟨0,0,.c Z3 a1⟩)] _
 have hp:List.length a1≤1000000001:=hpre
 refine Vm hG rfl (Vq ?_)
 refine Vr hG rfl ?_ ?_
 · refine⟨?_,?_,trivial⟩
   · show 1+List.length a1≤maxApp
     unfold maxApp;omega
   · show (List.length a1+1)+1≤maxApp
     unfold maxApp;omega
 refine Vt ?_
 refine⟨?_,trivial⟩
 all_goals exact rfl
noncomputable def F325:Fun:=⟨[.pair (.int .i64) Y26,.slice (.int .i64)],[.pure (.int .i64)],fun x=>(fun(_:Key) (l:List Int)=>smallL l) x.1 x.2.1,fun x=>(markWithF x.1 x.2.1,())⟩
theorem F325_ok:Meets Tryz.prog 325 F325:=by
 refine mZ (C:=mkC 13 [4] [0,1,2,4] [⟨341,_,F341_ok⟩]) (mO _ _ _ _) (fO _) Tryz.func325 rfl rfl rfl (by decide) rfl ?_
 rintro⟨a0,a1,_⟩ hwf hpre ⟨⟩ hG rfl rfl
 show Vc _ _ [(0,⟨0,0,.c Z35 a0⟩),(1,⟨0,0,.c Z3 a1⟩)] _
 have hp:List.length a1≤1000000000:=hpre
 refine Vm hG rfl (Vq ?_)
 refine VrD mixed hG rfl (by kernel_rfl) ?_ ?_
 · refine⟨?_,?_⟩
   · show 1+List.length a1≤maxApp
     unfold maxApp;omega
   · show List.length a1+1≤1000000001
     omega
 refine Vt ?_
 refine⟨?_,trivial⟩
 all_goals exact rfl
noncomputable def F270:Fun:=⟨[.slice Y34,.int .i64,.slice (.int .i64)],[.pure (.int .i64),.pure (.bool)],fun x=>(fun(_:List Key) (_:Int) (l:List Int)=>smallL l) x.1 x.2.1 x.2.2.1,fun x=>((markByF x.1 x.2.1 x.2.2.1).1,(markByF x.1 x.2.1 x.2.2.1).2,())⟩
theorem F270_ok:Meets Tryz.prog 270 F270:=by
 refine mZ (C:=mkC 20 [6,7] [0,1,2,6,7,8,13] [⟨128,_,F128_ok⟩,⟨325,_,F325_ok⟩]) (mO _ _ _ _) (fO _) Tryz.func270 rfl rfl rfl (by decide) rfl ?_
 rintro⟨a0,(a1:Int),a2,_⟩ hwf hpre ⟨⟩ hG rfl rfl
 show Vc _ _ [(0,⟨0,0,.c Z38 a0⟩),(1,⟨0,0,.c (.pure (.int .i64)) a1⟩),(2,⟨0,0,.c Z3 a2⟩)] _
 have hp:smallL a2:=hpre
 refine Vm hG rfl (Vm hG rfl (Vq (Vm hG rfl ?_)))
 refine Vk rfl ?_ ?_<;>intro h0
 · have g0:keyI a0 a1<0:=oTr h0
   refine Vm hG rfl (Vt ?_)
   have e:=markBy_no (l:=a2) g0
   refine⟨?_,?_,trivial⟩
   · exact(congrArg Prod.fst e).symm
   · exact(congrArg Prod.snd e).symm
 · have g0:¬keyI a0 a1<0:=oFa h0
   refine Vs (Vq ?_)
   refine Vr hG rfl ?_ ?_
   · exact⟨findRange g0,hp⟩
   refine Vt ?_
   have e:=markBy_yes (l:=a2) g0
   refine⟨?_,?_,trivial⟩
   · exact(congrArg Prod.fst e).symm
   · exact(congrArg Prod.snd e).symm
noncomputable def F208:Fun:=⟨[.slice Y34,.int .i64,.slice (.int .i64),.int .i64],[.pure (.bool)],fun x=>(fun(_:List Key) (_:Int) (l:List Int) (_:Int)=>smallL l) x.1 x.2.1 x.2.2.1 x.2.2.2.1,fun x=>(checkMarkF x.1 x.2.1 x.2.2.1 x.2.2.2.1,())⟩
theorem F208_ok:Meets Tryz.prog 208 F208:=by
 refine mZ (C:=mkC 24 [8] [0,1,2,3,8,9,10] [⟨270,_,F270_ok⟩]) (mO _ _ _ _) (fO _) Tryz.func208 rfl rfl rfl (by decide) rfl ?_
 rintro⟨a0,(a1:Int),a2,(a3:Int),_⟩ hwf hpre ⟨⟩ hG rfl rfl
 show Vc _ _ [(0,⟨0,0,.c Z38 a0⟩),(1,⟨0,0,.c (.pure (.int .i64)) a1⟩),(2,⟨0,0,.c Z3 a2⟩),(3,⟨0,0,.c (.pure (.int .i64)) a3⟩)] _
 have hp:smallL a2:=hpre
 refine Vm hG rfl (Vq ?_)
 refine Vr hG rfl ?_ ?_
 · exact hp
 refine Vm hG rfl (Vt ?_)
 refine⟨?_,trivial⟩
 exact checkMark_by a0 a1 a2 a3
noncomputable def F129:Fun:=⟨[.slice Y34,.pair (.int .i64) Y50],[.pure (.bool)],fun _=>True,fun x=>(checkSigF x.1 x.2.1,())⟩
theorem F129_ok:Meets Tryz.prog 129 F129:=by
 refine mZ (C:=mkC 17 [4] [0,1,3,4] [⟨126,_,F126_ok⟩,⟨153,_,F153_ok⟩,⟨208,_,F208_ok⟩]) (mO _ _ _ _) (fO _) Tryz.func129 rfl rfl rfl (by decide) rfl ?_
 rintro⟨a0,a1,_⟩ hwf hpre ⟨⟩ hG rfl rfl
 show Vc _ _ [(0,⟨0,0,.c Z38 a0⟩),(1,⟨0,0,.c Z54 a1⟩)] _
 refine Vm hG rfl (Vq ?_)
 refine VrD mixed hG rfl (by kernel_rfl) ?_ ?_
 · repeat' (first | exact trivial | exact smallLit (n:=9) rfl (by decide) | refine And.intro ?_ ?_ | intro _)
 refine Vt ?_
 refine⟨?_,trivial⟩
 all_goals exact rfl
noncomputable def F88:Fun:=⟨[.pair (.int .i64) Y50],[.pair (.pure (.int .i64)) Z16],fun _=>True,fun x=>(signPieceF x.1,())⟩
theorem F88_ok:Meets Tryz.prog 88 F88:=by
 refine mZ (C:=mkC 10 [2] [0,1,2] [⟨153,_,F153_ok⟩]) (mO _ _ _ _) (fO _) Tryz.func88 rfl rfl rfl (by decide) rfl ?_
 rintro⟨a0,_⟩ hwf hpre ⟨⟩ hG rfl rfl
 show Vc _ _ [(0,⟨0,0,.c Z54 a0⟩)] _
 refine Vm hG rfl (Vq (VrD mixed hG rfl (by kernel_rfl) (by trivial) (Vt ?_)))
 refine⟨?_,trivial⟩
 all_goals exact rfl
noncomputable def F271:Fun:=⟨[.pair Y25 Y61,.pair (.int .i64) Y10],[.pure (.int .i64)],fun _=>True,fun x=>((fun a0 a1=>findI (fun x=>eqC x a1) a0.1) x.1 x.2.1,())⟩
theorem F271_ok:Meets Tryz.prog 271 F271:=by
 refine mZ (C:=mkC 20 [4] [0,1,2,3,4,5,6,8,9,10,11,17] [⟨87,_,F87_ok⟩]) (mO _ _ _ _) (fO _) Tryz.func271 rfl rfl rfl (by decide) rfl ?_
 rintro⟨a0,a1,_⟩ hwf hpre ⟨⟩ hG rfl rfl
 show Vc _ _ [(0,⟨0,0,.c Z66 a0⟩),(1,⟨0,0,.c Z23 a1⟩)] _
 have hb:List.length a0.1≤bigLen:=hwf.1.1.1
 refine Vm hG rfl (Vq (Vm hG rfl (Vb ?_)))
 refine Vc.loopF [(10,false,.pure (.int .i64))] [0,1,2,3,8,9] (fun v=>fInv (fun x=>eqC x a1) a0.1 v.1) (fun v=>((List.length a0.1:Int)-v.1).toNat) rfl ?_ ?_
 · exact fStart
 rintro⟨(i:Int),_⟩ hI
 have hI:fInv (fun x=>eqC x a1) a0.1 i:=hI
 refine Vm hG rfl (Vq ?_)
 refine Vk rfl ?_ ?_<;>intro h0
 · have hl:i<(List.length a0.1:Int):=oTr h0
   refine Vs (Vq (Vb (Vq ?_)))
   refine Vr hG rfl ?_ ?_
   · exact fRange hI hl
   refine Vm hG rfl ?_
   refine Vk rfl ?_ ?_<;>intro h1
   · have g1:(fun x=>eqC x a1) (List.getD a0.1 i.toNat (dflt Y19))=true:=h1
     refine Vm hG rfl (Vt ?_)
     refine⟨?_,trivial⟩
     exact fHit hI hl g1
   · have g1:(fun x=>eqC x a1) (List.getD a0.1 i.toNat (dflt Y19))=false:=h1
     refine Vs (Vn hG rfl ?_)
     refine⟨rfl,?_⟩
     exact fStep hI hl hb g1
 · have hl:¬i<(List.length a0.1:Int):=oFa h0
   refine Vx (Vm hG rfl (Vt ?_))
   refine⟨?_,trivial⟩
   exact fEnd hI hl
end Fw
