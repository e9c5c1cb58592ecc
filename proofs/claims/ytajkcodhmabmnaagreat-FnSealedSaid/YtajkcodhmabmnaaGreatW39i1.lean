/- Walks of functions of the program: what each computes. Conditions: those that each contract names. -/
import Derived.Test.YtajkcodhmabmnaaGreatW39T
import Derived.Test.YtajkcodhmabmnaaGreatW39i0
namespace Fw
open Go Go.Proofs
set_option linter.unusedSimpArgs false
set_option maxRecDepth 100000
noncomputable def F72:Fun:=⟨[.slice Y27,.slice Y27],[.pure (.bool)],fun _=>True,fun x=>(eqC x.1 x.2.1,())⟩
theorem F72_ok:Meets Tryz.prog 72 F72:=by
 refine mZ (C:=mkC 26 [4] [0,1,4,5,10,12,13,14,24] []) (mO _ _ _ _) (fO _) Tryz.func72 rfl rfl rfl (by decide) rfl ?_
 rintro⟨a0,a1,_⟩ hwf hpre ⟨⟩ hG rfl rfl
 show Vc _ _ [(0,⟨0,0,.c Z31 a0⟩),(1,⟨0,0,.c Z31 a1⟩)] _
 have hb0:List.length a0≤bigLen:=hwf.1.1
 refine Vm hG rfl (Vq (Vm hG rfl ?_))
 refine Vk rfl ?_ ?_<;>intro h0
 · refine Vm hG rfl (Vt ?_)
   refine⟨?_,trivial⟩
   refine eqC_no (fun e=>?_)
   have e:a0=a1:=e
   have g:((List.length a0:Int) != (List.length a1:Int))=true:=h0
   subst e
   exact bself g
 · have g0:((List.length a0:Int) != (List.length a1:Int))=false:=h0
   have f0_0:List.length a0=List.length a1:=(lenEq g0)
   refine Vs (Vq (Vm hG rfl (Vb ?_)))
   refine Vc.loopF [(13,false,.pure (.int .i64))] [0,1,10,12] (fun v=>eqInv a0 a1 v.1) (fun v=>((List.length a0:Int)-v.1).toNat) rfl ?_ ?_
   · exact eqStart f0_0
   rintro⟨(i0:Int),_⟩ hI0
   have hI0:eqInv a0 a1 i0:=hI0
   refine Vm hG rfl (Vq ?_)
   refine Vk rfl ?_ ?_<;>intro h1
   · have hl0:i0<(List.length a0:Int):=oTr h1
     refine Vs (Vq (Vb (Vm hG rfl ?_)))
     refine Vq ?_
     refine VrD mixed hG rfl (by kernel_rfl) ?_ ?_
     · exact⟨(eqRange hI0 hl0).1,(eqRange hI0 hl0).2⟩
     refine Vk rfl ?_ ?_<;>intro h2
     · refine Vm hG rfl (Vt ?_)
       refine⟨?_,trivial⟩
       refine eqC_no (fun e=>?_)
       have e:a0=a1:=e
       have g:(!(El.eq Y27 (List.getD a0 i0.toNat (dflt Y27)) (List.getD a1 i0.toNat (dflt Y27))))=true:=h2
       subst e
       exact(eself rfl) g
     · have g2:(!(El.eq Y27 (List.getD a0 i0.toNat (dflt Y27)) (List.getD a1 i0.toNat (dflt Y27))))=false:=h2
       have f2_0:(List.getD a0 i0.toNat (dflt Y27))=(List.getD a1 i0.toNat (dflt Y27)):=(notE g2 rfl)
       have s0:(List.getD a0 i0.toNat (dflt Y27))=(List.getD a1 i0.toNat (dflt Y27)):=f2_0
       refine Vs (Vn hG rfl ?_)
       refine⟨rfl,?_⟩
       exact⟨eqStep (d:=dflt Y27) hI0 hl0 hb0 s0,(upStep hI0.1 hl0 hb0).2.2⟩
   · have hl0:¬i0<(List.length a0:Int):=oFa h1
     have e0:a0=a1:=eqEnd hI0 hl0
     refine Vx (Vm hG rfl (Vt ?_))
     refine⟨?_,trivial⟩
     exact eqC_yes e0
noncomputable def F122:Fun:=⟨[.pair (.int .i64) Y42,.pair (.int .i64) Y42],[.pure (.bool)],fun _=>True,fun x=>(eqC x.1 x.2.1,())⟩
theorem F122_ok:Meets Tryz.prog 122 F122:=by
 refine mZ (C:=mkC 57 [4] [0,1,2,3,4,5,33,36,37,38,50] [⟨72,_,F72_ok⟩]) (mO _ _ _ _) (fO _) Tryz.func122 rfl rfl rfl (by decide) rfl ?_
 rintro⟨a0,a1,_⟩ hwf hpre ⟨⟩ hG rfl rfl
 show Vc _ _ [(0,⟨0,0,.c Z46 a0⟩),(1,⟨0,0,.c Z46 a1⟩)] _
 have hb0:List.length a0.2.2.2.1≤bigLen:=hwf.1.2.2.2.1.1
 refine Vm hG rfl (Vq (Vm hG rfl ?_))
 refine Vk rfl ?_ ?_<;>intro h0
 · refine Vm hG rfl (Vt ?_)
   refine⟨?_,trivial⟩
   refine eqC_no (fun e=>?_)
   have e:a0=a1:=e
   have g:(pick2 (pick2 (pick2 (a0.1 != a1.1) true (a0.2.1 != a1.2.1)) true (a0.2.2.1 != a1.2.2.1)) true ((List.length a0.2.2.2.1:Int) != (List.length a1.2.2.2.1:Int)))=true:=h0
   subst e
   exact(noOr (noOr (noOr bself bself) bself) bself) g
 · have g0:(pick2 (pick2 (pick2 (a0.1 != a1.1) true (a0.2.1 != a1.2.1)) true (a0.2.2.1 != a1.2.2.1)) true ((List.length a0.2.2.2.1:Int) != (List.length a1.2.2.2.1:Int)))=false:=h0
   have f0_0:a0.1=a1.1:=(bneI (orF (orF (orF g0).1).1).1)
   have f0_1:a0.2.1=a1.2.1:=(bneI (orF (orF (orF g0).1).1).2)
   have f0_2:a0.2.2.1=a1.2.2.1:=(bneI (orF (orF g0).1).2)
   have f0_3:List.length a0.2.2.2.1=List.length a1.2.2.2.1:=(lenEq (orF g0).2)
   refine Vs (Vq (Vm hG rfl (Vb ?_)))
   refine Vc.loopF [(37,false,.pure (.int .i64))] [0,1,2,3,33,36] (fun v=>eqInv a0.2.2.2.1 a1.2.2.2.1 v.1) (fun v=>((List.length a0.2.2.2.1:Int)-v.1).toNat) rfl ?_ ?_
   · exact eqStart f0_3
   rintro⟨(i0:Int),_⟩ hI0
   have hI0:eqInv a0.2.2.2.1 a1.2.2.2.1 i0:=hI0
   refine Vm hG rfl (Vq ?_)
   refine Vk rfl ?_ ?_<;>intro h1
   · have hl0:i0<(List.length a0.2.2.2.1:Int):=oTr h1
     refine Vs (Vq (Vb (Vm hG rfl ?_)))
     refine Vq ?_
     refine VrD mixed hG rfl (by kernel_rfl) ?_ ?_
     · exact⟨(eqRange hI0 hl0).1,(eqRange hI0 hl0).2⟩
     refine Vk rfl ?_ ?_<;>intro h2
     · refine Vm hG rfl (Vt ?_)
       refine⟨?_,trivial⟩
       refine eqC_no (fun e=>?_)
       have e:a0=a1:=e
       have g:(!(El.eq Y2 (List.getD a0.2.2.2.1 i0.toNat (dflt Y2)) (List.getD a1.2.2.2.1 i0.toNat (dflt Y2))))=true:=h2
       subst e
       exact(eself rfl) g
     · have g2:(!(El.eq Y2 (List.getD a0.2.2.2.1 i0.toNat (dflt Y2)) (List.getD a1.2.2.2.1 i0.toNat (dflt Y2))))=false:=h2
       have f2_0:(List.getD a0.2.2.2.1 i0.toNat (dflt Y2))=(List.getD a1.2.2.2.1 i0.toNat (dflt Y2)):=(notE g2 rfl)
       have s0:(List.getD a0.2.2.2.1 i0.toNat (dflt Y2))=(List.getD a1.2.2.2.1 i0.toNat (dflt Y2)):=f2_0
       refine Vs (Vn hG rfl ?_)
       refine⟨rfl,?_⟩
       exact⟨eqStep (d:=dflt Y2) hI0 hl0 hb0 s0,(upStep hI0.1 hl0 hb0).2.2⟩
   · have hl0:¬i0<(List.length a0.2.2.2.1:Int):=oFa h1
     have e0:a0.2.2.2.1=a1.2.2.2.1:=eqEnd hI0 hl0
     refine Vx (Vq ?_)
     refine Vr hG rfl ?_ ?_
     · repeat' (first | exact trivial | refine And.intro ?_ ?_ | intro _)
     refine Vt ?_
     refine⟨?_,trivial⟩
     refine eqC_by (fun e=>?_) (fun e=>?_)
     · have e:(eqC a0.2.2.2.2 a1.2.2.2.2)=true:=e
       have r_0:a0.2.2.2.2=a1.2.2.2.2:=(eqC_iff.1 e)
       exact(Prod.ext f0_0 (Prod.ext f0_1 (Prod.ext f0_2 (Prod.ext e0 r_0))))
     · have e:a0=a1:=e
       subst e
       exact(eqC_self _)
noncomputable def F70:Fun:=⟨[.pair Y20 Y47,.pair Y20 Y47],[.pure (.bool)],fun _=>True,fun x=>(eqC x.1 x.2.1,())⟩
theorem F70_ok:Meets Tryz.prog 70 F70:=by
 refine mZ (C:=mkC 40 [4] [0,1,2,3,4,5,20,23,24,25,38] [⟨121,_,F121_ok⟩,⟨122,_,F122_ok⟩]) (mO _ _ _ _) (fO _) Tryz.func70 rfl rfl rfl (by decide) rfl ?_
 rintro⟨a0,a1,_⟩ hwf hpre ⟨⟩ hG rfl rfl
 show Vc _ _ [(0,⟨0,0,.c Z51 a0⟩),(1,⟨0,0,.c Z51 a1⟩)] _
 have hb0:List.length a0.2≤bigLen:=hwf.1.2.1
 refine Vm hG rfl (Vq (Vq ?_))
 refine Vr hG rfl ?_ ?_
 · repeat' (first | exact trivial | refine And.intro ?_ ?_ | intro _)
 refine Vk rfl ?_ ?_<;>intro h0
 · refine Vm hG rfl (Vt ?_)
   refine⟨?_,trivial⟩
   refine eqC_no (fun e=>?_)
   have e:a0=a1:=e
   have g:(pick2 (!(eqC a0.1 a1.1)) true ((List.length a0.2:Int) != (List.length a1.2:Int)))=true:=h0
   subst e
   exact(noOr (nself (eqC_self _)) bself) g
 · have g0:(pick2 (!(eqC a0.1 a1.1)) true ((List.length a0.2:Int) != (List.length a1.2:Int)))=false:=h0
   have f0_0:a0.1=a1.1:=(eqC_iff.1 (notF (orF g0).1))
   have f0_1:List.length a0.2=List.length a1.2:=(lenEq (orF g0).2)
   refine Vs (Vq (Vm hG rfl (Vb ?_)))
   refine Vc.loopF [(24,false,.pure (.int .i64))] [0,1,2,3,20,23] (fun v=>eqInv a0.2 a1.2 v.1) (fun v=>((List.length a0.2:Int)-v.1).toNat) rfl ?_ ?_
   · exact eqStart f0_1
   rintro⟨(i0:Int),_⟩ hI0
   have hI0:eqInv a0.2 a1.2 i0:=hI0
   refine Vm hG rfl (Vq ?_)
   refine Vk rfl ?_ ?_<;>intro h1
   · have hl0:i0<(List.length a0.2:Int):=oTr h1
     refine Vs (Vq (Vb (Vm hG rfl ?_)))
     refine Vq ?_
     refine VrD mixed hG rfl (by kernel_rfl) ?_ ?_
     · exact⟨(eqRange hI0 hl0).1,(eqRange hI0 hl0).2,trivial⟩
     refine Vk rfl ?_ ?_<;>intro h2
     · refine Vm hG rfl (Vt ?_)
       refine⟨?_,trivial⟩
       refine eqC_no (fun e=>?_)
       have e:a0=a1:=e
       have g:(!(eqC (List.getD a0.2 i0.toNat (dflt Y44)) (List.getD a1.2 i0.toNat (dflt Y44))))=true:=h2
       subst e
       exact(nself (eqC_self _)) g
     · have g2:(!(eqC (List.getD a0.2 i0.toNat (dflt Y44)) (List.getD a1.2 i0.toNat (dflt Y44))))=false:=h2
       have f2_0:(List.getD a0.2 i0.toNat (dflt Y44))=(List.getD a1.2 i0.toNat (dflt Y44)):=(eqC_iff.1 (notF g2))
       have s0:(List.getD a0.2 i0.toNat (dflt Y44))=(List.getD a1.2 i0.toNat (dflt Y44)):=f2_0
       refine Vs (Vn hG rfl ?_)
       refine⟨rfl,?_⟩
       exact⟨eqStep (d:=dflt Y44) hI0 hl0 hb0 s0,(upStep hI0.1 hl0 hb0).2.2⟩
   · have hl0:¬i0<(List.length a0.2:Int):=oFa h1
     have e0:a0.2=a1.2:=eqEnd hI0 hl0
     refine Vx (Vm hG rfl (Vt ?_))
     refine⟨?_,trivial⟩
     exact eqC_yes (Prod.ext f0_0 e0)
noncomputable def F48:Fun:=⟨[.pair (.int .i64) Y56,.pair (.int .i64) Y56],[.pure (.bool)],fun _=>True,fun x=>(eqC x.1 x.2.1,())⟩
theorem F48_ok:Meets Tryz.prog 48 F48:=by
 refine mZ (C:=mkC 38 [4] [0,1,2,3,4] [⟨84,_,F84_ok⟩,⟨70,_,F70_ok⟩]) (mO _ _ _ _) (fO _) Tryz.func48 rfl rfl rfl (by decide) rfl ?_
 rintro⟨a0,a1,_⟩ hwf hpre ⟨⟩ hG rfl rfl
 show Vc _ _ [(0,⟨0,0,.c Z58 a0⟩),(1,⟨0,0,.c Z58 a1⟩)] _
 refine Vm hG rfl (Vq ?_)
 refine Vr hG rfl ?_ ?_
 · repeat' (first | exact trivial | refine And.intro ?_ ?_ | intro _)
 refine Vt ?_
 refine⟨?_,trivial⟩
 refine eqC_by (fun e=>?_) (fun e=>?_)
 · have e:(pick2 (pick2 (pick2 (pick2 (a0.1==a1.1) (a0.2.1==a1.2.1) false) (eqC a0.2.2.1 a1.2.2.1) false) (El.eq Y40 a0.2.2.2.1 a1.2.2.2.1) false) (eqC a0.2.2.2.2 a1.2.2.2.2) false)=true:=e
   have r_0:a0.1=a1.1:=(beqI2 (andT (andT (andT (andT e).1).1).1).1)
   have r_1:a0.2.1=a1.2.1:=(beqI2 (andT (andT (andT (andT e).1).1).1).2)
   have r_2:a0.2.2.1=a1.2.2.1:=(eqC_iff.1 (andT (andT (andT e).1).1).2)
   have r_3:a0.2.2.2.1=a1.2.2.2.1:=(eqlE (andT (andT e).1).2 rfl)
   have r_4:a0.2.2.2.2=a1.2.2.2.2:=(eqC_iff.1 (andT e).2)
   exact(Prod.ext r_0 (Prod.ext r_1 (Prod.ext r_2 (Prod.ext r_3 r_4))))
 · have e:a0=a1:=e
   subst e
   exact(yesAnd (yesAnd (yesAnd (yesAnd beqSelf beqSelf) (eqC_self _)) (El.eq_self _ _ rfl)) (eqC_self _))
noncomputable def F9:Fun:=⟨[.pair (.int .i64) Y59,.pair (.int .i64) Y59],[.pure (.bool)],fun _=>True,fun x=>(eqC x.1 x.2.1,())⟩
theorem F9_ok:Meets Tryz.prog 9 F9:=by
 refine mZ (C:=mkC 39 [4] [0,1,2,3,4,5,19,22,23,24,37] [⟨48,_,F48_ok⟩]) (mO _ _ _ _) (fO _) Tryz.func9 rfl rfl rfl (by decide) rfl ?_
 rintro⟨a0,a1,_⟩ hwf hpre ⟨⟩ hG rfl rfl
 show Vc _ _ [(0,⟨0,0,.c Z61 a0⟩),(1,⟨0,0,.c Z61 a1⟩)] _
 have hb0:List.length a0.2≤bigLen:=hwf.1.2.1
 refine Vm hG rfl (Vq (Vm hG rfl ?_))
 refine Vk rfl ?_ ?_<;>intro h0
 · refine Vm hG rfl (Vt ?_)
   refine⟨?_,trivial⟩
   refine eqC_no (fun e=>?_)
   have e:a0=a1:=e
   have g:(pick2 (a0.1 != a1.1) true ((List.length a0.2:Int) != (List.length a1.2:Int)))=true:=h0
   subst e
   exact(noOr bself bself) g
 · have g0:(pick2 (a0.1 != a1.1) true ((List.length a0.2:Int) != (List.length a1.2:Int)))=false:=h0
   have f0_0:a0.1=a1.1:=(bneI (orF g0).1)
   have f0_1:List.length a0.2=List.length a1.2:=(lenEq (orF g0).2)
   refine Vs (Vq (Vm hG rfl (Vb ?_)))
   refine Vc.loopF [(23,false,.pure (.int .i64))] [0,1,2,3,19,22] (fun v=>eqInv a0.2 a1.2 v.1) (fun v=>((List.length a0.2:Int)-v.1).toNat) rfl ?_ ?_
   · exact eqStart f0_1
   rintro⟨(i0:Int),_⟩ hI0
   have hI0:eqInv a0.2 a1.2 i0:=hI0
   refine Vm hG rfl (Vq ?_)
   refine Vk rfl ?_ ?_<;>intro h1
   · have hl0:i0<(List.length a0.2:Int):=oTr h1
     refine Vs (Vq (Vb (Vm hG rfl ?_)))
     refine Vq ?_
     refine VrD mixed hG rfl (by kernel_rfl) ?_ ?_
     · exact⟨(eqRange hI0 hl0).1,(eqRange hI0 hl0).2,trivial⟩
     refine Vk rfl ?_ ?_<;>intro h2
     · refine Vm hG rfl (Vt ?_)
       refine⟨?_,trivial⟩
       refine eqC_no (fun e=>?_)
       have e:a0=a1:=e
       have g:(!(eqC (List.getD a0.2 i0.toNat (dflt Y57)) (List.getD a1.2 i0.toNat (dflt Y57))))=true:=h2
       subst e
       exact(nself (eqC_self _)) g
     · have g2:(!(eqC (List.getD a0.2 i0.toNat (dflt Y57)) (List.getD a1.2 i0.toNat (dflt Y57))))=false:=h2
       have f2_0:(List.getD a0.2 i0.toNat (dflt Y57))=(List.getD a1.2 i0.toNat (dflt Y57)):=(eqC_iff.1 (notF g2))
       have s0:(List.getD a0.2 i0.toNat (dflt Y57))=(List.getD a1.2 i0.toNat (dflt Y57)):=f2_0
       refine Vs (Vn hG rfl ?_)
       refine⟨rfl,?_⟩
       exact⟨eqStep (d:=dflt Y57) hI0 hl0 hb0 s0,(upStep hI0.1 hl0 hb0).2.2⟩
   · have hl0:¬i0<(List.length a0.2:Int):=oFa h1
     have e0:a0.2=a1.2:=eqEnd hI0 hl0
     refine Vx (Vm hG rfl (Vt ?_))
     refine⟨?_,trivial⟩
     exact eqC_yes (Prod.ext f0_0 e0)
noncomputable def F11:Fun:=⟨[.pair (.int .i64) Y59],[.pure (.int .i64)],fun _=>True,fun x=>((fun a0=>List.foldl (fun(n:Int) (s:El Y57)=>IntKind.i64.wrap (n+(List.length s.2.2.2.2.2:Int))) (0) a0.2) x.1,())⟩
theorem F11_ok:Meets Tryz.prog 11 F11:=by
 refine mZ (C:=mkC 21 [2] [0,1,2,3,5,7,8,9,10] []) (mO _ _ _ _) (fO _) Tryz.func11 rfl rfl rfl (by decide) rfl ?_
 rintro⟨a0,_⟩ hwf hpre ⟨⟩ hG rfl rfl
 show Vc _ _ [(0,⟨0,0,.c Z61 a0⟩)] _
 have hb:List.length a0.2≤bigLen:=hwf.1.2.1
 refine Vm hG rfl (Vm hG rfl (Vq (Vm hG rfl ?_)))
 refine Vb ?_
 refine Vc.loopF [(3,false,.pure (.int .i64)),(9,false,.pure (.int .i64))] [0,1,2,7,8] (fun v=>foInv (fun(n:Int) (s:El Y57)=>IntKind.i64.wrap (n+(List.length s.2.2.2.2.2:Int))) (0) a0.2 v.1 v.2.1) (fun v=>((List.length a0.2:Int)-v.2.1).toNat) rfl ?_ ?_
 · exact foStart
 rintro⟨acc,(i:Int),_⟩ hI
 have hI:foInv (fun(n:Int) (s:El Y57)=>IntKind.i64.wrap (n+(List.length s.2.2.2.2.2:Int))) (0) a0.2 acc i:=hI
 refine Vm hG rfl (Vq ?_)
 refine Vk rfl ?_ ?_<;>intro h0
 · have hl:i<(List.length a0.2:Int):=oTr h0
   refine Vs (Vq (Vb (Vq ?_)))
   refine Vr hG rfl ?_ ?_
   · exact foRange hI hl
   refine Vn hG rfl (Vn hG rfl ?_)
   refine⟨rfl,?_⟩
   exact foStep hI hl hb
 · have hl:¬i<(List.length a0.2:Int):=oFa h0
   refine Vx (Vm hG rfl (Vt ?_))
   refine⟨?_,trivial⟩
   exact foEnd hI hl
noncomputable def F15:Fun:=⟨[.pair Y20 Y47,.pair (.int .i64) Y9],[.own (.pure (.int .i64))],fun x=>(fun(s:Strand) (_:Doc)=>List.length s.2≤2000000) x.1 x.2.1,fun x=>(docDigsF x.1 x.2.1,())⟩
theorem F15_ok:Meets Tryz.prog 15 F15:=by
 refine mZ (C:=mkC 24 [4] [0,1,2,3,4,5,7,9,10,11,12] [⟨55,_,F55_ok⟩]) (mO _ _ _ _) (fO _) Tryz.func15 rfl rfl rfl (by decide) rfl ?_
 rintro⟨a0,a1,_⟩ hwf hpre ⟨⟩ hG rfl rfl
 show Vc _ _ [(0,⟨0,0,.c Z51 a0⟩),(1,⟨0,0,.c Z22 a1⟩)] _
 have hs:List.length a0.2≤2000000:=hpre
 have hb:List.length a0.2≤bigLen:=hwf.1.2.1
 refine Vm hG rfl (Vm hG rfl (Vq (Vm hG rfl ?_)))
 refine Vb ?_
 refine Vc.loopF [(5,false,.own (.pure (.int .i64))),(11,false,.pure (.int .i64))] [0,1,2,3,4,9,10] (fun v=>pkInv (ddF a1) a0.2 v.1 v.2.1) (fun v=>((List.length a0.2:Int)-v.2.1).toNat) rfl ?_ ?_
 · exact pkStart
 rintro⟨acc,(i:Int),_⟩ hI
 have hI:pkInv (ddF a1) a0.2 acc i:=hI
 refine Vm hG rfl (Vq ?_)
 refine Vk rfl ?_ ?_<;>intro h0
 · have hl:i<(List.length a0.2:Int):=oTr h0
   refine Vs (Vq (Vb (Vq ?_)))
   refine Vr hG rfl ?_ ?_
   · exact pkRange hI hl
   refine Vr hG rfl ?_ ?_
   · exact⟨trivial,pkLen2 hI hs⟩
   refine Vn hG rfl ?_
   refine⟨rfl,?_⟩
   exact pkYes (d:=dflt Y44) hI hl hb rfl
 · have hl:¬i<(List.length a0.2:Int):=oFa h0
   refine Vx (Vm hG rfl (Vt ?_))
   refine⟨?_,trivial⟩
   exact pkEnd hI hl
noncomputable def F14:Fun:=⟨[.pair Y20 Y47,.slice (.int .i64),.int .i64],[.pure (.int .i64)],fun x=>(fun(s:Strand) (_:List Int) (_:Int)=>Sm big20 (.slice TPiece) s.1∧∀ r∈s.2,Sm big20 TRen r) x.1 x.2.1 x.2.2.1,fun x=>(leafAtF x.1 x.2.1 x.2.2.1,())⟩
theorem F14_ok:Meets Tryz.prog 14 F14:=by
 refine mZ (C:=mkC 66 [6] [0,1,2,3,6,7,8,36,43] [⟨51,_,F51_ok⟩,⟨53,_,F53_ok⟩,⟨54,_,F54_ok⟩]) (mO _ _ _ _) (fO _) Tryz.func14 rfl rfl rfl (by decide) rfl ?_
 rintro⟨a0,a1,(a2:Int),_⟩ hwf hpre ⟨⟩ hG rfl rfl
 show Vc _ _ [(0,⟨0,0,.c Z51 a0⟩),(1,⟨0,0,.c Z3 a1⟩),(2,⟨0,0,.c (.pure (.int .i64)) a2⟩)] _
 have hP:Sm big20 (.slice TPiece) a0.1:=hpre.1
 have hR:∀ r∈a0.2,Sm big20 TRen r:=hpre.2
 have hb:List.length a0.2≤bigLen:=hwf.1.2.1
 refine Vm hG rfl (Vq (Vq ?_))
 refine VrD mixed hG rfl (by kernel_rfl) ?_ ?_
 · exact⟨trivial,fun h=>laIdx (orF h).1 hb,fun _=>trivial⟩
 refine Vk rfl ?_ ?_<;>intro h0
 · have g0:leafAtBad a0 a1 a2=true:=h0
   refine Vm hG rfl (Vt ?_)
   refine⟨?_,trivial⟩
   exact la0 g0
 · have g0:leafAtBad a0 a1 a2=false:=h0
   have k1:=laIdx (orF (orF g0).1).1 hb
   have k2:(List.length a1:Int)=(List.length a0.2:Int):=bneI (orF (orF g0).1).2
   have k3:=rg (orF g0).2
   have k4:inRange a2 (List.length a1):=⟨k1.1,by have:=k1.2;omega⟩
   refine Vs (Vq ?_)
   refine Vr hG rfl ?_ ?_
   · exact k1
   refine Vm hG rfl (Vq (Vm hG rfl ?_))
   refine Vk rfl ?_ ?_<;>intro h1
   · have g1:a2>0:=oTr h1
     refine VrD mixed hG rfl (by kernel_rfl) ?_ ?_
     · exact⟨prevIdx k1 g1 hb,hR _ (getD_mem (prevIdx k1 g1 hb) (dflt TRen))⟩
     refine Vq ?_
     refine VrD mixed hG rfl (by kernel_rfl) ?_ ?_
     · exact⟨k4,Int.le_refl _,k3.1,k3.2,subL_sm hP⟩
     refine Vt ?_
     refine⟨?_,trivial⟩
     exact la1 g0 g1
   · have g1:¬a2>0:=oFa h1
     refine Vs (Vq ?_)
     refine VrD mixed hG rfl (by kernel_rfl) ?_ ?_
     · exact⟨k4,Int.le_refl _,k3.1,k3.2,subL_sm hP⟩
     refine Vt ?_
     refine⟨?_,trivial⟩
     exact la2 g0 g1
noncomputable def F13:Fun:=⟨[.int .i64,.int .i64,.slice Y2],[.pure (.int .i64)],fun _=>True,fun x=>(followF x.1 x.2.1 x.2.2.1,())⟩
theorem F13_ok:Meets Tryz.prog 13 F13:=by
 refine mZ (C:=mkC 29 [6] [0,1,2,6,8,9,10,11,12,16] [⟨52,_,F52_ok⟩]) (mO _ _ _ _) (fO _) Tryz.func13 rfl rfl rfl (by decide) rfl ?_
 rintro⟨(a0:Int),(a1:Int),a2,_⟩ hwf hpre ⟨⟩ hG rfl rfl
 show Vc _ _ [(0,⟨0,0,.c (.pure (.int .i64)) a0⟩),(1,⟨0,0,.c (.pure (.int .i64)) a1⟩),(2,⟨0,0,.c (.pure Y6) a2⟩)] _
 have hb:List.length a2≤bigLen:=hwf.2.2.1.1
 refine Vm hG rfl (Vq (Vm hG rfl (Vb ?_)))
 refine Vc.loopF [(1,false,.pure (.int .i64)),(11,false,.pure (.int .i64))] [0,2,6,9,10] (fun v=>foInv (flStep a0) a1 a2 v.1 v.2.1) (fun v=>((List.length a2:Int)-v.2.1).toNat) rfl ?_ ?_
 · exact foStart
 rintro⟨(acc:Int),(i:Int),_⟩ hI
 have hI:foInv (flStep a0) a1 a2 acc i:=hI
 refine Vm hG rfl (Vq ?_)
 refine Vk rfl ?_ ?_<;>intro h0
 · have hl:i<(List.length a2:Int):=oTr h0
   refine Vs (Vq (Vb (Vq ?_)))
   refine Vr hG rfl ?_ ?_
   · exact foRange hI hl
   refine Vm hG rfl ?_
   refine Vk rfl ?_ ?_<;>intro h1
   · have g1:(List.getD a2 i.toNat (dflt (.pair TI .bool))).2=true:=h1
     have st:=foStepE (d:=dflt (.pair TI .bool)) hI hl hb (flL (m:=a0) (x:=acc) g1).symm
     refine Vn hG rfl (Vn hG rfl ?_)
     refine⟨rfl,?_⟩
     exact st
   · have g1:(List.getD a2 i.toNat (dflt (.pair TI .bool))).2=false:=h1
     have st:=foStepE (d:=dflt (.pair TI .bool)) hI hl hb (flR (m:=a0) (x:=acc) g1).symm
     refine Vn hG rfl (Vn hG rfl ?_)
     refine⟨rfl,?_⟩
     exact st
 · have hl:¬i<(List.length a2:Int):=oFa h0
   refine Vx (Vm hG rfl (Vt ?_))
   refine⟨?_,trivial⟩
   exact foEnd hI hl
noncomputable def F16:Fun:=⟨[.int .i64],[.pure (.int .i64)],fun _=>True,fun x=>(levF x.1,())⟩
theorem F16_ok:Meets Tryz.prog 16 F16:=by
 refine mZ (C:=mkC 16 [2] [0,2,3,12] [⟨51,_,F51_ok⟩]) (mO _ _ _ _) (fO _) Tryz.func16 rfl rfl rfl (by decide) rfl ?_
 rintro⟨(a0:Int),_⟩ hwf hpre ⟨⟩ hG rfl rfl
 show Vc _ _ [(0,⟨0,0,.c (.pure (.int .i64)) a0⟩)] _
 refine Vm hG rfl (Vm hG rfl (Vq (Vb ?_)))
 refine Vc.loopF [(3,false,.pure (.int .i64))] [0,2] (fun v=>lvInv a0 v.1) (fun v=>((4:Int)-v.1).toNat) rfl ?_ ?_
 · exact lvStart
 rintro⟨(k:Int),_⟩ hI
 have hI:lvInv a0 k:=hI
 refine Vq (Vq ?_)
 refine Vr hG rfl ?_ ?_
 · repeat' (first | exact trivial | exact lvPos hI | refine And.intro ?_ ?_ | intro _)
 refine Vk rfl ?_ ?_<;>intro h0
 · have g0:pick2 (inRangeF a0 1 16) (decide (shl1 k<a0)) false=true:=h0
   refine Vs (Vb (Vn hG rfl ?_))
   refine⟨rfl,?_⟩
   exact lvStep hI g0
 · have g0:pick2 (inRangeF a0 1 16) (decide (shl1 k<a0)) false=false:=h0
   refine Vx (Vm hG rfl (Vt ?_))
   refine⟨?_,trivial⟩
   exact lvEnd hI g0
end Fw
