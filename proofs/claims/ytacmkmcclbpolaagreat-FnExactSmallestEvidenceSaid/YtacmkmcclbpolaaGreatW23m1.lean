/- Walks of functions of the program: what each computes. Conditions: those that each contract names. -/
import Derived.Test.YtacmkmcclbpolaaGreatW23T
import Derived.Test.YtacmkmcclbpolaaGreatW23m0
namespace Fw
open Go Go.Proofs
set_option linter.unusedSimpArgs false
set_option maxRecDepth 100000
noncomputable def F306:Fun:=⟨[.slice Y1,.slice Y1],[.pure (.bool)],fun _=>True,fun x=>(eqC x.1 x.2.1,())⟩
theorem F306_ok:Meets Tryz.prog 306 F306:=by
 refine mZ (C:=mkC 27 [4] [0,1,4,5,10,14,26] [⟨340,_,F340_ok⟩]) (mO _ _ _ _) (fO _) Tryz.func306 rfl rfl rfl (by decide) rfl ?_
 rintro⟨a0,a1,_⟩ hwf hpre ⟨⟩ hG rfl rfl
 show Vc _ _ [(0,⟨0,0,.c Z12 a0⟩),(1,⟨0,0,.c Z12 a1⟩)] _
 have hb:List.length a0≤bigLen:=hwf.1.1
 refine Vm hG rfl (Vq (Vm hG rfl ?_))
 refine Vk rfl ?_ ?_<;>intro h0
 · refine Vm hG rfl (Vt ?_)
   refine⟨?_,trivial⟩
   exact eqC_no (fun e=>absurd (show ((List.length a0:Int) != (List.length a1:Int))=true from h0) (by have e:a0=a1:=e;rw[e];simp))
 · have g0:List.length a0=List.length a1:=lenEq h0
   refine Vs (Vq (Vm hG rfl (Vb ?_)))
   refine Vc.loopF [(5,false,.pure (.int .i64))] [0,1,10] (fun v=>eqInv a0 a1 v.1) (fun v=>((List.length a0:Int)-v.1).toNat) rfl ?_ ?_
   · exact eqStart g0
   rintro⟨(i:Int),_⟩ hI
   have hI:eqInv a0 a1 i:=hI
   refine Vq (Vm hG rfl ?_)
   refine Vk rfl ?_ ?_<;>intro h1
   · have hl:i<(List.length a0:Int):=oTr h1
     refine Vs (Vq (Vb (Vq ?_)))
     refine VrD mixed hG rfl (by kernel_rfl) ?_ ?_
     · exact⟨(eqRange hI hl).1,(eqRange hI hl).2,trivial⟩
     refine Vk rfl ?_ ?_<;>intro h2
     · have g2:(!(eqC (List.getD a0 i.toNat (dflt Y1)) (List.getD a1 i.toNat (dflt Y1))))=true:=h2
       refine Vm hG rfl (Vt ?_)
       refine⟨?_,trivial⟩
       exact eqNo (d:=dflt Y1) (i:=i) (fun e=>by rw[e,eqC_self]at g2;cases g2)
     · have g2:(List.getD a0 i.toNat (dflt Y1))=(List.getD a1 i.toNat (dflt Y1)):=notC h2
       refine Vs (Vn hG rfl ?_)
       refine⟨rfl,?_⟩
       exact⟨eqStep (d:=dflt Y1) hI hl hb g2,(upStep hI.1 hl hb).2.2⟩
   · have hl:¬i<(List.length a0:Int):=oFa h1
     refine Vx (Vm hG rfl (Vt ?_))
     refine⟨?_,trivial⟩
     exact eqC_yes (eqEnd hI hl)
noncomputable def F168:Fun:=⟨[.pair (.int .i64) Y24,.pair (.int .i64) Y24],[.pure (.bool)],fun _=>True,fun x=>(eqC x.1 x.2.1,())⟩
theorem F168_ok:Meets Tryz.prog 168 F168:=by
 refine mZ (C:=mkC 30 [4] [0,1,2,3,4,9,14,19,24,29] []) (mO _ _ _ _) (fO _) Tryz.func168 rfl rfl rfl (by decide) rfl ?_
 rintro⟨a0,a1,_⟩ hwf hpre ⟨⟩ hG rfl rfl
 show Vc _ _ [(0,⟨0,0,.c Z33 a0⟩),(1,⟨0,0,.c Z33 a1⟩)] _
 refine Vm hG rfl (Vq (Vm hG rfl ?_))
 refine Vk rfl ?_ ?_<;>intro h0
 · refine Vm hG rfl (Vt ?_)
   refine⟨?_,trivial⟩
   exact eqC_no (fun e=>absurd (show (a0.1 != a1.1)=true from h0) (by have e:a0=a1:=e;rw[e];simp))
 · have g0:a0.1=a1.1:=bneI h0
   refine Vs (Vq (Vm hG rfl ?_))
   refine Vk rfl ?_ ?_<;>intro h1
   · refine Vm hG rfl (Vt ?_)
     refine⟨?_,trivial⟩
     exact eqC_no (fun e=>absurd (show (a0.2.1 != a1.2.1)=true from h1) (by have e:a0=a1:=e;rw[e];simp))
   · have g1:a0.2.1=a1.2.1:=bneI h1
     refine Vs (Vq (Vm hG rfl ?_))
     refine Vk rfl ?_ ?_<;>intro h2
     · refine Vm hG rfl (Vt ?_)
       refine⟨?_,trivial⟩
       exact eqC_no (fun e=>absurd (show (a0.2.2.1 != a1.2.2.1)=true from h2) (by have e:a0=a1:=e;rw[e];simp))
     · have g2:a0.2.2.1=a1.2.2.1:=bneI h2
       refine Vs (Vq (Vm hG rfl ?_))
       refine Vk rfl ?_ ?_<;>intro h3
       · refine Vm hG rfl (Vt ?_)
         refine⟨?_,trivial⟩
         exact eqC_no (fun e=>absurd (show (a0.2.2.2.1 != a1.2.2.2.1)=true from h3) (by have e:a0=a1:=e;rw[e];simp))
       · have g3:a0.2.2.2.1=a1.2.2.2.1:=bneI h3
         refine Vs (Vq (Vm hG rfl ?_))
         refine Vk rfl ?_ ?_<;>intro h4
         · refine Vm hG rfl (Vt ?_)
           refine⟨?_,trivial⟩
           exact eqC_no (fun e=>absurd (show (a0.2.2.2.2 != a1.2.2.2.2)=true from h4) (by have e:a0=a1:=e;rw[e];simp))
         · have g4:a0.2.2.2.2=a1.2.2.2.2:=bneI h4
           refine Vs (Vm hG rfl (Vt ?_))
           refine⟨?_,trivial⟩
           exact eqC_yes (Prod.ext g0 (Prod.ext g1 (Prod.ext g2 (Prod.ext g3 g4))))
noncomputable def F95:Fun:=⟨[.slice Y32,.slice Y32],[.pure (.bool)],fun _=>True,fun x=>(eqC x.1 x.2.1,())⟩
theorem F95_ok:Meets Tryz.prog 95 F95:=by
 refine mZ (C:=mkC 27 [4] [0,1,4,5,10,14,26] [⟨168,_,F168_ok⟩]) (mO _ _ _ _) (fO _) Tryz.func95 rfl rfl rfl (by decide) rfl ?_
 rintro⟨a0,a1,_⟩ hwf hpre ⟨⟩ hG rfl rfl
 show Vc _ _ [(0,⟨0,0,.c Z36 a0⟩),(1,⟨0,0,.c Z36 a1⟩)] _
 have hb:List.length a0≤bigLen:=hwf.1.1
 refine Vm hG rfl (Vq (Vm hG rfl ?_))
 refine Vk rfl ?_ ?_<;>intro h0
 · refine Vm hG rfl (Vt ?_)
   refine⟨?_,trivial⟩
   exact eqC_no (fun e=>absurd (show ((List.length a0:Int) != (List.length a1:Int))=true from h0) (by have e:a0=a1:=e;rw[e];simp))
 · have g0:List.length a0=List.length a1:=lenEq h0
   refine Vs (Vq (Vm hG rfl (Vb ?_)))
   refine Vc.loopF [(5,false,.pure (.int .i64))] [0,1,10] (fun v=>eqInv a0 a1 v.1) (fun v=>((List.length a0:Int)-v.1).toNat) rfl ?_ ?_
   · exact eqStart g0
   rintro⟨(i:Int),_⟩ hI
   have hI:eqInv a0 a1 i:=hI
   refine Vq (Vm hG rfl ?_)
   refine Vk rfl ?_ ?_<;>intro h1
   · have hl:i<(List.length a0:Int):=oTr h1
     refine Vs (Vq (Vb (Vq ?_)))
     refine VrD mixed hG rfl (by kernel_rfl) ?_ ?_
     · exact⟨(eqRange hI hl).1,(eqRange hI hl).2,trivial⟩
     refine Vk rfl ?_ ?_<;>intro h2
     · have g2:(!(eqC (List.getD a0 i.toNat (dflt Y32)) (List.getD a1 i.toNat (dflt Y32))))=true:=h2
       refine Vm hG rfl (Vt ?_)
       refine⟨?_,trivial⟩
       exact eqNo (d:=dflt Y32) (i:=i) (fun e=>by rw[e,eqC_self]at g2;cases g2)
     · have g2:(List.getD a0 i.toNat (dflt Y32))=(List.getD a1 i.toNat (dflt Y32)):=notC h2
       refine Vs (Vn hG rfl ?_)
       refine⟨rfl,?_⟩
       exact⟨eqStep (d:=dflt Y32) hI hl hb g2,(upStep hI.1 hl hb).2.2⟩
   · have hl:¬i<(List.length a0:Int):=oFa h1
     refine Vx (Vm hG rfl (Vt ?_))
     refine⟨?_,trivial⟩
     exact eqC_yes (eqEnd hI hl)
noncomputable def F238:Fun:=⟨[.pair (.int .i64) Y53,.pair (.int .i64) Y53],[.pure (.bool)],fun _=>True,fun x=>(eqC x.1 x.2.1,())⟩
theorem F238_ok:Meets Tryz.prog 238 F238:=by
 refine mZ (C:=mkC 32 [4] [0,1,2,3,4,9,14,19,25,31] [⟨306,_,F306_ok⟩,⟨95,_,F95_ok⟩]) (mO _ _ _ _) (fO _) Tryz.func238 rfl rfl rfl (by decide) rfl ?_
 rintro⟨a0,a1,_⟩ hwf hpre ⟨⟩ hG rfl rfl
 show Vc _ _ [(0,⟨0,0,.c Z57 a0⟩),(1,⟨0,0,.c Z57 a1⟩)] _
 refine Vm hG rfl (Vq (Vm hG rfl ?_))
 refine Vk rfl ?_ ?_<;>intro h0
 · refine Vm hG rfl (Vt ?_)
   refine⟨?_,trivial⟩
   exact eqC_no (fun e=>absurd (show (a0.1 != a1.1)=true from h0) (by have e:a0=a1:=e;rw[e];simp))
 · have g0:a0.1=a1.1:=bneI h0
   refine Vs (Vq (Vm hG rfl ?_))
   refine Vk rfl ?_ ?_<;>intro h1
   · refine Vm hG rfl (Vt ?_)
     refine⟨?_,trivial⟩
     exact eqC_no (fun e=>absurd (show (a0.2.1 != a1.2.1)=true from h1) (by have e:a0=a1:=e;rw[e];simp))
   · have g1:a0.2.1=a1.2.1:=bneI h1
     refine Vs (Vq (Vm hG rfl ?_))
     refine Vk rfl ?_ ?_<;>intro h2
     · refine Vm hG rfl (Vt ?_)
       refine⟨?_,trivial⟩
       exact eqC_no (fun e=>absurd (show (a0.2.2.1 != a1.2.2.1)=true from h2) (by have e:a0=a1:=e;rw[e];simp))
     · have g2:a0.2.2.1=a1.2.2.1:=bneI h2
       refine Vs (Vq (Vm hG rfl ?_))
       refine Vk rfl ?_ ?_<;>intro h3
       · refine Vm hG rfl (Vt ?_)
         refine⟨?_,trivial⟩
         exact eqC_no (fun e=>absurd (show (!(eqC a0.2.2.2.1 a1.2.2.2.1))=true from h3) (by have e:a0=a1:=e;rw[e,eqC_self];decide))
       · have g3:a0.2.2.2.1=a1.2.2.2.1:=notC h3
         refine Vs (Vq (Vm hG rfl ?_))
         refine Vk rfl ?_ ?_<;>intro h4
         · refine Vm hG rfl (Vt ?_)
           refine⟨?_,trivial⟩
           exact eqC_no (fun e=>absurd (show (!(eqC a0.2.2.2.2 a1.2.2.2.2))=true from h4) (by have e:a0=a1:=e;rw[e,eqC_self];decide))
         · have g4:a0.2.2.2.2=a1.2.2.2.2:=notC h4
           refine Vs (Vm hG rfl (Vt ?_))
           refine⟨?_,trivial⟩
           exact eqC_yes (Prod.ext g0 (Prod.ext g1 (Prod.ext g2 (Prod.ext g3 g4))))
noncomputable def F167:Fun:=⟨[.slice Y56,.slice Y56],[.pure (.bool)],fun _=>True,fun x=>(eqC x.1 x.2.1,())⟩
theorem F167_ok:Meets Tryz.prog 167 F167:=by
 refine mZ (C:=mkC 27 [4] [0,1,4,5,10,14,26] [⟨238,_,F238_ok⟩]) (mO _ _ _ _) (fO _) Tryz.func167 rfl rfl rfl (by decide) rfl ?_
 rintro⟨a0,a1,_⟩ hwf hpre ⟨⟩ hG rfl rfl
 show Vc _ _ [(0,⟨0,0,.c Z60 a0⟩),(1,⟨0,0,.c Z60 a1⟩)] _
 have hb:List.length a0≤bigLen:=hwf.1.1
 refine Vm hG rfl (Vq (Vm hG rfl ?_))
 refine Vk rfl ?_ ?_<;>intro h0
 · refine Vm hG rfl (Vt ?_)
   refine⟨?_,trivial⟩
   exact eqC_no (fun e=>absurd (show ((List.length a0:Int) != (List.length a1:Int))=true from h0) (by have e:a0=a1:=e;rw[e];simp))
 · have g0:List.length a0=List.length a1:=lenEq h0
   refine Vs (Vq (Vm hG rfl (Vb ?_)))
   refine Vc.loopF [(5,false,.pure (.int .i64))] [0,1,10] (fun v=>eqInv a0 a1 v.1) (fun v=>((List.length a0:Int)-v.1).toNat) rfl ?_ ?_
   · exact eqStart g0
   rintro⟨(i:Int),_⟩ hI
   have hI:eqInv a0 a1 i:=hI
   refine Vq (Vm hG rfl ?_)
   refine Vk rfl ?_ ?_<;>intro h1
   · have hl:i<(List.length a0:Int):=oTr h1
     refine Vs (Vq (Vb (Vq ?_)))
     refine VrD mixed hG rfl (by kernel_rfl) ?_ ?_
     · exact⟨(eqRange hI hl).1,(eqRange hI hl).2,trivial⟩
     refine Vk rfl ?_ ?_<;>intro h2
     · have g2:(!(eqC (List.getD a0 i.toNat (dflt Y56)) (List.getD a1 i.toNat (dflt Y56))))=true:=h2
       refine Vm hG rfl (Vt ?_)
       refine⟨?_,trivial⟩
       exact eqNo (d:=dflt Y56) (i:=i) (fun e=>by rw[e,eqC_self]at g2;cases g2)
     · have g2:(List.getD a0 i.toNat (dflt Y56))=(List.getD a1 i.toNat (dflt Y56)):=notC h2
       refine Vs (Vn hG rfl ?_)
       refine⟨rfl,?_⟩
       exact⟨eqStep (d:=dflt Y56) hI hl hb g2,(upStep hI.1 hl hb).2.2⟩
   · have hl:¬i<(List.length a0:Int):=oFa h1
     refine Vx (Vm hG rfl (Vt ?_))
     refine⟨?_,trivial⟩
     exact eqC_yes (eqEnd hI hl)
noncomputable def F94:Fun:=⟨[.pair Y23 Y59,.pair Y23 Y59],[.pure (.bool)],fun _=>True,fun x=>(eqC x.1 x.2.1,())⟩
theorem F94_ok:Meets Tryz.prog 94 F94:=by
 refine mZ (C:=mkC 17 [4] [0,1,2,3,4,10,16] [⟨166,_,F166_ok⟩,⟨167,_,F167_ok⟩]) (mO _ _ _ _) (fO _) Tryz.func94 rfl rfl rfl (by decide) rfl ?_
 rintro⟨a0,a1,_⟩ hwf hpre ⟨⟩ hG rfl rfl
 show Vc _ _ [(0,⟨0,0,.c Z65 a0⟩),(1,⟨0,0,.c Z65 a1⟩)] _
 refine Vm hG rfl (Vq (Vm hG rfl ?_))
 refine Vk rfl ?_ ?_<;>intro h0
 · refine Vm hG rfl (Vt ?_)
   refine⟨?_,trivial⟩
   exact eqC_no (fun e=>absurd (show (!(eqC a0.1 a1.1))=true from h0) (by have e:a0=a1:=e;rw[e,eqC_self];decide))
 · have g0:a0.1=a1.1:=notC h0
   refine Vs (Vq (Vm hG rfl ?_))
   refine Vk rfl ?_ ?_<;>intro h1
   · refine Vm hG rfl (Vt ?_)
     refine⟨?_,trivial⟩
     exact eqC_no (fun e=>absurd (show (!(eqC a0.2 a1.2))=true from h1) (by have e:a0=a1:=e;rw[e,eqC_self];decide))
   · have g1:a0.2=a1.2:=notC h1
     refine Vs (Vm hG rfl (Vt ?_))
     refine⟨?_,trivial⟩
     exact eqC_yes (Prod.ext g0 g1)
noncomputable def F50:Fun:=⟨[.slice Y63,.slice Y63],[.pure (.bool)],fun _=>True,fun x=>(eqC x.1 x.2.1,())⟩
theorem F50_ok:Meets Tryz.prog 50 F50:=by
 refine mZ (C:=mkC 27 [4] [0,1,4,5,10,14,26] [⟨94,_,F94_ok⟩]) (mO _ _ _ _) (fO _) Tryz.func50 rfl rfl rfl (by decide) rfl ?_
 rintro⟨a0,a1,_⟩ hwf hpre ⟨⟩ hG rfl rfl
 show Vc _ _ [(0,⟨0,0,.c Z68 a0⟩),(1,⟨0,0,.c Z68 a1⟩)] _
 have hb:List.length a0≤bigLen:=hwf.1.1
 refine Vm hG rfl (Vq (Vm hG rfl ?_))
 refine Vk rfl ?_ ?_<;>intro h0
 · refine Vm hG rfl (Vt ?_)
   refine⟨?_,trivial⟩
   exact eqC_no (fun e=>absurd (show ((List.length a0:Int) != (List.length a1:Int))=true from h0) (by have e:a0=a1:=e;rw[e];simp))
 · have g0:List.length a0=List.length a1:=lenEq h0
   refine Vs (Vq (Vm hG rfl (Vb ?_)))
   refine Vc.loopF [(5,false,.pure (.int .i64))] [0,1,10] (fun v=>eqInv a0 a1 v.1) (fun v=>((List.length a0:Int)-v.1).toNat) rfl ?_ ?_
   · exact eqStart g0
   rintro⟨(i:Int),_⟩ hI
   have hI:eqInv a0 a1 i:=hI
   refine Vq (Vm hG rfl ?_)
   refine Vk rfl ?_ ?_<;>intro h1
   · have hl:i<(List.length a0:Int):=oTr h1
     refine Vs (Vq (Vb (Vq ?_)))
     refine VrD mixed hG rfl (by kernel_rfl) ?_ ?_
     · exact⟨(eqRange hI hl).1,(eqRange hI hl).2,trivial⟩
     refine Vk rfl ?_ ?_<;>intro h2
     · have g2:(!(eqC (List.getD a0 i.toNat (dflt Y63)) (List.getD a1 i.toNat (dflt Y63))))=true:=h2
       refine Vm hG rfl (Vt ?_)
       refine⟨?_,trivial⟩
       exact eqNo (d:=dflt Y63) (i:=i) (fun e=>by rw[e,eqC_self]at g2;cases g2)
     · have g2:(List.getD a0 i.toNat (dflt Y63))=(List.getD a1 i.toNat (dflt Y63)):=notC h2
       refine Vs (Vn hG rfl ?_)
       refine⟨rfl,?_⟩
       exact⟨eqStep (d:=dflt Y63) hI hl hb g2,(upStep hI.1 hl hb).2.2⟩
   · have hl:¬i<(List.length a0:Int):=oFa h1
     refine Vx (Vm hG rfl (Vt ?_))
     refine⟨?_,trivial⟩
     exact eqC_yes (eqEnd hI hl)
noncomputable def F51:Fun:=⟨[.slice Y34,.slice Y34],[.pure (.bool)],fun _=>True,fun x=>(eqC x.1 x.2.1,())⟩
theorem F51_ok:Meets Tryz.prog 51 F51:=by
 refine mZ (C:=mkC 27 [4] [0,1,4,5,10,14,26] [⟨95,_,F95_ok⟩]) (mO _ _ _ _) (fO _) Tryz.func51 rfl rfl rfl (by decide) rfl ?_
 rintro⟨a0,a1,_⟩ hwf hpre ⟨⟩ hG rfl rfl
 show Vc _ _ [(0,⟨0,0,.c Z40 a0⟩),(1,⟨0,0,.c Z40 a1⟩)] _
 have hb:List.length a0≤bigLen:=hwf.1.1
 refine Vm hG rfl (Vq (Vm hG rfl ?_))
 refine Vk rfl ?_ ?_<;>intro h0
 · refine Vm hG rfl (Vt ?_)
   refine⟨?_,trivial⟩
   exact eqC_no (fun e=>absurd (show ((List.length a0:Int) != (List.length a1:Int))=true from h0) (by have e:a0=a1:=e;rw[e];simp))
 · have g0:List.length a0=List.length a1:=lenEq h0
   refine Vs (Vq (Vm hG rfl (Vb ?_)))
   refine Vc.loopF [(5,false,.pure (.int .i64))] [0,1,10] (fun v=>eqInv a0 a1 v.1) (fun v=>((List.length a0:Int)-v.1).toNat) rfl ?_ ?_
   · exact eqStart g0
   rintro⟨(i:Int),_⟩ hI
   have hI:eqInv a0 a1 i:=hI
   refine Vq (Vm hG rfl ?_)
   refine Vk rfl ?_ ?_<;>intro h1
   · have hl:i<(List.length a0:Int):=oTr h1
     refine Vs (Vq (Vb (Vq ?_)))
     refine VrD mixed hG rfl (by kernel_rfl) ?_ ?_
     · exact⟨(eqRange hI hl).1,(eqRange hI hl).2,trivial⟩
     refine Vk rfl ?_ ?_<;>intro h2
     · have g2:(!(eqC (List.getD a0 i.toNat (dflt Y34)) (List.getD a1 i.toNat (dflt Y34))))=true:=h2
       refine Vm hG rfl (Vt ?_)
       refine⟨?_,trivial⟩
       exact eqNo (d:=dflt Y34) (i:=i) (fun e=>by rw[e,eqC_self]at g2;cases g2)
     · have g2:(List.getD a0 i.toNat (dflt Y34))=(List.getD a1 i.toNat (dflt Y34)):=notC h2
       refine Vs (Vn hG rfl ?_)
       refine⟨rfl,?_⟩
       exact⟨eqStep (d:=dflt Y34) hI hl hb g2,(upStep hI.1 hl hb).2.2⟩
   · have hl:¬i<(List.length a0:Int):=oFa h1
     refine Vx (Vm hG rfl (Vt ?_))
     refine⟨?_,trivial⟩
     exact eqC_yes (eqEnd hI hl)
noncomputable def F14:Fun:=⟨[.pair Y66 Y37,.pair Y66 Y37],[.pure (.bool)],fun _=>True,fun x=>(eqC x.1 x.2.1,())⟩
theorem F14_ok:Meets Tryz.prog 14 F14:=by
 refine mZ (C:=mkC 17 [4] [0,1,2,3,4,10,16] [⟨50,_,F50_ok⟩,⟨51,_,F51_ok⟩]) (mO _ _ _ _) (fO _) Tryz.func14 rfl rfl rfl (by decide) rfl ?_
 rintro⟨a0,a1,_⟩ hwf hpre ⟨⟩ hG rfl rfl
 show Vc _ _ [(0,⟨0,0,.c Z72 a0⟩),(1,⟨0,0,.c Z72 a1⟩)] _
 refine Vm hG rfl (Vq (Vm hG rfl ?_))
 refine Vk rfl ?_ ?_<;>intro h0
 · refine Vm hG rfl (Vt ?_)
   refine⟨?_,trivial⟩
   exact eqC_no (fun e=>absurd (show (!(eqC a0.1 a1.1))=true from h0) (by have e:a0=a1:=e;rw[e,eqC_self];decide))
 · have g0:a0.1=a1.1:=notC h0
   refine Vs (Vq (Vm hG rfl ?_))
   refine Vk rfl ?_ ?_<;>intro h1
   · refine Vm hG rfl (Vt ?_)
     refine⟨?_,trivial⟩
     exact eqC_no (fun e=>absurd (show (!(eqC a0.2 a1.2))=true from h1) (by have e:a0=a1:=e;rw[e,eqC_self];decide))
   · have g1:a0.2=a1.2:=notC h1
     refine Vs (Vm hG rfl (Vt ?_))
     refine⟨?_,trivial⟩
     exact eqC_yes (Prod.ext g0 g1)
noncomputable def F96:Fun:=⟨[.pair (.int .i64) Y24,.pair (.int .i64) Y24],[.pure (.bool)],fun _=>True,fun x=>(eqC x.1 x.2.1,())⟩
theorem F96_ok:Meets Tryz.prog 96 F96:=by
 refine mZ (C:=mkC 30 [4] [0,1,2,3,4,9,14,19,24,29] []) (mO _ _ _ _) (fO _) Tryz.func96 rfl rfl rfl (by decide) rfl ?_
 rintro⟨a0,a1,_⟩ hwf hpre ⟨⟩ hG rfl rfl
 show Vc _ _ [(0,⟨0,0,.c Z33 a0⟩),(1,⟨0,0,.c Z33 a1⟩)] _
 refine Vm hG rfl (Vq (Vm hG rfl ?_))
 refine Vk rfl ?_ ?_<;>intro h0
 · refine Vm hG rfl (Vt ?_)
   refine⟨?_,trivial⟩
   exact eqC_no (fun e=>absurd (show (a0.1 != a1.1)=true from h0) (by have e:a0=a1:=e;rw[e];simp))
 · have g0:a0.1=a1.1:=bneI h0
   refine Vs (Vq (Vm hG rfl ?_))
   refine Vk rfl ?_ ?_<;>intro h1
   · refine Vm hG rfl (Vt ?_)
     refine⟨?_,trivial⟩
     exact eqC_no (fun e=>absurd (show (a0.2.1 != a1.2.1)=true from h1) (by have e:a0=a1:=e;rw[e];simp))
   · have g1:a0.2.1=a1.2.1:=bneI h1
     refine Vs (Vq (Vm hG rfl ?_))
     refine Vk rfl ?_ ?_<;>intro h2
     · refine Vm hG rfl (Vt ?_)
       refine⟨?_,trivial⟩
       exact eqC_no (fun e=>absurd (show (a0.2.2.1 != a1.2.2.1)=true from h2) (by have e:a0=a1:=e;rw[e];simp))
     · have g2:a0.2.2.1=a1.2.2.1:=bneI h2
       refine Vs (Vq (Vm hG rfl ?_))
       refine Vk rfl ?_ ?_<;>intro h3
       · refine Vm hG rfl (Vt ?_)
         refine⟨?_,trivial⟩
         exact eqC_no (fun e=>absurd (show (a0.2.2.2.1 != a1.2.2.2.1)=true from h3) (by have e:a0=a1:=e;rw[e];simp))
       · have g3:a0.2.2.2.1=a1.2.2.2.1:=bneI h3
         refine Vs (Vq (Vm hG rfl ?_))
         refine Vk rfl ?_ ?_<;>intro h4
         · refine Vm hG rfl (Vt ?_)
           refine⟨?_,trivial⟩
           exact eqC_no (fun e=>absurd (show (a0.2.2.2.2 != a1.2.2.2.2)=true from h4) (by have e:a0=a1:=e;rw[e];simp))
         · have g4:a0.2.2.2.2=a1.2.2.2.2:=bneI h4
           refine Vs (Vm hG rfl (Vt ?_))
           refine⟨?_,trivial⟩
           exact eqC_yes (Prod.ext g0 (Prod.ext g1 (Prod.ext g2 (Prod.ext g3 g4))))
noncomputable def F52:Fun:=⟨[.slice Y32,.slice Y32],[.pure (.bool)],fun _=>True,fun x=>(eqC x.1 x.2.1,())⟩
theorem F52_ok:Meets Tryz.prog 52 F52:=by
 refine mZ (C:=mkC 27 [4] [0,1,4,5,10,14,26] [⟨96,_,F96_ok⟩]) (mO _ _ _ _) (fO _) Tryz.func52 rfl rfl rfl (by decide) rfl ?_
 rintro⟨a0,a1,_⟩ hwf hpre ⟨⟩ hG rfl rfl
 show Vc _ _ [(0,⟨0,0,.c Z36 a0⟩),(1,⟨0,0,.c Z36 a1⟩)] _
 have hb:List.length a0≤bigLen:=hwf.1.1
 refine Vm hG rfl (Vq (Vm hG rfl ?_))
 refine Vk rfl ?_ ?_<;>intro h0
 · refine Vm hG rfl (Vt ?_)
   refine⟨?_,trivial⟩
   exact eqC_no (fun e=>absurd (show ((List.length a0:Int) != (List.length a1:Int))=true from h0) (by have e:a0=a1:=e;rw[e];simp))
 · have g0:List.length a0=List.length a1:=lenEq h0
   refine Vs (Vq (Vm hG rfl (Vb ?_)))
   refine Vc.loopF [(5,false,.pure (.int .i64))] [0,1,10] (fun v=>eqInv a0 a1 v.1) (fun v=>((List.length a0:Int)-v.1).toNat) rfl ?_ ?_
   · exact eqStart g0
   rintro⟨(i:Int),_⟩ hI
   have hI:eqInv a0 a1 i:=hI
   refine Vq (Vm hG rfl ?_)
   refine Vk rfl ?_ ?_<;>intro h1
   · have hl:i<(List.length a0:Int):=oTr h1
     refine Vs (Vq (Vb (Vq ?_)))
     refine VrD mixed hG rfl (by kernel_rfl) ?_ ?_
     · exact⟨(eqRange hI hl).1,(eqRange hI hl).2,trivial⟩
     refine Vk rfl ?_ ?_<;>intro h2
     · have g2:(!(eqC (List.getD a0 i.toNat (dflt Y32)) (List.getD a1 i.toNat (dflt Y32))))=true:=h2
       refine Vm hG rfl (Vt ?_)
       refine⟨?_,trivial⟩
       exact eqNo (d:=dflt Y32) (i:=i) (fun e=>by rw[e,eqC_self]at g2;cases g2)
     · have g2:(List.getD a0 i.toNat (dflt Y32))=(List.getD a1 i.toNat (dflt Y32)):=notC h2
       refine Vs (Vn hG rfl ?_)
       refine⟨rfl,?_⟩
       exact⟨eqStep (d:=dflt Y32) hI hl hb g2,(upStep hI.1 hl hb).2.2⟩
   · have hl:¬i<(List.length a0:Int):=oFa h1
     refine Vx (Vm hG rfl (Vt ?_))
     refine⟨?_,trivial⟩
     exact eqC_yes (eqEnd hI hl)
noncomputable def F97:Fun:=⟨[.pair (.int .i64) Y4,.pair (.int .i64) Y4],[.pure (.bool)],fun _=>True,fun x=>(eqC x.1 x.2.1,())⟩
theorem F97_ok:Meets Tryz.prog 97 F97:=by
 refine mZ (C:=mkC 20 [4] [0,1,2,3,4,9,14,19] []) (mO _ _ _ _) (fO _) Tryz.func97 rfl rfl rfl (by decide) rfl ?_
 rintro⟨a0,a1,_⟩ hwf hpre ⟨⟩ hG rfl rfl
 show Vc _ _ [(0,⟨0,0,.c Z17 a0⟩),(1,⟨0,0,.c Z17 a1⟩)] _
 refine Vm hG rfl (Vq (Vm hG rfl ?_))
 refine Vk rfl ?_ ?_<;>intro h0
 · refine Vm hG rfl (Vt ?_)
   refine⟨?_,trivial⟩
   exact eqC_no (fun e=>absurd (show (a0.1 != a1.1)=true from h0) (by have e:a0=a1:=e;rw[e];simp))
 · have g0:a0.1=a1.1:=bneI h0
   refine Vs (Vq (Vm hG rfl ?_))
   refine Vk rfl ?_ ?_<;>intro h1
   · refine Vm hG rfl (Vt ?_)
     refine⟨?_,trivial⟩
     exact eqC_no (fun e=>absurd (show (a0.2.1 != a1.2.1)=true from h1) (by have e:a0=a1:=e;rw[e];simp))
   · have g1:a0.2.1=a1.2.1:=bneI h1
     refine Vs (Vq (Vm hG rfl ?_))
     refine Vk rfl ?_ ?_<;>intro h2
     · refine Vm hG rfl (Vt ?_)
       refine⟨?_,trivial⟩
       exact eqC_no (fun e=>absurd (show (a0.2.2 != a1.2.2)=true from h2) (by have e:a0=a1:=e;rw[e];simp))
     · have g2:a0.2.2=a1.2.2:=bneI h2
       refine Vs (Vm hG rfl (Vt ?_))
       refine⟨?_,trivial⟩
       exact eqC_yes (Prod.ext g0 (Prod.ext g1 g2))
noncomputable def F53:Fun:=⟨[.slice Y15,.slice Y15],[.pure (.bool)],fun _=>True,fun x=>(eqC x.1 x.2.1,())⟩
theorem F53_ok:Meets Tryz.prog 53 F53:=by
 refine mZ (C:=mkC 27 [4] [0,1,4,5,10,14,26] [⟨97,_,F97_ok⟩]) (mO _ _ _ _) (fO _) Tryz.func53 rfl rfl rfl (by decide) rfl ?_
 rintro⟨a0,a1,_⟩ hwf hpre ⟨⟩ hG rfl rfl
 show Vc _ _ [(0,⟨0,0,.c Z21 a0⟩),(1,⟨0,0,.c Z21 a1⟩)] _
 have hb:List.length a0≤bigLen:=hwf.1.1
 refine Vm hG rfl (Vq (Vm hG rfl ?_))
 refine Vk rfl ?_ ?_<;>intro h0
 · refine Vm hG rfl (Vt ?_)
   refine⟨?_,trivial⟩
   exact eqC_no (fun e=>absurd (show ((List.length a0:Int) != (List.length a1:Int))=true from h0) (by have e:a0=a1:=e;rw[e];simp))
 · have g0:List.length a0=List.length a1:=lenEq h0
   refine Vs (Vq (Vm hG rfl (Vb ?_)))
   refine Vc.loopF [(5,false,.pure (.int .i64))] [0,1,10] (fun v=>eqInv a0 a1 v.1) (fun v=>((List.length a0:Int)-v.1).toNat) rfl ?_ ?_
   · exact eqStart g0
   rintro⟨(i:Int),_⟩ hI
   have hI:eqInv a0 a1 i:=hI
   refine Vq (Vm hG rfl ?_)
   refine Vk rfl ?_ ?_<;>intro h1
   · have hl:i<(List.length a0:Int):=oTr h1
     refine Vs (Vq (Vb (Vq ?_)))
     refine VrD mixed hG rfl (by kernel_rfl) ?_ ?_
     · exact⟨(eqRange hI hl).1,(eqRange hI hl).2,trivial⟩
     refine Vk rfl ?_ ?_<;>intro h2
     · have g2:(!(eqC (List.getD a0 i.toNat (dflt Y15)) (List.getD a1 i.toNat (dflt Y15))))=true:=h2
       refine Vm hG rfl (Vt ?_)
       refine⟨?_,trivial⟩
       exact eqNo (d:=dflt Y15) (i:=i) (fun e=>by rw[e,eqC_self]at g2;cases g2)
     · have g2:(List.getD a0 i.toNat (dflt Y15))=(List.getD a1 i.toNat (dflt Y15)):=notC h2
       refine Vs (Vn hG rfl ?_)
       refine⟨rfl,?_⟩
       exact⟨eqStep (d:=dflt Y15) hI hl hb g2,(upStep hI.1 hl hb).2.2⟩
   · have hl:¬i<(List.length a0:Int):=oFa h1
     refine Vx (Vm hG rfl (Vt ?_))
     refine⟨?_,trivial⟩
     exact eqC_yes (eqEnd hI hl)
noncomputable def F98:Fun:=⟨[.pair (.int .i64) Y15,.pair (.int .i64) Y15],[.pure (.bool)],fun _=>True,fun x=>(eqC x.1 x.2.1,())⟩
theorem F98_ok:Meets Tryz.prog 98 F98:=by
 refine mZ (C:=mkC 25 [4] [0,1,2,3,4,9,14,19,24] []) (mO _ _ _ _) (fO _) Tryz.func98 rfl rfl rfl (by decide) rfl ?_
 rintro⟨a0,a1,_⟩ hwf hpre ⟨⟩ hG rfl rfl
 show Vc _ _ [(0,⟨0,0,.c Z27 a0⟩),(1,⟨0,0,.c Z27 a1⟩)] _
 refine Vm hG rfl (Vq (Vm hG rfl ?_))
 refine Vk rfl ?_ ?_<;>intro h0
 · refine Vm hG rfl (Vt ?_)
   refine⟨?_,trivial⟩
   exact eqC_no (fun e=>absurd (show (a0.1 != a1.1)=true from h0) (by have e:a0=a1:=e;rw[e];simp))
 · have g0:a0.1=a1.1:=bneI h0
   refine Vs (Vq (Vm hG rfl ?_))
   refine Vk rfl ?_ ?_<;>intro h1
   · refine Vm hG rfl (Vt ?_)
     refine⟨?_,trivial⟩
     exact eqC_no (fun e=>absurd (show (a0.2.1 != a1.2.1)=true from h1) (by have e:a0=a1:=e;rw[e];simp))
   · have g1:a0.2.1=a1.2.1:=bneI h1
     refine Vs (Vq (Vm hG rfl ?_))
     refine Vk rfl ?_ ?_<;>intro h2
     · refine Vm hG rfl (Vt ?_)
       refine⟨?_,trivial⟩
       exact eqC_no (fun e=>absurd (show (a0.2.2.1 != a1.2.2.1)=true from h2) (by have e:a0=a1:=e;rw[e];simp))
     · have g2:a0.2.2.1=a1.2.2.1:=bneI h2
       refine Vs (Vq (Vm hG rfl ?_))
       refine Vk rfl ?_ ?_<;>intro h3
       · refine Vm hG rfl (Vt ?_)
         refine⟨?_,trivial⟩
         exact eqC_no (fun e=>absurd (show (a0.2.2.2 != a1.2.2.2)=true from h3) (by have e:a0=a1:=e;rw[e];simp))
       · have g3:a0.2.2.2=a1.2.2.2:=bneI h3
         refine Vs (Vm hG rfl (Vt ?_))
         refine⟨?_,trivial⟩
         exact eqC_yes (Prod.ext g0 (Prod.ext g1 (Prod.ext g2 g3)))
noncomputable def F54:Fun:=⟨[.slice Y24,.slice Y24],[.pure (.bool)],fun _=>True,fun x=>(eqC x.1 x.2.1,())⟩
theorem F54_ok:Meets Tryz.prog 54 F54:=by
 refine mZ (C:=mkC 27 [4] [0,1,4,5,10,14,26] [⟨98,_,F98_ok⟩]) (mO _ _ _ _) (fO _) Tryz.func54 rfl rfl rfl (by decide) rfl ?_
 rintro⟨a0,a1,_⟩ hwf hpre ⟨⟩ hG rfl rfl
 show Vc _ _ [(0,⟨0,0,.c Z30 a0⟩),(1,⟨0,0,.c Z30 a1⟩)] _
 have hb:List.length a0≤bigLen:=hwf.1.1
 refine Vm hG rfl (Vq (Vm hG rfl ?_))
 refine Vk rfl ?_ ?_<;>intro h0
 · refine Vm hG rfl (Vt ?_)
   refine⟨?_,trivial⟩
   exact eqC_no (fun e=>absurd (show ((List.length a0:Int) != (List.length a1:Int))=true from h0) (by have e:a0=a1:=e;rw[e];simp))
 · have g0:List.length a0=List.length a1:=lenEq h0
   refine Vs (Vq (Vm hG rfl (Vb ?_)))
   refine Vc.loopF [(5,false,.pure (.int .i64))] [0,1,10] (fun v=>eqInv a0 a1 v.1) (fun v=>((List.length a0:Int)-v.1).toNat) rfl ?_ ?_
   · exact eqStart g0
   rintro⟨(i:Int),_⟩ hI
   have hI:eqInv a0 a1 i:=hI
   refine Vq (Vm hG rfl ?_)
   refine Vk rfl ?_ ?_<;>intro h1
   · have hl:i<(List.length a0:Int):=oTr h1
     refine Vs (Vq (Vb (Vq ?_)))
     refine VrD mixed hG rfl (by kernel_rfl) ?_ ?_
     · exact⟨(eqRange hI hl).1,(eqRange hI hl).2,trivial⟩
     refine Vk rfl ?_ ?_<;>intro h2
     · have g2:(!(eqC (List.getD a0 i.toNat (dflt Y24)) (List.getD a1 i.toNat (dflt Y24))))=true:=h2
       refine Vm hG rfl (Vt ?_)
       refine⟨?_,trivial⟩
       exact eqNo (d:=dflt Y24) (i:=i) (fun e=>by rw[e,eqC_self]at g2;cases g2)
     · have g2:(List.getD a0 i.toNat (dflt Y24))=(List.getD a1 i.toNat (dflt Y24)):=notC h2
       refine Vs (Vn hG rfl ?_)
       refine⟨rfl,?_⟩
       exact⟨eqStep (d:=dflt Y24) hI hl hb g2,(upStep hI.1 hl hb).2.2⟩
   · have hl:¬i<(List.length a0:Int):=oFa h1
     refine Vx (Vm hG rfl (Vt ?_))
     refine⟨?_,trivial⟩
     exact eqC_yes (eqEnd hI hl)
noncomputable def F15:Fun:=⟨[.pair Y34 Y55,.pair Y34 Y55],[.pure (.bool)],fun _=>True,fun x=>(eqC x.1 x.2.1,())⟩
theorem F15_ok:Meets Tryz.prog 15 F15:=by
 refine mZ (C:=mkC 33 [4] [0,1,2,3,4,10,16,22,27,32] [⟨52,_,F52_ok⟩,⟨53,_,F53_ok⟩,⟨54,_,F54_ok⟩]) (mO _ _ _ _) (fO _) Tryz.func15 rfl rfl rfl (by decide) rfl ?_
 rintro⟨a0,a1,_⟩ hwf hpre ⟨⟩ hG rfl rfl
 show Vc _ _ [(0,⟨0,0,.c Z67 a0⟩),(1,⟨0,0,.c Z67 a1⟩)] _
 refine Vm hG rfl (Vq (Vm hG rfl ?_))
 refine Vk rfl ?_ ?_<;>intro h0
 · refine Vm hG rfl (Vt ?_)
   refine⟨?_,trivial⟩
   exact eqC_no (fun e=>absurd (show (!(eqC a0.1 a1.1))=true from h0) (by have e:a0=a1:=e;rw[e,eqC_self];decide))
 · have g0:a0.1=a1.1:=notC h0
   refine Vs (Vq (Vm hG rfl ?_))
   refine Vk rfl ?_ ?_<;>intro h1
   · refine Vm hG rfl (Vt ?_)
     refine⟨?_,trivial⟩
     exact eqC_no (fun e=>absurd (show (!(eqC a0.2.1 a1.2.1))=true from h1) (by have e:a0=a1:=e;rw[e,eqC_self];decide))
   · have g1:a0.2.1=a1.2.1:=notC h1
     refine Vs (Vq (Vm hG rfl ?_))
     refine Vk rfl ?_ ?_<;>intro h2
     · refine Vm hG rfl (Vt ?_)
       refine⟨?_,trivial⟩
       exact eqC_no (fun e=>absurd (show (!(eqC a0.2.2.1 a1.2.2.1))=true from h2) (by have e:a0=a1:=e;rw[e,eqC_self];decide))
     · have g2:a0.2.2.1=a1.2.2.1:=notC h2
       refine Vs (Vq (Vm hG rfl ?_))
       refine Vk rfl ?_ ?_<;>intro h3
       · refine Vm hG rfl (Vt ?_)
         refine⟨?_,trivial⟩
         exact eqC_no (fun e=>absurd (show (a0.2.2.2.1 != a1.2.2.2.1)=true from h3) (by have e:a0=a1:=e;rw[e];simp))
       · have g3:a0.2.2.2.1=a1.2.2.2.1:=bneI h3
         refine Vs (Vq (Vm hG rfl ?_))
         refine Vk rfl ?_ ?_<;>intro h4
         · refine Vm hG rfl (Vt ?_)
           refine⟨?_,trivial⟩
           exact eqC_no (fun e=>absurd (show (a0.2.2.2.2 != a1.2.2.2.2)=true from h4) (by have e:a0=a1:=e;rw[e];simp))
         · have g4:a0.2.2.2.2=a1.2.2.2.2:=bneI h4
           refine Vs (Vm hG rfl (Vt ?_))
           refine⟨?_,trivial⟩
           exact eqC_yes (Prod.ext g0 (Prod.ext g1 (Prod.ext g2 (Prod.ext g3 g4))))
noncomputable def F55:Fun:=⟨[.slice (.str),.slice (.str)],[.pure (.bool)],fun _=>True,fun x=>(eqC x.1 x.2.1,())⟩
theorem F55_ok:Meets Tryz.prog 55 F55:=by
 refine mZ (C:=mkC 26 [4] [0,1,4,5,10,14,25] []) (mO _ _ _ _) (fO _) Tryz.func55 rfl rfl rfl (by decide) rfl ?_
 rintro⟨a0,a1,_⟩ hwf hpre ⟨⟩ hG rfl rfl
 show Vc _ _ [(0,⟨0,0,.c (.pure (.slice (.str))) a0⟩),(1,⟨0,0,.c (.pure (.slice (.str))) a1⟩)] _
 have hb:List.length a0≤bigLen:=hwf.1.1
 refine Vm hG rfl (Vq (Vm hG rfl ?_))
 refine Vk rfl ?_ ?_<;>intro h0
 · refine Vm hG rfl (Vt ?_)
   refine⟨?_,trivial⟩
   exact eqC_no (fun e=>absurd (show ((List.length a0:Int) != (List.length a1:Int))=true from h0) (by have e:a0=a1:=e;rw[e];simp))
 · have g0:List.length a0=List.length a1:=lenEq h0
   refine Vs (Vq (Vm hG rfl (Vb ?_)))
   refine Vc.loopF [(5,false,.pure (.int .i64))] [0,1,10] (fun v=>eqInv a0 a1 v.1) (fun v=>((List.length a0:Int)-v.1).toNat) rfl ?_ ?_
   · exact eqStart g0
   rintro⟨(i:Int),_⟩ hI
   have hI:eqInv a0 a1 i:=hI
   refine Vq (Vm hG rfl ?_)
   refine Vk rfl ?_ ?_<;>intro h1
   · have hl:i<(List.length a0:Int):=oTr h1
     refine Vs (Vq (Vb (Vq ?_)))
     refine VrD mixed hG rfl (by kernel_rfl) ?_ ?_
     · exact⟨(eqRange hI hl).1,(eqRange hI hl).2⟩
     refine Vk rfl ?_ ?_<;>intro h2
     · have g2:((List.getD a0 i.toNat (dflt (.str))) != (List.getD a1 i.toNat (dflt (.str))))=true:=h2
       refine Vm hG rfl (Vt ?_)
       refine⟨?_,trivial⟩
       exact eqNo (d:=dflt (.str)) (i:=i) (fun e=>by rw[e]at g2;simp at g2)
     · have g2:(List.getD a0 i.toNat (dflt (.str)))=(List.getD a1 i.toNat (dflt (.str))):=bneS h2
       refine Vs (Vn hG rfl ?_)
       refine⟨rfl,?_⟩
       exact⟨eqStep (d:=dflt (.str)) hI hl hb g2,(upStep hI.1 hl hb).2.2⟩
   · have hl:¬i<(List.length a0:Int):=oFa h1
     refine Vx (Vm hG rfl (Vt ?_))
     refine⟨?_,trivial⟩
     exact eqC_yes (eqEnd hI hl)
noncomputable def F16:Fun:=⟨[.pair (.int .i64) Y13,.pair (.int .i64) Y13],[.pure (.bool)],fun _=>True,fun x=>(eqC x.1 x.2.1,())⟩
theorem F16_ok:Meets Tryz.prog 16 F16:=by
 refine mZ (C:=mkC 22 [4] [0,1,2,3,4,9,15,21] [⟨55,_,F55_ok⟩,⟨56,_,F56_ok⟩]) (mO _ _ _ _) (fO _) Tryz.func16 rfl rfl rfl (by decide) rfl ?_
 rintro⟨a0,a1,_⟩ hwf hpre ⟨⟩ hG rfl rfl
 show Vc _ _ [(0,⟨0,0,.c Z25 a0⟩),(1,⟨0,0,.c Z25 a1⟩)] _
 refine Vm hG rfl (Vq (Vm hG rfl ?_))
 refine Vk rfl ?_ ?_<;>intro h0
 · refine Vm hG rfl (Vt ?_)
   refine⟨?_,trivial⟩
   exact eqC_no (fun e=>absurd (show (a0.1 != a1.1)=true from h0) (by have e:a0=a1:=e;rw[e];simp))
 · have g0:a0.1=a1.1:=bneI h0
   refine Vs (Vq (Vm hG rfl ?_))
   refine Vk rfl ?_ ?_<;>intro h1
   · refine Vm hG rfl (Vt ?_)
     refine⟨?_,trivial⟩
     exact eqC_no (fun e=>absurd (show (!(eqC a0.2.1 a1.2.1))=true from h1) (by have e:a0=a1:=e;rw[e,eqC_self];decide))
   · have g1:a0.2.1=a1.2.1:=notC h1
     refine Vs (Vq (Vm hG rfl ?_))
     refine Vk rfl ?_ ?_<;>intro h2
     · refine Vm hG rfl (Vt ?_)
       refine⟨?_,trivial⟩
       exact eqC_no (fun e=>absurd (show (!(eqC a0.2.2 a1.2.2))=true from h2) (by have e:a0=a1:=e;rw[e,eqC_self];decide))
     · have g2:a0.2.2=a1.2.2:=notC h2
       refine Vs (Vm hG rfl (Vt ?_))
       refine⟨?_,trivial⟩
       exact eqC_yes (Prod.ext g0 (Prod.ext g1 g2))
@[reducible] noncomputable def M57:MFun:=mF (.own (.pure (.pair (.int .i64) (.pair (.int .i64) (.pair (.int .i64) (.pair (.int .i64) (.int .i64)))))))
set_option maxHeartbeats 2000000 in
theorem M57_ok:MeetsM Tryz.prog 57 M57:=by
 refine meetsM_of_vc (C:=mkCM 48 [4] [0,1,4,5,9] [] [] [] [0]) (mkCM_ok _ _ _ _ _ _ _) (fO _) Tryz.func57 rfl rfl rfl (by decide) rfl rfl rfl rfl ?_
 rintro a0 (a1:Int) hwf hin hpre ⟨⟩ hG rfl rfl
 show Vc _ _ [(0,⟨0,0,.c (.own (.pure (.pair (.int .i64) (.pair (.int .i64) (.pair (.int .i64) (.pair (.int .i64) (.int .i64))))))) a0⟩),(1,⟨0,0,.c (.pure (.int .i64)) a1⟩)] _
 have hb:List.length a0≤bigLen:=hwf.1
 have hp0:0≤a1:=hpre.1
 have hp1:a1+((cellsL (cellsC (.pair (.int .i64) (.pair (.int .i64) (.pair (.int .i64) (.pair (.int .i64) (.int .i64)))))) a0:Nat):Int)≤bnd:=hpre.2
 refine Vm hG rfl (Vq (Vm hG rfl (Vb ?_)))
 refine Vc.loopF [(0,false,.own (.pure (.pair (.int .i64) (.pair (.int .i64) (.pair (.int .i64) (.pair (.int .i64) (.int .i64))))))),(1,false,.pure (.int .i64)),(5,false,.pure (.int .i64))] [4] (fun v=>mkInv (cellsC (.pair (.int .i64) (.pair (.int .i64) (.pair (.int .i64) (.pair (.int .i64) (.int .i64)))))) (markC (.pair (.int .i64) (.pair (.int .i64) (.pair (.int .i64) (.pair (.int .i64) (.int .i64)))))) a0 a1 v.1 v.2.1 v.2.2.1) (fun v=>((List.length v.1:Int)-v.2.2.1).toNat) rfl ?_ ?_
 · exact mkStart
 rintro⟨v,(k:Int),(i:Int),_⟩ hI
 have hI:mkInv (cellsC (.pair (.int .i64) (.pair (.int .i64) (.pair (.int .i64) (.pair (.int .i64) (.int .i64)))))) (markC (.pair (.int .i64) (.pair (.int .i64) (.pair (.int .i64) (.pair (.int .i64) (.int .i64)))))) a0 a1 v k i:=hI
 have hbv:v.length≤bigLen:=by rw[mkLen hI];exact hb
 refine Vq (Vm hG rfl ?_)
 refine Vk rfl ?_ ?_<;>intro h0
 · have hl:i<(List.length v:Int):=oTr h0
   have hln:i.toNat<v.length:=by have:=hI.1;omega
   have hk:=mkBound hI hl (dflt (.pair (.int .i64) (.pair (.int .i64) (.pair (.int .i64) (.pair (.int .i64) (.int .i64)))))) hp0 hp1
   generalize hX:List.getD v i.toNat (dflt (.pair (.int .i64) (.pair (.int .i64) (.pair (.int .i64) (.pair (.int .i64) (.int .i64))))))=X at hk
   have hk:0≤k∧k+(((1+(1+(1+(1+1)))):Nat):Int)≤bnd:=hk
   have w0:IntKind.i64.wrap (k+1)=k+1:=wrapB (by omega) (by omega)
   have w1:IntKind.i64.wrap (k+1+1)=k+1+1:=wrapB (by omega) (by omega)
   have w2:IntKind.i64.wrap (k+1+1+1)=k+1+1+1:=wrapB (by omega) (by omega)
   have w3:IntKind.i64.wrap (k+1+1+1+1)=k+1+1+1+1:=wrapB (by omega) (by omega)
   have w4:IntKind.i64.wrap (k+1+1+1+1+1)=k+1+1+1+1+1:=wrapB (by omega) (by omega)
   refine Vs (Vq (Vb (Vq ?_)))
   refine Vr hG rfl ?_ ?_
   · show inRange i _
     exact mkRange hI hl
   refine Vm hG rfl (Vq ?_)
   refine Vr hG rfl ?_ ?_
   · show inRange i _
     simp only[List.length_set]
     exact mkRange hI hl
   refine Vm hG rfl (Vq ?_)
   refine Vr hG rfl ?_ ?_
   · show inRange i _
     simp only[List.length_set]
     exact mkRange hI hl
   refine Vm hG rfl (Vq ?_)
   refine Vr hG rfl ?_ ?_
   · show inRange i _
     simp only[List.length_set]
     exact mkRange hI hl
   refine Vm hG rfl (Vq ?_)
   refine Vr hG rfl ?_ ?_
   · show inRange i _
     simp only[List.length_set]
     exact mkRange hI hl
   refine Vn hG rfl (Vn hG rfl ?_)
   refine⟨rfl,?_⟩
   refine mkStep hI hl hbv (dflt (.pair (.int .i64) (.pair (.int .i64) (.pair (.int .i64) (.pair (.int .i64) (.int .i64)))))) ?_ ?_
   · rw[hX]
     try simp only[List.length_set,List.set_set,getD_setS hln,hX,cntF_eq,Sh.ty,w0,w1,w2,w3,w4]
     try rfl
   · rw[hX]
     show _=k+(((1+(1+(1+(1+1)))):Nat):Int)
     try simp only[List.length_set,List.set_set,getD_setS hln,hX,cntF_eq,Sh.ty,w0,w1,w2,w3,w4]
     try omega
 · have hl:¬i<(List.length v:Int):=oFa h0
   refine Vx (Vm hG rfl (Vt ?_))
   have e:=mkEnd hI hl
   refine⟨?_,?_,trivial⟩
   · show k=cntF (.slice (.pair (.int .i64) (.pair (.int .i64) (.pair (.int .i64) (.pair (.int .i64) (.int .i64)))))) a0 a1
     rw[cntF_eq];exact e.1
   · exact e.2
@[reducible] noncomputable def M58:MFun:=mF (.own (.pure (.pair (.int .i64) (.pair (.int .i64) (.int .i64)))))
set_option maxHeartbeats 2000000 in
theorem M58_ok:MeetsM Tryz.prog 58 M58:=by
 refine meetsM_of_vc (C:=mkCM 34 [4] [0,1,4,5,9] [] [] [] [0]) (mkCM_ok _ _ _ _ _ _ _) (fO _) Tryz.func58 rfl rfl rfl (by decide) rfl rfl rfl rfl ?_
 rintro a0 (a1:Int) hwf hin hpre ⟨⟩ hG rfl rfl
 show Vc _ _ [(0,⟨0,0,.c (.own (.pure (.pair (.int .i64) (.pair (.int .i64) (.int .i64))))) a0⟩),(1,⟨0,0,.c (.pure (.int .i64)) a1⟩)] _
 have hb:List.length a0≤bigLen:=hwf.1
 have hp0:0≤a1:=hpre.1
 have hp1:a1+((cellsL (cellsC (.pair (.int .i64) (.pair (.int .i64) (.int .i64)))) a0:Nat):Int)≤bnd:=hpre.2
 refine Vm hG rfl (Vq (Vm hG rfl (Vb ?_)))
 refine Vc.loopF [(0,false,.own (.pure (.pair (.int .i64) (.pair (.int .i64) (.int .i64))))),(1,false,.pure (.int .i64)),(5,false,.pure (.int .i64))] [4] (fun v=>mkInv (cellsC (.pair (.int .i64) (.pair (.int .i64) (.int .i64)))) (markC (.pair (.int .i64) (.pair (.int .i64) (.int .i64)))) a0 a1 v.1 v.2.1 v.2.2.1) (fun v=>((List.length v.1:Int)-v.2.2.1).toNat) rfl ?_ ?_
 · exact mkStart
 rintro⟨v,(k:Int),(i:Int),_⟩ hI
 have hI:mkInv (cellsC (.pair (.int .i64) (.pair (.int .i64) (.int .i64)))) (markC (.pair (.int .i64) (.pair (.int .i64) (.int .i64)))) a0 a1 v k i:=hI
 have hbv:v.length≤bigLen:=by rw[mkLen hI];exact hb
 refine Vq (Vm hG rfl ?_)
 refine Vk rfl ?_ ?_<;>intro h0
 · have hl:i<(List.length v:Int):=oTr h0
   have hln:i.toNat<v.length:=by have:=hI.1;omega
   have hk:=mkBound hI hl (dflt (.pair (.int .i64) (.pair (.int .i64) (.int .i64)))) hp0 hp1
   generalize hX:List.getD v i.toNat (dflt (.pair (.int .i64) (.pair (.int .i64) (.int .i64))))=X at hk
   have hk:0≤k∧k+(((1+(1+1)):Nat):Int)≤bnd:=hk
   have w0:IntKind.i64.wrap (k+1)=k+1:=wrapB (by omega) (by omega)
   have w1:IntKind.i64.wrap (k+1+1)=k+1+1:=wrapB (by omega) (by omega)
   have w2:IntKind.i64.wrap (k+1+1+1)=k+1+1+1:=wrapB (by omega) (by omega)
   refine Vs (Vq (Vb (Vq ?_)))
   refine Vr hG rfl ?_ ?_
   · show inRange i _
     exact mkRange hI hl
   refine Vm hG rfl (Vq ?_)
   refine Vr hG rfl ?_ ?_
   · show inRange i _
     simp only[List.length_set]
     exact mkRange hI hl
   refine Vm hG rfl (Vq ?_)
   refine Vr hG rfl ?_ ?_
   · show inRange i _
     simp only[List.length_set]
     exact mkRange hI hl
   refine Vn hG rfl (Vn hG rfl ?_)
   refine⟨rfl,?_⟩
   refine mkStep hI hl hbv (dflt (.pair (.int .i64) (.pair (.int .i64) (.int .i64)))) ?_ ?_
   · rw[hX]
     try simp only[List.length_set,List.set_set,getD_setS hln,hX,cntF_eq,Sh.ty,w0,w1,w2]
     try rfl
   · rw[hX]
     show _=k+(((1+(1+1)):Nat):Int)
     try simp only[List.length_set,List.set_set,getD_setS hln,hX,cntF_eq,Sh.ty,w0,w1,w2]
     try omega
 · have hl:¬i<(List.length v:Int):=oFa h0
   refine Vx (Vm hG rfl (Vt ?_))
   have e:=mkEnd hI hl
   refine⟨?_,?_,trivial⟩
   · show k=cntF (.slice (.pair (.int .i64) (.pair (.int .i64) (.int .i64)))) a0 a1
     rw[cntF_eq];exact e.1
   · exact e.2
@[reducible] noncomputable def M59:MFun:=mF (.own (.pure (.pair (.int .i64) (.pair (.int .i64) (.pair (.int .i64) (.int .i64))))))
set_option maxHeartbeats 2000000 in
theorem M59_ok:MeetsM Tryz.prog 59 M59:=by
 refine meetsM_of_vc (C:=mkCM 41 [4] [0,1,4,5,9] [] [] [] [0]) (mkCM_ok _ _ _ _ _ _ _) (fO _) Tryz.func59 rfl rfl rfl (by decide) rfl rfl rfl rfl ?_
 rintro a0 (a1:Int) hwf hin hpre ⟨⟩ hG rfl rfl
 show Vc _ _ [(0,⟨0,0,.c (.own (.pure (.pair (.int .i64) (.pair (.int .i64) (.pair (.int .i64) (.int .i64)))))) a0⟩),(1,⟨0,0,.c (.pure (.int .i64)) a1⟩)] _
 have hb:List.length a0≤bigLen:=hwf.1
 have hp0:0≤a1:=hpre.1
 have hp1:a1+((cellsL (cellsC (.pair (.int .i64) (.pair (.int .i64) (.pair (.int .i64) (.int .i64))))) a0:Nat):Int)≤bnd:=hpre.2
 refine Vm hG rfl (Vq (Vm hG rfl (Vb ?_)))
 refine Vc.loopF [(0,false,.own (.pure (.pair (.int .i64) (.pair (.int .i64) (.pair (.int .i64) (.int .i64)))))),(1,false,.pure (.int .i64)),(5,false,.pure (.int .i64))] [4] (fun v=>mkInv (cellsC (.pair (.int .i64) (.pair (.int .i64) (.pair (.int .i64) (.int .i64))))) (markC (.pair (.int .i64) (.pair (.int .i64) (.pair (.int .i64) (.int .i64))))) a0 a1 v.1 v.2.1 v.2.2.1) (fun v=>((List.length v.1:Int)-v.2.2.1).toNat) rfl ?_ ?_
 · exact mkStart
 rintro⟨v,(k:Int),(i:Int),_⟩ hI
 have hI:mkInv (cellsC (.pair (.int .i64) (.pair (.int .i64) (.pair (.int .i64) (.int .i64))))) (markC (.pair (.int .i64) (.pair (.int .i64) (.pair (.int .i64) (.int .i64))))) a0 a1 v k i:=hI
 have hbv:v.length≤bigLen:=by rw[mkLen hI];exact hb
 refine Vq (Vm hG rfl ?_)
 refine Vk rfl ?_ ?_<;>intro h0
 · have hl:i<(List.length v:Int):=oTr h0
   have hln:i.toNat<v.length:=by have:=hI.1;omega
   have hk:=mkBound hI hl (dflt (.pair (.int .i64) (.pair (.int .i64) (.pair (.int .i64) (.int .i64))))) hp0 hp1
   generalize hX:List.getD v i.toNat (dflt (.pair (.int .i64) (.pair (.int .i64) (.pair (.int .i64) (.int .i64)))))=X at hk
   have hk:0≤k∧k+(((1+(1+(1+1))):Nat):Int)≤bnd:=hk
   have w0:IntKind.i64.wrap (k+1)=k+1:=wrapB (by omega) (by omega)
   have w1:IntKind.i64.wrap (k+1+1)=k+1+1:=wrapB (by omega) (by omega)
   have w2:IntKind.i64.wrap (k+1+1+1)=k+1+1+1:=wrapB (by omega) (by omega)
   have w3:IntKind.i64.wrap (k+1+1+1+1)=k+1+1+1+1:=wrapB (by omega) (by omega)
   refine Vs (Vq (Vb (Vq ?_)))
   refine Vr hG rfl ?_ ?_
   · show inRange i _
     exact mkRange hI hl
   refine Vm hG rfl (Vq ?_)
   refine Vr hG rfl ?_ ?_
   · show inRange i _
     simp only[List.length_set]
     exact mkRange hI hl
   refine Vm hG rfl (Vq ?_)
   refine Vr hG rfl ?_ ?_
   · show inRange i _
     simp only[List.length_set]
     exact mkRange hI hl
   refine Vm hG rfl (Vq ?_)
   refine Vr hG rfl ?_ ?_
   · show inRange i _
     simp only[List.length_set]
     exact mkRange hI hl
   refine Vn hG rfl (Vn hG rfl ?_)
   refine⟨rfl,?_⟩
   refine mkStep hI hl hbv (dflt (.pair (.int .i64) (.pair (.int .i64) (.pair (.int .i64) (.int .i64))))) ?_ ?_
   · rw[hX]
     try simp only[List.length_set,List.set_set,getD_setS hln,hX,cntF_eq,Sh.ty,w0,w1,w2,w3]
     try rfl
   · rw[hX]
     show _=k+(((1+(1+(1+1))):Nat):Int)
     try simp only[List.length_set,List.set_set,getD_setS hln,hX,cntF_eq,Sh.ty,w0,w1,w2,w3]
     try omega
 · have hl:¬i<(List.length v:Int):=oFa h0
   refine Vx (Vm hG rfl (Vt ?_))
   have e:=mkEnd hI hl
   refine⟨?_,?_,trivial⟩
   · show k=cntF (.slice (.pair (.int .i64) (.pair (.int .i64) (.pair (.int .i64) (.int .i64))))) a0 a1
     rw[cntF_eq];exact e.1
   · exact e.2
@[reducible] noncomputable def M17:MFun:=mV (.pair (.own (.pure (.pair (.int .i64) (.pair (.int .i64) (.pair (.int .i64) (.pair (.int .i64) (.int .i64))))))) (.pair (.own (.pure (.pair (.int .i64) (.pair (.int .i64) (.int .i64))))) (.pair (.own (.pure (.pair (.int .i64) (.pair (.int .i64) (.pair (.int .i64) (.int .i64)))))) (.pure (.pair (.int .i64) (.int .i64))))))
theorem M17_ok:MeetsM Tryz.prog 17 M17:=by
 refine meetsM_of_vc (C:=mkCM 18 [4] [0,1,2,4] [] [⟨57,_,M57_ok⟩,⟨58,_,M58_ok⟩,⟨59,_,M59_ok⟩] [] [0]) (mkCM_ok _ _ _ _ _ _ _) (fO _) Tryz.func17 rfl rfl rfl (by decide) rfl rfl rfl rfl ?_
 rintro a0 (a1:Int) hwf hin hpre ⟨⟩ hG rfl rfl
 show Vc _ _ [(0,⟨0,0,.c (.pair (.own (.pure (.pair (.int .i64) (.pair (.int .i64) (.pair (.int .i64) (.pair (.int .i64) (.int .i64))))))) (.pair (.own (.pure (.pair (.int .i64) (.pair (.int .i64) (.int .i64))))) (.pair (.own (.pure (.pair (.int .i64) (.pair (.int .i64) (.pair (.int .i64) (.int .i64)))))) (.pure (.pair (.int .i64) (.int .i64)))))) a0⟩),(1,⟨0,0,.c (.pure (.int .i64)) a1⟩)] _
 have hp0:0≤a1:=hpre.1
 have hp1:a1+((cellsV (.pair (.slice (.pair (.int .i64) (.pair (.int .i64) (.pair (.int .i64) (.pair (.int .i64) (.int .i64)))))) (.pair (.slice (.pair (.int .i64) (.pair (.int .i64) (.int .i64)))) (.pair (.slice (.pair (.int .i64) (.pair (.int .i64) (.pair (.int .i64) (.int .i64))))) (.pair (.int .i64) (.int .i64))))) a0:Nat):Int)≤bnd:=hpre.2
 have hc:((cellsV (.pair (.slice (.pair (.int .i64) (.pair (.int .i64) (.pair (.int .i64) (.pair (.int .i64) (.int .i64)))))) (.pair (.slice (.pair (.int .i64) (.pair (.int .i64) (.int .i64)))) (.pair (.slice (.pair (.int .i64) (.pair (.int .i64) (.pair (.int .i64) (.int .i64))))) (.pair (.int .i64) (.int .i64))))) a0:Nat):Int)=((cellsC (.slice (.pair (.int .i64) (.pair (.int .i64) (.pair (.int .i64) (.pair (.int .i64) (.int .i64)))))) a0.1:Nat):Int)+((cellsC (.slice (.pair (.int .i64) (.pair (.int .i64) (.int .i64)))) a0.2.1:Nat):Int)+((cellsC (.slice (.pair (.int .i64) (.pair (.int .i64) (.pair (.int .i64) (.int .i64))))) a0.2.2.1:Nat):Int):=by
   show (((cellsC (.slice (.pair (.int .i64) (.pair (.int .i64) (.pair (.int .i64) (.pair (.int .i64) (.int .i64)))))) a0.1+(cellsC (.slice (.pair (.int .i64) (.pair (.int .i64) (.int .i64)))) a0.2.1+(cellsC (.slice (.pair (.int .i64) (.pair (.int .i64) (.pair (.int .i64) (.int .i64))))) a0.2.2.1+(0+0)))):Nat):Int)=_
   omega
 refine Vm hG rfl (Vq ?_)
 refine Vr hG rfl ?_ ?_
 · exact(show markPre (.slice (.pair (.int .i64) (.pair (.int .i64) (.pair (.int .i64) (.pair (.int .i64) (.int .i64)))))) a0.1 (a1)from⟨by omega,by omega⟩)
 refine Vq ?_
 refine Vr hG rfl ?_ ?_
 · have ce0:=cntF_eq (.slice (.pair (.int .i64) (.pair (.int .i64) (.pair (.int .i64) (.pair (.int .i64) (.int .i64)))))) a0.1 (a1)
   exact(show markPre (.slice (.pair (.int .i64) (.pair (.int .i64) (.int .i64)))) a0.2.1 (cntF (.slice (.pair (.int .i64) (.pair (.int .i64) (.pair (.int .i64) (.pair (.int .i64) (.int .i64)))))) a0.1 (a1))from⟨by omega,by omega⟩)
 refine Vq ?_
 refine Vr hG rfl ?_ ?_
 · have ce0:=cntF_eq (.slice (.pair (.int .i64) (.pair (.int .i64) (.pair (.int .i64) (.pair (.int .i64) (.int .i64)))))) a0.1 (a1)
   have ce1:=cntF_eq (.slice (.pair (.int .i64) (.pair (.int .i64) (.int .i64)))) a0.2.1 (cntF (.slice (.pair (.int .i64) (.pair (.int .i64) (.pair (.int .i64) (.pair (.int .i64) (.int .i64)))))) a0.1 (a1))
   exact(show markPre (.slice (.pair (.int .i64) (.pair (.int .i64) (.pair (.int .i64) (.int .i64))))) a0.2.2.1 (cntF (.slice (.pair (.int .i64) (.pair (.int .i64) (.int .i64)))) a0.2.1 (cntF (.slice (.pair (.int .i64) (.pair (.int .i64) (.pair (.int .i64) (.pair (.int .i64) (.int .i64)))))) a0.1 (a1)))from⟨by omega,by omega⟩)
 refine Vm hG rfl (Vt ?_)
 have ce0:=cntF_eq (.slice (.pair (.int .i64) (.pair (.int .i64) (.pair (.int .i64) (.pair (.int .i64) (.int .i64)))))) a0.1 (a1)
 have ce1:=cntF_eq (.slice (.pair (.int .i64) (.pair (.int .i64) (.int .i64)))) a0.2.1 (cntF (.slice (.pair (.int .i64) (.pair (.int .i64) (.pair (.int .i64) (.pair (.int .i64) (.int .i64)))))) a0.1 (a1))
 have ce2:=cntF_eq (.slice (.pair (.int .i64) (.pair (.int .i64) (.pair (.int .i64) (.int .i64))))) a0.2.2.1 (cntF (.slice (.pair (.int .i64) (.pair (.int .i64) (.int .i64)))) a0.2.1 (cntF (.slice (.pair (.int .i64) (.pair (.int .i64) (.pair (.int .i64) (.pair (.int .i64) (.int .i64)))))) a0.1 (a1)))
 refine⟨?_,?_,trivial⟩
 · show cntF (.slice (.pair (.int .i64) (.pair (.int .i64) (.pair (.int .i64) (.int .i64))))) a0.2.2.1 (cntF (.slice (.pair (.int .i64) (.pair (.int .i64) (.int .i64)))) a0.2.1 (cntF (.slice (.pair (.int .i64) (.pair (.int .i64) (.pair (.int .i64) (.pair (.int .i64) (.int .i64)))))) a0.1 (a1)))=cntV (.pair (.slice (.pair (.int .i64) (.pair (.int .i64) (.pair (.int .i64) (.pair (.int .i64) (.int .i64)))))) (.pair (.slice (.pair (.int .i64) (.pair (.int .i64) (.int .i64)))) (.pair (.slice (.pair (.int .i64) (.pair (.int .i64) (.pair (.int .i64) (.int .i64))))) (.pair (.int .i64) (.int .i64))))) a0 a1
   rw[cntV_eq (.pair (.slice (.pair (.int .i64) (.pair (.int .i64) (.pair (.int .i64) (.pair (.int .i64) (.int .i64)))))) (.pair (.slice (.pair (.int .i64) (.pair (.int .i64) (.int .i64)))) (.pair (.slice (.pair (.int .i64) (.pair (.int .i64) (.pair (.int .i64) (.int .i64))))) (.pair (.int .i64) (.int .i64))))) a0 a1]
   omega
 · exact(Prod.ext (congrArg (markC (.slice (.pair (.int .i64) (.pair (.int .i64) (.pair (.int .i64) (.pair (.int .i64) (.int .i64)))))) a0.1) (show a1=a1 from by omega)) (Prod.ext (congrArg (markC (.slice (.pair (.int .i64) (.pair (.int .i64) (.int .i64)))) a0.2.1) (show cntF (.slice (.pair (.int .i64) (.pair (.int .i64) (.pair (.int .i64) (.pair (.int .i64) (.int .i64)))))) a0.1 (a1)=a1+((cellsC (.slice (.pair (.int .i64) (.pair (.int .i64) (.pair (.int .i64) (.pair (.int .i64) (.int .i64)))))) a0.1:Nat):Int)from by omega)) (Prod.ext (congrArg (markC (.slice (.pair (.int .i64) (.pair (.int .i64) (.pair (.int .i64) (.int .i64))))) a0.2.2.1) (show cntF (.slice (.pair (.int .i64) (.pair (.int .i64) (.int .i64)))) a0.2.1 (cntF (.slice (.pair (.int .i64) (.pair (.int .i64) (.pair (.int .i64) (.pair (.int .i64) (.int .i64)))))) a0.1 (a1))=a1+((cellsC (.slice (.pair (.int .i64) (.pair (.int .i64) (.pair (.int .i64) (.pair (.int .i64) (.int .i64)))))) a0.1:Nat):Int)+((cellsC (.slice (.pair (.int .i64) (.pair (.int .i64) (.int .i64)))) a0.2.1:Nat):Int)from by omega)) (Prod.ext rfl rfl))))
@[reducible] noncomputable def M63:MFun:=mF (.own (.pure (.int .i64)))
set_option maxHeartbeats 2000000 in
theorem M63_ok:MeetsM Tryz.prog 63 M63:=by
 refine meetsM_of_vc (C:=mkCM 19 [4] [0,1,4,5,9] [] [] [] [0]) (mkCM_ok _ _ _ _ _ _ _) (fO _) Tryz.func63 rfl rfl rfl (by decide) rfl rfl rfl rfl ?_
 rintro a0 (a1:Int) hwf hin hpre ⟨⟩ hG rfl rfl
 show Vc _ _ [(0,⟨0,0,.c (.own (.pure (.int .i64))) a0⟩),(1,⟨0,0,.c (.pure (.int .i64)) a1⟩)] _
 have hb:List.length a0≤bigLen:=hwf.1
 have hp0:0≤a1:=hpre.1
 have hp1:a1+((cellsL (cellsC (.int .i64)) a0:Nat):Int)≤bnd:=hpre.2
 refine Vm hG rfl (Vq (Vm hG rfl (Vb ?_)))
 refine Vc.loopF [(0,false,.own (.pure (.int .i64))),(1,false,.pure (.int .i64)),(5,false,.pure (.int .i64))] [4] (fun v=>mkInv (cellsC (.int .i64)) (markC (.int .i64)) a0 a1 v.1 v.2.1 v.2.2.1) (fun v=>((List.length v.1:Int)-v.2.2.1).toNat) rfl ?_ ?_
 · exact mkStart
 rintro⟨v,(k:Int),(i:Int),_⟩ hI
 have hI:mkInv (cellsC (.int .i64)) (markC (.int .i64)) a0 a1 v k i:=hI
 have hbv:v.length≤bigLen:=by rw[mkLen hI];exact hb
 refine Vq (Vm hG rfl ?_)
 refine Vk rfl ?_ ?_<;>intro h0
 · have hl:i<(List.length v:Int):=oTr h0
   have hln:i.toNat<v.length:=by have:=hI.1;omega
   have hk:=mkBound hI hl (dflt (.int .i64)) hp0 hp1
   generalize hX:List.getD v i.toNat (dflt (.int .i64))=X at hk
   have hk:0≤k∧k+((1:Nat):Int)≤bnd:=hk
   have w0:IntKind.i64.wrap (k+1)=k+1:=wrapB (by omega) (by omega)
   refine Vs (Vq (Vb (Vq ?_)))
   refine Vr hG rfl ?_ ?_
   · show inRange i _
     exact mkRange hI hl
   refine Vn hG rfl (Vn hG rfl ?_)
   refine⟨rfl,?_⟩
   refine mkStep hI hl hbv (dflt (.int .i64)) ?_ ?_
   · rw[hX]
     try simp only[List.length_set,List.set_set,getD_setS hln,hX,cntF_eq,Sh.ty,w0]
     try rfl
   · rw[hX]
     show _=k+((1:Nat):Int)
     try simp only[List.length_set,List.set_set,getD_setS hln,hX,cntF_eq,Sh.ty,w0]
     try omega
 · have hl:¬i<(List.length v:Int):=oFa h0
   refine Vx (Vm hG rfl (Vt ?_))
   have e:=mkEnd hI hl
   refine⟨?_,?_,trivial⟩
   · show k=cntF (.slice (.int .i64)) a0 a1
     rw[cntF_eq];exact e.1
   · exact e.2
@[reducible] noncomputable def M99:MFun:=mF (.own (.pair (.pure (.int .i64)) (.pair (.own (.pure (.int .i64))) (.pure (.int .i64)))))
set_option maxHeartbeats 2000000 in
theorem M99_ok:MeetsM Tryz.prog 99 M99:=by
 refine meetsM_of_vc (C:=mkCM 34 [4] [0,1,4,5,9] [] [⟨63,_,M63_ok⟩] [] [0]) (mkCM_ok _ _ _ _ _ _ _) (fO _) Tryz.func99 rfl rfl rfl (by decide) rfl rfl rfl rfl ?_
 rintro a0 (a1:Int) hwf hin hpre ⟨⟩ hG rfl rfl
 show Vc _ _ [(0,⟨0,0,.c (.own (.pair (.pure (.int .i64)) (.pair (.own (.pure (.int .i64))) (.pure (.int .i64))))) a0⟩),(1,⟨0,0,.c (.pure (.int .i64)) a1⟩)] _
 have hb:List.length a0≤bigLen:=hwf.1
 have hp0:0≤a1:=hpre.1
 have hp1:a1+((cellsL (cellsC (.pair (.int .i64) (.pair (.slice (.int .i64)) (.int .i64)))) a0:Nat):Int)≤bnd:=hpre.2
 refine Vm hG rfl (Vq (Vm hG rfl (Vb ?_)))
 refine Vc.loopF [(0,false,.own (.pair (.pure (.int .i64)) (.pair (.own (.pure (.int .i64))) (.pure (.int .i64))))),(1,false,.pure (.int .i64)),(5,false,.pure (.int .i64))] [4] (fun v=>mkInv (cellsC (.pair (.int .i64) (.pair (.slice (.int .i64)) (.int .i64)))) (markC (.pair (.int .i64) (.pair (.slice (.int .i64)) (.int .i64)))) a0 a1 v.1 v.2.1 v.2.2.1) (fun v=>((List.length v.1:Int)-v.2.2.1).toNat) rfl ?_ ?_
 · exact mkStart
 rintro⟨v,(k:Int),(i:Int),_⟩ hI
 have hI:mkInv (cellsC (.pair (.int .i64) (.pair (.slice (.int .i64)) (.int .i64)))) (markC (.pair (.int .i64) (.pair (.slice (.int .i64)) (.int .i64)))) a0 a1 v k i:=hI
 have hbv:v.length≤bigLen:=by rw[mkLen hI];exact hb
 refine Vq (Vm hG rfl ?_)
 refine Vk rfl ?_ ?_<;>intro h0
 · have hl:i<(List.length v:Int):=oTr h0
   have hln:i.toNat<v.length:=by have:=hI.1;omega
   have hk:=mkBound hI hl (dflt (.pair (.int .i64) (.pair (.slice (.int .i64)) (.int .i64)))) hp0 hp1
   generalize hX:List.getD v i.toNat (dflt (.pair (.int .i64) (.pair (.slice (.int .i64)) (.int .i64))))=X at hk
   have hk:0≤k∧k+(((1+((cellsC (.slice (.int .i64)) X.2.1)+1)):Nat):Int)≤bnd:=hk
   have w0:IntKind.i64.wrap (k+1)=k+1:=wrapB (by omega) (by omega)
   have w1:IntKind.i64.wrap (k+1+((cellsC (.slice (.int .i64)) X.2.1:Nat):Int)+1)=k+1+((cellsC (.slice (.int .i64)) X.2.1:Nat):Int)+1:=wrapB (by omega) (by omega)
   refine Vs (Vq (Vb (Vq ?_)))
   refine Vr hG rfl ?_ ?_
   · show inRange i _
     exact mkRange hI hl
   refine Vm hG rfl (Vq ?_)
   refine Vr hG rfl ?_ ?_
   · refine⟨?_,?_⟩
     · show inRange i _
       simp only[List.length_set]
       exact mkRange hI hl
     · show markPre (.slice (.int .i64)) _ _
       try simp only[List.length_set,List.set_set,getD_setS hln,hX,cntF_eq,Sh.ty,w0,w1]
       exact⟨by omega,by omega⟩
   refine Vq ?_
   refine Vr hG rfl ?_ ?_
   · show inRange i _
     simp only[List.length_set]
     exact mkRange hI hl
   refine Vn hG rfl (Vn hG rfl ?_)
   refine⟨rfl,?_⟩
   refine mkStep hI hl hbv (dflt (.pair (.int .i64) (.pair (.slice (.int .i64)) (.int .i64)))) ?_ ?_
   · rw[hX]
     try simp only[List.length_set,List.set_set,getD_setS hln,hX,cntF_eq,Sh.ty,w0,w1]
     try rfl
   · rw[hX]
     show _=k+(((1+((cellsC (.slice (.int .i64)) X.2.1)+1)):Nat):Int)
     try simp only[List.length_set,List.set_set,getD_setS hln,hX,cntF_eq,Sh.ty,w0,w1]
     try omega
 · have hl:¬i<(List.length v:Int):=oFa h0
   refine Vx (Vm hG rfl (Vt ?_))
   have e:=mkEnd hI hl
   refine⟨?_,?_,trivial⟩
   · show k=cntF (.slice (.pair (.int .i64) (.pair (.slice (.int .i64)) (.int .i64)))) a0 a1
     rw[cntF_eq];exact e.1
   · exact e.2
@[reducible] noncomputable def M169:MFun:=mF (.own (.pure (.pair (.int .i64) (.bool))))
set_option maxHeartbeats 2000000 in
theorem M169_ok:MeetsM Tryz.prog 169 M169:=by
 refine meetsM_of_vc (C:=mkCM 29 [4] [0,1,4,5,9] [] [] [] [0]) (mkCM_ok _ _ _ _ _ _ _) (fO _) Tryz.func169 rfl rfl rfl (by decide) rfl rfl rfl rfl ?_
 rintro a0 (a1:Int) hwf hin hpre ⟨⟩ hG rfl rfl
 show Vc _ _ [(0,⟨0,0,.c (.own (.pure (.pair (.int .i64) (.bool)))) a0⟩),(1,⟨0,0,.c (.pure (.int .i64)) a1⟩)] _
 have hb:List.length a0≤bigLen:=hwf.1
 have hp0:0≤a1:=hpre.1
 have hp1:a1+((cellsL (cellsC (.pair (.int .i64) (.bool))) a0:Nat):Int)≤bnd:=hpre.2
 refine Vm hG rfl (Vq (Vm hG rfl (Vb ?_)))
 refine Vc.loopF [(0,false,.own (.pure (.pair (.int .i64) (.bool)))),(1,false,.pure (.int .i64)),(5,false,.pure (.int .i64))] [4] (fun v=>mkInv (cellsC (.pair (.int .i64) (.bool))) (markC (.pair (.int .i64) (.bool))) a0 a1 v.1 v.2.1 v.2.2.1) (fun v=>((List.length v.1:Int)-v.2.2.1).toNat) rfl ?_ ?_
 · exact mkStart
 rintro⟨v,(k:Int),(i:Int),_⟩ hI
 have hI:mkInv (cellsC (.pair (.int .i64) (.bool))) (markC (.pair (.int .i64) (.bool))) a0 a1 v k i:=hI
 have hbv:v.length≤bigLen:=by rw[mkLen hI];exact hb
 refine Vq (Vm hG rfl ?_)
 refine Vk rfl ?_ ?_<;>intro h0
 · have hl:i<(List.length v:Int):=oTr h0
   have hln:i.toNat<v.length:=by have:=hI.1;omega
   have hk:=mkBound hI hl (dflt (.pair (.int .i64) (.bool))) hp0 hp1
   generalize hX:List.getD v i.toNat (dflt (.pair (.int .i64) (.bool)))=X at hk
   have hk:0≤k∧k+(((1+1):Nat):Int)≤bnd:=hk
   have w0:IntKind.i64.wrap (k+1)=k+1:=wrapB (by omega) (by omega)
   have w1:IntKind.i64.wrap (k+1+1)=k+1+1:=wrapB (by omega) (by omega)
   refine Vs (Vq (Vb (Vq ?_)))
   refine Vr hG rfl ?_ ?_
   · show inRange i _
     exact mkRange hI hl
   refine Vm hG rfl (Vq ?_)
   refine Vr hG rfl ?_ ?_
   · refine⟨by decide,?_⟩
     show inRange i _
     simp only[List.length_set]
     exact mkRange hI hl
   refine Vn hG rfl (Vn hG rfl ?_)
   refine⟨rfl,?_⟩
   refine mkStep hI hl hbv (dflt (.pair (.int .i64) (.bool))) ?_ ?_
   · rw[hX]
     try simp only[List.length_set,List.set_set,getD_setS hln,hX,cntF_eq,Sh.ty,w0,w1]
     try rfl
   · rw[hX]
     show _=k+(((1+1):Nat):Int)
     try simp only[List.length_set,List.set_set,getD_setS hln,hX,cntF_eq,Sh.ty,w0,w1]
     try omega
 · have hl:¬i<(List.length v:Int):=oFa h0
   refine Vx (Vm hG rfl (Vt ?_))
   have e:=mkEnd hI hl
   refine⟨?_,?_,trivial⟩
   · show k=cntF (.slice (.pair (.int .i64) (.bool))) a0 a1
     rw[cntF_eq];exact e.1
   · exact e.2
@[reducible] noncomputable def M101:MFun:=mF (.own (.pure (.pair (.int .i64) (.pair (.int .i64) (.pair (.int .i64) (.pair (.int .i64) (.int .i64)))))))
set_option maxHeartbeats 2000000 in
theorem M101_ok:MeetsM Tryz.prog 101 M101:=by
 refine meetsM_of_vc (C:=mkCM 48 [4] [0,1,4,5,9] [] [] [] [0]) (mkCM_ok _ _ _ _ _ _ _) (fO _) Tryz.func101 rfl rfl rfl (by decide) rfl rfl rfl rfl ?_
 rintro a0 (a1:Int) hwf hin hpre ⟨⟩ hG rfl rfl
 show Vc _ _ [(0,⟨0,0,.c (.own (.pure (.pair (.int .i64) (.pair (.int .i64) (.pair (.int .i64) (.pair (.int .i64) (.int .i64))))))) a0⟩),(1,⟨0,0,.c (.pure (.int .i64)) a1⟩)] _
 have hb:List.length a0≤bigLen:=hwf.1
 have hp0:0≤a1:=hpre.1
 have hp1:a1+((cellsL (cellsC (.pair (.int .i64) (.pair (.int .i64) (.pair (.int .i64) (.pair (.int .i64) (.int .i64)))))) a0:Nat):Int)≤bnd:=hpre.2
 refine Vm hG rfl (Vq (Vm hG rfl (Vb ?_)))
 refine Vc.loopF [(0,false,.own (.pure (.pair (.int .i64) (.pair (.int .i64) (.pair (.int .i64) (.pair (.int .i64) (.int .i64))))))),(1,false,.pure (.int .i64)),(5,false,.pure (.int .i64))] [4] (fun v=>mkInv (cellsC (.pair (.int .i64) (.pair (.int .i64) (.pair (.int .i64) (.pair (.int .i64) (.int .i64)))))) (markC (.pair (.int .i64) (.pair (.int .i64) (.pair (.int .i64) (.pair (.int .i64) (.int .i64)))))) a0 a1 v.1 v.2.1 v.2.2.1) (fun v=>((List.length v.1:Int)-v.2.2.1).toNat) rfl ?_ ?_
 · exact mkStart
 rintro⟨v,(k:Int),(i:Int),_⟩ hI
 have hI:mkInv (cellsC (.pair (.int .i64) (.pair (.int .i64) (.pair (.int .i64) (.pair (.int .i64) (.int .i64)))))) (markC (.pair (.int .i64) (.pair (.int .i64) (.pair (.int .i64) (.pair (.int .i64) (.int .i64)))))) a0 a1 v k i:=hI
 have hbv:v.length≤bigLen:=by rw[mkLen hI];exact hb
 refine Vq (Vm hG rfl ?_)
 refine Vk rfl ?_ ?_<;>intro h0
 · have hl:i<(List.length v:Int):=oTr h0
   have hln:i.toNat<v.length:=by have:=hI.1;omega
   have hk:=mkBound hI hl (dflt (.pair (.int .i64) (.pair (.int .i64) (.pair (.int .i64) (.pair (.int .i64) (.int .i64)))))) hp0 hp1
   generalize hX:List.getD v i.toNat (dflt (.pair (.int .i64) (.pair (.int .i64) (.pair (.int .i64) (.pair (.int .i64) (.int .i64))))))=X at hk
   have hk:0≤k∧k+(((1+(1+(1+(1+1)))):Nat):Int)≤bnd:=hk
   have w0:IntKind.i64.wrap (k+1)=k+1:=wrapB (by omega) (by omega)
   have w1:IntKind.i64.wrap (k+1+1)=k+1+1:=wrapB (by omega) (by omega)
   have w2:IntKind.i64.wrap (k+1+1+1)=k+1+1+1:=wrapB (by omega) (by omega)
   have w3:IntKind.i64.wrap (k+1+1+1+1)=k+1+1+1+1:=wrapB (by omega) (by omega)
   have w4:IntKind.i64.wrap (k+1+1+1+1+1)=k+1+1+1+1+1:=wrapB (by omega) (by omega)
   refine Vs (Vq (Vb (Vq ?_)))
   refine Vr hG rfl ?_ ?_
   · show inRange i _
     exact mkRange hI hl
   refine Vm hG rfl (Vq ?_)
   refine Vr hG rfl ?_ ?_
   · show inRange i _
     simp only[List.length_set]
     exact mkRange hI hl
   refine Vm hG rfl (Vq ?_)
   refine Vr hG rfl ?_ ?_
   · show inRange i _
     simp only[List.length_set]
     exact mkRange hI hl
   refine Vm hG rfl (Vq ?_)
   refine Vr hG rfl ?_ ?_
   · show inRange i _
     simp only[List.length_set]
     exact mkRange hI hl
   refine Vm hG rfl (Vq ?_)
   refine Vr hG rfl ?_ ?_
   · show inRange i _
     simp only[List.length_set]
     exact mkRange hI hl
   refine Vn hG rfl (Vn hG rfl ?_)
   refine⟨rfl,?_⟩
   refine mkStep hI hl hbv (dflt (.pair (.int .i64) (.pair (.int .i64) (.pair (.int .i64) (.pair (.int .i64) (.int .i64)))))) ?_ ?_
   · rw[hX]
     try simp only[List.length_set,List.set_set,getD_setS hln,hX,cntF_eq,Sh.ty,w0,w1,w2,w3,w4]
     try rfl
   · rw[hX]
     show _=k+(((1+(1+(1+(1+1)))):Nat):Int)
     try simp only[List.length_set,List.set_set,getD_setS hln,hX,cntF_eq,Sh.ty,w0,w1,w2,w3,w4]
     try omega
 · have hl:¬i<(List.length v:Int):=oFa h0
   refine Vx (Vm hG rfl (Vt ?_))
   have e:=mkEnd hI hl
   refine⟨?_,?_,trivial⟩
   · show k=cntF (.slice (.pair (.int .i64) (.pair (.int .i64) (.pair (.int .i64) (.pair (.int .i64) (.int .i64)))))) a0 a1
     rw[cntF_eq];exact e.1
   · exact e.2
end Fw
