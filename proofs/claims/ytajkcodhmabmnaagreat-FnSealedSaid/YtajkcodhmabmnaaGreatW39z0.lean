/- Walks of functions of the program: what each computes. Conditions: those that each contract names. -/
import Derived.Test.YtajkcodhmabmnaaGreatW39T
import Derived.Test.YtajkcodhmabmnaaGreatW39i0
import Derived.Test.YtajkcodhmabmnaaGreatW39i1
import Derived.Test.YtajkcodhmabmnaaGreatW39m0
import Derived.Test.YtajkcodhmabmnaaGreatW39s1
namespace Fw
open Go Go.Proofs
set_option linter.unusedSimpArgs false
set_option maxRecDepth 100000
noncomputable def F3:Fun:=⟨[.slice (.int .u8)],[.pure (.bool)],fun _=>True,fun x=>((fun _=>true) x.1,())⟩
theorem F3_ok:Meets Tryz.prog 3 F3:=by
 refine mZ (C:=mkC 113 [2] [5,0,2,3,4,6,7,8,9,10,11,12,14,29,49,54,112] [⟨6,_,F6_ok⟩,⟨7,_,F7_ok⟩,⟨8,_,F8_ok⟩,⟨9,_,F9_ok⟩,⟨10,_,F10_ok⟩,⟨11,_,F11_ok⟩,⟨12,_,F12_ok⟩,⟨15,_,F15_ok⟩,⟨14,_,F14_ok⟩,⟨13,_,F13_ok⟩,⟨16,_,F16_ok⟩]) (mO _ _ _ _) (fO _) Tryz.func3 rfl rfl rfl (by decide) rfl ?_
 rintro⟨a0,_⟩ hwf hpre ⟨⟩ hG rfl rfl
 show Vc _ _ [(0,⟨0,0,.c Z1 a0⟩)] _
 have hb:List.length a0≤bigLen:=hwf.1.1
 have hS:=sealD_sm hb
 have hSt:Sm big20 (.slice TStamp) (sealD a0).2.2:=saSt_sm a0
 refine Vm hG rfl (Vq (Vm hG rfl ?_))
 refine Vk rfl ?_ ?_<;>intro h0
 · refine Vm hG rfl (Vt ?_)
   refine⟨?_,trivial⟩
   exact rfl
 · refine Vs (Vq (VrT hG rfl (by trivial) (Vq ?_)))
   refine Vr hG rfl ?_ ?_
   · repeat' (first | exact trivial | exact hS | exact hSt | refine And.intro ?_ ?_ | intro _)
   refine Vq (Vm hG rfl ?_)
   refine Vk rfl ?_ ?_<;>intro h1
   · have g1:(sealF (sealD a0).1 (sealD a0).2.1 (sealD a0).2.2).2=false:=notT' h1
     refine Vm hG rfl (Vt ?_)
     refine⟨?_,trivial⟩
     exact sealSame g1
   · have g1:(sealF (sealD a0).1 (sealD a0).2.1 (sealD a0).2.2).2=true:=notF h1
     have hbi:=sealBig g1
     refine Vs (Vq ?_)
     refine Vr hG rfl ?_ ?_
     · repeat' (first | exact trivial | exact hS | refine And.intro ?_ ?_ | intro _)
     refine Vq (Vq ?_)
     refine VrD mixed hG rfl (by kernel_rfl) ?_ ?_
     · repeat' (first | exact trivial | refine And.intro ?_ ?_ | intro _)
     refine Vk rfl ?_ ?_<;>intro h2
     · exact(fs_bad hS g1 h2).elim
     · refine Vs (Vq (Vm hG rfl (Vb ?_)))
       refine Vc.frz 6 rfl ?_
       refine Vc.loopF [(9,false,.pure (.int .i64))] [5,0,3,4,6,7,8,14,29,49] (fun v=>upInv (sealF (sealD a0).1 (sealD a0).2.1 (sealD a0).2.2).1.2 v.1) (fun v=>((List.length (sealF (sealD a0).1 (sealD a0).2.1 (sealD a0).2.2).1.2:Int)-v.1).toNat) rfl ?_ ?_
       · exact upStart
       rintro⟨(i:Int),_⟩ hI
       have hI:upInv (sealF (sealD a0).1 (sealD a0).2.1 (sealD a0).2.2).1.2 i:=hI
       refine Vq (Vm hG rfl ?_)
       refine Vk rfl ?_ ?_<;>intro h3
       · have hl:i<(List.length (sealF (sealD a0).1 (sealD a0).2.1 (sealD a0).2.2).1.2:Int):=oTr h3
         have hF:=fs_facts hS hSt g1 hI hl
         have hr:=upRange hI hl
         refine Vs (Vq (Vb (Vq ?_)))
         refine Vr hG rfl ?_ ?_
         · repeat' (first | exact trivial | exact hr | refine And.intro ?_ ?_ | intro _)
         refine Vm hG rfl (Vq ?_)
         refine Vr hG rfl ?_ ?_
         · repeat' (first | exact trivial | exact hF.1 | refine And.intro ?_ ?_ | intro _)
         refine Vq ?_
         refine VrD mixed hG rfl (by kernel_rfl) ?_ ?_
         · repeat' (first | exact trivial | exact hr | exact hF.2.1 | exact hF.2.2.1.1 | exact hF.2.2.1.2 | refine And.intro ?_ ?_ | intro _)
         refine Vk rfl ?_ ?_<;>intro h4
         · exact(fsNo hF.2.2.2.1 hF.2.2.2.2.1 hF.2.2.2.2.2.1 hF.2.2.2.2.2.2 h4).elim
         · refine Vs (Vn hG rfl ?_)
           refine⟨rfl,?_⟩
           exact⟨(upStep hI hl hbi).1,(upStep hI hl hbi).2.2⟩
       · have hl:¬i<(List.length (sealF (sealD a0).1 (sealD a0).2.1 (sealD a0).2.2).1.2:Int):=oFa h3
         refine Vx (Vm hG rfl (Vt ?_))
         refine⟨?_,trivial⟩
         exact rfl
end Fw
