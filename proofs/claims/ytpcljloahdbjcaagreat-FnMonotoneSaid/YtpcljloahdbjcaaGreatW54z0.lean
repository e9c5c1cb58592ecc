/- Walks of functions of the program: what each computes. Conditions: those that each contract names. -/
import Derived.Test.YtpcljloahdbjcaaGreatW54T
import Derived.Test.YtpcljloahdbjcaaGreatW54i3
import Derived.Test.YtpcljloahdbjcaaGreatW54i4
import Derived.Test.YtpcljloahdbjcaaGreatW54m0
import Derived.Test.YtpcljloahdbjcaaGreatW54s3
import Derived.Test.YtpcljloahdbjcaaGreatW54s5
set_option linter.unusedVariables false
namespace Fw
open Go Go.Proofs
set_option linter.unusedSimpArgs false
set_option maxRecDepth 100000
noncomputable def F8:Fun:=⟨[.slice (.int .u8)],[.pure (.bool)],fun _=>True,fun x=>((fun _=>true) x.1,())⟩
set_option maxHeartbeats 4000000 in
theorem F8_ok:Meets Tryz.prog 8 F8:=by
 refine mZ (C:=mkC 62 [2] [0,2,3,4,5,6,7,8,9,10,12,34,49,53] [⟨10,_,F10_ok⟩,⟨21,_,F21_ok⟩,⟨33,_,F33_ok⟩,⟨63,_,F63_ok⟩,⟨64,_,F64_ok⟩,⟨22,_,F22_ok⟩,⟨65,_,F65_ok⟩,⟨66,_,F66_ok⟩,⟨67,_,F67_ok⟩]) (mO _ _ _ _) (fO _) Tryz.func8 rfl rfl rfl (by decide) rfl ?_
 rintro⟨a0,_⟩ hwf hpre ⟨⟩ hG rfl rfl
 show Vc _ _ [(0,⟨0,0,.c Z1 a0⟩)] _
 have hb:List.length a0≤bigLen:=hwf.1.1
 have tA:=bcTA hb
 have tB:=bcTB hb
 have tJ:=bcTJ hb
 have tK:=bcTK hb
 have sA:=tinyE_big tA
 have sB:=tinyE_big tB
 have sJ:=tinyE_big tJ
 have sK:=tinyE_big tK
 have cA:=tinyCells tA
 have cB:=tinyCells tB
 have cJ:=tinyCells tJ
 have cK:=tinyCells tK
 refine Vm hG rfl (Vq (Vq ?_))
 refine Vr hG rfl ?_ ?_
 · repeat' (first | exact trivial | exact hb | exact sA | exact sB | exact sJ | exact sK | exact cA | exact cB | exact cJ | exact cK | exact sA.1 | exact sJ.1 | exact sA.2 | exact sJ.2 | exact trivial | refine And.intro ?_ ?_ | intro _)
 refine Vk rfl ?_ ?_<;>intro h0
 · refine Vm hG rfl (Vt ?_)
   refine⟨?_,trivial⟩
   exact rfl
 · refine Vs (Vq ?_)
   refine VrT hG rfl ?_ ?_
   · repeat' (first | exact trivial | exact hb | exact sA | exact sB | exact sJ | exact sK | exact cA | exact cB | exact cJ | exact cK | exact sA.1 | exact sJ.1 | exact sA.2 | exact sJ.2 | exact trivial | refine And.intro ?_ ?_ | intro _)
   refine Vq ?_
   refine Vr hG rfl ?_ ?_
   · repeat' (first | exact trivial | exact hb | exact sA | exact sB | exact sJ | exact sK | exact cA | exact cB | exact cJ | exact cK | exact sA.1 | exact sJ.1 | exact sA.2 | exact sJ.2 | exact trivial | refine And.intro ?_ ?_ | intro _)
   refine Vq (Vq ?_)
   refine VrD mixed hG rfl (by kernel_rfl) ?_ ?_
   · repeat' (first | exact trivial | exact hb | exact sA | exact sB | exact sJ | exact sK | exact cA | exact cB | exact cJ | exact cK | exact sA.1 | exact sJ.1 | exact sA.2 | exact sJ.2 | exact trivial | refine And.intro ?_ ?_ | intro _)
   refine Vk rfl ?_ ?_<;>intro h1
   · exact(moBad h1).elim
   · refine Vs (Vq ?_)
     refine Vr hG rfl ?_ ?_
     · repeat' (first | exact trivial | exact hb | exact sA | exact sB | exact sJ | exact sK | exact cA | exact cB | exact cJ | exact cK | exact sA.1 | exact sJ.1 | exact sA.2 | exact sJ.2 | exact trivial | refine And.intro ?_ ?_ | intro _)
     refine Vq ?_
     refine Vr hG rfl ?_ ?_
     · repeat' (first | exact trivial | exact hb | exact sA | exact sB | exact sJ | exact sK | exact cA | exact cB | exact cJ | exact cK | exact sA.1 | exact sJ.1 | exact sA.2 | exact sJ.2 | exact trivial | refine And.intro ?_ ?_ | intro _)
     refine Vq (Vq ?_)
     refine Vr hG rfl ?_ ?_
     · repeat' (first | exact trivial | exact hb | exact sA | exact sB | exact sJ | exact sK | exact cA | exact cB | exact cJ | exact cK | exact sA.1 | exact sJ.1 | exact sA.2 | exact sJ.2 | exact trivial | refine And.intro ?_ ?_ | intro _)
     refine Vk rfl ?_ ?_<;>intro h2
     · refine Vm hG rfl (Vt ?_)
       refine⟨?_,trivial⟩
       exact rfl
     · refine Vs (Vq (Vq ?_))
       refine Vr hG rfl ?_ ?_
       · repeat' (first | exact trivial | exact hb | exact sA | exact sB | exact sJ | exact sK | exact cA | exact cB | exact cJ | exact cK | exact sA.1 | exact sJ.1 | exact sA.2 | exact sJ.2 | exact trivial | refine And.intro ?_ ?_ | intro _)
       refine Vk rfl ?_ ?_<;>intro h3
       · exact(moBad2 tJ (tinyLenU tJ) h2 h3).elim
       · refine Vs (Vq ?_)
         refine Vr hG rfl ?_ ?_
         · repeat' (first | exact trivial | exact hb | exact sA | exact sB | exact sJ | exact sK | exact cA | exact cB | exact cJ | exact cK | exact sA.1 | exact sJ.1 | exact sA.2 | exact sJ.2 | exact trivial | refine And.intro ?_ ?_ | intro _)
         refine Vt ?_
         refine⟨?_,trivial⟩
         exact moFin tJ (tinyLenU tJ) h2
end Fw
