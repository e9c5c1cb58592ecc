/- Walks of functions of the program: what each computes. Conditions: those that each contract names. -/
import Derived.Test.YtajkcodhmabmnaaGreatW56T
import Derived.Test.YtajkcodhmabmnaaGreatW56i0
import Derived.Test.YtajkcodhmabmnaaGreatW56i4
import Derived.Test.YtajkcodhmabmnaaGreatW56m0
import Derived.Test.YtajkcodhmabmnaaGreatW56s3
import Derived.Test.YtajkcodhmabmnaaGreatW56s6
namespace Fw
open Go Go.Proofs
set_option linter.unusedSimpArgs false
set_option maxRecDepth 100000
noncomputable def F5:Fun:=⟨[.slice (.int .u8)],[.pure (.bool)],fun _=>True,fun x=>((fun _=>true) x.1,())⟩
set_option maxHeartbeats 4000000 in
theorem F5_ok:Meets Tryz.prog 5 F5:=by
 refine mZ (C:=mkC 95 [2] [0,2,3,4,5,6,7,8,9,10,11,13,37] [⟨6,_,F6_ok⟩,⟨28,_,F28_ok⟩,⟨29,_,F29_ok⟩,⟨30,_,F30_ok⟩,⟨31,_,F31_ok⟩,⟨32,_,F32_ok⟩,⟨33,_,F33_ok⟩,⟨34,_,F34_ok⟩,⟨35,_,F35_ok⟩]) (mO _ _ _ _) (fO _) Tryz.func5 rfl rfl rfl (by decide) rfl ?_
 rintro⟨a0,_⟩ hwf hpre ⟨⟩ hG rfl rfl
 show Vc _ _ [(0,⟨0,0,.c Z1 a0⟩)] _
 have hb:List.length a0≤bigLen:=hwf.1.1
 have tA:=bcTA hb
 have tB:=bcTB hb
 have tJ:=bcTJ hb
 have tK:=bcTK hb
 have sA:=tinyE_big tA
 have sB:=tinyE_big tB
 have sJ:=tinyE_big tJ
 have sK:=tinyE_big tK
 have cA:=tinyCells tA
 have cB:=tinyCells tB
 have cJ:=tinyCells tJ
 have cK:=tinyCells tK
 have tS:=small_tiny (f:=(bothC a0).1) (d:=(bothC a0).2.2.2.1) (x:=(bothC a0).2.2.2.2) tJ
 have sS:=tinyE_big tS
 have cS:=tinyCells tS
 refine Vm hG rfl (Vq (Vq ?_))
 refine Vr hG rfl ?_ ?_
 · repeat' (first | exact trivial | exact hb | exact sA | exact sB | exact sJ | exact sK | exact cA | exact cB | exact cJ | exact cK | exact sA.1 | exact sJ.1 | exact sA.2 | exact sJ.2 | exact trivial | exact sS | exact cS | exact sS.1 | refine And.intro ?_ ?_ | intro _)
 refine Vk rfl ?_ ?_<;>intro h0
 · refine Vm hG rfl (Vt ?_)
   refine⟨?_,trivial⟩
   exact rfl
 · refine Vs (Vq ?_)
   refine VrT hG rfl ?_ ?_
   · repeat' (first | exact trivial | exact hb | exact sA | exact sB | exact sJ | exact sK | exact cA | exact cB | exact cJ | exact cK | exact sA.1 | exact sJ.1 | exact sA.2 | exact sJ.2 | exact trivial | exact sS | exact cS | exact sS.1 | refine And.intro ?_ ?_ | intro _)
   refine Vq ?_
   refine Vr hG rfl ?_ ?_
   · repeat' (first | exact trivial | exact hb | exact sA | exact sB | exact sJ | exact sK | exact cA | exact cB | exact cJ | exact cK | exact sA.1 | exact sJ.1 | exact sA.2 | exact sJ.2 | exact trivial | exact sS | exact cS | exact sS.1 | refine And.intro ?_ ?_ | intro _)
   refine Vq (Vq ?_)
   refine VrD mixed hG rfl (by kernel_rfl) ?_ ?_
   · repeat' (first | exact trivial | exact hb | exact sA | exact sB | exact sJ | exact sK | exact cA | exact cB | exact cJ | exact cK | exact sA.1 | exact sJ.1 | exact sA.2 | exact sJ.2 | exact trivial | exact sS | exact cS | exact sS.1 | refine And.intro ?_ ?_ | intro _)
   refine Vk rfl ?_ ?_<;>intro h1
   · exact(moBad h1).elim
   · refine Vs (Vq ?_)
     refine Vr hG rfl ?_ ?_
     · repeat' (first | exact trivial | exact hb | exact sA | exact sB | exact sJ | exact sK | exact cA | exact cB | exact cJ | exact cK | exact sA.1 | exact sJ.1 | exact sA.2 | exact sJ.2 | exact trivial | exact sS | exact cS | exact sS.1 | refine And.intro ?_ ?_ | intro _)
     refine Vq ?_
     refine Vr hG rfl ?_ ?_
     · repeat' (first | exact trivial | exact hb | exact sA | exact sB | exact sJ | exact sK | exact cA | exact cB | exact cJ | exact cK | exact sA.1 | exact sJ.1 | exact sA.2 | exact sJ.2 | exact trivial | exact sS | exact cS | exact sS.1 | refine And.intro ?_ ?_ | intro _)
     refine Vq ?_
     refine Vr hG rfl ?_ ?_
     · repeat' (first | exact trivial | exact hb | exact sA | exact sB | exact sJ | exact sK | exact cA | exact cB | exact cJ | exact cK | exact sA.1 | exact sJ.1 | exact sA.2 | exact sJ.2 | exact trivial | exact sS | exact cS | exact sS.1 | refine And.intro ?_ ?_ | intro _)
     refine Vq ?_
     refine VrD mixed hG rfl (by kernel_rfl) ?_ ?_
     · repeat' (first | exact trivial | exact hb | exact sA | exact sB | exact sJ | exact sK | exact cA | exact cB | exact cJ | exact cK | exact sA.1 | exact sJ.1 | exact sA.2 | exact sJ.2 | exact trivial | exact sS | exact cS | exact sS.1 | refine And.intro ?_ ?_ | intro _)
     refine Vt ?_
     refine⟨?_,trivial⟩
     exact ordFin tJ
end Fw
