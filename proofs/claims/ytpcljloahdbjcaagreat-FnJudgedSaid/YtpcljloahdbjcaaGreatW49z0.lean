/- Walks of functions of the program: what each computes. Conditions: those that each contract names. -/
import Derived.Test.YtpcljloahdbjcaaGreatW49T
import Derived.Test.YtpcljloahdbjcaaGreatW49i0
import Derived.Test.YtpcljloahdbjcaaGreatW49i1
import Derived.Test.YtpcljloahdbjcaaGreatW49i2
import Derived.Test.YtpcljloahdbjcaaGreatW49i3
import Derived.Test.YtpcljloahdbjcaaGreatW49m0
import Derived.Test.YtpcljloahdbjcaaGreatW49s4
namespace Fw
open Go Go.Proofs
set_option linter.unusedSimpArgs false
set_option maxRecDepth 100000
noncomputable def F5:Fun:=⟨[.slice (.int .u8)],[.pure (.bool)],fun _=>True,fun x=>((fun _=>true) x.1,())⟩
set_option maxHeartbeats 4000000 in
theorem F5_ok:Meets Tryz.prog 5 F5:=by
 refine mZ (C:=mkC 167 [2] [0,2,3,4,5,6,7,8,9,10,11,12,14,43,46,113] [⟨10,_,F10_ok⟩,⟨32,_,F32_ok⟩,⟨33,_,F33_ok⟩,⟨34,_,F34_ok⟩,⟨23,_,F23_ok⟩,⟨26,_,F26_ok⟩,⟨35,_,F35_ok⟩,⟨36,_,F36_ok⟩,⟨37,_,F37_ok⟩,⟨38,_,F38_ok⟩,⟨40,_,F40_ok⟩,⟨39,_,F39_ok⟩,⟨42,_,F42_ok⟩,⟨41,_,F41_ok⟩,⟨44,_,F44_ok⟩,⟨43,_,F43_ok⟩]) (mO _ _ _ _) (fO _) Tryz.func5 rfl rfl rfl (by decide) rfl ?_
 rintro⟨a0,_⟩ hwf hpre ⟨⟩ hG rfl rfl
 show Vc _ _ [(0,⟨0,0,.c Z1 a0⟩)] _
 have hb:List.length a0≤bigLen:=hwf.1.1
 have hj:=jd_sm hb
 have hJ1:=hj.1
 have hJ2:=hj.2
 have hUL:=usPieceLen (f:=(judgeC a0).1) (e:=(judgeC a0).2.1) (docs:=allDigsF (judgeC a0).2.1 (judgeC a0).2.2.1) hj.2
 refine Vm hG rfl (Vq (Vq ?_))
 refine Vr hG rfl ?_ ?_
 · repeat' (first | exact trivial | exact hb | exact hJ1 | exact hJ2 | exact hJ1.1 | exact hUL | exact Nat.le_trans hUL (by decide) | exact mandW hUL | exact findRange hv.2.2.1 | exact fun h=>findRange (oFa (orF h).2) | refine And.intro ?_ ?_ | intro _)
 refine Vk rfl ?_ ?_<;>intro h0
 · refine Vm hG rfl (Vt ?_)
   refine⟨?_,trivial⟩
   exact rfl
 · refine Vs (Vq ?_)
   refine VrT hG rfl ?_ ?_
   · repeat' (first | exact trivial | exact hb | exact hJ1 | exact hJ2 | exact hJ1.1 | exact hUL | exact Nat.le_trans hUL (by decide) | exact mandW hUL | exact findRange hv.2.2.1 | exact fun h=>findRange (oFa (orF h).2) | refine And.intro ?_ ?_ | intro _)
   refine Vq ?_
   refine Vr hG rfl ?_ ?_
   · repeat' (first | exact trivial | exact hb | exact hJ1 | exact hJ2 | exact hJ1.1 | exact hUL | exact Nat.le_trans hUL (by decide) | exact mandW hUL | exact findRange hv.2.2.1 | exact fun h=>findRange (oFa (orF h).2) | refine And.intro ?_ ?_ | intro _)
   refine Vq (Vm hG rfl ?_)
   refine Vk rfl ?_ ?_<;>intro h1
   · exact(judge_bad1 h1).elim
   · refine Vs (Vq (Vm hG rfl ?_))
     refine Vk rfl ?_ ?_<;>intro h2
     · refine Vm hG rfl (Vt ?_)
       refine⟨?_,trivial⟩
       exact rfl
     · have hv:=valid_of h2
       refine Vs (Vq ?_)
       refine Vr hG rfl ?_ ?_
       · repeat' (first | exact trivial | exact hb | exact hJ1 | exact hJ2 | exact hJ1.1 | exact hUL | exact Nat.le_trans hUL (by decide) | exact mandW hUL | exact findRange hv.2.2.1 | exact fun h=>findRange (oFa (orF h).2) | refine And.intro ?_ ?_ | intro _)
       refine Vq ?_
       refine Vr hG rfl ?_ ?_
       · repeat' (first | exact trivial | exact hb | exact hJ1 | exact hJ2 | exact hJ1.1 | exact hUL | exact Nat.le_trans hUL (by decide) | exact mandW hUL | exact findRange hv.2.2.1 | exact fun h=>findRange (oFa (orF h).2) | refine And.intro ?_ ?_ | intro _)
       refine Vq ?_
       refine Vr hG rfl ?_ ?_
       · repeat' (first | exact trivial | exact hb | exact hJ1 | exact hJ2 | exact hJ1.1 | exact hUL | exact Nat.le_trans hUL (by decide) | exact mandW hUL | exact findRange hv.2.2.1 | exact fun h=>findRange (oFa (orF h).2) | refine And.intro ?_ ?_ | intro _)
       refine Vq ?_
       refine Vr hG rfl ?_ ?_
       · repeat' (first | exact trivial | exact hb | exact hJ1 | exact hJ2 | exact hJ1.1 | exact hUL | exact Nat.le_trans hUL (by decide) | exact mandW hUL | exact findRange hv.2.2.1 | exact fun h=>findRange (oFa (orF h).2) | refine And.intro ?_ ?_ | intro _)
       refine Vq (Vq ?_)
       refine VrD mixed hG rfl (by kernel_rfl) ?_ ?_
       · repeat' (first | exact trivial | exact hb | exact hJ1 | exact hJ2 | exact hJ1.1 | exact hUL | exact Nat.le_trans hUL (by decide) | exact mandW hUL | exact findRange hv.2.2.1 | exact fun h=>findRange (oFa (orF h).2) | refine And.intro ?_ ?_ | intro _)
       refine Vk rfl ?_ ?_<;>intro h3
       · exact(judge_bad2 hv h3).elim
       · refine Vs (Vq ?_)
         refine VrD mixed hG rfl (by kernel_rfl) ?_ ?_
         · repeat' (first | exact trivial | exact hb | exact hJ1 | exact hJ2 | exact hJ1.1 | exact hUL | exact Nat.le_trans hUL (by decide) | exact mandW hUL | exact findRange hv.2.2.1 | exact fun h=>findRange (oFa (orF h).2) | refine And.intro ?_ ?_ | intro _)
         refine Vt ?_
         refine⟨?_,trivial⟩
         exact judge_fin hUL hv
end Fw
