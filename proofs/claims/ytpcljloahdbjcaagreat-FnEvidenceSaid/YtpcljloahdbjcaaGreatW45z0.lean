/- Walks of functions of the program: what each computes. Conditions: those that each contract names. -/
import Derived.Test.YtpcljloahdbjcaaGreatW45T
import Derived.Test.YtpcljloahdbjcaaGreatW45i0
import Derived.Test.YtpcljloahdbjcaaGreatW45i1
import Derived.Test.YtpcljloahdbjcaaGreatW45i2
import Derived.Test.YtpcljloahdbjcaaGreatW45m0
import Derived.Test.YtpcljloahdbjcaaGreatW45s3
namespace Fw
open Go Go.Proofs
set_option linter.unusedSimpArgs false
set_option maxRecDepth 100000
noncomputable def F4:Fun:=⟨[.slice (.int .u8)],[.pure (.bool)],fun _=>True,fun x=>((fun _=>true) x.1,())⟩
set_option maxHeartbeats 4000000 in
theorem F4_ok:Meets Tryz.prog 4 F4:=by
 refine mZ (C:=mkC 147 [2] [0,2,3,4,5,6,7,8,9,10,11,12,13,14,15,17,57,69,96,111] [⟨10,_,F10_ok⟩,⟨21,_,F21_ok⟩,⟨22,_,F22_ok⟩,⟨23,_,F23_ok⟩,⟨24,_,F24_ok⟩,⟨25,_,F25_ok⟩,⟨26,_,F26_ok⟩,⟨27,_,F27_ok⟩,⟨28,_,F28_ok⟩,⟨29,_,F29_ok⟩,⟨30,_,F30_ok⟩,⟨31,_,F31_ok⟩]) (mO _ _ _ _) (fO _) Tryz.func4 rfl rfl rfl (by decide) rfl ?_
 rintro⟨a0,_⟩ hwf hpre ⟨⟩ hG rfl rfl
 show Vc _ _ [(0,⟨0,0,.c Z1 a0⟩)] _
 have hb:List.length a0≤bigLen:=hwf.1.1
 have tA:=bcTA hb
 have tB:=bcTB hb
 have tJ:=bcTJ hb
 have tK:=bcTK hb
 have sA:=tinyE_big tA
 have sB:=tinyE_big tB
 have sJ:=tinyE_big tJ
 have sK:=tinyE_big tK
 have cA:=tinyCells tA
 have cB:=tinyCells tB
 have cJ:=tinyCells tJ
 have cK:=tinyCells tK
 have hnil:Sm big20 TEv (([],[]):Evidence):=⟨⟨Nat.zero_le _,fun x hx=>by cases hx⟩,⟨Nat.zero_le _,fun x hx=>by cases hx⟩⟩
 have hbM:=tinyBigU (f:=(bothC a0).1) (docs:=allDigsF (joinEvF (bothC a0).2.1 (bothC a0).2.2.1) (bothC a0).2.2.2.1) tJ
 have hbL:=tinyBigU (f:=(bothC a0).1) (docs:=allDigsF (bothC a0).2.1 (bothC a0).2.2.2.1) tA
 refine Vm hG rfl (Vq (Vq ?_))
 refine Vr hG rfl ?_ ?_
 · repeat' (first | exact trivial | exact hb | exact sA | exact sB | exact sJ | exact sK | exact cA | exact cB | exact cJ | exact cK | exact sA.1 | exact sJ.1 | exact sA.2 | exact sJ.2 | exact trivial | exact hnil | exact hr | exact fun h=>sbPrev hI hl h hbM | exact fun h=>sbK hI h | refine And.intro ?_ ?_ | intro _)
 refine Vk rfl ?_ ?_<;>intro h0
 · refine Vm hG rfl (Vt ?_)
   refine⟨?_,trivial⟩
   exact rfl
 · refine Vs (Vq ?_)
   refine VrT hG rfl ?_ ?_
   · repeat' (first | exact trivial | exact hb | exact sA | exact sB | exact sJ | exact sK | exact cA | exact cB | exact cJ | exact cK | exact sA.1 | exact sJ.1 | exact sA.2 | exact sJ.2 | exact trivial | exact hnil | exact hr | exact fun h=>sbPrev hI hl h hbM | exact fun h=>sbK hI h | refine And.intro ?_ ?_ | intro _)
   refine Vq ?_
   refine Vr hG rfl ?_ ?_
   · repeat' (first | exact trivial | exact hb | exact sA | exact sB | exact sJ | exact sK | exact cA | exact cB | exact cJ | exact cK | exact sA.1 | exact sJ.1 | exact sA.2 | exact sJ.2 | exact trivial | exact hnil | exact hr | exact fun h=>sbPrev hI hl h hbM | exact fun h=>sbK hI h | refine And.intro ?_ ?_ | intro _)
   refine Vq ?_
   refine Vr hG rfl ?_ ?_
   · repeat' (first | exact trivial | exact hb | exact sA | exact sB | exact sJ | exact sK | exact cA | exact cB | exact cJ | exact cK | exact sA.1 | exact sJ.1 | exact sA.2 | exact sJ.2 | exact trivial | exact hnil | exact hr | exact fun h=>sbPrev hI hl h hbM | exact fun h=>sbK hI h | refine And.intro ?_ ?_ | intro _)
   refine Vq ?_
   refine Vr hG rfl ?_ ?_
   · repeat' (first | exact trivial | exact hb | exact sA | exact sB | exact sJ | exact sK | exact cA | exact cB | exact cJ | exact cK | exact sA.1 | exact sJ.1 | exact sA.2 | exact sJ.2 | exact trivial | exact hnil | exact hr | exact fun h=>sbPrev hI hl h hbM | exact fun h=>sbK hI h | refine And.intro ?_ ?_ | intro _)
   refine Vq ?_
   refine Vr hG rfl ?_ ?_
   · repeat' (first | exact trivial | exact hb | exact sA | exact sB | exact sJ | exact sK | exact cA | exact cB | exact cJ | exact cK | exact sA.1 | exact sJ.1 | exact sA.2 | exact sJ.2 | exact trivial | exact hnil | exact hr | exact fun h=>sbPrev hI hl h hbM | exact fun h=>sbK hI h | refine And.intro ?_ ?_ | intro _)
   refine Vq (Vq ?_)
   refine VrD mixed hG rfl (by kernel_rfl) ?_ ?_
   · repeat' (first | exact trivial | exact hb | exact sA | exact sB | exact sJ | exact sK | exact cA | exact cB | exact cJ | exact cK | exact sA.1 | exact sJ.1 | exact sA.2 | exact sJ.2 | exact trivial | exact hnil | exact hr | exact fun h=>sbPrev hI hl h hbM | exact fun h=>sbK hI h | refine And.intro ?_ ?_ | intro _)
   refine Vk rfl ?_ ?_<;>intro h1
   · exact(evBad1 h1).elim
   · refine Vs (Vq ?_)
     refine Vr hG rfl ?_ ?_
     · repeat' (first | exact trivial | exact hb | exact sA | exact sB | exact sJ | exact sK | exact cA | exact cB | exact cJ | exact cK | exact sA.1 | exact sJ.1 | exact sA.2 | exact sJ.2 | exact trivial | exact hnil | exact hr | exact fun h=>sbPrev hI hl h hbM | exact fun h=>sbK hI h | refine And.intro ?_ ?_ | intro _)
     refine Vq ?_
     refine Vr hG rfl ?_ ?_
     · repeat' (first | exact trivial | exact hb | exact sA | exact sB | exact sJ | exact sK | exact cA | exact cB | exact cJ | exact cK | exact sA.1 | exact sJ.1 | exact sA.2 | exact sJ.2 | exact trivial | exact hnil | exact hr | exact fun h=>sbPrev hI hl h hbM | exact fun h=>sbK hI h | refine And.intro ?_ ?_ | intro _)
     refine Vm hG rfl (Vq (Vm hG rfl (Vb ?_)))
     refine Vc.loopF [(14,false,.pure (.int .i64)),(15,false,.pure (.int .i64))] [0,3,4,5,6,7,8,9,10,11,12,13,17,57] (fun v=>sbInv (usablePiecesF (bothC a0).1 (bothC a0).2.1 (allDigsF (bothC a0).2.1 (bothC a0).2.2.2.1)) (usablePiecesF (bothC a0).1 (joinEvF (bothC a0).2.1 (bothC a0).2.2.1) (allDigsF (joinEvF (bothC a0).2.1 (bothC a0).2.2.1) (bothC a0).2.2.2.1)) v.1 v.2.1) (fun v=>((List.length (usablePiecesF (bothC a0).1 (joinEvF (bothC a0).2.1 (bothC a0).2.2.1) (allDigsF (joinEvF (bothC a0).2.1 (bothC a0).2.2.1) (bothC a0).2.2.2.1)):Int)-v.2.1).toNat) rfl ?_ ?_
     · exact sbStart evLess
     rintro⟨(k:Int),(i:Int),_⟩ hI
     have hI:sbInv (usablePiecesF (bothC a0).1 (bothC a0).2.1 (allDigsF (bothC a0).2.1 (bothC a0).2.2.2.1)) (usablePiecesF (bothC a0).1 (joinEvF (bothC a0).2.1 (bothC a0).2.2.1) (allDigsF (joinEvF (bothC a0).2.1 (bothC a0).2.2.1) (bothC a0).2.2.2.1)) k i:=hI
     refine Vq (Vm hG rfl ?_)
     refine Vk rfl ?_ ?_<;>intro h2
     · have hl:i<(List.length (usablePiecesF (bothC a0).1 (joinEvF (bothC a0).2.1 (bothC a0).2.2.1) (allDigsF (joinEvF (bothC a0).2.1 (bothC a0).2.2.1) (bothC a0).2.2.2.1)):Int):=oTr h2
       have hr:=sbRange hI hl
       refine Vs (Vq (Vb (Vq ?_)))
       refine Vq ?_
       refine VrD mixed hG rfl (by kernel_rfl) ?_ ?_
       · repeat' (first | exact trivial | exact hb | exact sA | exact sB | exact sJ | exact sK | exact cA | exact cB | exact cJ | exact cK | exact sA.1 | exact sJ.1 | exact sA.2 | exact sJ.2 | exact trivial | exact hnil | exact hr | exact fun h=>sbPrev hI hl h hbM | exact fun h=>sbK hI h | refine And.intro ?_ ?_ | intro _)
       refine Vk rfl ?_ ?_<;>intro h3
       · exact(evBad2 hI hl hbM h3).elim
       · refine Vs (Vq ?_)
         refine VrD mixed hG rfl (by kernel_rfl) ?_ ?_
         · repeat' (first | exact trivial | exact hb | exact sA | exact sB | exact sJ | exact sK | exact cA | exact cB | exact cJ | exact cK | exact sA.1 | exact sJ.1 | exact sA.2 | exact sJ.2 | exact trivial | exact hnil | exact hr | exact fun h=>sbPrev hI hl h hbM | exact fun h=>sbK hI h | refine And.intro ?_ ?_ | intro _)
         refine Vk rfl ?_ ?_<;>intro h4
         · have st:=sbYes hI hl hbM hbL h4
           refine Vn hG rfl (Vn hG rfl ?_)
           refine⟨rfl,?_⟩
           exact st
         · have st:=sbNo hI hl hbM h4
           refine Vs (Vn hG rfl ?_)
           refine⟨rfl,?_⟩
           exact st
     · have hl:¬i<(List.length (usablePiecesF (bothC a0).1 (joinEvF (bothC a0).2.1 (bothC a0).2.2.1) (allDigsF (joinEvF (bothC a0).2.1 (bothC a0).2.2.1) (bothC a0).2.2.2.1)):Int):=oFa h2
       refine Vx (Vq ?_)
       refine VrD mixed hG rfl (by kernel_rfl) ?_ ?_
       · repeat' (first | exact trivial | exact hb | exact sA | exact sB | exact sJ | exact sK | exact cA | exact cB | exact cJ | exact cK | exact sA.1 | exact sJ.1 | exact sA.2 | exact sJ.2 | exact trivial | exact hnil | exact hr | exact fun h=>sbPrev hI hl h hbM | exact fun h=>sbK hI h | refine And.intro ?_ ?_ | intro _)
       refine Vt ?_
       refine⟨?_,trivial⟩
       exact evFin (sbEnd hI hl)
end Fw
