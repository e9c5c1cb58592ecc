/- Walks of functions of the program: what each computes. Conditions: those that each contract names. -/
import Derived.Test.YtpcljloahdbjcaaGreatW51T
import Derived.Test.YtpcljloahdbjcaaGreatW51i0
import Derived.Test.YtpcljloahdbjcaaGreatW51i4
import Derived.Test.YtpcljloahdbjcaaGreatW51m0
import Derived.Test.YtpcljloahdbjcaaGreatW51s2
import Derived.Test.YtpcljloahdbjcaaGreatW51s3
set_option linter.unusedVariables false
namespace Fw
open Go Go.Proofs
set_option linter.unusedSimpArgs false
set_option maxRecDepth 100000
noncomputable def F6:Fun:=⟨[.slice (.int .u8)],[.pure (.bool)],fun _=>True,fun x=>((fun _=>true) x.1,())⟩
set_option maxHeartbeats 4000000 in
theorem F6_ok:Meets Tryz.prog 6 F6:=by
 refine mZ (C:=mkC 148 [2] [0,2,3,4,5,6,7,8,9,10,11,12,13,14,16,65,109,121,147] [⟨10,_,F10_ok⟩,⟨45,_,F45_ok⟩,⟨46,_,F46_ok⟩,⟨16,_,F16_ok⟩,⟨47,_,F47_ok⟩,⟨48,_,F48_ok⟩,⟨13,_,F13_ok⟩,⟨49,_,F49_ok⟩,⟨50,_,F50_ok⟩,⟨51,_,F51_ok⟩,⟨52,_,F52_ok⟩,⟨53,_,F53_ok⟩,⟨33,_,F33_ok⟩,⟨54,_,F54_ok⟩]) (mO _ _ _ _) (fO _) Tryz.func6 rfl rfl rfl (by decide) rfl ?_
 rintro⟨a0,_⟩ hwf hpre ⟨⟩ hG rfl rfl
 show Vc _ _ [(0,⟨0,0,.c Z1 a0⟩)] _
 have hb:List.length a0≤bigLen:=hwf.1.1
 have ha:=add_sm hb
 have ha1:=ha.1
 have ha2:=ha.2
 have hj:=ji_sm hb
 have hj1:=hj.1
 have hj2:=hj.2
 have ht:=at_sm hb
 have ht1:=ht.1
 have ht2:=ht.2.1
 have hbc:List.length (atC a0).1.2≤bigLen:=Nat.le_trans ht.1.2.1 (by decide)
 have hje:=itSm hj.1
 have hjc:=itCells hj.2
 refine Vm hG rfl (Vq (Vq ?_))
 refine Vr hG rfl ?_ ?_
 · repeat' (first | exact trivial | exact hb | exact ha1 | exact ha2 | exact hj1 | exact hj2 | exact ht1 | exact ht2 | exact hr1 | exact hr2 | exact hje | exact hjc | refine And.intro ?_ ?_ | intro _)
 refine Vk rfl ?_ ?_<;>intro h0
 · refine Vm hG rfl (Vt ?_)
   refine⟨?_,trivial⟩
   exact rfl
 · refine Vs (Vq ?_)
   refine VrT hG rfl ?_ ?_
   · repeat' (first | exact trivial | exact hb | exact ha1 | exact ha2 | exact hj1 | exact hj2 | exact ht1 | exact ht2 | exact hr1 | exact hr2 | exact hje | exact hjc | refine And.intro ?_ ?_ | intro _)
   refine Vq ?_
   refine Vr hG rfl ?_ ?_
   · repeat' (first | exact trivial | exact hb | exact ha1 | exact ha2 | exact hj1 | exact hj2 | exact ht1 | exact ht2 | exact hr1 | exact hr2 | exact hje | exact hjc | refine And.intro ?_ ?_ | intro _)
   refine Vq (Vq ?_)
   refine Vr hG rfl ?_ ?_
   · repeat' (first | exact trivial | exact hb | exact ha1 | exact ha2 | exact hj1 | exact hj2 | exact ht1 | exact ht2 | exact hr1 | exact hr2 | exact hje | exact hjc | refine And.intro ?_ ?_ | intro _)
   refine Vk rfl ?_ ?_<;>intro h1
   · exact(arBad1 ha.1.2.1 h1).elim
   · refine Vs (Vq ?_)
     refine VrT hG rfl ?_ ?_
     · repeat' (first | exact trivial | exact hb | exact ha1 | exact ha2 | exact hj1 | exact hj2 | exact ht1 | exact ht2 | exact hr1 | exact hr2 | exact hje | exact hjc | refine And.intro ?_ ?_ | intro _)
     refine Vq ?_
     refine VrT hG rfl ?_ ?_
     · repeat' (first | exact trivial | exact hb | exact ha1 | exact ha2 | exact hj1 | exact hj2 | exact ht1 | exact ht2 | exact hr1 | exact hr2 | exact hje | exact hjc | refine And.intro ?_ ?_ | intro _)
     refine Vq ?_
     refine Vr hG rfl ?_ ?_
     · repeat' (first | exact trivial | exact hb | exact ha1 | exact ha2 | exact hj1 | exact hj2 | exact ht1 | exact ht2 | exact hr1 | exact hr2 | exact hje | exact hjc | refine And.intro ?_ ?_ | intro _)
     refine Vq (Vq ?_)
     refine VrD mixed hG rfl (by kernel_rfl) ?_ ?_
     · repeat' (first | exact trivial | exact hb | exact ha1 | exact ha2 | exact hj1 | exact hj2 | exact ht1 | exact ht2 | exact hr1 | exact hr2 | exact hje | exact hjc | refine And.intro ?_ ?_ | intro _)
     refine Vk rfl ?_ ?_<;>intro h2
     · exact(arBad2 ht.2.2 h2).elim
     · refine Vs (Vq (Vm hG rfl (Vb ?_)))
       refine Vc.loopF [(14,false,.pure (.int .i64))] [0,3,4,5,6,7,8,9,10,11,12,13,16,65,109] (fun v=>upInv (atC a0).1.2 v.1) (fun v=>((List.length (atC a0).1.2:Int)-v.1).toNat) rfl ?_ ?_
       · exact upStart
       rintro⟨(i:Int),_⟩ hI
       have hI:upInv (atC a0).1.2 i:=hI
       refine Vq (Vm hG rfl ?_)
       refine Vk rfl ?_ ?_<;>intro h3
       · have hl:=andLt h3
         have hr1:=upRange hI hl.1
         have hr2:inRange i (List.length (addToItemF (atC a0).1 (atC a0).2.1 (atC a0).2.2).1.2):=⟨hr1.1,hl.2⟩
         refine Vs (Vq (Vb (Vq ?_)))
         refine VrD mixed hG rfl (by kernel_rfl) ?_ ?_
         · repeat' (first | exact trivial | exact hb | exact ha1 | exact ha2 | exact hj1 | exact hj2 | exact ht1 | exact ht2 | exact hr1 | exact hr2 | exact hje | exact hjc | refine And.intro ?_ ?_ | intro _)
         refine Vk rfl ?_ ?_<;>intro h4
         · exact(arBad3 hr1 hr2 h4).elim
         · refine Vs (Vn hG rfl ?_)
           refine⟨rfl,?_⟩
           exact⟨(upStep hI hl.1 hbc).1,(upStep hI hl.1 hbc).2.2⟩
       · refine Vx (Vm hG rfl (Vt ?_))
         refine⟨?_,trivial⟩
         exact rfl
end Fw
