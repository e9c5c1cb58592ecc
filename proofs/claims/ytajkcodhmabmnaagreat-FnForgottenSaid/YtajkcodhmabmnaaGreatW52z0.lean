/- Walks of functions of the program: what each computes. Conditions: those that each contract names. -/
import Derived.Test.YtajkcodhmabmnaaGreatW52T
import Derived.Test.YtajkcodhmabmnaaGreatW52i0
import Derived.Test.YtajkcodhmabmnaaGreatW52i3
import Derived.Test.YtajkcodhmabmnaaGreatW52i4
import Derived.Test.YtajkcodhmabmnaaGreatW52m0
import Derived.Test.YtajkcodhmabmnaaGreatW52s1
import Derived.Test.YtajkcodhmabmnaaGreatW52s3
namespace Fw
open Go Go.Proofs
set_option linter.unusedSimpArgs false
set_option maxRecDepth 100000
noncomputable def F4:Fun:=⟨[.slice (.int .u8)],[.pure (.bool)],fun _=>True,fun x=>((fun _=>true) x.1,())⟩
set_option maxHeartbeats 4000000 in
theorem F4_ok:Meets Tryz.prog 4 F4:=by
 refine mZ (C:=mkC 165 [2] [0,2,3,4,5,6,7,8,9,10,12,13,14,15,16,17,18,20,54,59,98,120] [⟨6,_,F6_ok⟩,⟨17,_,F17_ok⟩,⟨18,_,F18_ok⟩,⟨19,_,F19_ok⟩,⟨12,_,F12_ok⟩,⟨20,_,F20_ok⟩,⟨21,_,F21_ok⟩,⟨22,_,F22_ok⟩,⟨23,_,F23_ok⟩,⟨24,_,F24_ok⟩,⟨25,_,F25_ok⟩,⟨26,_,F26_ok⟩,⟨27,_,F27_ok⟩]) (mO _ _ _ _) (fO _) Tryz.func4 rfl rfl rfl (by decide) rfl ?_
 rintro⟨a0,_⟩ hwf hpre ⟨⟩ hG rfl rfl
 show Vc _ _ [(0,⟨0,0,.c Z1 a0⟩)] _
 have hb:List.length a0≤bigLen:=hwf.1.1
 have ha:archF (fpC a0).1=true:=da0_arch hb
 have sa:Sm big20 TArch (fpC a0).1:=da0_sm hb
 have hj:=ji_sm hb
 have hj1:=hj.1
 have hj2:=hj.2
 have hlA:List.length (fpC a0).1.2≤big20:=sa.2.1
 have hbB:List.length (forgetF (fpC a0).1 (fpC a0).2).1.2≤bigLen:=Nat.le_trans (Nat.le_trans fg_sub.length_le hlA) (by decide)
 refine Vm hG rfl (Vq (Vq ?_))
 refine Vr hG rfl ?_ ?_
 · repeat' (first | exact trivial | exact hb | exact sa | exact hlA | exact hj1 | exact hj2 | exact hr | exact q1 | exact q2 | exact q3 | exact q4 | exact q5 | refine And.intro ?_ ?_ | intro _)
 refine Vk rfl ?_ ?_<;>intro h0
 · refine Vm hG rfl (Vt ?_)
   refine⟨?_,trivial⟩
   exact rfl
 · refine Vs (Vq ?_)
   refine Vr hG rfl ?_ ?_
   · repeat' (first | exact trivial | exact hb | exact sa | exact hlA | exact hj1 | exact hj2 | exact hr | exact q1 | exact q2 | exact q3 | exact q4 | exact q5 | refine And.intro ?_ ?_ | intro _)
   refine Vq ?_
   refine Vr hG rfl ?_ ?_
   · repeat' (first | exact trivial | exact hb | exact sa | exact hlA | exact hj1 | exact hj2 | exact hr | exact q1 | exact q2 | exact q3 | exact q4 | exact q5 | refine And.intro ?_ ?_ | intro _)
   refine Vq ?_
   refine VrT hG rfl ?_ ?_
   · repeat' (first | exact trivial | exact hb | exact sa | exact hlA | exact hj1 | exact hj2 | exact hr | exact q1 | exact q2 | exact q3 | exact q4 | exact q5 | refine And.intro ?_ ?_ | intro _)
   refine Vq (Vq ?_)
   refine Vr hG rfl ?_ ?_
   · repeat' (first | exact trivial | exact hb | exact sa | exact hlA | exact hj1 | exact hj2 | exact hr | exact q1 | exact q2 | exact q3 | exact q4 | exact q5 | refine And.intro ?_ ?_ | intro _)
   refine Vk rfl ?_ ?_<;>intro h1
   · exact(fgBad1 hlA h1).elim
   · refine Vs (Vq (Vm hG rfl (Vb ?_)))
     refine Vc.loopF [(9,false,.pure (.int .i64))] [0,3,4,5,6,7,8,12,13,14,15,16,17,18,20,54,120] (fun v=>upInv (forgetF (fpC a0).1 (fpC a0).2).1.2 v.1) (fun v=>((List.length (forgetF (fpC a0).1 (fpC a0).2).1.2:Int)-v.1).toNat) rfl ?_ ?_
     · exact upStart
     rintro⟨(i:Int),_⟩ hI
     have hI:upInv (forgetF (fpC a0).1 (fpC a0).2).1.2 i:=hI
     refine Vq (Vm hG rfl ?_)
     refine Vk rfl ?_ ?_<;>intro h2
     · have hl:i<(List.length (forgetF (fpC a0).1 (fpC a0).2).1.2:Int):=oTr h2
       have hr:=upRange hI hl
       have hg:=fgAt (now:=(fpC a0).2) ha hr
       have hq:=fg_item hb hr
       have q1:=hq.1
       have q2:=hq.2
       have q3:Sm big20 TItem (List.getD (fpC a0).1.2 (itAt (fpC a0).1 (List.getD (forgetF (fpC a0).1 (fpC a0).2).1.2 i.toNat (dflt TItem)).1).toNat (dflt TItem)):=by rw[hg.2.1];exact hq.1
       have q4:((cellsC TItem (List.getD (fpC a0).1.2 (itAt (fpC a0).1 (List.getD (forgetF (fpC a0).1 (fpC a0).2).1.2 i.toNat (dflt TItem)).1).toNat (dflt TItem)):Nat):Int)≤2000000000:=by rw[hg.2.1];exact hq.2
       have q5:inRange (itAt (fpC a0).1 (List.getD (forgetF (fpC a0).1 (fpC a0).2).1.2 i.toNat (dflt TItem)).1) (List.length (fpC a0).1.2):=findRange hg.1
       refine Vs (Vq (Vb (Vq ?_)))
       refine VrD mixed hG rfl (by kernel_rfl) ?_ ?_
       · repeat' (first | exact trivial | exact hb | exact sa | exact hlA | exact hj1 | exact hj2 | exact hr | exact q1 | exact q2 | exact q3 | exact q4 | exact q5 | refine And.intro ?_ ?_ | intro _)
       refine Vq ?_
       refine VrD mixed hG rfl (by kernel_rfl) ?_ ?_
       · repeat' (first | exact trivial | exact hb | exact sa | exact hlA | exact hj1 | exact hj2 | exact hr | exact q1 | exact q2 | exact q3 | exact q4 | exact q5 | refine And.intro ?_ ?_ | intro _)
       refine Vk rfl ?_ ?_<;>intro h3
       · exact(fgBad2 ha hr h3).elim
       · refine Vs (Vn hG rfl ?_)
         refine⟨rfl,?_⟩
         exact⟨(upStep hI hl hbB).1,(upStep hI hl hbB).2.2⟩
     · have hl:¬i<(List.length (forgetF (fpC a0).1 (fpC a0).2).1.2:Int):=oFa h2
       refine Vx (Vq ?_)
       refine VrT hG rfl ?_ ?_
       · repeat' (first | exact trivial | exact hb | exact sa | exact hlA | exact hj1 | exact hj2 | exact hr | exact q1 | exact q2 | exact q3 | exact q4 | exact q5 | refine And.intro ?_ ?_ | intro _)
       refine Vq ?_
       refine Vr hG rfl ?_ ?_
       · repeat' (first | exact trivial | exact hb | exact sa | exact hlA | exact hj1 | exact hj2 | exact hr | exact q1 | exact q2 | exact q3 | exact q4 | exact q5 | refine And.intro ?_ ?_ | intro _)
       refine Vq (Vq ?_)
       refine VrD mixed hG rfl (by kernel_rfl) ?_ ?_
       · repeat' (first | exact trivial | exact hb | exact sa | exact hlA | exact hj1 | exact hj2 | exact hr | exact q1 | exact q2 | exact q3 | exact q4 | exact q5 | refine And.intro ?_ ?_ | intro _)
       refine Vk rfl ?_ ?_<;>intro h4
       · exact(fgBad3 h4).elim
       · refine Vs (Vq ?_)
         refine Vr hG rfl ?_ ?_
         · repeat' (first | exact trivial | exact hb | exact sa | exact hlA | exact hj1 | exact hj2 | exact hr | exact q1 | exact q2 | exact q3 | exact q4 | exact q5 | refine And.intro ?_ ?_ | intro _)
         refine Vq ?_
         refine Vr hG rfl ?_ ?_
         · repeat' (first | exact trivial | exact hb | exact sa | exact hlA | exact hj1 | exact hj2 | exact hr | exact q1 | exact q2 | exact q3 | exact q4 | exact q5 | refine And.intro ?_ ?_ | intro _)
         refine Vq ?_
         refine VrD mixed hG rfl (by kernel_rfl) ?_ ?_
         · repeat' (first | exact trivial | exact hb | exact sa | exact hlA | exact hj1 | exact hj2 | exact hr | exact q1 | exact q2 | exact q3 | exact q4 | exact q5 | refine And.intro ?_ ?_ | intro _)
         refine Vt ?_
         refine⟨?_,trivial⟩
         exact fgFin ha hlA
end Fw
