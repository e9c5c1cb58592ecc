/- Walks of functions of the program: what each computes. Conditions: those that each contract names. -/
import Derived.Test.YtpcljloahdbjcaaGreatW51T
import Derived.Test.YtpcljloahdbjcaaGreatW51i0
import Derived.Test.YtpcljloahdbjcaaGreatW51i1
import Derived.Test.YtpcljloahdbjcaaGreatW51i2
set_option linter.unusedVariables false
namespace Fw
open Go Go.Proofs
set_option linter.unusedSimpArgs false
set_option maxRecDepth 100000
noncomputable def F124:Fun:=⟨[.slice Y36,.int .i64],[.pure (.int .i64),.pure (.int .i64),.pure (.int .i64)],fun _=>True,fun x=>(((fun a0 a1=>(leastF a0 a1,mostF a0 a1,goodF a0 a1)) x.1 x.2.1).1,((fun a0 a1=>(leastF a0 a1,mostF a0 a1,goodF a0 a1)) x.1 x.2.1).2.1,((fun a0 a1=>(leastF a0 a1,mostF a0 a1,goodF a0 a1)) x.1 x.2.1).2.2,())⟩
theorem F124_ok:Meets Tryz.prog 124 F124:=by
 refine mZ (C:=mkC 49 [4,5,6] [0,1,4,5,6,7,8,9,11,12,13,14,15,25,32,37] []) (mO _ _ _ _) (fO _) Tryz.func124 rfl rfl rfl (by decide) rfl ?_
 rintro⟨a0,(a1:Int),_⟩ hwf hpre ⟨⟩ hG rfl rfl
 show Vc _ _ [(0,⟨0,0,.c Z40 a0⟩),(1,⟨0,0,.c (.pure (.int .i64)) a1⟩)] _
 have hb:List.length a0≤bigLen:=hwf.1.1
 refine Vm hG rfl (Vm hG rfl (Vq (Vm hG rfl ?_)))
 refine Vb ?_
 refine Vc.loopF [(7,false,.pure (.int .i64)),(8,false,.pure (.int .i64)),(9,false,.pure (.int .i64)),(14,false,.pure (.int .i64))] [0,1,4,5,6,12,13] (fun v=>foInv (lsS a1) (-1) a0 v.1 v.2.2.2.1∧foInv (msS a1) (-1) a0 v.2.1 v.2.2.2.1∧foInv (gsS a1) (-1) a0 v.2.2.1 v.2.2.2.1) (fun v=>((List.length a0:Int)-v.2.2.2.1).toNat) rfl ?_ ?_
 · exact⟨foStart,foStart,foStart⟩
 rintro⟨(x:Int),(y:Int),(z:Int),(i:Int),_⟩ hI
 have hI:foInv (lsS a1) (-1) a0 x i∧foInv (msS a1) (-1) a0 y i∧foInv (gsS a1) (-1) a0 z i:=hI
 refine Vm hG rfl (Vq ?_)
 refine Vk rfl ?_ ?_<;>intro h0
 · have hl:i<(List.length a0:Int):=oTr h0
   refine Vs (Vq (Vb (Vq ?_)))
   refine Vr hG rfl ?_ ?_
   · exact foRange hI.1 hl
   refine Vb (Vm hG rfl ?_)
   refine Vk rfl ?_ ?_<;>intro h1
   · have g1:((List.getD a0 i.toNat (dflt Y36)).1 != a1)=true:=h1
     have st:=fo3 (d:=dflt Y36) hI hl hb (lsN1 g1) (msN1 g1) (gsN1 g1)
     refine Vs (Vn hG rfl ?_)
     refine⟨rfl,?_⟩
     exact st
   · have g1:((List.getD a0 i.toNat (dflt Y36)).1 != a1)=false:=h1
     refine Vm hG rfl ?_
     refine Vk rfl ?_ ?_<;>intro h2
     · have g2:(List.getD a0 i.toNat (dflt Y36)).2.2.1<0:=oTr h2
       have st:=fo3 (d:=dflt Y36) hI hl hb (lsN2 g2) (msN2 g2) (gsY g1 g2)
       refine Vn hG rfl (Vn hG rfl ?_)
       refine⟨rfl,?_⟩
       exact st
     · have g2:¬(List.getD a0 i.toNat (dflt Y36)).2.2.1<0:=oFa h2
       refine Vq (Vm hG rfl ?_)
       refine Vk rfl ?_ ?_<;>intro h3
       · have st:=fo3 (d:=dflt Y36) hI hl hb (lsY g1 g2 h3) (msY g1 g2) (gsN2 g2)
         refine Vn hG rfl (Vn hG rfl (Vn hG rfl ?_))
         refine⟨rfl,?_⟩
         exact st
       · have st:=fo3 (d:=dflt Y36) hI hl hb (lsN3 h3) (msY g1 g2) (gsN2 g2)
         refine Vs (Vn hG rfl (Vn hG rfl ?_))
         refine⟨rfl,?_⟩
         exact st
 · have hl:¬i<(List.length a0:Int):=oFa h0
   refine Vx (Vm hG rfl (Vt ?_))
   refine⟨?_,?_,?_,trivial⟩
   · exact foEnd hI.1 hl
   · exact foEnd hI.2.1 hl
   · exact foEnd hI.2.2 hl
noncomputable def F224:Fun:=⟨[.slice Y36,.int .i64],[.pure (.int .i64)],fun _=>True,fun x=>(badFromF x.1 x.2.1,())⟩
theorem F224_ok:Meets Tryz.prog 224 F224:=by
 refine mZ (C:=mkC 21 [4] [0,1,4,6,7,16] [⟨124,_,F124_ok⟩]) (mO _ _ _ _) (fO _) Tryz.func224 rfl rfl rfl (by decide) rfl ?_
 rintro⟨a0,(a1:Int),_⟩ hwf hpre ⟨⟩ hG rfl rfl
 show Vc _ _ [(0,⟨0,0,.c Z40 a0⟩),(1,⟨0,0,.c (.pure (.int .i64)) a1⟩)] _
 refine Vm hG rfl (Vm hG rfl (Vq (Vm hG rfl ?_)))
 refine Vk rfl ?_ ?_<;>intro h0
 · refine Vm hG rfl (Vt ?_)
   refine⟨?_,trivial⟩
   exact bfA rfl h0
 · refine Vs (Vm hG rfl (Vt ?_))
   refine⟨?_,trivial⟩
   exact bfB rfl rfl h0
noncomputable def F192:Fun:=⟨[.slice Y5],[.own Z9],fun x=>(fun(l:List Span)=>List.length l≤2000000000) x.1,fun x=>(joinF x.1,())⟩
theorem F192_ok:Meets Tryz.prog 192 F192:=by
 refine mZ (C:=mkC 85 [2] [0,2,3,5,6,8,9,10,11,12,13,18,19,20,21,22,38,68] [⟨123,_,F123_ok⟩]) (mO _ _ _ _) (fO _) Tryz.func192 rfl rfl rfl (by decide) rfl ?_
 rintro⟨a0,_⟩ hwf hpre ⟨⟩ hG rfl rfl
 show Vc _ _ [(0,⟨0,0,.c Z14 a0⟩)] _
 have hs:List.length a0≤2000000000:=hpre
 have hb:List.length a0≤bigLen:=hwf.1.1
 refine Vm hG rfl (Vm hG rfl (Vq (Vm hG rfl ?_)))
 refine Vb ?_
 refine Vc.loopF [(3,false,.own Z9),(12,false,.pure (.int .i64))] [0,2,10,11] (fun v=>foInv joinG [] a0 v.1 v.2.1) (fun v=>((List.length a0:Int)-v.2.1).toNat) rfl ?_ ?_
 · exact foStart
 rintro⟨acc,(i:Int),_⟩ hI
 have hI:foInv joinG [] a0 acc i:=hI
 have hA:List.length acc≤2000000000:=joinLenI hI hs
 refine Vm hG rfl (Vq ?_)
 refine Vk rfl ?_ ?_<;>intro h0
 · have hl:i<(List.length a0:Int):=oTr h0
   refine Vs (Vq (Vb (Vq ?_)))
   refine Vr hG rfl ?_ ?_
   · exact foRange hI hl
   refine Vq (Vm hG rfl ?_)
   refine Vk rfl ?_ ?_<;>intro h1
   · have g1:isSpanF (List.getD a0 i.toNat (dflt Y5))=false:=notT' h1
     have st:=foStepE (d:=dflt Y5) hI hl hb (joinN g1)
     refine Vx (Vn hG rfl ?_)
     refine⟨rfl,?_⟩
     exact st
   · have g1:isSpanF (List.getD a0 i.toNat (dflt Y5))=true:=notF h1
     have hbA:List.length acc≤bigLen:=Nat.le_trans hA (by decide)
     refine Vs (Vm hG rfl (Vq (Vm hG rfl ?_)))
     refine Vb ?_
     refine Vc.loopF [(5,true,.pure Y5),(6,false,.own Z9),(21,false,.pure (.int .i64))] [0,2,3,9,10,11,12,13,18,19,20,68] (fun v=>foInv jG ([],(List.getD a0 i.toNat (dflt Y5))) acc (v.2.1,v.1) v.2.2.1) (fun v=>((List.length acc:Int)-v.2.2.1).toNat) rfl ?_ ?_
     · exact foStart
     rintro⟨s,nx,(j:Int),_⟩ hJ
     have hJ:foInv jG ([],(List.getD a0 i.toNat (dflt Y5))) acc (nx,s) j:=hJ
     have hN:List.length nx≤2000000000:=jLenI hJ hA
     refine Vm hG rfl (Vq ?_)
     refine Vk rfl ?_ ?_<;>intro h2
     · have hm:j<(List.length acc:Int):=oTr h2
       refine Vs (Vq (Vb (Vq ?_)))
       refine Vr hG rfl ?_ ?_
       · exact foRange hJ hm
       refine Vm hG rfl ?_
       refine Vk rfl ?_ ?_<;>intro h3
       · have g3:jApart (List.getD acc j.toNat (dflt Y5)) s=true:=h3
         have st2:=foStepE (d:=dflt Y5) hJ hm hbA (jY (n:=nx) g3)
         refine Vr hG rfl ?_ ?_
         · exact jApp hN
         refine Vn hG rfl ?_
         refine⟨rfl,?_⟩
         exact st2
       · have g3:jApart (List.getD acc j.toNat (dflt Y5)) s=false:=h3
         have st2:=foStepE (d:=dflt Y5) hJ hm hbA (jN (n:=nx) g3)
         refine Vn hG rfl (Vn hG rfl ?_)
         refine⟨rfl,?_⟩
         exact st2
     · have hm:¬j<(List.length acc:Int):=oFa h2
       refine Vx (Vm hG rfl (Vq (Vb ?_)))
       refine Vc.loopF [(9,false,.pure (.int .i64))] [0,2,3,5,6,8,10,11,12,13,18,19,20,21,22,38] (fun v=>tkInv (jP s) nx v.1) (fun v=>((List.length nx:Int)-v.1).toNat) rfl ?_ ?_
       · exact tkStart
       rintro⟨(k:Int),_⟩ hQ
       have hQ:tkInv (jP s) nx k:=hQ
       refine Vq (Vq ?_)
       refine VrD mixed hG rfl (by kernel_rfl) ?_ ?_
       · exact fun h=>tkRange hQ (oTr h)
       refine Vk rfl ?_ ?_<;>intro h4
       · have g4:pick2 (decide (k<(List.length nx:Int))) (jP s (List.getD nx k.toNat (dflt Y5))) false=true:=h4
         refine Vs (Vb (Vn hG rfl ?_))
         refine⟨rfl,?_⟩
         exact tkStepW (p:=jP s) hQ hN g4
       · have g4:pick2 (decide (k<(List.length nx:Int))) (jP s (List.getD nx k.toNat (dflt Y5))) false=false:=h4
         have hk:=tkEnd (p:=jP s) hQ g4
         have st:=foStepE (d:=dflt Y5) hI hl hb ((jDone hJ hm hQ hk).trans (joinY g1))
         refine Vx ?_
         refine VrD mixed hG rfl (by kernel_rfl) ?_ ?_
         · exact jConds hQ hN
         refine Vn hG rfl ?_
         refine⟨rfl,?_⟩
         exact st
 · have hl:¬i<(List.length a0:Int):=oFa h0
   refine Vx (Vm hG rfl (Vt ?_))
   refine⟨?_,trivial⟩
   exact foEnd hI hl
noncomputable def F263:Fun:=⟨[.pair (.int .i64) Y42,.slice Y36],[.own Z9],fun _=>True,fun x=>(badSpansF x.1 x.2.1,())⟩
theorem F263_ok:Meets Tryz.prog 263 F263:=by
 refine mZ (C:=mkCK 32 [4] [0,1,2,4,5,6,10,18] [⟨224,_,F224_ok⟩,⟨192,_,F192_ok⟩] [] [] [⟨320,_,K320_ok⟩] []) (mkCK_ok _ _ _ _ _ _ _ _) (fO _) Tryz.func263 rfl rfl rfl (by decide) rfl ?_
 rintro⟨a0,a1,_⟩ hwf hpre ⟨⟩ hG rfl rfl
 show Vc _ _ [(0,⟨0,0,.c Z46 a0⟩),(1,⟨0,0,.c Z40 a1⟩)] _
 refine Vm hG rfl (Vm hG rfl (Vm hG rfl (Vq ?_)))
 refine Vm hG rfl ?_
 refine Vk rfl ?_ ?_<;>intro h0
 · refine Vr hG rfl ?_ ?_
   · exact Nat.zero_le _
   refine Vq (Vm hG rfl ?_)
   refine Vk rfl ?_ ?_<;>intro h1
   · refine Vr hG rfl ?_ ?_
     · first
         | exact bp1
         | exact Nat.zero_le _
     refine Vq ?_
     refine Vr hG rfl ?_ ?_
     · exact⟨trivial,(by first | exact bp2 | exact bp1 | exact Nat.zero_le _)⟩
     refine Vq ?_
     refine Vr hG rfl ?_ ?_
     · exact(Nat.le_trans (by first | exact bp3 | exact bp2 | exact bp1) (show 1000≤2000000000 by decide))
     refine Vt ?_
     refine⟨?_,trivial⟩
     exact bdYY h0 h1
   · refine Vs (Vq ?_)
     refine Vr hG rfl ?_ ?_
     · exact⟨trivial,(by first | exact bp2 | exact bp1 | exact Nat.zero_le _)⟩
     refine Vq ?_
     refine Vr hG rfl ?_ ?_
     · exact(Nat.le_trans (by first | exact bp3 | exact bp2 | exact bp1) (show 1000≤2000000000 by decide))
     refine Vt ?_
     refine⟨?_,trivial⟩
     exact bdYN h0 h1
 · refine Vs (Vq (Vm hG rfl ?_))
   refine Vk rfl ?_ ?_<;>intro h2
   · refine Vr hG rfl ?_ ?_
     · first
         | exact bp1
         | exact Nat.zero_le _
     refine Vq ?_
     refine Vr hG rfl ?_ ?_
     · exact⟨trivial,(by first | exact bp2 | exact bp1 | exact Nat.zero_le _)⟩
     refine Vq ?_
     refine Vr hG rfl ?_ ?_
     · exact(Nat.le_trans (by first | exact bp3 | exact bp2 | exact bp1) (show 1000≤2000000000 by decide))
     refine Vt ?_
     refine⟨?_,trivial⟩
     exact bdNY h0 h2
   · refine Vs (Vq ?_)
     refine Vr hG rfl ?_ ?_
     · exact⟨trivial,(by first | exact bp2 | exact bp1 | exact Nat.zero_le _)⟩
     refine Vq ?_
     refine Vr hG rfl ?_ ?_
     · exact(Nat.le_trans (by first | exact bp3 | exact bp2 | exact bp1) (show 1000≤2000000000 by decide))
     refine Vt ?_
     refine⟨?_,trivial⟩
     exact bdNN h0 h2
noncomputable def F39:Fun:=⟨[.pair (.int .i64) (.int .i64),.pair (.int .i64) (.int .i64)],[.pure (.bool)],fun _=>True,fun x=>(isInsideF x.1 x.2.1,())⟩
theorem F39_ok:Meets Tryz.prog 39 F39:=by
 refine mZ (C:=mkC 25 [4] [0,1,2,3,4] [⟨123,_,F123_ok⟩]) (mO _ _ _ _) (fO _) Tryz.func39 rfl rfl rfl (by decide) rfl ?_
 rintro⟨a0,a1,_⟩ hwf hpre ⟨⟩ hG rfl rfl
 show Vc _ _ [(0,⟨0,0,.c Z9 a0⟩),(1,⟨0,0,.c Z9 a1⟩)] _
 refine Vm hG rfl (Vq ?_)
 refine Vr hG rfl ?_ ?_
 · repeat' (first | exact trivial | refine And.intro ?_ ?_ | intro _)
 refine Vt ?_
 refine⟨?_,trivial⟩
 all_goals exact rfl
noncomputable def F125:Fun:=⟨[.slice Y5,.pair (.int .i64) (.int .i64)],[.pure (.bool)],fun x=>(fun(l:List Span) (_:Span)=>List.length l≤2000000000) x.1 x.2.1,fun x=>(coversF x.1 x.2.1,())⟩
theorem F125_ok:Meets Tryz.prog 125 F125:=by
 refine mZ (C:=mkC 18 [4] [0,1,3,4,6,8,9,10,11,16] [⟨192,_,F192_ok⟩,⟨39,_,F39_ok⟩]) (mO _ _ _ _) (fO _) Tryz.func125 rfl rfl rfl (by decide) rfl ?_
 rintro⟨a0,a1,_⟩ hwf hpre ⟨⟩ hG rfl rfl
 show Vc _ _ [(0,⟨0,0,.c Z14 a0⟩),(1,⟨0,0,.c Z9 a1⟩)] _
 have hs:List.length a0≤2000000000:=hpre
 have hb:List.length a0≤bigLen:=hwf.1.1
 have hbj:List.length (joinF a0)≤bigLen:=Nat.le_trans (joinLen a0) hb
 refine Vm hG rfl (Vq (Vq ?_))
 refine Vr hG rfl ?_ ?_
 · exact hs
 refine Vb ?_
 refine Vc.loopF [(10,false,.pure (.int .i64))] [0,1,3,8,9] (fun v=>fInv (fun x=>isInsideF a1 x) (joinF a0) v.1) (fun v=>((List.length (joinF a0):Int)-v.1).toNat) rfl ?_ ?_
 · exact fStart
 rintro⟨(i:Int),_⟩ hI
 have hI:fInv (fun x=>isInsideF a1 x) (joinF a0) i:=hI
 refine Vm hG rfl (Vq ?_)
 refine Vk rfl ?_ ?_<;>intro h0
 · have hl:i<(List.length (joinF a0):Int):=oTr h0
   refine Vs (Vq (Vb (Vq ?_)))
   refine Vr hG rfl ?_ ?_
   · exact fRange hI hl
   refine Vm hG rfl ?_
   refine Vk rfl ?_ ?_<;>intro h1
   · have g1:isInsideF a1 (List.getD (joinF a0) i.toNat (dflt Y5))=true:=h1
     refine Vm hG rfl (Vt ?_)
     refine⟨?_,trivial⟩
     exact cvHit rfl hI hl g1
   · have g1:(fun x=>isInsideF a1 x) (List.getD (joinF a0) i.toNat (dflt Y5))=false:=h1
     refine Vs (Vn hG rfl ?_)
     refine⟨rfl,?_⟩
     exact fStep hI hl hbj g1
 · have hl:¬i<(List.length (joinF a0):Int):=oFa h0
   refine Vx (Vm hG rfl (Vt ?_))
   refine⟨?_,trivial⟩
   exact cvEnd rfl hI hl
noncomputable def F185:Fun:=⟨[.pair (.int .i64) Y42,.slice Y36,.pair (.int .i64) (.int .i64)],[.pure (.bool)],fun _=>True,fun x=>((fun c l s=>coversF (badSpansF c l) s) x.1 x.2.1 x.2.2.1,())⟩
theorem F185_ok:Meets Tryz.prog 185 F185:=by
 refine mZ (C:=mkC 12 [6] [0,1,2,3,5,6] [⟨263,_,F263_ok⟩,⟨125,_,F125_ok⟩]) (mO _ _ _ _) (fO _) Tryz.func185 rfl rfl rfl (by decide) rfl ?_
 rintro⟨a0,a1,a2,_⟩ hwf hpre ⟨⟩ hG rfl rfl
 show Vc _ _ [(0,⟨0,0,.c Z46 a0⟩),(1,⟨0,0,.c Z40 a1⟩),(2,⟨0,0,.c Z9 a2⟩)] _
 refine Vm hG rfl (Vq ?_)
 refine VrD mixed hG rfl (by kernel_rfl) ?_ ?_
 · exact⟨trivial,Nat.le_trans (badLen a0 a1) (by decide)⟩
 refine Vt ?_
 refine⟨?_,trivial⟩
 all_goals exact rfl
noncomputable def F41:Fun:=⟨[.slice Y36,.int .i64],[.pure (.int .i64)],fun _=>True,fun x=>(goodUntilF x.1 x.2.1,())⟩
theorem F41_ok:Meets Tryz.prog 41 F41:=by
 refine mZ (C:=mkC 20 [4] [0,1,4,5,7,16] [⟨124,_,F124_ok⟩]) (mO _ _ _ _) (fO _) Tryz.func41 rfl rfl rfl (by decide) rfl ?_
 rintro⟨a0,(a1:Int),_⟩ hwf hpre ⟨⟩ hG rfl rfl
 show Vc _ _ [(0,⟨0,0,.c Z40 a0⟩),(1,⟨0,0,.c (.pure (.int .i64)) a1⟩)] _
 refine Vm hG rfl (Vm hG rfl (Vq (Vm hG rfl ?_)))
 refine Vk rfl ?_ ?_<;>intro h0
 · refine Vm hG rfl (Vt ?_)
   refine⟨?_,trivial⟩
   exact guA rfl h0
 · refine Vs (Vm hG rfl (Vt ?_))
   refine⟨?_,trivial⟩
   exact guB rfl rfl h0
noncomputable def F354:Fun:=⟨[.pair (.int .i64) (.int .i64),.pair (.int .i64) (.int .i64)],[.pure Y5,.pure (.bool)],fun _=>True,fun x=>((meetF x.1 x.2.1).1,(meetF x.1 x.2.1).2,())⟩
theorem F354_ok:Meets Tryz.prog 354 F354:=by
 refine mZ (C:=mkC 33 [4,5] [0,1,2,3,4,5,6,30] [⟨123,_,F123_ok⟩]) (mO _ _ _ _) (fO _) Tryz.func354 rfl rfl rfl (by decide) rfl ?_
 rintro⟨a0,a1,_⟩ hwf hpre ⟨⟩ hG rfl rfl
 show Vc _ _ [(0,⟨0,0,.c Z9 a0⟩),(1,⟨0,0,.c Z9 a1⟩)] _
 refine Vm hG rfl (Vm hG rfl (Vq (Vq ?_)))
 refine Vr hG rfl ?_ ?_
 · repeat' (first | exact trivial | refine And.intro ?_ ?_ | intro _)
 refine Vk rfl ?_ ?_<;>intro h0
 · refine Vm hG rfl (Vt ?_)
   have e:=meI0 h0
   refine⟨?_,?_,trivial⟩
   · exact(congrArg Prod.fst e).symm
   · exact(congrArg Prod.snd e).symm
 · refine Vs (Vm hG rfl (Vt ?_))
   have e:=meI1 h0
   refine⟨?_,?_,trivial⟩
   · exact(congrArg Prod.fst e).symm
   · exact(congrArg Prod.snd e).symm
noncomputable def F321:Fun:=⟨[.slice Y5,.slice Y5],[.own Z9],fun x=>(fun(a b:List Span)=>List.length a≤1000∧List.length b≤1000) x.1 x.2.1,fun x=>(meetAllF x.1 x.2.1,())⟩
theorem F321_ok:Meets Tryz.prog 321 F321:=by
 refine mZ (C:=mkC 39 [4] [0,1,4,5,7,9,10,11,12,13,14,15,18,19,20,21,30] [⟨354,_,F354_ok⟩,⟨192,_,F192_ok⟩]) (mO _ _ _ _) (fO _) Tryz.func321 rfl rfl rfl (by decide) rfl ?_
 rintro⟨a0,a1,_⟩ hwf hpre ⟨⟩ hG rfl rfl
 show Vc _ _ [(0,⟨0,0,.c Z14 a0⟩),(1,⟨0,0,.c Z14 a1⟩)] _
 have hp1:List.length a0≤1000:=hpre.1
 have hp2:List.length a1≤1000:=hpre.2
 have hb:List.length a0≤bigLen:=hwf.1.1
 have hb1:List.length a1≤bigLen:=hwf.2.1.1
 refine Vm hG rfl (Vm hG rfl (Vq (Vm hG rfl ?_)))
 refine Vb ?_
 refine Vc.loopF [(5,false,.own Z9),(14,false,.pure (.int .i64))] [0,1,4,12,13] (fun v=>foInv (meR a1) [] a0 v.1 v.2.1) (fun v=>((List.length a0:Int)-v.2.1).toNat) rfl ?_ ?_
 · exact foStart
 rintro⟨acc,(i:Int),_⟩ hI
 have hI:foInv (meR a1) [] a0 acc i:=hI
 have hA:List.length acc≤1000000:=meLenI hI hp1 hp2
 refine Vm hG rfl (Vq ?_)
 refine Vk rfl ?_ ?_<;>intro h0
 · have hl:i<(List.length a0:Int):=oTr h0
   refine Vs (Vq (Vb (Vq ?_)))
   refine Vr hG rfl ?_ ?_
   · exact foRange hI hl
   refine Vm hG rfl (Vb ?_)
   refine Vc.loopF [(5,false,.own Z9),(20,false,.pure (.int .i64))] [0,1,4,7,12,13,14,15,18,19] (fun v=>foInv (meG (List.getD a0 i.toNat (dflt Y5))) acc a1 v.1 v.2.1) (fun v=>((List.length a1:Int)-v.2.1).toNat) rfl ?_ ?_
   · exact foStart
   rintro⟨ac2,(k:Int),_⟩ hK
   have hK:foInv (meG (List.getD a0 i.toNat (dflt Y5))) acc a1 ac2 k:=hK
   have hA2:List.length ac2≤2000000:=meLenJ hK hA hp2
   refine Vm hG rfl (Vq ?_)
   refine Vk rfl ?_ ?_<;>intro h1
   · have hm:k<(List.length a1:Int):=oTr h1
     refine Vs (Vq (Vb (Vq ?_)))
     refine Vr hG rfl ?_ ?_
     · exact foRange hK hm
     refine Vm hG rfl (Vm hG rfl ?_)
     refine Vk rfl ?_ ?_<;>intro h2
     · have g2:(meetF (List.getD a0 i.toNat (dflt Y5)) (List.getD a1 k.toNat (dflt Y5))).2=true:=h2
       have st:=foStepE (d:=dflt Y5) hK hm hb1 (meY g2)
       refine Vr hG rfl ?_ ?_
       · exact meApp hA2
       refine Vn hG rfl ?_
       refine⟨rfl,?_⟩
       exact st
     · have g2:(meetF (List.getD a0 i.toNat (dflt Y5)) (List.getD a1 k.toNat (dflt Y5))).2=false:=h2
       have st:=foStepE (d:=dflt Y5) hK hm hb1 (meN (acc:=ac2) g2)
       refine Vs (Vn hG rfl ?_)
       refine⟨rfl,?_⟩
       exact st
   · have hm:¬k<(List.length a1:Int):=oFa h1
     refine Vx (Vn hG rfl ?_)
     refine⟨rfl,?_⟩
     exact foStepE (d:=dflt Y5) hI hl hb (foEnd hK hm)
 · have hl:¬i<(List.length a0:Int):=oFa h0
   refine Vx (Vq ?_)
   refine Vr hG rfl ?_ ?_
   · exact meBig hp1 hp2 (foEnd hI hl)
   refine Vt ?_
   refine⟨?_,trivial⟩
   exact congrArg joinF (foEnd hI hl)
noncomputable def F264:Fun:=⟨[.pair (.int .i64) Y42,.slice Y36],[.own Z9],fun _=>True,fun x=>(goodSpansF x.1 x.2.1,())⟩
theorem F264_ok:Meets Tryz.prog 264 F264:=by
 refine mZ (C:=mkC 15 [4] [0,1,2,4] [⟨40,_,F40_ok⟩,⟨41,_,F41_ok⟩,⟨321,_,F321_ok⟩]) (mO _ _ _ _) (fO _) Tryz.func264 rfl rfl rfl (by decide) rfl ?_
 rintro⟨a0,a1,_⟩ hwf hpre ⟨⟩ hG rfl rfl
 show Vc _ _ [(0,⟨0,0,.c Z46 a0⟩),(1,⟨0,0,.c Z40 a1⟩)] _
 refine Vm hG rfl (Vq ?_)
 refine VrD mixed hG rfl (by kernel_rfl) ?_ ?_
 · exact⟨trivial,trivial,one1,one1⟩
 refine Vt ?_
 refine⟨?_,trivial⟩
 all_goals exact rfl
noncomputable def F186:Fun:=⟨[.pair (.int .i64) Y42,.slice Y36,.pair (.int .i64) (.int .i64)],[.pure (.bool)],fun _=>True,fun x=>((fun c l s=>coversF (goodSpansF c l) s) x.1 x.2.1 x.2.2.1,())⟩
theorem F186_ok:Meets Tryz.prog 186 F186:=by
 refine mZ (C:=mkC 12 [6] [0,1,2,3,5,6] [⟨264,_,F264_ok⟩,⟨125,_,F125_ok⟩]) (mO _ _ _ _) (fO _) Tryz.func186 rfl rfl rfl (by decide) rfl ?_
 rintro⟨a0,a1,a2,_⟩ hwf hpre ⟨⟩ hG rfl rfl
 show Vc _ _ [(0,⟨0,0,.c Z46 a0⟩),(1,⟨0,0,.c Z40 a1⟩),(2,⟨0,0,.c Z9 a2⟩)] _
 refine Vm hG rfl (Vq ?_)
 refine VrD mixed hG rfl (by kernel_rfl) ?_ ?_
 · exact⟨trivial,Nat.le_trans (goodLen a0 a1) (by decide)⟩
 refine Vt ?_
 refine⟨?_,trivial⟩
 all_goals exact rfl
noncomputable def F44:Fun:=⟨[.slice Y20],[.own Z43],fun x=>(fun a0=>List.length a0≤2000000000) x.1,fun x=>(mandatesF x.1,())⟩
theorem F44_ok:Meets Tryz.prog 44 F44:=by
 refine mZ (C:=mkC 26 [2] [0,2,3,5,6,7,8,9,10,11,19] [⟨105,_,F105_ok⟩]) (mO _ _ _ _) (fO _) Tryz.func44 rfl rfl rfl (by decide) rfl ?_
 rintro⟨a0,_⟩ hwf hpre ⟨⟩ hG rfl rfl
 show Vc _ _ [(0,⟨0,0,.c Z29 a0⟩)] _
 have hb:List.length a0≤bigLen:=hwf.1.1
 have hs:List.length a0≤2000000000:=hpre
 refine Vm hG rfl (Vm hG rfl (Vq (Vm hG rfl ?_)))
 refine Vb ?_
 refine Vc.loopF [(3,false,.own Z43),(10,false,.pure (.int .i64))] [0,2,8,9] (fun v=>pkInv (pieceMandF) a0 v.1 v.2.1) (fun v=>((List.length a0:Int)-v.2.1).toNat) rfl ?_ ?_
 · exact pkStart
 rintro⟨acc,(i:Int),_⟩ hI
 have hI:pkInv (pieceMandF) a0 acc i:=hI
 refine Vm hG rfl (Vq ?_)
 refine Vk rfl ?_ ?_<;>intro h0
 · have hl:i<(List.length a0:Int):=oTr h0
   refine Vs (Vq (Vb (Vq ?_)))
   refine Vr hG rfl ?_ ?_
   · exact pkRange hI hl
   refine Vm hG rfl (Vm hG rfl ?_)
   refine Vk rfl ?_ ?_<;>intro h1
   · have g1:((pieceMandF) (List.getD a0 i.toNat (dflt Y20))).2=true:=h1
     refine Vr hG rfl ?_ ?_
     · exact pkLenW hI hs
     refine Vn hG rfl ?_
     refine⟨rfl,?_⟩
     first
       | exact pkYes (d:=dflt Y20) hI hl hb g1
       | exact pkNo (d:=dflt Y20) hI hl hb g1
   · have g1:((pieceMandF) (List.getD a0 i.toNat (dflt Y20))).2=false:=h1
     refine Vs (Vn hG rfl ?_)
     refine⟨rfl,?_⟩
     first
       | exact pkYes (d:=dflt Y20) hI hl hb g1
       | exact pkNo (d:=dflt Y20) hI hl hb g1
 · have hl:¬i<(List.length a0:Int):=oFa h0
   refine Vx (Vm hG rfl (Vt ?_))
   refine⟨?_,trivial⟩
   exact pkEnd hI hl
noncomputable def F266:Fun:=⟨[.pair (.int .i64) Y36],[.pure (.bool)],fun _=>True,fun x=>(isMandF x.1,())⟩
theorem F266_ok:Meets Tryz.prog 266 F266:=by
 refine mZ (C:=mkC 24 [2] [0,1,2] [⟨86,_,F86_ok⟩,⟨123,_,F123_ok⟩]) (mO _ _ _ _) (fO _) Tryz.func266 rfl rfl rfl (by decide) rfl ?_
 rintro⟨a0,_⟩ hwf hpre ⟨⟩ hG rfl rfl
 show Vc _ _ [(0,⟨0,0,.c Z43 a0⟩)] _
 refine Vm hG rfl (Vq ?_)
 refine Vr hG rfl ?_ ?_
 · repeat' (first | exact trivial | refine And.intro ?_ ?_ | intro _)
 refine Vt ?_
 refine⟨?_,trivial⟩
 all_goals exact rfl
noncomputable def F267:Fun:=⟨[.pair (.int .i64) Y36],[.own (.pure (.int .i64))],fun _=>True,fun x=>(mandIntsF x.1,())⟩
theorem F267_ok:Meets Tryz.prog 267 F267:=by
 refine mZ (C:=mkC 14 [2] [0,1,2] []) (mO _ _ _ _) (fO _) Tryz.func267 rfl rfl rfl (by decide) rfl ?_
 rintro⟨a0,_⟩ hwf hpre ⟨⟩ hG rfl rfl
 show Vc _ _ [(0,⟨0,0,.c Z43 a0⟩)] _
 refine Vm hG rfl (Vm hG rfl (Vt ?_))
 refine⟨?_,trivial⟩
 all_goals exact rfl
noncomputable def F193:Fun:=⟨[.slice Y36,.pair (.int .i64) Y36],[.pure (.bool)],fun _=>True,fun x=>(checkMandF x.1 x.2.1,())⟩
theorem F193_ok:Meets Tryz.prog 193 F193:=by
 refine mZ (C:=mkC 26 [4] [0,1,3,4] [⟨266,_,F266_ok⟩,⟨189,_,F189_ok⟩,⟨267,_,F267_ok⟩,⟨106,_,F106_ok⟩]) (mO _ _ _ _) (fO _) Tryz.func193 rfl rfl rfl (by decide) rfl ?_
 rintro⟨a0,a1,_⟩ hwf hpre ⟨⟩ hG rfl rfl
 show Vc _ _ [(0,⟨0,0,.c Z40 a0⟩),(1,⟨0,0,.c Z43 a1⟩)] _
 refine Vm hG rfl (Vq ?_)
 refine VrD mixed hG rfl (by kernel_rfl) ?_ ?_
 · repeat' (first | exact trivial | exact smallLit (n:=6) rfl (by decide) | refine And.intro ?_ ?_ | intro _)
 refine Vt ?_
 refine⟨?_,trivial⟩
 all_goals exact rfl
noncomputable def F126:Fun:=⟨[.slice Y36,.slice Y42,.int .i64,.int .i64],[.own Z9],fun x=>(fun(_:List Key) (l:List Mandate) (_ _:Int)=>List.length l≤2000000000) x.1 x.2.1 x.2.2.1 x.2.2.2.1,fun x=>(mandSpansF x.1 x.2.1 x.2.2.1 x.2.2.2.1,())⟩
theorem F126_ok:Meets Tryz.prog 126 F126:=by
 refine mZ (C:=mkC 44 [8] [0,1,2,3,8,9,11,12,13,14,15,32] [⟨193,_,F193_ok⟩,⟨192,_,F192_ok⟩]) (mO _ _ _ _) (fO _) Tryz.func126 rfl rfl rfl (by decide) rfl ?_
 rintro⟨a0,a1,(a2:Int),(a3:Int),_⟩ hwf hpre ⟨⟩ hG rfl rfl
 show Vc _ _ [(0,⟨0,0,.c Z40 a0⟩),(1,⟨0,0,.c (.pure (.slice Y42)) a1⟩),(2,⟨0,0,.c (.pure (.int .i64)) a2⟩),(3,⟨0,0,.c (.pure (.int .i64)) a3⟩)] _
 have hs:List.length a1≤2000000000:=hpre
 have hb:List.length a1≤bigLen:=hwf.2.1.1
 refine Vm hG rfl (Vm hG rfl (Vq (Vm hG rfl ?_)))
 refine Vb ?_
 refine Vc.loopF [(9,false,.own Z9),(14,false,.pure (.int .i64))] [0,1,2,3,8,12,13] (fun v=>pkInv (mdF a0 a2 a3) a1 v.1 v.2.1) (fun v=>((List.length a1:Int)-v.2.1).toNat) rfl ?_ ?_
 · exact pkStart
 rintro⟨acc,(i:Int),_⟩ hI
 have hI:pkInv (mdF a0 a2 a3) a1 acc i:=hI
 refine Vm hG rfl (Vq ?_)
 refine Vk rfl ?_ ?_<;>intro h0
 · have hl:i<(List.length a1:Int):=oTr h0
   refine Vs (Vq (Vb (Vq ?_)))
   refine Vr hG rfl ?_ ?_
   · exact pkRange hI hl
   refine Vq ?_
   refine Vr hG rfl ?_ ?_
   · repeat' (first | exact trivial | refine And.intro ?_ ?_ | intro _)
   refine Vk rfl ?_ ?_<;>intro h1
   · have g1:((mdF a0 a2 a3) (List.getD a1 i.toNat (dflt Y42))).2=true:=h1
     have st:=pkYes (d:=dflt Y42) hI hl hb g1
     refine Vr hG rfl ?_ ?_
     · exact pkLenW hI hs
     refine Vn hG rfl ?_
     refine⟨rfl,?_⟩
     exact st
   · have g1:((mdF a0 a2 a3) (List.getD a1 i.toNat (dflt Y42))).2=false:=h1
     have st:=pkNo (d:=dflt Y42) hI hl hb g1
     refine Vs (Vn hG rfl ?_)
     refine⟨rfl,?_⟩
     exact st
 · have hl:¬i<(List.length a1:Int):=oFa h0
   refine Vx (Vq ?_)
   refine Vr hG rfl ?_ ?_
   · exact pkBigW hs (pkEnd hI hl)
   refine Vt ?_
   refine⟨?_,trivial⟩
   exact congrArg joinF (pkEnd hI hl)
noncomputable def F43:Fun:=⟨[.slice Y36,.slice Y42,.int .i64,.int .i64,.pair (.int .i64) (.int .i64)],[.pure (.bool)],fun x=>(fun(_:List Key) (l:List Mandate) (_ _:Int) (_:Span)=>List.length l≤2000000000) x.1 x.2.1 x.2.2.1 x.2.2.2.1 x.2.2.2.2.1,fun x=>(maySignF x.1 x.2.1 x.2.2.1 x.2.2.2.1 x.2.2.2.2.1,())⟩
theorem F43_ok:Meets Tryz.prog 43 F43:=by
 refine mZ (C:=mkC 26 [10] [0,1,2,3,4,9,10] [⟨123,_,F123_ok⟩,⟨126,_,F126_ok⟩,⟨125,_,F125_ok⟩]) (mO _ _ _ _) (fO _) Tryz.func43 rfl rfl rfl (by decide) rfl ?_
 rintro⟨a0,a1,(a2:Int),(a3:Int),a4,_⟩ hwf hpre ⟨⟩ hG rfl rfl
 show Vc _ _ [(0,⟨0,0,.c Z40 a0⟩),(1,⟨0,0,.c (.pure (.slice Y42)) a1⟩),(2,⟨0,0,.c (.pure (.int .i64)) a2⟩),(3,⟨0,0,.c (.pure (.int .i64)) a3⟩),(4,⟨0,0,.c Z9 a4⟩)] _
 have hs:List.length a1≤2000000000:=hpre
 refine Vm hG rfl (Vq ?_)
 refine VrD mixed hG rfl (by kernel_rfl) ?_ ?_
 · exact⟨fun _=>trivial,fun _=>hs,fun _=>mandSpLen hs⟩
 refine Vt ?_
 refine⟨?_,trivial⟩
 exact mayI
end Fw
