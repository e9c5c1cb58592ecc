/- Walks of functions of the program: what each computes. Conditions: those that each contract names. -/
import Derived.Test.YtacmkmcclbpolaaGreatW23T
import Derived.Test.YtacmkmcclbpolaaGreatW23s0
import Derived.Test.YtacmkmcclbpolaaGreatW23s1
set_option linter.unusedVariables false
namespace Fw
open Go Go.Proofs
set_option linter.unusedSimpArgs false
set_option maxRecDepth 100000
noncomputable def F328:Fun:=⟨[.slice Y4,.pair (.int .i64) (.int .i64)],[.own Z8],fun x=>(fun(l:List Span) (_:Span)=>List.length l≤2000000000) x.1 x.2.1,fun x=>(jPut x.1 x.2.1,())⟩
theorem F328_ok:Meets Tryz.prog 328 F328:=by
 refine mZ (C:=mkC 78 [4] [0,1,3,4,5,6,7,8,13,33,63] [⟨189,_,F189_ok⟩,⟨199,_,F199_ok⟩]) (mO _ _ _ _) (fO _) Tryz.func328 rfl rfl rfl (by decide) rfl ?_
 rintro⟨a0,a1,_⟩ hwf hpre ⟨⟩ hG rfl rfl
 show Vc _ _ [(0,⟨0,0,.c Z14 a0⟩),(1,⟨0,0,.c Z8 a1⟩)] _
 have hs:List.length a0≤2000000000:=hpre
 have hb:List.length a0≤bigLen:=hwf.1.1
 refine Vm hG rfl (Vm hG rfl (Vq (Vm hG rfl ?_)))
 refine Vb ?_
 refine Vc.loopF [(3,true,.pure Y4),(5,false,.own Z8),(6,false,.pure (.int .i64))] [0,1,4,8,63] (fun v=>foInv jG ([],a1) a0 (v.2.1,v.1) v.2.2.1) (fun v=>((List.length a0:Int)-v.2.2.1).toNat) rfl ?_ ?_
 · exact foStart
 rintro⟨s,nx,(j:Int),_⟩ hJ
 have hJ:foInv jG ([],a1) a0 (nx,s) j:=hJ
 have hN:List.length nx≤2000000000:=jLenI hJ hs
 refine Vq (Vm hG rfl ?_)
 refine Vk rfl ?_ ?_<;>intro h0
 · have hm:j<(List.length a0:Int):=oTr h0
   refine Vs (Vq (Vb (Vq ?_)))
   refine Vr hG rfl ?_ ?_
   · exact foRange hJ hm
   refine Vq (Vm hG rfl ?_)
   refine Vk rfl ?_ ?_<;>intro h1
   · have g3:jApart (List.getD a0 j.toNat (dflt Y4)) s=true:=h1
     have st2:=foStepE (d:=dflt Y4) hJ hm hb (jY (n:=nx) g3)
     refine Vq ?_
     refine Vr hG rfl ?_ ?_
     · exact jApp hN
     refine Vx (Vn hG rfl ?_)
     refine⟨rfl,?_⟩
     exact st2
   · have g3:jApart (List.getD a0 j.toNat (dflt Y4)) s=false:=h1
     have st2:=foStepE (d:=dflt Y4) hJ hm hb (jN (n:=nx) g3)
     refine Vs (Vm hG rfl (Vn hG rfl (Vn hG rfl ?_)))
     refine⟨rfl,?_⟩
     exact st2
 · have hm:¬j<(List.length a0:Int):=oFa h0
   refine Vx (Vm hG rfl (Vq (Vb ?_)))
   refine Vc.loopF [(8,false,.pure (.int .i64))] [0,1,3,4,5,6,7,13,33] (fun v=>tkInv (jP s) nx v.1) (fun v=>((List.length nx:Int)-v.1).toNat) rfl ?_ ?_
   · exact tkStart
   rintro⟨(k:Int),_⟩ hQ
   have hQ:tkInv (jP s) nx k:=hQ
   refine Vq (Vq ?_)
   refine VrD mixed hG rfl (by kernel_rfl) ?_ ?_
   · exact fun h=>tkRange hQ (oTr h)
   refine Vk rfl ?_ ?_<;>intro h2
   · have g4:pick2 (decide (k<(List.length nx:Int))) (jP s (List.getD nx k.toNat (dflt Y4))) false=true:=h2
     refine Vs (Vb (Vn hG rfl ?_))
     refine⟨rfl,?_⟩
     exact tkStepW (p:=jP s) hQ hN g4
   · have g4:pick2 (decide (k<(List.length nx:Int))) (jP s (List.getD nx k.toNat (dflt Y4))) false=false:=h2
     have hk:=tkEnd (p:=jP s) hQ g4
     refine Vx (Vq ?_)
     refine VrD mixed hG rfl (by kernel_rfl) ?_ ?_
     · exact jConds hQ hN
     refine Vt ?_
     refine⟨?_,trivial⟩
     exact jDone hJ hm hQ hk
noncomputable def F270:Fun:=⟨[.slice Y4],[.own Z8],fun x=>(fun(l:List Span)=>List.length l≤2000000000) x.1,fun x=>(joinF x.1,())⟩
theorem F270_ok:Meets Tryz.prog 270 F270:=by
 refine mZ (C:=mkC 24 [2] [0,2,3,4,9,16] [⟨204,_,F204_ok⟩,⟨328,_,F328_ok⟩]) (mO _ _ _ _) (fO _) Tryz.func270 rfl rfl rfl (by decide) rfl ?_
 rintro⟨a0,_⟩ hwf hpre ⟨⟩ hG rfl rfl
 show Vc _ _ [(0,⟨0,0,.c Z14 a0⟩)] _
 have hs:List.length a0≤2000000000:=hpre
 have hb:List.length a0≤bigLen:=hwf.1.1
 refine Vm hG rfl (Vm hG rfl (Vq (Vm hG rfl ?_)))
 refine Vb ?_
 refine Vc.loopF [(3,false,.own Z8),(4,false,.pure (.int .i64))] [0,2] (fun v=>foInv joinG [] a0 v.1 v.2.1) (fun v=>((List.length a0:Int)-v.2.1).toNat) rfl ?_ ?_
 · exact foStart
 rintro⟨acc,(i:Int),_⟩ hI
 have hI:foInv joinG [] a0 acc i:=hI
 have hA:List.length acc≤2000000000:=joinLenI hI hs
 refine Vq (Vm hG rfl ?_)
 refine Vk rfl ?_ ?_<;>intro h0
 · have hl:i<(List.length a0:Int):=oTr h0
   refine Vs (Vq (Vb (Vq ?_)))
   refine Vr hG rfl ?_ ?_
   · exact⟨foRange hI hl,trivial⟩
   refine Vk rfl ?_ ?_<;>intro h1
   · have g1:isSpanF (List.getD a0 i.toNat (dflt Y4))=true:=h1
     have st:=foStepE (d:=dflt Y4) hI hl hb (joinY g1)
     refine Vr hG rfl ?_ ?_
     · exact⟨foRange hI hl,hA⟩
     refine Vn hG rfl ?_
     refine⟨rfl,?_⟩
     exact st
   · have g1:isSpanF (List.getD a0 i.toNat (dflt Y4))=false:=h1
     have st:=foStepE (d:=dflt Y4) hI hl hb (joinN g1)
     refine Vs (Vn hG rfl ?_)
     refine⟨rfl,?_⟩
     exact st
 · have hl:¬i<(List.length a0:Int):=oFa h0
   refine Vx (Vm hG rfl (Vt ?_))
   refine⟨?_,trivial⟩
   exact foEnd hI hl
noncomputable def F202:Fun:=⟨[.pair (.int .i64) Y38,.slice Y32],[.own Z8],fun _=>True,fun x=>(badSpansF x.1 x.2.1,())⟩
theorem F202_ok:Meets Tryz.prog 202 F202:=by
 refine mZ (C:=mkCM 30 [4] [0,1,2,4,5,9,17] [⟨273,_,F273_ok⟩,⟨270,_,F270_ok⟩] [] [⟨272,_,T272_ok⟩] []) (mkCM_ok _ _ _ _ _ _ _) (fO _) Tryz.func202 rfl rfl rfl (by decide) rfl ?_
 rintro⟨a0,a1,_⟩ hwf hpre ⟨⟩ hG rfl rfl
 show Vc _ _ [(0,⟨0,0,.c Z46 a0⟩),(1,⟨0,0,.c Z36 a1⟩)] _
 refine Vm hG rfl (Vm hG rfl (Vq (Vm hG rfl ?_)))
 refine Vk rfl ?_ ?_<;>intro h0
 · refine Vr hG rfl ?_ ?_
   · exact Nat.zero_le _
   refine Vq (Vm hG rfl ?_)
   refine Vk rfl ?_ ?_<;>intro h1
   · refine Vr hG rfl ?_ ?_
     · first
         | exact bp1
         | exact Nat.zero_le _
     refine Vq ?_
     refine Vr hG rfl ?_ ?_
     · exact⟨trivial,(by first | exact bp2 | exact bp1 | exact Nat.zero_le _),(Nat.le_trans (by first | exact bp3 | exact bp2 | exact bp1) (show 1000≤2000000000 by decide))⟩
     refine Vt ?_
     refine⟨?_,trivial⟩
     exact bdYY h0 h1
   · refine Vs (Vq ?_)
     refine Vr hG rfl ?_ ?_
     · exact⟨trivial,(by first | exact bp2 | exact bp1 | exact Nat.zero_le _),(Nat.le_trans (by first | exact bp3 | exact bp2 | exact bp1) (show 1000≤2000000000 by decide))⟩
     refine Vt ?_
     refine⟨?_,trivial⟩
     exact bdYN h0 h1
 · refine Vs (Vq (Vm hG rfl ?_))
   refine Vk rfl ?_ ?_<;>intro h2
   · refine Vr hG rfl ?_ ?_
     · first
         | exact bp1
         | exact Nat.zero_le _
     refine Vq ?_
     refine Vr hG rfl ?_ ?_
     · exact⟨trivial,(by first | exact bp2 | exact bp1 | exact Nat.zero_le _),(Nat.le_trans (by first | exact bp3 | exact bp2 | exact bp1) (show 1000≤2000000000 by decide))⟩
     refine Vt ?_
     refine⟨?_,trivial⟩
     exact bdNY h0 h2
   · refine Vs (Vq ?_)
     refine Vr hG rfl ?_ ?_
     · exact⟨trivial,(by first | exact bp2 | exact bp1 | exact Nat.zero_le _),(Nat.le_trans (by first | exact bp3 | exact bp2 | exact bp1) (show 1000≤2000000000 by decide))⟩
     refine Vt ?_
     refine⟨?_,trivial⟩
     exact bdNN h0 h2
noncomputable def F271:Fun:=⟨[.pair (.int .i64) (.int .i64),.pair (.int .i64) (.int .i64)],[.pure (.bool)],fun _=>True,fun x=>(isInsideF x.1 x.2.1,())⟩
theorem F271_ok:Meets Tryz.prog 271 F271:=by
 refine mZ (C:=mkC 25 [4] [0,1,2,3,4] [⟨204,_,F204_ok⟩]) (mO _ _ _ _) (fO _) Tryz.func271 rfl rfl rfl (by decide) rfl ?_
 rintro⟨a0,a1,_⟩ hwf hpre ⟨⟩ hG rfl rfl
 show Vc _ _ [(0,⟨0,0,.c Z8 a0⟩),(1,⟨0,0,.c Z8 a1⟩)] _
 refine Vm hG rfl (Vq ?_)
 refine Vr hG rfl ?_ ?_
 · repeat' (first | exact trivial | refine And.intro ?_ ?_ | intro _)
 refine Vt ?_
 refine⟨?_,trivial⟩
 all_goals exact rfl
noncomputable def F201:Fun:=⟨[.slice Y4,.pair (.int .i64) (.int .i64)],[.pure (.bool)],fun x=>(fun(l:List Span) (_:Span)=>List.length l≤2000000000) x.1 x.2.1,fun x=>(coversF x.1 x.2.1,())⟩
theorem F201_ok:Meets Tryz.prog 201 F201:=by
 refine mZ (C:=mkC 21 [4] [0,1,3,4,5,6,12,20] [⟨270,_,F270_ok⟩,⟨271,_,F271_ok⟩]) (mO _ _ _ _) (fO _) Tryz.func201 rfl rfl rfl (by decide) rfl ?_
 rintro⟨a0,a1,_⟩ hwf hpre ⟨⟩ hG rfl rfl
 show Vc _ _ [(0,⟨0,0,.c Z14 a0⟩),(1,⟨0,0,.c Z8 a1⟩)] _
 have hs:List.length a0≤2000000000:=hpre
 have hb:List.length a0≤bigLen:=hwf.1.1
 have hbj:List.length (joinF a0)≤bigLen:=Nat.le_trans (joinLen a0) hb
 refine Vm hG rfl (Vq ?_)
 refine Vr hG rfl ?_ ?_
 · exact hs
 refine Vq (Vm hG rfl (Vb ?_))
 refine Vc.loopF [(6,false,.pure (.int .i64))] [0,1,3,5] (fun v=>fInv (fun x=>isInsideF a1 x) (joinF a0) v.1) (fun v=>((List.length (joinF a0):Int)-v.1).toNat) rfl ?_ ?_
 · exact fStart
 rintro⟨(i:Int),_⟩ hI
 have hI:fInv (fun x=>isInsideF a1 x) (joinF a0) i:=hI
 refine Vq (Vm hG rfl ?_)
 refine Vk rfl ?_ ?_<;>intro h0
 · have hl:i<(List.length (joinF a0):Int):=oTr h0
   refine Vs (Vq (Vb (Vq ?_)))
   refine VrD mixed hG rfl (by kernel_rfl) ?_ ?_
   · exact⟨fRange hI hl,trivial⟩
   refine Vk rfl ?_ ?_<;>intro h1
   · have g1:isInsideF a1 (List.getD (joinF a0) i.toNat (dflt Y4))=true:=h1
     refine Vm hG rfl (Vt ?_)
     refine⟨?_,trivial⟩
     exact cvHit rfl hI hl g1
   · have g1:(fun x=>isInsideF a1 x) (List.getD (joinF a0) i.toNat (dflt Y4))=false:=h1
     refine Vs (Vn hG rfl ?_)
     refine⟨rfl,?_⟩
     exact fStep hI hl hbj g1
 · have hl:¬i<(List.length (joinF a0):Int):=oFa h0
   refine Vx (Vm hG rfl (Vt ?_))
   refine⟨?_,trivial⟩
   exact cvEnd rfl hI hl
noncomputable def F131:Fun:=⟨[.pair (.int .i64) Y38,.slice Y32,.pair (.int .i64) (.int .i64)],[.pure (.bool)],fun _=>True,fun x=>((fun c l s=>coversF (badSpansF c l) s) x.1 x.2.1 x.2.2.1,())⟩
theorem F131_ok:Meets Tryz.prog 131 F131:=by
 refine mZ (C:=mkC 12 [6] [0,1,2,3,5,6] [⟨202,_,F202_ok⟩,⟨201,_,F201_ok⟩]) (mO _ _ _ _) (fO _) Tryz.func131 rfl rfl rfl (by decide) rfl ?_
 rintro⟨a0,a1,a2,_⟩ hwf hpre ⟨⟩ hG rfl rfl
 show Vc _ _ [(0,⟨0,0,.c Z46 a0⟩),(1,⟨0,0,.c Z36 a1⟩),(2,⟨0,0,.c Z8 a2⟩)] _
 refine Vm hG rfl (Vq ?_)
 refine VrD mixed hG rfl (by kernel_rfl) ?_ ?_
 · exact⟨trivial,Nat.le_trans (badLen a0 a1) (by decide)⟩
 refine Vt ?_
 refine⟨?_,trivial⟩
 all_goals exact rfl
noncomputable def F274:Fun:=⟨[.slice Y32,.int .i64],[.pure (.int .i64)],fun _=>True,fun x=>(goodUntilF x.1 x.2.1,())⟩
theorem F274_ok:Meets Tryz.prog 274 F274:=by
 refine mZ (C:=mkC 55 [4] [0,1,4,5,6,7,11,20,26,44,51] [⟨199,_,F199_ok⟩]) (mO _ _ _ _) (fO _) Tryz.func274 rfl rfl rfl (by decide) rfl ?_
 rintro⟨a0,(a1:Int),_⟩ hwf hpre ⟨⟩ hG rfl rfl
 show Vc _ _ [(0,⟨0,0,.c Z36 a0⟩),(1,⟨0,0,.c (.pure (.int .i64)) a1⟩)] _
 have hb:List.length a0≤bigLen:=hwf.1.1
 refine Vm hG rfl (Vm hG rfl (Vm hG rfl (Vq ?_)))
 refine Vm hG rfl (Vb ?_)
 refine Vc.loopF [(5,false,.pure (.int .i64)),(6,false,.pure (.int .i64)),(7,false,.pure (.int .i64))] [0,1,4,51] (fun v=>foInv (lsS a1) (-1) a0 v.1 v.2.2.1∧foInv (gsS a1) (-1) a0 v.2.1 v.2.2.1) (fun v=>((List.length a0:Int)-v.2.2.1).toNat) rfl ?_ ?_
 · exact⟨foStart,foStart⟩
 rintro⟨(x:Int),(y:Int),(i:Int),_⟩ hI
 have hI:foInv (lsS a1) (-1) a0 x i∧foInv (gsS a1) (-1) a0 y i:=hI
 refine Vq (Vm hG rfl ?_)
 refine Vk rfl ?_ ?_<;>intro h0
 · have hl:i<(List.length a0:Int):=oTr h0
   refine Vs (Vq (Vb (Vq ?_)))
   refine Vq ?_
   refine Vr hG rfl ?_ ?_
   · exact foRange hI.1 hl
   refine Vk rfl ?_ ?_<;>intro h1
   · have g1:((List.getD a0 i.toNat (dflt Y32)).1 != a1)=true:=h1
     have st:=fo2 (d:=dflt Y32) hI hl hb (lsN1 g1) (gsN1 g1)
     refine Vx (Vn hG rfl ?_)
     refine⟨rfl,?_⟩
     exact st
   · have g1:((List.getD a0 i.toNat (dflt Y32)).1 != a1)=false:=h1
     refine Vs (Vq ?_)
     refine Vr hG rfl ?_ ?_
     · exact foRange hI.1 hl
     refine Vk rfl ?_ ?_<;>intro h2
     · have g2:(List.getD a0 i.toNat (dflt Y32)).2.2.1<0:=oTr h2
       have st:=fo2 (d:=dflt Y32) hI hl hb (lsN2 g2) (gsY g1 g2)
       refine Vr hG rfl ?_ ?_
       · exact⟨foRange hI.1 hl,trivial⟩
       refine Vn hG rfl ?_
       refine⟨rfl,?_⟩
       exact st
     · have g2:¬(List.getD a0 i.toNat (dflt Y32)).2.2.1<0:=oFa h2
       refine Vq ?_
       refine Vr hG rfl ?_ ?_
       · repeat' (first | exact trivial | exact foRange hI.1 hl | refine And.intro ?_ ?_ | intro _)
       refine Vk rfl ?_ ?_<;>intro h3
       · have st:=fo2 (d:=dflt Y32) hI hl hb (lsY g1 g2 h3) (gsN2 g2)
         refine Vr hG rfl ?_ ?_
         · exact foRange hI.1 hl
         refine Vn hG rfl ?_
         refine⟨rfl,?_⟩
         exact st
       · have st:=fo2 (d:=dflt Y32) hI hl hb (lsN3 h3) (gsN2 g2)
         refine Vs (Vn hG rfl ?_)
         refine⟨rfl,?_⟩
         exact st
 · have hl:¬i<(List.length a0:Int):=oFa h0
   refine Vx (Vq (Vm hG rfl ?_))
   refine Vk rfl ?_ ?_<;>intro h4
   · refine Vm hG rfl (Vt ?_)
     refine⟨?_,trivial⟩
     exact guA (foEnd hI.1 hl) h4
   · refine Vs (Vm hG rfl (Vt ?_))
     refine⟨?_,trivial⟩
     exact guB (foEnd hI.1 hl) (foEnd hI.2 hl) h4
noncomputable def F329:Fun:=⟨[.pair (.int .i64) (.int .i64),.pair (.int .i64) (.int .i64)],[.pure Y4,.pure (.bool)],fun _=>True,fun x=>((meetF x.1 x.2.1).1,(meetF x.1 x.2.1).2,())⟩
theorem F329_ok:Meets Tryz.prog 329 F329:=by
 refine mZ (C:=mkC 28 [4,5] [0,1,2,3,4,5,13] [⟨204,_,F204_ok⟩,⟨199,_,F199_ok⟩,⟨189,_,F189_ok⟩,⟨275,_,F275_ok⟩]) (mO _ _ _ _) (fO _) Tryz.func329 rfl rfl rfl (by decide) rfl ?_
 rintro⟨a0,a1,_⟩ hwf hpre ⟨⟩ hG rfl rfl
 show Vc _ _ [(0,⟨0,0,.c Z8 a0⟩),(1,⟨0,0,.c Z8 a1⟩)] _
 refine Vm hG rfl (Vq (Vq ?_))
 refine Vr hG rfl ?_ ?_
 · repeat' (first | exact trivial | refine And.intro ?_ ?_ | intro _)
 refine Vk rfl ?_ ?_<;>intro h0
 · refine Vm hG rfl (Vt ?_)
   have e:=meS0 h0
   refine⟨?_,?_,trivial⟩
   · exact(congrArg Prod.fst e).symm
   · exact(congrArg Prod.snd e).symm
 · refine Vs (Vq (VrD mixed hG rfl (by kernel_rfl) (by trivial) (Vt ?_)))
   have e:=meS1 h0
   refine⟨?_,?_,trivial⟩
   · exact(congrArg Prod.fst e).symm
   · exact(congrArg Prod.snd e).symm
noncomputable def F276:Fun:=⟨[.slice Y4,.slice Y4],[.own Z8],fun x=>(fun(a b:List Span)=>List.length a≤1000∧List.length b≤1000) x.1 x.2.1,fun x=>(meetAllF x.1 x.2.1,())⟩
theorem F276_ok:Meets Tryz.prog 276 F276:=by
 refine mZ (C:=mkC 42 [4] [0,1,4,5,6,7,8,9,14,20,35] [⟨329,_,F329_ok⟩,⟨270,_,F270_ok⟩]) (mO _ _ _ _) (fO _) Tryz.func276 rfl rfl rfl (by decide) rfl ?_
 rintro⟨a0,a1,_⟩ hwf hpre ⟨⟩ hG rfl rfl
 show Vc _ _ [(0,⟨0,0,.c Z14 a0⟩),(1,⟨0,0,.c Z14 a1⟩)] _
 have hp1:List.length a0≤1000:=hpre.1
 have hp2:List.length a1≤1000:=hpre.2
 have hb:List.length a0≤bigLen:=hwf.1.1
 have hb1:List.length a1≤bigLen:=hwf.2.1.1
 refine Vm hG rfl (Vm hG rfl (Vq (Vm hG rfl ?_)))
 refine Vb ?_
 refine Vc.loopF [(5,false,.own Z8),(6,false,.pure (.int .i64))] [0,1,4] (fun v=>foInv (meR a1) [] a0 v.1 v.2.1) (fun v=>((List.length a0:Int)-v.2.1).toNat) rfl ?_ ?_
 · exact foStart
 rintro⟨acc,(i:Int),_⟩ hI
 have hI:foInv (meR a1) [] a0 acc i:=hI
 have hA:List.length acc≤1000000:=meLenI hI hp1 hp2
 refine Vq (Vm hG rfl ?_)
 refine Vk rfl ?_ ?_<;>intro h0
 · have hl:i<(List.length a0:Int):=oTr h0
   refine Vs (Vq (Vb (Vm hG rfl ?_)))
   refine Vb ?_
   refine Vc.loopF [(5,false,.own Z8),(7,false,.pure (.int .i64))] [0,1,4,6,14] (fun v=>foInv (meG (List.getD a0 i.toNat (dflt Y4))) acc a1 v.1 v.2.1) (fun v=>((List.length a1:Int)-v.2.1).toNat) rfl ?_ ?_
   · exact foStart
   rintro⟨ac2,(k:Int),_⟩ hK
   have hK:foInv (meG (List.getD a0 i.toNat (dflt Y4))) acc a1 ac2 k:=hK
   have hA2:List.length ac2≤2000000:=meLenJ hK hA hp2
   refine Vq (Vm hG rfl ?_)
   refine Vk rfl ?_ ?_<;>intro h1
   · have hm:k<(List.length a1:Int):=oTr h1
     refine Vs (Vq (Vb (Vq ?_)))
     refine VrD mixed hG rfl (by kernel_rfl) ?_ ?_
     · exact⟨foRange hI hl,foRange hK hm,trivial⟩
     refine Vm hG rfl ?_
     refine Vk rfl ?_ ?_<;>intro h2
     · have g2:(meetF (List.getD a0 i.toNat (dflt Y4)) (List.getD a1 k.toNat (dflt Y4))).2=true:=h2
       have st:=foStepE (d:=dflt Y4) hK hm hb1 (meY g2)
       refine Vr hG rfl ?_ ?_
       · exact meApp hA2
       refine Vn hG rfl ?_
       refine⟨rfl,?_⟩
       exact st
     · have g2:(meetF (List.getD a0 i.toNat (dflt Y4)) (List.getD a1 k.toNat (dflt Y4))).2=false:=h2
       have st:=foStepE (d:=dflt Y4) hK hm hb1 (meN (acc:=ac2) g2)
       refine Vs (Vn hG rfl ?_)
       refine⟨rfl,?_⟩
       exact st
   · have hm:¬k<(List.length a1:Int):=oFa h1
     refine Vx (Vn hG rfl ?_)
     refine⟨rfl,?_⟩
     exact foStepE (d:=dflt Y4) hI hl hb (foEnd hK hm)
 · have hl:¬i<(List.length a0:Int):=oFa h0
   refine Vx (Vq ?_)
   refine Vr hG rfl ?_ ?_
   · exact meBig hp1 hp2 (foEnd hI hl)
   refine Vt ?_
   refine⟨?_,trivial⟩
   exact congrArg joinF (foEnd hI hl)
noncomputable def F203:Fun:=⟨[.pair (.int .i64) Y38,.slice Y32],[.own Z8],fun _=>True,fun x=>(goodSpansF x.1 x.2.1,())⟩
theorem F203_ok:Meets Tryz.prog 203 F203:=by
 refine mZ (C:=mkC 30 [4] [0,1,2,4,5,6,7,22] [⟨274,_,F274_ok⟩,⟨275,_,F275_ok⟩,⟨277,_,F277_ok⟩,⟨276,_,F276_ok⟩]) (mO _ _ _ _) (fO _) Tryz.func203 rfl rfl rfl (by decide) rfl ?_
 rintro⟨a0,a1,_⟩ hwf hpre ⟨⟩ hG rfl rfl
 show Vc _ _ [(0,⟨0,0,.c Z46 a0⟩),(1,⟨0,0,.c Z36 a1⟩)] _
 refine Vm hG rfl (Vm hG rfl (Vm hG rfl (Vq ?_)))
 refine Vm hG rfl ?_
 refine Vk rfl ?_ ?_<;>intro h0
 · refine Vm hG rfl (Vt ?_)
   refine⟨?_,trivial⟩
   exact gsNone h0
 · refine Vs (Vq ?_)
   refine VrD mixed hG rfl (by kernel_rfl) ?_ ?_
   · exact⟨trivial,one1,one1⟩
   refine Vt ?_
   refine⟨?_,trivial⟩
   exact gsSome h0
noncomputable def F132:Fun:=⟨[.pair (.int .i64) Y38,.slice Y32,.pair (.int .i64) (.int .i64)],[.pure (.bool)],fun _=>True,fun x=>((fun c l s=>coversF (goodSpansF c l) s) x.1 x.2.1 x.2.2.1,())⟩
theorem F132_ok:Meets Tryz.prog 132 F132:=by
 refine mZ (C:=mkC 12 [6] [0,1,2,3,5,6] [⟨203,_,F203_ok⟩,⟨201,_,F201_ok⟩]) (mO _ _ _ _) (fO _) Tryz.func132 rfl rfl rfl (by decide) rfl ?_
 rintro⟨a0,a1,a2,_⟩ hwf hpre ⟨⟩ hG rfl rfl
 show Vc _ _ [(0,⟨0,0,.c Z46 a0⟩),(1,⟨0,0,.c Z36 a1⟩),(2,⟨0,0,.c Z8 a2⟩)] _
 refine Vm hG rfl (Vq ?_)
 refine VrD mixed hG rfl (by kernel_rfl) ?_ ?_
 · exact⟨trivial,Nat.le_trans (goodLen a0 a1) (by decide)⟩
 refine Vt ?_
 refine⟨?_,trivial⟩
 all_goals exact rfl
noncomputable def F134:Fun:=⟨[.slice Y19],[.own Z41],fun x=>(fun a0=>List.length a0≤2000000000) x.1,fun x=>(mandatesF x.1,())⟩
theorem F134_ok:Meets Tryz.prog 134 F134:=by
 refine mZ (C:=mkC 28 [2] [0,2,3,4,5,6,11,22] [⟨206,_,F206_ok⟩]) (mO _ _ _ _) (fO _) Tryz.func134 rfl rfl rfl (by decide) rfl ?_
 rintro⟨a0,_⟩ hwf hpre ⟨⟩ hG rfl rfl
 show Vc _ _ [(0,⟨0,0,.c Z26 a0⟩)] _
 have hb:List.length a0≤bigLen:=hwf.1.1
 have hs:List.length a0≤2000000000:=hpre
 refine Vm hG rfl (Vm hG rfl (Vq (Vm hG rfl ?_)))
 refine Vb ?_
 refine Vc.loopF [(3,false,.own Z41),(4,false,.pure (.int .i64))] [0,2] (fun v=>pkInv (pieceMandF) a0 v.1 v.2.1) (fun v=>((List.length a0:Int)-v.2.1).toNat) rfl ?_ ?_
 · exact pkStart
 rintro⟨acc,(i:Int),_⟩ hI
 have hI:pkInv (pieceMandF) a0 acc i:=hI
 refine Vq (Vm hG rfl ?_)
 refine Vk rfl ?_ ?_<;>intro h0
 · have hl:i<(List.length a0:Int):=oTr h0
   refine Vs (Vq (Vb (Vq ?_)))
   refine Vr hG rfl ?_ ?_
   · exact⟨pkRange hI hl,trivial⟩
   refine Vm hG rfl ?_
   refine Vk rfl ?_ ?_<;>intro h1
   · have g1:((pieceMandF) (List.getD a0 i.toNat (dflt Y19))).2=true:=h1
     refine Vr hG rfl ?_ ?_
     · exact pkLenW hI hs
     refine Vn hG rfl ?_
     refine⟨rfl,?_⟩
     first
       | exact pkYes (d:=dflt Y19) hI hl hb g1
       | exact pkNo (d:=dflt Y19) hI hl hb g1
   · have g1:((pieceMandF) (List.getD a0 i.toNat (dflt Y19))).2=false:=h1
     refine Vs (Vn hG rfl ?_)
     refine⟨rfl,?_⟩
     first
       | exact pkYes (d:=dflt Y19) hI hl hb g1
       | exact pkNo (d:=dflt Y19) hI hl hb g1
 · have hl:¬i<(List.length a0:Int):=oFa h0
   refine Vx (Vm hG rfl (Vt ?_))
   refine⟨?_,trivial⟩
   exact pkEnd hI hl
noncomputable def F313:Fun:=⟨[.pair (.int .i64) Y32],[.pure (.bool)],fun _=>True,fun x=>(isMandF x.1,())⟩
theorem F313_ok:Meets Tryz.prog 313 F313:=by
 refine mZ (C:=mkC 24 [2] [0,1,2] [⟨172,_,F172_ok⟩,⟨204,_,F204_ok⟩]) (mO _ _ _ _) (fO _) Tryz.func313 rfl rfl rfl (by decide) rfl ?_
 rintro⟨a0,_⟩ hwf hpre ⟨⟩ hG rfl rfl
 show Vc _ _ [(0,⟨0,0,.c Z41 a0⟩)] _
 refine Vm hG rfl (Vq ?_)
 refine Vr hG rfl ?_ ?_
 · repeat' (first | exact trivial | refine And.intro ?_ ?_ | intro _)
 refine Vt ?_
 refine⟨?_,trivial⟩
 all_goals exact rfl
noncomputable def F314:Fun:=⟨[.pair (.int .i64) Y32],[.own (.pure (.int .i64))],fun _=>True,fun x=>(mandIntsF x.1,())⟩
theorem F314_ok:Meets Tryz.prog 314 F314:=by
 refine mZ (C:=mkC 14 [2] [0,1,2] []) (mO _ _ _ _) (fO _) Tryz.func314 rfl rfl rfl (by decide) rfl ?_
 rintro⟨a0,_⟩ hwf hpre ⟨⟩ hG rfl rfl
 show Vc _ _ [(0,⟨0,0,.c Z41 a0⟩)] _
 refine Vm hG rfl (Vm hG rfl (Vt ?_))
 refine⟨?_,trivial⟩
 all_goals exact rfl
noncomputable def F278:Fun:=⟨[.slice Y32,.pair (.int .i64) Y32],[.pure (.bool)],fun _=>True,fun x=>(checkMandF x.1 x.2.1,())⟩
theorem F278_ok:Meets Tryz.prog 278 F278:=by
 refine mZ (C:=mkC 26 [4] [0,1,3,4] [⟨313,_,F313_ok⟩,⟨245,_,F245_ok⟩,⟨314,_,F314_ok⟩,⟨257,_,F257_ok⟩]) (mO _ _ _ _) (fO _) Tryz.func278 rfl rfl rfl (by decide) rfl ?_
 rintro⟨a0,a1,_⟩ hwf hpre ⟨⟩ hG rfl rfl
 show Vc _ _ [(0,⟨0,0,.c Z36 a0⟩),(1,⟨0,0,.c Z41 a1⟩)] _
 refine Vm hG rfl (Vq ?_)
 refine VrD mixed hG rfl (by kernel_rfl) ?_ ?_
 · repeat' (first | exact trivial | exact smallLit (n:=6) rfl (by decide) | refine And.intro ?_ ?_ | intro _)
 refine Vt ?_
 refine⟨?_,trivial⟩
 all_goals exact rfl
noncomputable def F205:Fun:=⟨[.slice Y32,.slice Y38,.int .i64,.int .i64],[.own Z8],fun x=>(fun(_:List Key) (l:List Mandate) (_ _:Int)=>List.length l≤2000000000) x.1 x.2.1 x.2.2.1 x.2.2.2.1,fun x=>(mandSpansF x.1 x.2.1 x.2.2.1 x.2.2.2.1,())⟩
theorem F205_ok:Meets Tryz.prog 205 F205:=by
 refine mZ (C:=mkC 58 [8] [0,1,2,3,8,9,10,15,41] [⟨278,_,F278_ok⟩,⟨270,_,F270_ok⟩]) (mO _ _ _ _) (fO _) Tryz.func205 rfl rfl rfl (by decide) rfl ?_
 rintro⟨a0,a1,(a2:Int),(a3:Int),_⟩ hwf hpre ⟨⟩ hG rfl rfl
 show Vc _ _ [(0,⟨0,0,.c Z36 a0⟩),(1,⟨0,0,.c Z44 a1⟩),(2,⟨0,0,.c (.pure (.int .i64)) a2⟩),(3,⟨0,0,.c (.pure (.int .i64)) a3⟩)] _
 have hs:List.length a1≤2000000000:=hpre
 have hb:List.length a1≤bigLen:=hwf.2.1.1
 refine Vm hG rfl (Vm hG rfl (Vq (Vm hG rfl ?_)))
 refine Vb ?_
 refine Vc.loopF [(9,false,.own Z8),(10,false,.pure (.int .i64))] [0,1,2,3,8] (fun v=>pkInv (mdF a0 a2 a3) a1 v.1 v.2.1) (fun v=>((List.length a1:Int)-v.2.1).toNat) rfl ?_ ?_
 · exact pkStart
 rintro⟨acc,(i:Int),_⟩ hI
 have hI:pkInv (mdF a0 a2 a3) a1 acc i:=hI
 refine Vq (Vm hG rfl ?_)
 refine Vk rfl ?_ ?_<;>intro h0
 · have hl:i<(List.length a1:Int):=oTr h0
   refine Vs (Vq (Vb (Vq ?_)))
   refine Vr hG rfl ?_ ?_
   · repeat' (first | exact pkRange hI hl | exact trivial | refine And.intro ?_ ?_ | intro _)
   refine Vk rfl ?_ ?_<;>intro h1
   · have g1:((mdF a0 a2 a3) (List.getD a1 i.toNat (dflt Y38))).2=true:=h1
     have st:=pkYes (d:=dflt Y38) hI hl hb g1
     refine VrD mixed hG rfl (by kernel_rfl) ?_ ?_
     · exact⟨pkRange hI hl,pkRange hI hl,pkLenW hI hs⟩
     refine Vn hG rfl ?_
     refine⟨rfl,?_⟩
     exact st
   · have g1:((mdF a0 a2 a3) (List.getD a1 i.toNat (dflt Y38))).2=false:=h1
     have st:=pkNo (d:=dflt Y38) hI hl hb g1
     refine Vs (Vn hG rfl ?_)
     refine⟨rfl,?_⟩
     exact st
 · have hl:¬i<(List.length a1:Int):=oFa h0
   refine Vx (Vq ?_)
   refine Vr hG rfl ?_ ?_
   · exact pkBigW hs (pkEnd hI hl)
   refine Vt ?_
   refine⟨?_,trivial⟩
   exact congrArg joinF (pkEnd hI hl)
noncomputable def F133:Fun:=⟨[.slice Y32,.slice Y38,.int .i64,.int .i64,.pair (.int .i64) (.int .i64)],[.pure (.bool)],fun x=>(fun(_:List Key) (l:List Mandate) (_ _:Int) (_:Span)=>List.length l≤2000000000) x.1 x.2.1 x.2.2.1 x.2.2.2.1 x.2.2.2.2.1,fun x=>(maySignF x.1 x.2.1 x.2.2.1 x.2.2.2.1 x.2.2.2.2.1,())⟩
theorem F133_ok:Meets Tryz.prog 133 F133:=by
 refine mZ (C:=mkC 22 [10] [0,1,2,3,4,9,10,12] [⟨204,_,F204_ok⟩,⟨205,_,F205_ok⟩,⟨201,_,F201_ok⟩]) (mO _ _ _ _) (fO _) Tryz.func133 rfl rfl rfl (by decide) rfl ?_
 rintro⟨a0,a1,(a2:Int),(a3:Int),a4,_⟩ hwf hpre ⟨⟩ hG rfl rfl
 show Vc _ _ [(0,⟨0,0,.c Z36 a0⟩),(1,⟨0,0,.c Z44 a1⟩),(2,⟨0,0,.c (.pure (.int .i64)) a2⟩),(3,⟨0,0,.c (.pure (.int .i64)) a3⟩),(4,⟨0,0,.c Z8 a4⟩)] _
 have hs:List.length a1≤2000000000:=hpre
 refine Vm hG rfl (Vq (Vm hG rfl ?_))
 refine Vk rfl ?_ ?_<;>intro h0
 · refine Vm hG rfl (Vt ?_)
   refine⟨?_,trivial⟩
   exact mayS h0
 · refine Vs (Vq ?_)
   refine VrD mixed hG rfl (by kernel_rfl) ?_ ?_
   · exact⟨hs,mandSpLen hs⟩
   refine Vt ?_
   refine⟨?_,trivial⟩
   exact mayN h0
noncomputable def F81:Fun:=⟨[.pair Y34 Y55,.pair Y66 Y37,.slice (.slice (.int .i64)),.int .i64,.pair (.int .i64) Y48],[.pure Y24],fun x=>(fun(_:Frame) (e:Evidence) (_:List (List Int)) (_:Int) (_:Sig)=>Sm big20 Y71 e∧((cellsC Y66 e.1:Nat):Int)≤2000000000) x.1 x.2.1 x.2.2.1 x.2.2.2.1 x.2.2.2.2.1,fun x=>(judgeF x.1 x.2.1 x.2.2.1 x.2.2.2.1 x.2.2.2.2.1,())⟩
set_option maxHeartbeats 2000000 in
theorem F81_ok:Meets Tryz.prog 81 F81:=by
 refine mZ (C:=mkC 120 [10] [0,1,2,3,4,5,6,9,10,11,12,13,14,15,16,17,18,19,26,58,72,81,89,96,104] [⟨122,_,F122_ok⟩,⟨124,_,F124_ok⟩,⟨123,_,F123_ok⟩,⟨113,_,F113_ok⟩,⟨125,_,F125_ok⟩,⟨126,_,F126_ok⟩,⟨127,_,F127_ok⟩,⟨128,_,F128_ok⟩,⟨129,_,F129_ok⟩,⟨130,_,F130_ok⟩,⟨131,_,F131_ok⟩,⟨132,_,F132_ok⟩,⟨134,_,F134_ok⟩,⟨133,_,F133_ok⟩]) (mO _ _ _ _) (fO _) Tryz.func81 rfl rfl rfl (by decide) rfl ?_
 rintro⟨a0,a1,a2,(a3:Int),a4,_⟩ hwf hpre ⟨⟩ hG rfl rfl
 show Vc _ _ [(0,⟨0,0,.c Z67 a0⟩),(1,⟨0,0,.c Z72 a1⟩),(2,⟨0,0,.c Z7 a2⟩),(3,⟨0,0,.c (.pure (.int .i64)) a3⟩),(4,⟨0,0,.c Z52 a4⟩)] _
 have hS:Sm big20 Y66 a1.1:=hpre.1.1
 have hT:Sm big20 (.slice (.slice TStamp)) a1.2:=hpre.1.2
 have hc:((cellsC Y66 a1.1:Nat):Int)≤2000000000:=hpre.2
 refine Vm hG rfl (Vm hG rfl (Vq (Vm hG rfl ?_)))
 refine Vk rfl ?_ ?_<;>intro h0
 · refine Vm hG rfl (Vt ?_)
   refine⟨?_,trivial⟩
   exact juA h0
 · have k0:=foKey (bneI h0)
   refine Vs (Vq ?_)
   refine VrD mixed hG rfl (by kernel_rfl) ?_ ?_
   · exact⟨trivial,hS⟩
   refine Vq ?_
   refine VrD mixed hG rfl (by kernel_rfl) ?_ ?_
   · exact⟨trivial,findRange k0⟩
   refine Vq (Vq ?_)
   refine Vr hG rfl ?_ ?_
   · repeat' (first | exact trivial | refine And.intro ?_ ?_ | intro _)
   refine Vk rfl ?_ ?_<;>intro h1
   · have g1:pick2 (decide (evBoundF a0 a1 a2 (signPieceF a4)≥brkKeyF a0 a4.1)) true (decide (evBoundF a0 a1 a2 (signPieceF a4)≥breakF a0.2.2.1 a4.2.2.1))=true:=by rw[←bk1 k0];exact h1
     refine Vm hG rfl (Vt ?_)
     refine⟨?_,trivial⟩
     exact(boA g1).trans (juC h0)
   · have g1:pick2 (decide (evBoundF a0 a1 a2 (signPieceF a4)≥brkKeyF a0 a4.1)) true (decide (evBoundF a0 a1 a2 (signPieceF a4)≥breakF a0.2.2.1 a4.2.2.1))=false:=by rw[←bk1 k0];exact h1
     refine Vs (Vq ?_)
     refine Vr hG rfl ?_ ?_
     · exact⟨hS,hc⟩
     refine Vm hG rfl (Vq (Vm hG rfl ?_))
     refine Vk rfl ?_ ?_<;>intro h2
     · refine Vm hG rfl (Vt ?_)
       refine⟨?_,trivial⟩
       exact((ceA h2).trans (boB g1)).trans (juC h0)
     · refine Vs (Vq ?_)
       refine Vr hG rfl ?_ ?_
       · exact hT
       refine Vq (Vm hG rfl ?_)
       refine Vk rfl ?_ ?_<;>intro h3
       · refine Vm hG rfl (Vt ?_)
         refine⟨?_,trivial⟩
         exact((ceB h2 h3).trans (boB g1)).trans (juC h0)
       · refine Vs (Vm hG rfl (Vq ?_))
         refine Vr hG rfl ?_ ?_
         · exact usPieceLen hc
         refine Vq (Vb (Vm hG rfl ?_))
         refine Vk rfl ?_ ?_<;>intro h4
         · refine Vm hG rfl (Vt ?_)
           refine⟨?_,trivial⟩
           exact(((enA h4).trans (ceC h2 h3)).trans (boB g1)).trans (juC h0)
         · refine Vm hG rfl ?_
           refine Vk rfl ?_ ?_<;>intro h5
           · refine Vm hG rfl (Vt ?_)
             refine⟨?_,trivial⟩
             exact(((enB h4 h5).trans (ceC h2 h3)).trans (boB g1)).trans (juC h0)
           · refine Vq ?_
             refine VrD mixed hG rfl (by kernel_rfl) ?_ ?_
             · exact⟨usPieceLen hc,mandW (usPieceLen hc)⟩
             refine Vk rfl ?_ ?_<;>intro h6
             · refine Vm hG rfl (Vt ?_)
               refine⟨?_,trivial⟩
               exact(((enC h4 h5 h6).trans (ceC h2 h3)).trans (boB g1)).trans (juC h0)
             · refine Vs (Vm hG rfl (Vt ?_))
               refine⟨?_,trivial⟩
               exact(((enD h4 h5 h6).trans (ceC h2 h3)).trans (boB g1)).trans (juC h0)
noncomputable def F40:Fun:=⟨[.pair Y34 Y55,.pair Y66 Y37,.pair (.int .i64) Y13,.pair (.int .i64) Y48],[.pure Y24],fun x=>(fun(_:Frame) (e:Evidence) (_:Doc) (_:Sig)=>Sm big20 Y71 e∧((cellsC Y66 e.1:Nat):Int)≤2000000000) x.1 x.2.1 x.2.2.1 x.2.2.2.1,fun x=>(judgeDocF x.1 x.2.1 x.2.2.1 x.2.2.2.1,())⟩
theorem F40_ok:Meets Tryz.prog 40 F40:=by
 refine mZ (C:=mkC 20 [8] [0,1,2,3,4,5,6,7,8] [⟨82,_,F82_ok⟩,⟨83,_,F83_ok⟩,⟨81,_,F81_ok⟩]) (mO _ _ _ _) (fO _) Tryz.func40 rfl rfl rfl (by decide) rfl ?_
 rintro⟨a0,a1,a2,a3,_⟩ hwf hpre ⟨⟩ hG rfl rfl
 show Vc _ _ [(0,⟨0,0,.c Z67 a0⟩),(1,⟨0,0,.c Z72 a1⟩),(2,⟨0,0,.c Z25 a2⟩),(3,⟨0,0,.c Z52 a3⟩)] _
 have hS:Sm big20 Y66 a1.1:=hpre.1.1
 have hT:Sm big20 (.slice (.slice TStamp)) a1.2:=hpre.1.2
 have hc:((cellsC Y66 a1.1:Nat):Int)≤2000000000:=hpre.2
 refine Vm hG rfl (Vq ?_)
 refine VrD mixed hG rfl (by kernel_rfl) ?_ ?_
 · exact⟨hS,trivial,hpre⟩
 refine Vt ?_
 refine⟨?_,trivial⟩
 all_goals exact rfl
noncomputable def F8:Fun:=⟨[.pair Y34 Y55,.pair Y66 Y37,.pair (.int .i64) Y13,.pair (.int .i64) Y48],[.pair Z70 Z39],fun x=>(fun(_:Frame) (e:Evidence) (_:Doc) (_:Sig)=>Sm big20 Y71 e∧((cellsC Y66 e.1:Nat):Int)≤2000000000) x.1 x.2.1 x.2.2.1 x.2.2.2.1,fun x=>(smallF x.1 x.2.1 x.2.2.1 x.2.2.2.1,())⟩
theorem F8_ok:Meets Tryz.prog 8 F8:=by
 refine mZ (C:=mkC 54 [8] [0,1,2,3,4,5,6,7,8,9,10,11,12,26,51] [⟨39,_,F39_ok⟩,⟨40,_,F40_ok⟩]) (mO _ _ _ _) (fO _) Tryz.func8 rfl rfl rfl (by decide) rfl ?_
 rintro⟨a0,a1,a2,a3,_⟩ hwf hpre ⟨⟩ hG rfl rfl
 show Vc _ _ [(0,⟨0,0,.c Z67 a0⟩),(1,⟨0,0,.c Z72 a1⟩),(2,⟨0,0,.c Z25 a2⟩),(3,⟨0,0,.c Z52 a3⟩)] _
 have hS0:Sm big20 Y71 a1:=hpre.1
 have hc:((cellsC Y66 a1.1:Nat):Int)≤2000000000:=hpre.2
 refine Vm hG rfl (Vq ?_)
 refine Vr hG rfl ?_ ?_
 · exact hS0
 refine Vq ?_
 refine Vr hG rfl ?_ ?_
 · exact hpre
 refine Vq (Vm hG rfl (Vb ?_))
 refine Vc.loopF [(9,true,.pair Z70 Z39),(11,false,.pure (.int .i64))] [0,1,2,3,4,5,6,7,8,10] (fun v=>smInv a0 a1 a2 a3 v.1 v.2.1) (fun v=>(v.2.1+1:Int).toNat) rfl ?_ ?_
 · exact smStart hS0
 rintro⟨o,(i:Int),_⟩ hI
 have hI:smInv a0 a1 a2 a3 o i:=hI
 refine Vq (Vm hG rfl ?_)
 refine Vk rfl ?_ ?_<;>intro h0
 · have hl:¬i<0:=Int.not_lt.2 (oTr h0)
   have fa:=smFacts hI hl
   have fb:=smFactsB hI hl
   have pa:=smPreA hI hl hc
   have pb:=smPreB hI hl hc
   have pe:=smPre hI hl hc
   refine Vs (Vq (Vb (Vq ?_)))
   refine Vr hG rfl ?_ ?_
   · exact smSm hI
   refine Vq ?_
   refine VrD mixed hG rfl (by kernel_rfl) ?_ ?_
   · repeat' (first | exact trivial | exact fb.1 | exact fb.2.1 | exact fb.2.2 | exact fa.1 | exact fa.2.1 | exact fa.2.2.1 | exact fa.2.2.2.1 | exact fa.2.2.2.2.1 | exact fa.2.2.2.2.2.1 | exact fa.2.2.2.2.2.2 | exact Int.le_refl _ | refine And.intro ?_ ?_ | intro _)
   refine Vq ?_
   refine Vr hG rfl ?_ ?_
   · exact pa
   refine Vk rfl ?_ ?_<;>intro h1
   · have st:=smYesA hI hl (show ((judgeDocF a0 (lessA o i) a2 a3).1==(judgeDocF a0 a1 a2 a3).1)=true from h1)
     refine VrT hG rfl (by trivial) (Vn hG rfl ?_)
     refine⟨rfl,?_⟩
     exact st
   · have st:=smNoA hI hl (show ((judgeDocF a0 (lessA o i) a2 a3).1==(judgeDocF a0 a1 a2 a3).1)=false from h1)
     refine Vs (Vn hG rfl ?_)
     refine⟨rfl,?_⟩
     exact st
 · have hl:i<0:=Int.not_le.1 (oFa h0)
   refine Vx (Vm hG rfl (Vt ?_))
   refine⟨?_,trivial⟩
   exact smEnd hI hl
end Fw
