/- Walks of functions of the program: what each computes. Conditions: those that each contract names. -/
import Derived.Test.YtajkcodhmabmnaaGreatW52T
import Derived.Test.YtajkcodhmabmnaaGreatW52i0
import Derived.Test.YtajkcodhmabmnaaGreatW52i1
import Derived.Test.YtajkcodhmabmnaaGreatW52i2
namespace Fw
open Go Go.Proofs
set_option linter.unusedSimpArgs false
set_option maxRecDepth 100000
noncomputable def F283:Fun:=⟨[.slice Y5],[.own Z10],fun x=>(fun(l:List Span)=>List.length l≤2000000000) x.1,fun x=>(joinF x.1,())⟩
theorem F283_ok:Meets Tryz.prog 283 F283:=by
 refine mZ (C:=mkC 85 [2] [0,2,3,5,6,8,9,10,11,12,13,18,19,20,21,22,38,68] [⟨224,_,F224_ok⟩]) (mO _ _ _ _) (fO _) Tryz.func283 rfl rfl rfl (by decide) rfl ?_
 rintro⟨a0,_⟩ hwf hpre ⟨⟩ hG rfl rfl
 show Vc _ _ [(0,⟨0,0,.c Z15 a0⟩)] _
 have hs:List.length a0≤2000000000:=hpre
 have hb:List.length a0≤bigLen:=hwf.1.1
 refine Vm hG rfl (Vm hG rfl (Vq (Vm hG rfl ?_)))
 refine Vb ?_
 refine Vc.loopF [(3,false,.own Z10),(12,false,.pure (.int .i64))] [0,2,10,11] (fun v=>foInv joinG [] a0 v.1 v.2.1) (fun v=>((List.length a0:Int)-v.2.1).toNat) rfl ?_ ?_
 · exact foStart
 rintro⟨acc,(i:Int),_⟩ hI
 have hI:foInv joinG [] a0 acc i:=hI
 have hA:List.length acc≤2000000000:=joinLenI hI hs
 refine Vm hG rfl (Vq ?_)
 refine Vk rfl ?_ ?_<;>intro h0
 · have hl:i<(List.length a0:Int):=oTr h0
   refine Vs (Vq (Vb (Vq ?_)))
   refine Vr hG rfl ?_ ?_
   · exact foRange hI hl
   refine Vq (Vm hG rfl ?_)
   refine Vk rfl ?_ ?_<;>intro h1
   · have g1:isSpanF (List.getD a0 i.toNat (dflt Y5))=false:=notT' h1
     have st:=foStepE (d:=dflt Y5) hI hl hb (joinN g1)
     refine Vx (Vn hG rfl ?_)
     refine⟨rfl,?_⟩
     exact st
   · have g1:isSpanF (List.getD a0 i.toNat (dflt Y5))=true:=notF h1
     have hbA:List.length acc≤bigLen:=Nat.le_trans hA (by decide)
     refine Vs (Vm hG rfl (Vq (Vm hG rfl ?_)))
     refine Vb ?_
     refine Vc.loopF [(5,true,.pure Y5),(6,false,.own Z10),(21,false,.pure (.int .i64))] [0,2,3,9,10,11,12,13,18,19,20,68] (fun v=>foInv jG ([],(List.getD a0 i.toNat (dflt Y5))) acc (v.2.1,v.1) v.2.2.1) (fun v=>((List.length acc:Int)-v.2.2.1).toNat) rfl ?_ ?_
     · exact foStart
     rintro⟨s,nx,(j:Int),_⟩ hJ
     have hJ:foInv jG ([],(List.getD a0 i.toNat (dflt Y5))) acc (nx,s) j:=hJ
     have hN:List.length nx≤2000000000:=jLenI hJ hA
     refine Vm hG rfl (Vq ?_)
     refine Vk rfl ?_ ?_<;>intro h2
     · have hm:j<(List.length acc:Int):=oTr h2
       refine Vs (Vq (Vb (Vq ?_)))
       refine Vr hG rfl ?_ ?_
       · exact foRange hJ hm
       refine Vm hG rfl ?_
       refine Vk rfl ?_ ?_<;>intro h3
       · have g3:jApart (List.getD acc j.toNat (dflt Y5)) s=true:=h3
         have st2:=foStepE (d:=dflt Y5) hJ hm hbA (jY (n:=nx) g3)
         refine Vr hG rfl ?_ ?_
         · exact jApp hN
         refine Vn hG rfl ?_
         refine⟨rfl,?_⟩
         exact st2
       · have g3:jApart (List.getD acc j.toNat (dflt Y5)) s=false:=h3
         have st2:=foStepE (d:=dflt Y5) hJ hm hbA (jN (n:=nx) g3)
         refine Vn hG rfl (Vn hG rfl ?_)
         refine⟨rfl,?_⟩
         exact st2
     · have hm:¬j<(List.length acc:Int):=oFa h2
       refine Vx (Vm hG rfl (Vq (Vb ?_)))
       refine Vc.loopF [(9,false,.pure (.int .i64))] [0,2,3,5,6,8,10,11,12,13,18,19,20,21,22,38] (fun v=>tkInv (jP s) nx v.1) (fun v=>((List.length nx:Int)-v.1).toNat) rfl ?_ ?_
       · exact tkStart
       rintro⟨(k:Int),_⟩ hQ
       have hQ:tkInv (jP s) nx k:=hQ
       refine Vq (Vq ?_)
       refine VrD mixed hG rfl (by kernel_rfl) ?_ ?_
       · exact fun h=>tkRange hQ (oTr h)
       refine Vk rfl ?_ ?_<;>intro h4
       · have g4:pick2 (decide (k<(List.length nx:Int))) (jP s (List.getD nx k.toNat (dflt Y5))) false=true:=h4
         refine Vs (Vb (Vn hG rfl ?_))
         refine⟨rfl,?_⟩
         exact tkStepW (p:=jP s) hQ hN g4
       · have g4:pick2 (decide (k<(List.length nx:Int))) (jP s (List.getD nx k.toNat (dflt Y5))) false=false:=h4
         have hk:=tkEnd (p:=jP s) hQ g4
         have st:=foStepE (d:=dflt Y5) hI hl hb ((jDone hJ hm hQ hk).trans (joinY g1))
         refine Vx ?_
         refine VrD mixed hG rfl (by kernel_rfl) ?_ ?_
         · exact jConds hQ hN
         refine Vn hG rfl ?_
         refine⟨rfl,?_⟩
         exact st
 · have hl:¬i<(List.length a0:Int):=oFa h0
   refine Vx (Vm hG rfl (Vt ?_))
   refine⟨?_,trivial⟩
   exact foEnd hI hl
noncomputable def F222:Fun:=⟨[.pair (.int .i64) Y48,.slice Y40],[.own Z10],fun _=>True,fun x=>(badSpansF x.1 x.2.1,())⟩
theorem F222_ok:Meets Tryz.prog 222 F222:=by
 refine mZ (C:=mkCK 32 [4] [0,1,2,4,5,6,10,18] [⟨287,_,F287_ok⟩,⟨283,_,F283_ok⟩] [] [] [⟨285,_,K285_ok⟩] []) (mkCK_ok _ _ _ _ _ _ _ _) (fO _) Tryz.func222 rfl rfl rfl (by decide) rfl ?_
 rintro⟨a0,a1,_⟩ hwf hpre ⟨⟩ hG rfl rfl
 show Vc _ _ [(0,⟨0,0,.c Z54 a0⟩),(1,⟨0,0,.c Z46 a1⟩)] _
 refine Vm hG rfl (Vm hG rfl (Vm hG rfl (Vq ?_)))
 refine Vm hG rfl ?_
 refine Vk rfl ?_ ?_<;>intro h0
 · refine Vr hG rfl ?_ ?_
   · exact Nat.zero_le _
   refine Vq (Vm hG rfl ?_)
   refine Vk rfl ?_ ?_<;>intro h1
   · refine Vr hG rfl ?_ ?_
     · first
         | exact bp1
         | exact Nat.zero_le _
     refine Vq ?_
     refine Vr hG rfl ?_ ?_
     · exact⟨trivial,(by first | exact bp2 | exact bp1 | exact Nat.zero_le _)⟩
     refine Vq ?_
     refine Vr hG rfl ?_ ?_
     · exact(Nat.le_trans (by first | exact bp3 | exact bp2 | exact bp1) (show 1000≤2000000000 by decide))
     refine Vt ?_
     refine⟨?_,trivial⟩
     exact bdYY h0 h1
   · refine Vs (Vq ?_)
     refine Vr hG rfl ?_ ?_
     · exact⟨trivial,(by first | exact bp2 | exact bp1 | exact Nat.zero_le _)⟩
     refine Vq ?_
     refine Vr hG rfl ?_ ?_
     · exact(Nat.le_trans (by first | exact bp3 | exact bp2 | exact bp1) (show 1000≤2000000000 by decide))
     refine Vt ?_
     refine⟨?_,trivial⟩
     exact bdYN h0 h1
 · refine Vs (Vq (Vm hG rfl ?_))
   refine Vk rfl ?_ ?_<;>intro h2
   · refine Vr hG rfl ?_ ?_
     · first
         | exact bp1
         | exact Nat.zero_le _
     refine Vq ?_
     refine Vr hG rfl ?_ ?_
     · exact⟨trivial,(by first | exact bp2 | exact bp1 | exact Nat.zero_le _)⟩
     refine Vq ?_
     refine Vr hG rfl ?_ ?_
     · exact(Nat.le_trans (by first | exact bp3 | exact bp2 | exact bp1) (show 1000≤2000000000 by decide))
     refine Vt ?_
     refine⟨?_,trivial⟩
     exact bdNY h0 h2
   · refine Vs (Vq ?_)
     refine Vr hG rfl ?_ ?_
     · exact⟨trivial,(by first | exact bp2 | exact bp1 | exact Nat.zero_le _)⟩
     refine Vq ?_
     refine Vr hG rfl ?_ ?_
     · exact(Nat.le_trans (by first | exact bp3 | exact bp2 | exact bp1) (show 1000≤2000000000 by decide))
     refine Vt ?_
     refine⟨?_,trivial⟩
     exact bdNN h0 h2
noncomputable def F284:Fun:=⟨[.pair (.int .i64) (.int .i64),.pair (.int .i64) (.int .i64)],[.pure (.bool)],fun _=>True,fun x=>(isInsideF x.1 x.2.1,())⟩
theorem F284_ok:Meets Tryz.prog 284 F284:=by
 refine mZ (C:=mkC 25 [4] [0,1,2,3,4] [⟨224,_,F224_ok⟩]) (mO _ _ _ _) (fO _) Tryz.func284 rfl rfl rfl (by decide) rfl ?_
 rintro⟨a0,a1,_⟩ hwf hpre ⟨⟩ hG rfl rfl
 show Vc _ _ [(0,⟨0,0,.c Z10 a0⟩),(1,⟨0,0,.c Z10 a1⟩)] _
 refine Vm hG rfl (Vq ?_)
 refine Vr hG rfl ?_ ?_
 · repeat' (first | exact trivial | refine And.intro ?_ ?_ | intro _)
 refine Vt ?_
 refine⟨?_,trivial⟩
 all_goals exact rfl
noncomputable def F221:Fun:=⟨[.slice Y5,.pair (.int .i64) (.int .i64)],[.pure (.bool)],fun x=>(fun(l:List Span) (_:Span)=>List.length l≤2000000000) x.1 x.2.1,fun x=>(coversF x.1 x.2.1,())⟩
theorem F221_ok:Meets Tryz.prog 221 F221:=by
 refine mZ (C:=mkC 18 [4] [0,1,3,4,6,8,9,10,11,16] [⟨283,_,F283_ok⟩,⟨284,_,F284_ok⟩]) (mO _ _ _ _) (fO _) Tryz.func221 rfl rfl rfl (by decide) rfl ?_
 rintro⟨a0,a1,_⟩ hwf hpre ⟨⟩ hG rfl rfl
 show Vc _ _ [(0,⟨0,0,.c Z15 a0⟩),(1,⟨0,0,.c Z10 a1⟩)] _
 have hs:List.length a0≤2000000000:=hpre
 have hb:List.length a0≤bigLen:=hwf.1.1
 have hbj:List.length (joinF a0)≤bigLen:=Nat.le_trans (joinLen a0) hb
 refine Vm hG rfl (Vq (Vq ?_))
 refine Vr hG rfl ?_ ?_
 · exact hs
 refine Vb ?_
 refine Vc.loopF [(10,false,.pure (.int .i64))] [0,1,3,8,9] (fun v=>fInv (fun x=>isInsideF a1 x) (joinF a0) v.1) (fun v=>((List.length (joinF a0):Int)-v.1).toNat) rfl ?_ ?_
 · exact fStart
 rintro⟨(i:Int),_⟩ hI
 have hI:fInv (fun x=>isInsideF a1 x) (joinF a0) i:=hI
 refine Vm hG rfl (Vq ?_)
 refine Vk rfl ?_ ?_<;>intro h0
 · have hl:i<(List.length (joinF a0):Int):=oTr h0
   refine Vs (Vq (Vb (Vq ?_)))
   refine Vr hG rfl ?_ ?_
   · exact fRange hI hl
   refine Vm hG rfl ?_
   refine Vk rfl ?_ ?_<;>intro h1
   · have g1:isInsideF a1 (List.getD (joinF a0) i.toNat (dflt Y5))=true:=h1
     refine Vm hG rfl (Vt ?_)
     refine⟨?_,trivial⟩
     exact cvHit rfl hI hl g1
   · have g1:(fun x=>isInsideF a1 x) (List.getD (joinF a0) i.toNat (dflt Y5))=false:=h1
     refine Vs (Vn hG rfl ?_)
     refine⟨rfl,?_⟩
     exact fStep hI hl hbj g1
 · have hl:¬i<(List.length (joinF a0):Int):=oFa h0
   refine Vx (Vm hG rfl (Vt ?_))
   refine⟨?_,trivial⟩
   exact cvEnd rfl hI hl
noncomputable def F137:Fun:=⟨[.pair (.int .i64) Y48,.slice Y40,.pair (.int .i64) (.int .i64)],[.pure (.bool)],fun _=>True,fun x=>((fun c l s=>coversF (badSpansF c l) s) x.1 x.2.1 x.2.2.1,())⟩
theorem F137_ok:Meets Tryz.prog 137 F137:=by
 refine mZ (C:=mkC 12 [6] [0,1,2,3,5,6] [⟨222,_,F222_ok⟩,⟨221,_,F221_ok⟩]) (mO _ _ _ _) (fO _) Tryz.func137 rfl rfl rfl (by decide) rfl ?_
 rintro⟨a0,a1,a2,_⟩ hwf hpre ⟨⟩ hG rfl rfl
 show Vc _ _ [(0,⟨0,0,.c Z54 a0⟩),(1,⟨0,0,.c Z46 a1⟩),(2,⟨0,0,.c Z10 a2⟩)] _
 refine Vm hG rfl (Vq ?_)
 refine VrD mixed hG rfl (by kernel_rfl) ?_ ?_
 · exact⟨trivial,Nat.le_trans (badLen a0 a1) (by decide)⟩
 refine Vt ?_
 refine⟨?_,trivial⟩
 all_goals exact rfl
noncomputable def F290:Fun:=⟨[.slice Y40,.int .i64],[.pure (.int .i64)],fun _=>True,fun x=>(goodUntilF x.1 x.2.1,())⟩
theorem F290_ok:Meets Tryz.prog 290 F290:=by
 refine mZ (C:=mkC 20 [4] [0,1,4,5,7,16] [⟨329,_,F329_ok⟩]) (mO _ _ _ _) (fO _) Tryz.func290 rfl rfl rfl (by decide) rfl ?_
 rintro⟨a0,(a1:Int),_⟩ hwf hpre ⟨⟩ hG rfl rfl
 show Vc _ _ [(0,⟨0,0,.c Z46 a0⟩),(1,⟨0,0,.c (.pure (.int .i64)) a1⟩)] _
 refine Vm hG rfl (Vm hG rfl (Vq (Vm hG rfl ?_)))
 refine Vk rfl ?_ ?_<;>intro h0
 · refine Vm hG rfl (Vt ?_)
   refine⟨?_,trivial⟩
   exact guA rfl h0
 · refine Vs (Vm hG rfl (Vt ?_))
   refine⟨?_,trivial⟩
   exact guB rfl rfl h0
noncomputable def F330:Fun:=⟨[.pair (.int .i64) (.int .i64),.pair (.int .i64) (.int .i64)],[.pure Y5,.pure (.bool)],fun _=>True,fun x=>((meetF x.1 x.2.1).1,(meetF x.1 x.2.1).2,())⟩
theorem F330_ok:Meets Tryz.prog 330 F330:=by
 refine mZ (C:=mkC 33 [4,5] [0,1,2,3,4,5,6,30] [⟨224,_,F224_ok⟩]) (mO _ _ _ _) (fO _) Tryz.func330 rfl rfl rfl (by decide) rfl ?_
 rintro⟨a0,a1,_⟩ hwf hpre ⟨⟩ hG rfl rfl
 show Vc _ _ [(0,⟨0,0,.c Z10 a0⟩),(1,⟨0,0,.c Z10 a1⟩)] _
 refine Vm hG rfl (Vm hG rfl (Vq (Vq ?_)))
 refine Vr hG rfl ?_ ?_
 · repeat' (first | exact trivial | refine And.intro ?_ ?_ | intro _)
 refine Vk rfl ?_ ?_<;>intro h0
 · refine Vm hG rfl (Vt ?_)
   have e:=meI0 h0
   refine⟨?_,?_,trivial⟩
   · exact(congrArg Prod.fst e).symm
   · exact(congrArg Prod.snd e).symm
 · refine Vs (Vm hG rfl (Vt ?_))
   have e:=meI1 h0
   refine⟨?_,?_,trivial⟩
   · exact(congrArg Prod.fst e).symm
   · exact(congrArg Prod.snd e).symm
noncomputable def F288:Fun:=⟨[.slice Y5,.slice Y5],[.own Z10],fun x=>(fun(a b:List Span)=>List.length a≤1000∧List.length b≤1000) x.1 x.2.1,fun x=>(meetAllF x.1 x.2.1,())⟩
theorem F288_ok:Meets Tryz.prog 288 F288:=by
 refine mZ (C:=mkC 39 [4] [0,1,4,5,7,9,10,11,12,13,14,15,18,19,20,21,30] [⟨330,_,F330_ok⟩,⟨283,_,F283_ok⟩]) (mO _ _ _ _) (fO _) Tryz.func288 rfl rfl rfl (by decide) rfl ?_
 rintro⟨a0,a1,_⟩ hwf hpre ⟨⟩ hG rfl rfl
 show Vc _ _ [(0,⟨0,0,.c Z15 a0⟩),(1,⟨0,0,.c Z15 a1⟩)] _
 have hp1:List.length a0≤1000:=hpre.1
 have hp2:List.length a1≤1000:=hpre.2
 have hb:List.length a0≤bigLen:=hwf.1.1
 have hb1:List.length a1≤bigLen:=hwf.2.1.1
 refine Vm hG rfl (Vm hG rfl (Vq (Vm hG rfl ?_)))
 refine Vb ?_
 refine Vc.loopF [(5,false,.own Z10),(14,false,.pure (.int .i64))] [0,1,4,12,13] (fun v=>foInv (meR a1) [] a0 v.1 v.2.1) (fun v=>((List.length a0:Int)-v.2.1).toNat) rfl ?_ ?_
 · exact foStart
 rintro⟨acc,(i:Int),_⟩ hI
 have hI:foInv (meR a1) [] a0 acc i:=hI
 have hA:List.length acc≤1000000:=meLenI hI hp1 hp2
 refine Vm hG rfl (Vq ?_)
 refine Vk rfl ?_ ?_<;>intro h0
 · have hl:i<(List.length a0:Int):=oTr h0
   refine Vs (Vq (Vb (Vq ?_)))
   refine Vr hG rfl ?_ ?_
   · exact foRange hI hl
   refine Vm hG rfl (Vb ?_)
   refine Vc.loopF [(5,false,.own Z10),(20,false,.pure (.int .i64))] [0,1,4,7,12,13,14,15,18,19] (fun v=>foInv (meG (List.getD a0 i.toNat (dflt Y5))) acc a1 v.1 v.2.1) (fun v=>((List.length a1:Int)-v.2.1).toNat) rfl ?_ ?_
   · exact foStart
   rintro⟨ac2,(k:Int),_⟩ hK
   have hK:foInv (meG (List.getD a0 i.toNat (dflt Y5))) acc a1 ac2 k:=hK
   have hA2:List.length ac2≤2000000:=meLenJ hK hA hp2
   refine Vm hG rfl (Vq ?_)
   refine Vk rfl ?_ ?_<;>intro h1
   · have hm:k<(List.length a1:Int):=oTr h1
     refine Vs (Vq (Vb (Vq ?_)))
     refine Vr hG rfl ?_ ?_
     · exact foRange hK hm
     refine Vm hG rfl (Vm hG rfl ?_)
     refine Vk rfl ?_ ?_<;>intro h2
     · have g2:(meetF (List.getD a0 i.toNat (dflt Y5)) (List.getD a1 k.toNat (dflt Y5))).2=true:=h2
       have st:=foStepE (d:=dflt Y5) hK hm hb1 (meY g2)
       refine Vr hG rfl ?_ ?_
       · exact meApp hA2
       refine Vn hG rfl ?_
       refine⟨rfl,?_⟩
       exact st
     · have g2:(meetF (List.getD a0 i.toNat (dflt Y5)) (List.getD a1 k.toNat (dflt Y5))).2=false:=h2
       have st:=foStepE (d:=dflt Y5) hK hm hb1 (meN (acc:=ac2) g2)
       refine Vs (Vn hG rfl ?_)
       refine⟨rfl,?_⟩
       exact st
   · have hm:¬k<(List.length a1:Int):=oFa h1
     refine Vx (Vn hG rfl ?_)
     refine⟨rfl,?_⟩
     exact foStepE (d:=dflt Y5) hI hl hb (foEnd hK hm)
 · have hl:¬i<(List.length a0:Int):=oFa h0
   refine Vx (Vq ?_)
   refine Vr hG rfl ?_ ?_
   · exact meBig hp1 hp2 (foEnd hI hl)
   refine Vt ?_
   refine⟨?_,trivial⟩
   exact congrArg joinF (foEnd hI hl)
noncomputable def F223:Fun:=⟨[.pair (.int .i64) Y48,.slice Y40],[.own Z10],fun _=>True,fun x=>(goodSpansF x.1 x.2.1,())⟩
theorem F223_ok:Meets Tryz.prog 223 F223:=by
 refine mZ (C:=mkC 15 [4] [0,1,2,4] [⟨289,_,F289_ok⟩,⟨290,_,F290_ok⟩,⟨288,_,F288_ok⟩]) (mO _ _ _ _) (fO _) Tryz.func223 rfl rfl rfl (by decide) rfl ?_
 rintro⟨a0,a1,_⟩ hwf hpre ⟨⟩ hG rfl rfl
 show Vc _ _ [(0,⟨0,0,.c Z54 a0⟩),(1,⟨0,0,.c Z46 a1⟩)] _
 refine Vm hG rfl (Vq ?_)
 refine VrD mixed hG rfl (by kernel_rfl) ?_ ?_
 · exact⟨trivial,trivial,one1,one1⟩
 refine Vt ?_
 refine⟨?_,trivial⟩
 all_goals exact rfl
noncomputable def F138:Fun:=⟨[.pair (.int .i64) Y48,.slice Y40,.pair (.int .i64) (.int .i64)],[.pure (.bool)],fun _=>True,fun x=>((fun c l s=>coversF (goodSpansF c l) s) x.1 x.2.1 x.2.2.1,())⟩
theorem F138_ok:Meets Tryz.prog 138 F138:=by
 refine mZ (C:=mkC 12 [6] [0,1,2,3,5,6] [⟨223,_,F223_ok⟩,⟨221,_,F221_ok⟩]) (mO _ _ _ _) (fO _) Tryz.func138 rfl rfl rfl (by decide) rfl ?_
 rintro⟨a0,a1,a2,_⟩ hwf hpre ⟨⟩ hG rfl rfl
 show Vc _ _ [(0,⟨0,0,.c Z54 a0⟩),(1,⟨0,0,.c Z46 a1⟩),(2,⟨0,0,.c Z10 a2⟩)] _
 refine Vm hG rfl (Vq ?_)
 refine VrD mixed hG rfl (by kernel_rfl) ?_ ?_
 · exact⟨trivial,Nat.le_trans (goodLen a0 a1) (by decide)⟩
 refine Vt ?_
 refine⟨?_,trivial⟩
 all_goals exact rfl
noncomputable def F140:Fun:=⟨[.slice Y22],[.own Z49],fun x=>(fun a0=>List.length a0≤2000000000) x.1,fun x=>(mandatesF x.1,())⟩
theorem F140_ok:Meets Tryz.prog 140 F140:=by
 refine mZ (C:=mkC 26 [2] [0,2,3,5,6,7,8,9,10,11,19] [⟨226,_,F226_ok⟩]) (mO _ _ _ _) (fO _) Tryz.func140 rfl rfl rfl (by decide) rfl ?_
 rintro⟨a0,_⟩ hwf hpre ⟨⟩ hG rfl rfl
 show Vc _ _ [(0,⟨0,0,.c Z32 a0⟩)] _
 have hb:List.length a0≤bigLen:=hwf.1.1
 have hs:List.length a0≤2000000000:=hpre
 refine Vm hG rfl (Vm hG rfl (Vq (Vm hG rfl ?_)))
 refine Vb ?_
 refine Vc.loopF [(3,false,.own Z49),(10,false,.pure (.int .i64))] [0,2,8,9] (fun v=>pkInv (pieceMandF) a0 v.1 v.2.1) (fun v=>((List.length a0:Int)-v.2.1).toNat) rfl ?_ ?_
 · exact pkStart
 rintro⟨acc,(i:Int),_⟩ hI
 have hI:pkInv (pieceMandF) a0 acc i:=hI
 refine Vm hG rfl (Vq ?_)
 refine Vk rfl ?_ ?_<;>intro h0
 · have hl:i<(List.length a0:Int):=oTr h0
   refine Vs (Vq (Vb (Vq ?_)))
   refine Vr hG rfl ?_ ?_
   · exact pkRange hI hl
   refine Vm hG rfl (Vm hG rfl ?_)
   refine Vk rfl ?_ ?_<;>intro h1
   · have g1:((pieceMandF) (List.getD a0 i.toNat (dflt Y22))).2=true:=h1
     refine Vr hG rfl ?_ ?_
     · exact pkLenW hI hs
     refine Vn hG rfl ?_
     refine⟨rfl,?_⟩
     first
       | exact pkYes (d:=dflt Y22) hI hl hb g1
       | exact pkNo (d:=dflt Y22) hI hl hb g1
   · have g1:((pieceMandF) (List.getD a0 i.toNat (dflt Y22))).2=false:=h1
     refine Vs (Vn hG rfl ?_)
     refine⟨rfl,?_⟩
     first
       | exact pkYes (d:=dflt Y22) hI hl hb g1
       | exact pkNo (d:=dflt Y22) hI hl hb g1
 · have hl:¬i<(List.length a0:Int):=oFa h0
   refine Vx (Vm hG rfl (Vt ?_))
   refine⟨?_,trivial⟩
   exact pkEnd hI hl
noncomputable def F331:Fun:=⟨[.pair (.int .i64) Y40],[.pure (.bool)],fun _=>True,fun x=>(isMandF x.1,())⟩
theorem F331_ok:Meets Tryz.prog 331 F331:=by
 refine mZ (C:=mkC 24 [2] [0,1,2] [⟨51,_,F51_ok⟩,⟨224,_,F224_ok⟩]) (mO _ _ _ _) (fO _) Tryz.func331 rfl rfl rfl (by decide) rfl ?_
 rintro⟨a0,_⟩ hwf hpre ⟨⟩ hG rfl rfl
 show Vc _ _ [(0,⟨0,0,.c Z49 a0⟩)] _
 refine Vm hG rfl (Vq ?_)
 refine Vr hG rfl ?_ ?_
 · repeat' (first | exact trivial | refine And.intro ?_ ?_ | intro _)
 refine Vt ?_
 refine⟨?_,trivial⟩
 all_goals exact rfl
noncomputable def F332:Fun:=⟨[.pair (.int .i64) Y40],[.own (.pure (.int .i64))],fun _=>True,fun x=>(mandIntsF x.1,())⟩
theorem F332_ok:Meets Tryz.prog 332 F332:=by
 refine mZ (C:=mkC 14 [2] [0,1,2] []) (mO _ _ _ _) (fO _) Tryz.func332 rfl rfl rfl (by decide) rfl ?_
 rintro⟨a0,_⟩ hwf hpre ⟨⟩ hG rfl rfl
 show Vc _ _ [(0,⟨0,0,.c Z49 a0⟩)] _
 refine Vm hG rfl (Vm hG rfl (Vt ?_))
 refine⟨?_,trivial⟩
 all_goals exact rfl
noncomputable def F291:Fun:=⟨[.slice Y40,.pair (.int .i64) Y40],[.pure (.bool)],fun _=>True,fun x=>(checkMandF x.1 x.2.1,())⟩
theorem F291_ok:Meets Tryz.prog 291 F291:=by
 refine mZ (C:=mkC 26 [4] [0,1,3,4] [⟨331,_,F331_ok⟩,⟨278,_,F278_ok⟩,⟨332,_,F332_ok⟩,⟨208,_,F208_ok⟩]) (mO _ _ _ _) (fO _) Tryz.func291 rfl rfl rfl (by decide) rfl ?_
 rintro⟨a0,a1,_⟩ hwf hpre ⟨⟩ hG rfl rfl
 show Vc _ _ [(0,⟨0,0,.c Z46 a0⟩),(1,⟨0,0,.c Z49 a1⟩)] _
 refine Vm hG rfl (Vq ?_)
 refine VrD mixed hG rfl (by kernel_rfl) ?_ ?_
 · repeat' (first | exact trivial | exact smallLit (n:=6) rfl (by decide) | refine And.intro ?_ ?_ | intro _)
 refine Vt ?_
 refine⟨?_,trivial⟩
 all_goals exact rfl
noncomputable def F225:Fun:=⟨[.slice Y40,.slice Y48,.int .i64,.int .i64],[.own Z10],fun x=>(fun(_:List Key) (l:List Mandate) (_ _:Int)=>List.length l≤2000000000) x.1 x.2.1 x.2.2.1 x.2.2.2.1,fun x=>(mandSpansF x.1 x.2.1 x.2.2.1 x.2.2.2.1,())⟩
theorem F225_ok:Meets Tryz.prog 225 F225:=by
 refine mZ (C:=mkC 44 [8] [0,1,2,3,8,9,11,12,13,14,15,32] [⟨291,_,F291_ok⟩,⟨283,_,F283_ok⟩]) (mO _ _ _ _) (fO _) Tryz.func225 rfl rfl rfl (by decide) rfl ?_
 rintro⟨a0,a1,(a2:Int),(a3:Int),_⟩ hwf hpre ⟨⟩ hG rfl rfl
 show Vc _ _ [(0,⟨0,0,.c Z46 a0⟩),(1,⟨0,0,.c (.pure (.slice Y48)) a1⟩),(2,⟨0,0,.c (.pure (.int .i64)) a2⟩),(3,⟨0,0,.c (.pure (.int .i64)) a3⟩)] _
 have hs:List.length a1≤2000000000:=hpre
 have hb:List.length a1≤bigLen:=hwf.2.1.1
 refine Vm hG rfl (Vm hG rfl (Vq (Vm hG rfl ?_)))
 refine Vb ?_
 refine Vc.loopF [(9,false,.own Z10),(14,false,.pure (.int .i64))] [0,1,2,3,8,12,13] (fun v=>pkInv (mdF a0 a2 a3) a1 v.1 v.2.1) (fun v=>((List.length a1:Int)-v.2.1).toNat) rfl ?_ ?_
 · exact pkStart
 rintro⟨acc,(i:Int),_⟩ hI
 have hI:pkInv (mdF a0 a2 a3) a1 acc i:=hI
 refine Vm hG rfl (Vq ?_)
 refine Vk rfl ?_ ?_<;>intro h0
 · have hl:i<(List.length a1:Int):=oTr h0
   refine Vs (Vq (Vb (Vq ?_)))
   refine Vr hG rfl ?_ ?_
   · exact pkRange hI hl
   refine Vq ?_
   refine Vr hG rfl ?_ ?_
   · repeat' (first | exact trivial | refine And.intro ?_ ?_ | intro _)
   refine Vk rfl ?_ ?_<;>intro h1
   · have g1:((mdF a0 a2 a3) (List.getD a1 i.toNat (dflt Y48))).2=true:=h1
     have st:=pkYes (d:=dflt Y48) hI hl hb g1
     refine Vr hG rfl ?_ ?_
     · exact pkLenW hI hs
     refine Vn hG rfl ?_
     refine⟨rfl,?_⟩
     exact st
   · have g1:((mdF a0 a2 a3) (List.getD a1 i.toNat (dflt Y48))).2=false:=h1
     have st:=pkNo (d:=dflt Y48) hI hl hb g1
     refine Vs (Vn hG rfl ?_)
     refine⟨rfl,?_⟩
     exact st
 · have hl:¬i<(List.length a1:Int):=oFa h0
   refine Vx (Vq ?_)
   refine Vr hG rfl ?_ ?_
   · exact pkBigW hs (pkEnd hI hl)
   refine Vt ?_
   refine⟨?_,trivial⟩
   exact congrArg joinF (pkEnd hI hl)
noncomputable def F139:Fun:=⟨[.slice Y40,.slice Y48,.int .i64,.int .i64,.pair (.int .i64) (.int .i64)],[.pure (.bool)],fun x=>(fun(_:List Key) (l:List Mandate) (_ _:Int) (_:Span)=>List.length l≤2000000000) x.1 x.2.1 x.2.2.1 x.2.2.2.1 x.2.2.2.2.1,fun x=>(maySignF x.1 x.2.1 x.2.2.1 x.2.2.2.1 x.2.2.2.2.1,())⟩
theorem F139_ok:Meets Tryz.prog 139 F139:=by
 refine mZ (C:=mkC 26 [10] [0,1,2,3,4,9,10] [⟨224,_,F224_ok⟩,⟨225,_,F225_ok⟩,⟨221,_,F221_ok⟩]) (mO _ _ _ _) (fO _) Tryz.func139 rfl rfl rfl (by decide) rfl ?_
 rintro⟨a0,a1,(a2:Int),(a3:Int),a4,_⟩ hwf hpre ⟨⟩ hG rfl rfl
 show Vc _ _ [(0,⟨0,0,.c Z46 a0⟩),(1,⟨0,0,.c (.pure (.slice Y48)) a1⟩),(2,⟨0,0,.c (.pure (.int .i64)) a2⟩),(3,⟨0,0,.c (.pure (.int .i64)) a3⟩),(4,⟨0,0,.c Z10 a4⟩)] _
 have hs:List.length a1≤2000000000:=hpre
 refine Vm hG rfl (Vq ?_)
 refine VrD mixed hG rfl (by kernel_rfl) ?_ ?_
 · exact⟨fun _=>trivial,fun _=>hs,fun _=>mandSpLen hs⟩
 refine Vt ?_
 refine⟨?_,trivial⟩
 exact mayI
noncomputable def F74:Fun:=⟨[.pair Y43 Y66,.pair Y76 Y47,.slice (.slice (.int .i64)),.int .i64,.pair (.int .i64) Y56],[.pure Y30],fun x=>(fun(_:Frame) (e:Evidence) (_:List (List Int)) (_:Int) (_:Sig)=>Sm big20 Y79 e∧((cellsC Y76 e.1:Nat):Int)≤2000000000) x.1 x.2.1 x.2.2.1 x.2.2.2.1 x.2.2.2.2.1,fun x=>(judgeF x.1 x.2.1 x.2.2.1 x.2.2.2.1 x.2.2.2.2.1,())⟩
set_option maxHeartbeats 2000000 in
theorem F74_ok:Meets Tryz.prog 74 F74:=by
 refine mZ (C:=mkC 138 [10] [0,1,2,3,4,5,6,9,10,11,12,13,14,15,16,17,18,23,28,32,38,46,73,87,96,105,113,122] [⟨124,_,F124_ok⟩,⟨125,_,F125_ok⟩,⟨126,_,F126_ok⟩,⟨127,_,F127_ok⟩,⟨128,_,F128_ok⟩,⟨129,_,F129_ok⟩,⟨88,_,F88_ok⟩,⟨130,_,F130_ok⟩,⟨131,_,F131_ok⟩,⟨132,_,F132_ok⟩,⟨133,_,F133_ok⟩,⟨134,_,F134_ok⟩,⟨135,_,F135_ok⟩,⟨136,_,F136_ok⟩,⟨137,_,F137_ok⟩,⟨138,_,F138_ok⟩,⟨140,_,F140_ok⟩,⟨139,_,F139_ok⟩]) (mO _ _ _ _) (fO _) Tryz.func74 rfl rfl rfl (by decide) rfl ?_
 rintro⟨a0,a1,a2,(a3:Int),a4,_⟩ hwf hpre ⟨⟩ hG rfl rfl
 show Vc _ _ [(0,⟨0,0,.c Z77 a0⟩),(1,⟨0,0,.c Z80 a1⟩),(2,⟨0,0,.c Z9 a2⟩),(3,⟨0,0,.c (.pure (.int .i64)) a3⟩),(4,⟨0,0,.c Z63 a4⟩)] _
 have hS:Sm big20 Y76 a1.1:=hpre.1.1
 have hT:Sm big20 (.slice (.slice TStamp)) a1.2:=hpre.1.2
 have hc:((cellsC Y76 a1.1:Nat):Int)≤2000000000:=hpre.2
 refine Vm hG rfl (Vq (Vb (Vm hG rfl ?_)))
 refine Vk rfl ?_ ?_<;>intro h0
 · refine Vm hG rfl (Vt ?_)
   refine⟨?_,trivial⟩
   exact juD (fo1 h0) (by decide)
 · refine Vm hG rfl ?_
   refine Vk rfl ?_ ?_<;>intro h1
   · refine Vm hG rfl (Vt ?_)
     refine⟨?_,trivial⟩
     exact juD (fo2' h0 h1) (by decide)
   · refine Vm hG rfl ?_
     refine Vk rfl ?_ ?_<;>intro h2
     · refine Vm hG rfl (Vt ?_)
       refine⟨?_,trivial⟩
       exact juD (fo3' h0 h1 h2) (by decide)
     · refine Vm hG rfl ?_
       refine Vk rfl ?_ ?_<;>intro h3
       · refine Vm hG rfl (Vt ?_)
         refine⟨?_,trivial⟩
         exact juD (fo4 h0 h1 h2 h3) (by decide)
       · refine Vm hG rfl ?_
         refine Vk rfl ?_ ?_<;>intro h4
         · refine Vm hG rfl (Vt ?_)
           refine⟨?_,trivial⟩
           exact juD (fo5 h0 h1 h2 h3 h4) (by decide)
         · refine Vm hG rfl ?_
           refine Vk rfl ?_ ?_<;>intro h5
           · refine Vm hG rfl (Vt ?_)
             refine⟨?_,trivial⟩
             exact juD (fo6 h0 h1 h2 h3 h4 h5) (by decide)
           · refine Vs (Vq ?_)
             refine VrD mixed hG rfl (by kernel_rfl) ?_ ?_
             · exact⟨trivial,hS⟩
             refine Vq (Vq ?_)
             refine Vr hG rfl ?_ ?_
             · repeat' (first | exact trivial | refine And.intro ?_ ?_ | intro _)
             refine Vk rfl ?_ ?_<;>intro h6
             · refine Vm hG rfl (Vt ?_)
               refine⟨?_,trivial⟩
               exact(boA h6).trans (juB (fo7 h0 h1 h2 h3 h4 h5).symm)
             · refine Vs (Vq ?_)
               refine Vr hG rfl ?_ ?_
               · exact⟨hS,hc⟩
               refine Vm hG rfl (Vq (Vm hG rfl ?_))
               refine Vk rfl ?_ ?_<;>intro h7
               · refine Vm hG rfl (Vt ?_)
                 refine⟨?_,trivial⟩
                 exact((ceA h7).trans (boB h6)).trans (juB (fo7 h0 h1 h2 h3 h4 h5).symm)
               · refine Vs (Vq ?_)
                 refine Vr hG rfl ?_ ?_
                 · exact hT
                 refine Vq (Vm hG rfl ?_)
                 refine Vk rfl ?_ ?_<;>intro h8
                 · refine Vm hG rfl (Vt ?_)
                   refine⟨?_,trivial⟩
                   exact((ceB h7 h8).trans (boB h6)).trans (juB (fo7 h0 h1 h2 h3 h4 h5).symm)
                 · refine Vs (Vm hG rfl (Vq ?_))
                   refine Vr hG rfl ?_ ?_
                   · exact usPieceLen hc
                   refine Vq (Vb (Vm hG rfl ?_))
                   refine Vk rfl ?_ ?_<;>intro h9
                   · refine Vn hG rfl (Vm hG rfl (Vt ?_))
                     refine⟨?_,trivial⟩
                     exact(((enA h9).trans (ceC h7 h8)).trans (boB h6)).trans (juB (fo7 h0 h1 h2 h3 h4 h5).symm)
                   · refine Vm hG rfl ?_
                     refine Vk rfl ?_ ?_<;>intro h10
                     · refine Vn hG rfl (Vm hG rfl (Vt ?_))
                       refine⟨?_,trivial⟩
                       exact(((enB h9 h10).trans (ceC h7 h8)).trans (boB h6)).trans (juB (fo7 h0 h1 h2 h3 h4 h5).symm)
                     · refine Vq ?_
                       refine VrD mixed hG rfl (by kernel_rfl) ?_ ?_
                       · exact⟨usPieceLen hc,mandW (usPieceLen hc)⟩
                       refine Vk rfl ?_ ?_<;>intro h11
                       · refine Vn hG rfl (Vm hG rfl (Vt ?_))
                         refine⟨?_,trivial⟩
                         exact(((enC h9 h10 h11).trans (ceC h7 h8)).trans (boB h6)).trans (juB (fo7 h0 h1 h2 h3 h4 h5).symm)
                       · refine Vs (Vm hG rfl (Vt ?_))
                         refine⟨?_,trivial⟩
                         exact(((enD h9 h10 h11).trans (ceC h7 h8)).trans (boB h6)).trans (juB (fo7 h0 h1 h2 h3 h4 h5).symm)
noncomputable def F34:Fun:=⟨[.pair Y43 Y66,.pair Y76 Y47,.pair (.int .i64) Y14,.pair (.int .i64) Y56],[.pure Y30],fun x=>(fun(_:Frame) (e:Evidence) (_:Doc) (_:Sig)=>Sm big20 Y79 e∧((cellsC Y76 e.1:Nat):Int)≤2000000000) x.1 x.2.1 x.2.2.1 x.2.2.2.1,fun x=>(judgeDocF x.1 x.2.1 x.2.2.1 x.2.2.2.1,())⟩
theorem F34_ok:Meets Tryz.prog 34 F34:=by
 refine mZ (C:=mkC 20 [8] [0,1,2,3,4,5,6,7,8] [⟨75,_,F75_ok⟩,⟨55,_,F55_ok⟩,⟨74,_,F74_ok⟩]) (mO _ _ _ _) (fO _) Tryz.func34 rfl rfl rfl (by decide) rfl ?_
 rintro⟨a0,a1,a2,a3,_⟩ hwf hpre ⟨⟩ hG rfl rfl
 show Vc _ _ [(0,⟨0,0,.c Z77 a0⟩),(1,⟨0,0,.c Z80 a1⟩),(2,⟨0,0,.c Z31 a2⟩),(3,⟨0,0,.c Z63 a3⟩)] _
 have hS:Sm big20 Y76 a1.1:=hpre.1.1
 have hT:Sm big20 (.slice (.slice TStamp)) a1.2:=hpre.1.2
 have hc:((cellsC Y76 a1.1:Nat):Int)≤2000000000:=hpre.2
 refine Vm hG rfl (Vq ?_)
 refine VrD mixed hG rfl (by kernel_rfl) ?_ ?_
 · exact⟨hS,trivial,hpre⟩
 refine Vt ?_
 refine⟨?_,trivial⟩
 all_goals exact rfl
noncomputable def F21:Fun:=⟨[.pair Y43 Y66,.pair (.int .i64) Y84],[.pure Y30],fun x=>(fun(_:Frame) (x:Item)=>Sm big20 Y85 x∧((cellsC Y85 x:Nat):Int)≤2000000000) x.1 x.2.1,fun x=>(judgeItemF x.1 x.2.1,())⟩
theorem F21_ok:Meets Tryz.prog 21 F21:=by
 refine mZ (C:=mkC 13 [4] [0,1,2,3,4] [⟨61,_,F61_ok⟩,⟨34,_,F34_ok⟩]) (mO _ _ _ _) (fO _) Tryz.func21 rfl rfl rfl (by decide) rfl ?_
 rintro⟨a0,a1,_⟩ hwf hpre ⟨⟩ hG rfl rfl
 show Vc _ _ [(0,⟨0,0,.c Z77 a0⟩),(1,⟨0,0,.c Z86 a1⟩)] _
 have hi:Sm big20 Y85 a1:=hpre.1
 have hc:((cellsC Y85 a1:Nat):Int)≤2000000000:=hpre.2
 refine Vm hG rfl (Vq ?_)
 refine VrD mixed hG rfl (by kernel_rfl) ?_ ?_
 · exact⟨hi,itSm hi,itCells hc⟩
 refine Vt ?_
 refine⟨?_,trivial⟩
 all_goals exact rfl
end Fw
