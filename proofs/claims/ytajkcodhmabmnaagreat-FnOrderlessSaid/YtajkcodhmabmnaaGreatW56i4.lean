/- Walks of functions of the program: what each computes. Conditions: those that each contract names. -/
import Derived.Test.YtajkcodhmabmnaaGreatW56T
import Derived.Test.YtajkcodhmabmnaaGreatW56i0
import Derived.Test.YtajkcodhmabmnaaGreatW56i1
import Derived.Test.YtajkcodhmabmnaaGreatW56i2
import Derived.Test.YtajkcodhmabmnaaGreatW56i3
namespace Fw
open Go Go.Proofs
set_option linter.unusedSimpArgs false
set_option maxRecDepth 100000
noncomputable def F222:Fun:=⟨[.pair (.int .i64) Y40,.slice Y34],[.own Z9],fun _=>True,fun x=>(badSpansF x.1 x.2.1,())⟩
theorem F222_ok:Meets Tryz.prog 222 F222:=by
 refine mZ (C:=mkCK 32 [4] [0,1,2,4,5,6,10,18] [⟨287,_,F287_ok⟩,⟨283,_,F283_ok⟩] [] [] [⟨285,_,K285_ok⟩] []) (mkCK_ok _ _ _ _ _ _ _ _) (fO _) Tryz.func222 rfl rfl rfl (by decide) rfl ?_
 rintro⟨a0,a1,_⟩ hwf hpre ⟨⟩ hG rfl rfl
 show Vc _ _ [(0,⟨0,0,.c Z48 a0⟩),(1,⟨0,0,.c Z38 a1⟩)] _
 refine Vm hG rfl (Vm hG rfl (Vm hG rfl (Vq ?_)))
 refine Vm hG rfl ?_
 refine Vk rfl ?_ ?_<;>intro h0
 · refine Vr hG rfl ?_ ?_
   · exact Nat.zero_le _
   refine Vq (Vm hG rfl ?_)
   refine Vk rfl ?_ ?_<;>intro h1
   · refine Vr hG rfl ?_ ?_
     · first
         | exact bp1
         | exact Nat.zero_le _
     refine Vq ?_
     refine Vr hG rfl ?_ ?_
     · exact⟨trivial,(by first | exact bp2 | exact bp1 | exact Nat.zero_le _)⟩
     refine Vq ?_
     refine Vr hG rfl ?_ ?_
     · exact(Nat.le_trans (by first | exact bp3 | exact bp2 | exact bp1) (show 1000≤2000000000 by decide))
     refine Vt ?_
     refine⟨?_,trivial⟩
     exact bdYY h0 h1
   · refine Vs (Vq ?_)
     refine Vr hG rfl ?_ ?_
     · exact⟨trivial,(by first | exact bp2 | exact bp1 | exact Nat.zero_le _)⟩
     refine Vq ?_
     refine Vr hG rfl ?_ ?_
     · exact(Nat.le_trans (by first | exact bp3 | exact bp2 | exact bp1) (show 1000≤2000000000 by decide))
     refine Vt ?_
     refine⟨?_,trivial⟩
     exact bdYN h0 h1
 · refine Vs (Vq (Vm hG rfl ?_))
   refine Vk rfl ?_ ?_<;>intro h2
   · refine Vr hG rfl ?_ ?_
     · first
         | exact bp1
         | exact Nat.zero_le _
     refine Vq ?_
     refine Vr hG rfl ?_ ?_
     · exact⟨trivial,(by first | exact bp2 | exact bp1 | exact Nat.zero_le _)⟩
     refine Vq ?_
     refine Vr hG rfl ?_ ?_
     · exact(Nat.le_trans (by first | exact bp3 | exact bp2 | exact bp1) (show 1000≤2000000000 by decide))
     refine Vt ?_
     refine⟨?_,trivial⟩
     exact bdNY h0 h2
   · refine Vs (Vq ?_)
     refine Vr hG rfl ?_ ?_
     · exact⟨trivial,(by first | exact bp2 | exact bp1 | exact Nat.zero_le _)⟩
     refine Vq ?_
     refine Vr hG rfl ?_ ?_
     · exact(Nat.le_trans (by first | exact bp3 | exact bp2 | exact bp1) (show 1000≤2000000000 by decide))
     refine Vt ?_
     refine⟨?_,trivial⟩
     exact bdNN h0 h2
noncomputable def F284:Fun:=⟨[.pair (.int .i64) (.int .i64),.pair (.int .i64) (.int .i64)],[.pure (.bool)],fun _=>True,fun x=>(isInsideF x.1 x.2.1,())⟩
theorem F284_ok:Meets Tryz.prog 284 F284:=by
 refine mZ (C:=mkC 25 [4] [0,1,2,3,4] [⟨224,_,F224_ok⟩]) (mO _ _ _ _) (fO _) Tryz.func284 rfl rfl rfl (by decide) rfl ?_
 rintro⟨a0,a1,_⟩ hwf hpre ⟨⟩ hG rfl rfl
 show Vc _ _ [(0,⟨0,0,.c Z9 a0⟩),(1,⟨0,0,.c Z9 a1⟩)] _
 refine Vm hG rfl (Vq ?_)
 refine Vr hG rfl ?_ ?_
 · repeat' (first | exact trivial | refine And.intro ?_ ?_ | intro _)
 refine Vt ?_
 refine⟨?_,trivial⟩
 all_goals exact rfl
noncomputable def F221:Fun:=⟨[.slice Y5,.pair (.int .i64) (.int .i64)],[.pure (.bool)],fun x=>(fun(l:List Span) (_:Span)=>List.length l≤2000000000) x.1 x.2.1,fun x=>(coversF x.1 x.2.1,())⟩
theorem F221_ok:Meets Tryz.prog 221 F221:=by
 refine mZ (C:=mkC 18 [4] [0,1,3,4,6,8,9,10,11,16] [⟨283,_,F283_ok⟩,⟨284,_,F284_ok⟩]) (mO _ _ _ _) (fO _) Tryz.func221 rfl rfl rfl (by decide) rfl ?_
 rintro⟨a0,a1,_⟩ hwf hpre ⟨⟩ hG rfl rfl
 show Vc _ _ [(0,⟨0,0,.c Z14 a0⟩),(1,⟨0,0,.c Z9 a1⟩)] _
 have hs:List.length a0≤2000000000:=hpre
 have hb:List.length a0≤bigLen:=hwf.1.1
 have hbj:List.length (joinF a0)≤bigLen:=Nat.le_trans (joinLen a0) hb
 refine Vm hG rfl (Vq (Vq ?_))
 refine Vr hG rfl ?_ ?_
 · exact hs
 refine Vb ?_
 refine Vc.loopF [(10,false,.pure (.int .i64))] [0,1,3,8,9] (fun v=>fInv (fun x=>isInsideF a1 x) (joinF a0) v.1) (fun v=>((List.length (joinF a0):Int)-v.1).toNat) rfl ?_ ?_
 · exact fStart
 rintro⟨(i:Int),_⟩ hI
 have hI:fInv (fun x=>isInsideF a1 x) (joinF a0) i:=hI
 refine Vm hG rfl (Vq ?_)
 refine Vk rfl ?_ ?_<;>intro h0
 · have hl:i<(List.length (joinF a0):Int):=oTr h0
   refine Vs (Vq (Vb (Vq ?_)))
   refine Vr hG rfl ?_ ?_
   · exact fRange hI hl
   refine Vm hG rfl ?_
   refine Vk rfl ?_ ?_<;>intro h1
   · have g1:isInsideF a1 (List.getD (joinF a0) i.toNat (dflt Y5))=true:=h1
     refine Vm hG rfl (Vt ?_)
     refine⟨?_,trivial⟩
     exact cvHit rfl hI hl g1
   · have g1:(fun x=>isInsideF a1 x) (List.getD (joinF a0) i.toNat (dflt Y5))=false:=h1
     refine Vs (Vn hG rfl ?_)
     refine⟨rfl,?_⟩
     exact fStep hI hl hbj g1
 · have hl:¬i<(List.length (joinF a0):Int):=oFa h0
   refine Vx (Vm hG rfl (Vt ?_))
   refine⟨?_,trivial⟩
   exact cvEnd rfl hI hl
noncomputable def F137:Fun:=⟨[.pair (.int .i64) Y40,.slice Y34,.pair (.int .i64) (.int .i64)],[.pure (.bool)],fun _=>True,fun x=>((fun c l s=>coversF (badSpansF c l) s) x.1 x.2.1 x.2.2.1,())⟩
theorem F137_ok:Meets Tryz.prog 137 F137:=by
 refine mZ (C:=mkC 12 [6] [0,1,2,3,5,6] [⟨222,_,F222_ok⟩,⟨221,_,F221_ok⟩]) (mO _ _ _ _) (fO _) Tryz.func137 rfl rfl rfl (by decide) rfl ?_
 rintro⟨a0,a1,a2,_⟩ hwf hpre ⟨⟩ hG rfl rfl
 show Vc _ _ [(0,⟨0,0,.c Z48 a0⟩),(1,⟨0,0,.c Z38 a1⟩),(2,⟨0,0,.c Z9 a2⟩)] _
 refine Vm hG rfl (Vq ?_)
 refine VrD mixed hG rfl (by kernel_rfl) ?_ ?_
 · exact⟨trivial,Nat.le_trans (badLen a0 a1) (by decide)⟩
 refine Vt ?_
 refine⟨?_,trivial⟩
 all_goals exact rfl
noncomputable def F290:Fun:=⟨[.slice Y34,.int .i64],[.pure (.int .i64)],fun _=>True,fun x=>(goodUntilF x.1 x.2.1,())⟩
theorem F290_ok:Meets Tryz.prog 290 F290:=by
 refine mZ (C:=mkC 20 [4] [0,1,4,5,7,16] [⟨329,_,F329_ok⟩]) (mO _ _ _ _) (fO _) Tryz.func290 rfl rfl rfl (by decide) rfl ?_
 rintro⟨a0,(a1:Int),_⟩ hwf hpre ⟨⟩ hG rfl rfl
 show Vc _ _ [(0,⟨0,0,.c Z38 a0⟩),(1,⟨0,0,.c (.pure (.int .i64)) a1⟩)] _
 refine Vm hG rfl (Vm hG rfl (Vq (Vm hG rfl ?_)))
 refine Vk rfl ?_ ?_<;>intro h0
 · refine Vm hG rfl (Vt ?_)
   refine⟨?_,trivial⟩
   exact guA rfl h0
 · refine Vs (Vm hG rfl (Vt ?_))
   refine⟨?_,trivial⟩
   exact guB rfl rfl h0
noncomputable def F330:Fun:=⟨[.pair (.int .i64) (.int .i64),.pair (.int .i64) (.int .i64)],[.pure Y5,.pure (.bool)],fun _=>True,fun x=>((meetF x.1 x.2.1).1,(meetF x.1 x.2.1).2,())⟩
theorem F330_ok:Meets Tryz.prog 330 F330:=by
 refine mZ (C:=mkC 33 [4,5] [0,1,2,3,4,5,6,30] [⟨224,_,F224_ok⟩]) (mO _ _ _ _) (fO _) Tryz.func330 rfl rfl rfl (by decide) rfl ?_
 rintro⟨a0,a1,_⟩ hwf hpre ⟨⟩ hG rfl rfl
 show Vc _ _ [(0,⟨0,0,.c Z9 a0⟩),(1,⟨0,0,.c Z9 a1⟩)] _
 refine Vm hG rfl (Vm hG rfl (Vq (Vq ?_)))
 refine Vr hG rfl ?_ ?_
 · repeat' (first | exact trivial | refine And.intro ?_ ?_ | intro _)
 refine Vk rfl ?_ ?_<;>intro h0
 · refine Vm hG rfl (Vt ?_)
   have e:=meI0 h0
   refine⟨?_,?_,trivial⟩
   · exact(congrArg Prod.fst e).symm
   · exact(congrArg Prod.snd e).symm
 · refine Vs (Vm hG rfl (Vt ?_))
   have e:=meI1 h0
   refine⟨?_,?_,trivial⟩
   · exact(congrArg Prod.fst e).symm
   · exact(congrArg Prod.snd e).symm
noncomputable def F288:Fun:=⟨[.slice Y5,.slice Y5],[.own Z9],fun x=>(fun(a b:List Span)=>List.length a≤1000∧List.length b≤1000) x.1 x.2.1,fun x=>(meetAllF x.1 x.2.1,())⟩
theorem F288_ok:Meets Tryz.prog 288 F288:=by
 refine mZ (C:=mkC 39 [4] [0,1,4,5,7,9,10,11,12,13,14,15,18,19,20,21,30] [⟨330,_,F330_ok⟩,⟨283,_,F283_ok⟩]) (mO _ _ _ _) (fO _) Tryz.func288 rfl rfl rfl (by decide) rfl ?_
 rintro⟨a0,a1,_⟩ hwf hpre ⟨⟩ hG rfl rfl
 show Vc _ _ [(0,⟨0,0,.c Z14 a0⟩),(1,⟨0,0,.c Z14 a1⟩)] _
 have hp1:List.length a0≤1000:=hpre.1
 have hp2:List.length a1≤1000:=hpre.2
 have hb:List.length a0≤bigLen:=hwf.1.1
 have hb1:List.length a1≤bigLen:=hwf.2.1.1
 refine Vm hG rfl (Vm hG rfl (Vq (Vm hG rfl ?_)))
 refine Vb ?_
 refine Vc.loopF [(5,false,.own Z9),(14,false,.pure (.int .i64))] [0,1,4,12,13] (fun v=>foInv (meR a1) [] a0 v.1 v.2.1) (fun v=>((List.length a0:Int)-v.2.1).toNat) rfl ?_ ?_
 · exact foStart
 rintro⟨acc,(i:Int),_⟩ hI
 have hI:foInv (meR a1) [] a0 acc i:=hI
 have hA:List.length acc≤1000000:=meLenI hI hp1 hp2
 refine Vm hG rfl (Vq ?_)
 refine Vk rfl ?_ ?_<;>intro h0
 · have hl:i<(List.length a0:Int):=oTr h0
   refine Vs (Vq (Vb (Vq ?_)))
   refine Vr hG rfl ?_ ?_
   · exact foRange hI hl
   refine Vm hG rfl (Vb ?_)
   refine Vc.loopF [(5,false,.own Z9),(20,false,.pure (.int .i64))] [0,1,4,7,12,13,14,15,18,19] (fun v=>foInv (meG (List.getD a0 i.toNat (dflt Y5))) acc a1 v.1 v.2.1) (fun v=>((List.length a1:Int)-v.2.1).toNat) rfl ?_ ?_
   · exact foStart
   rintro⟨ac2,(k:Int),_⟩ hK
   have hK:foInv (meG (List.getD a0 i.toNat (dflt Y5))) acc a1 ac2 k:=hK
   have hA2:List.length ac2≤2000000:=meLenJ hK hA hp2
   refine Vm hG rfl (Vq ?_)
   refine Vk rfl ?_ ?_<;>intro h1
   · have hm:k<(List.length a1:Int):=oTr h1
     refine Vs (Vq (Vb (Vq ?_)))
     refine Vr hG rfl ?_ ?_
     · exact foRange hK hm
     refine Vm hG rfl (Vm hG rfl ?_)
     refine Vk rfl ?_ ?_<;>intro h2
     · have g2:(meetF (List.getD a0 i.toNat (dflt Y5)) (List.getD a1 k.toNat (dflt Y5))).2=true:=h2
       have st:=foStepE (d:=dflt Y5) hK hm hb1 (meY g2)
       refine Vr hG rfl ?_ ?_
       · exact meApp hA2
       refine Vn hG rfl ?_
       refine⟨rfl,?_⟩
       exact st
     · have g2:(meetF (List.getD a0 i.toNat (dflt Y5)) (List.getD a1 k.toNat (dflt Y5))).2=false:=h2
       have st:=foStepE (d:=dflt Y5) hK hm hb1 (meN (acc:=ac2) g2)
       refine Vs (Vn hG rfl ?_)
       refine⟨rfl,?_⟩
       exact st
   · have hm:¬k<(List.length a1:Int):=oFa h1
     refine Vx (Vn hG rfl ?_)
     refine⟨rfl,?_⟩
     exact foStepE (d:=dflt Y5) hI hl hb (foEnd hK hm)
 · have hl:¬i<(List.length a0:Int):=oFa h0
   refine Vx (Vq ?_)
   refine Vr hG rfl ?_ ?_
   · exact meBig hp1 hp2 (foEnd hI hl)
   refine Vt ?_
   refine⟨?_,trivial⟩
   exact congrArg joinF (foEnd hI hl)
noncomputable def F223:Fun:=⟨[.pair (.int .i64) Y40,.slice Y34],[.own Z9],fun _=>True,fun x=>(goodSpansF x.1 x.2.1,())⟩
theorem F223_ok:Meets Tryz.prog 223 F223:=by
 refine mZ (C:=mkC 15 [4] [0,1,2,4] [⟨289,_,F289_ok⟩,⟨290,_,F290_ok⟩,⟨288,_,F288_ok⟩]) (mO _ _ _ _) (fO _) Tryz.func223 rfl rfl rfl (by decide) rfl ?_
 rintro⟨a0,a1,_⟩ hwf hpre ⟨⟩ hG rfl rfl
 show Vc _ _ [(0,⟨0,0,.c Z48 a0⟩),(1,⟨0,0,.c Z38 a1⟩)] _
 refine Vm hG rfl (Vq ?_)
 refine VrD mixed hG rfl (by kernel_rfl) ?_ ?_
 · exact⟨trivial,trivial,one1,one1⟩
 refine Vt ?_
 refine⟨?_,trivial⟩
 all_goals exact rfl
noncomputable def F138:Fun:=⟨[.pair (.int .i64) Y40,.slice Y34,.pair (.int .i64) (.int .i64)],[.pure (.bool)],fun _=>True,fun x=>((fun c l s=>coversF (goodSpansF c l) s) x.1 x.2.1 x.2.2.1,())⟩
theorem F138_ok:Meets Tryz.prog 138 F138:=by
 refine mZ (C:=mkC 12 [6] [0,1,2,3,5,6] [⟨223,_,F223_ok⟩,⟨221,_,F221_ok⟩]) (mO _ _ _ _) (fO _) Tryz.func138 rfl rfl rfl (by decide) rfl ?_
 rintro⟨a0,a1,a2,_⟩ hwf hpre ⟨⟩ hG rfl rfl
 show Vc _ _ [(0,⟨0,0,.c Z48 a0⟩),(1,⟨0,0,.c Z38 a1⟩),(2,⟨0,0,.c Z9 a2⟩)] _
 refine Vm hG rfl (Vq ?_)
 refine VrD mixed hG rfl (by kernel_rfl) ?_ ?_
 · exact⟨trivial,Nat.le_trans (goodLen a0 a1) (by decide)⟩
 refine Vt ?_
 refine⟨?_,trivial⟩
 all_goals exact rfl
noncomputable def F140:Fun:=⟨[.slice Y19],[.own Z43],fun x=>(fun a0=>List.length a0≤2000000000) x.1,fun x=>(mandatesF x.1,())⟩
theorem F140_ok:Meets Tryz.prog 140 F140:=by
 refine mZ (C:=mkC 26 [2] [0,2,3,5,6,7,8,9,10,11,19] [⟨226,_,F226_ok⟩]) (mO _ _ _ _) (fO _) Tryz.func140 rfl rfl rfl (by decide) rfl ?_
 rintro⟨a0,_⟩ hwf hpre ⟨⟩ hG rfl rfl
 show Vc _ _ [(0,⟨0,0,.c Z28 a0⟩)] _
 have hb:List.length a0≤bigLen:=hwf.1.1
 have hs:List.length a0≤2000000000:=hpre
 refine Vm hG rfl (Vm hG rfl (Vq (Vm hG rfl ?_)))
 refine Vb ?_
 refine Vc.loopF [(3,false,.own Z43),(10,false,.pure (.int .i64))] [0,2,8,9] (fun v=>pkInv (pieceMandF) a0 v.1 v.2.1) (fun v=>((List.length a0:Int)-v.2.1).toNat) rfl ?_ ?_
 · exact pkStart
 rintro⟨acc,(i:Int),_⟩ hI
 have hI:pkInv (pieceMandF) a0 acc i:=hI
 refine Vm hG rfl (Vq ?_)
 refine Vk rfl ?_ ?_<;>intro h0
 · have hl:i<(List.length a0:Int):=oTr h0
   refine Vs (Vq (Vb (Vq ?_)))
   refine Vr hG rfl ?_ ?_
   · exact pkRange hI hl
   refine Vm hG rfl (Vm hG rfl ?_)
   refine Vk rfl ?_ ?_<;>intro h1
   · have g1:((pieceMandF) (List.getD a0 i.toNat (dflt Y19))).2=true:=h1
     refine Vr hG rfl ?_ ?_
     · exact pkLenW hI hs
     refine Vn hG rfl ?_
     refine⟨rfl,?_⟩
     first
       | exact pkYes (d:=dflt Y19) hI hl hb g1
       | exact pkNo (d:=dflt Y19) hI hl hb g1
   · have g1:((pieceMandF) (List.getD a0 i.toNat (dflt Y19))).2=false:=h1
     refine Vs (Vn hG rfl ?_)
     refine⟨rfl,?_⟩
     first
       | exact pkYes (d:=dflt Y19) hI hl hb g1
       | exact pkNo (d:=dflt Y19) hI hl hb g1
 · have hl:¬i<(List.length a0:Int):=oFa h0
   refine Vx (Vm hG rfl (Vt ?_))
   refine⟨?_,trivial⟩
   exact pkEnd hI hl
noncomputable def F331:Fun:=⟨[.pair (.int .i64) Y34],[.pure (.bool)],fun _=>True,fun x=>(isMandF x.1,())⟩
theorem F331_ok:Meets Tryz.prog 331 F331:=by
 refine mZ (C:=mkC 24 [2] [0,1,2] [⟨51,_,F51_ok⟩,⟨224,_,F224_ok⟩]) (mO _ _ _ _) (fO _) Tryz.func331 rfl rfl rfl (by decide) rfl ?_
 rintro⟨a0,_⟩ hwf hpre ⟨⟩ hG rfl rfl
 show Vc _ _ [(0,⟨0,0,.c Z43 a0⟩)] _
 refine Vm hG rfl (Vq ?_)
 refine Vr hG rfl ?_ ?_
 · repeat' (first | exact trivial | refine And.intro ?_ ?_ | intro _)
 refine Vt ?_
 refine⟨?_,trivial⟩
 all_goals exact rfl
noncomputable def F332:Fun:=⟨[.pair (.int .i64) Y34],[.own (.pure (.int .i64))],fun _=>True,fun x=>(mandIntsF x.1,())⟩
theorem F332_ok:Meets Tryz.prog 332 F332:=by
 refine mZ (C:=mkC 14 [2] [0,1,2] []) (mO _ _ _ _) (fO _) Tryz.func332 rfl rfl rfl (by decide) rfl ?_
 rintro⟨a0,_⟩ hwf hpre ⟨⟩ hG rfl rfl
 show Vc _ _ [(0,⟨0,0,.c Z43 a0⟩)] _
 refine Vm hG rfl (Vm hG rfl (Vt ?_))
 refine⟨?_,trivial⟩
 all_goals exact rfl
noncomputable def F291:Fun:=⟨[.slice Y34,.pair (.int .i64) Y34],[.pure (.bool)],fun _=>True,fun x=>(checkMandF x.1 x.2.1,())⟩
theorem F291_ok:Meets Tryz.prog 291 F291:=by
 refine mZ (C:=mkC 26 [4] [0,1,3,4] [⟨331,_,F331_ok⟩,⟨278,_,F278_ok⟩,⟨332,_,F332_ok⟩,⟨208,_,F208_ok⟩]) (mO _ _ _ _) (fO _) Tryz.func291 rfl rfl rfl (by decide) rfl ?_
 rintro⟨a0,a1,_⟩ hwf hpre ⟨⟩ hG rfl rfl
 show Vc _ _ [(0,⟨0,0,.c Z38 a0⟩),(1,⟨0,0,.c Z43 a1⟩)] _
 refine Vm hG rfl (Vq ?_)
 refine VrD mixed hG rfl (by kernel_rfl) ?_ ?_
 · repeat' (first | exact trivial | exact smallLit (n:=6) rfl (by decide) | refine And.intro ?_ ?_ | intro _)
 refine Vt ?_
 refine⟨?_,trivial⟩
 all_goals exact rfl
noncomputable def F225:Fun:=⟨[.slice Y34,.slice Y40,.int .i64,.int .i64],[.own Z9],fun x=>(fun(_:List Key) (l:List Mandate) (_ _:Int)=>List.length l≤2000000000) x.1 x.2.1 x.2.2.1 x.2.2.2.1,fun x=>(mandSpansF x.1 x.2.1 x.2.2.1 x.2.2.2.1,())⟩
theorem F225_ok:Meets Tryz.prog 225 F225:=by
 refine mZ (C:=mkC 44 [8] [0,1,2,3,8,9,11,12,13,14,15,32] [⟨291,_,F291_ok⟩,⟨283,_,F283_ok⟩]) (mO _ _ _ _) (fO _) Tryz.func225 rfl rfl rfl (by decide) rfl ?_
 rintro⟨a0,a1,(a2:Int),(a3:Int),_⟩ hwf hpre ⟨⟩ hG rfl rfl
 show Vc _ _ [(0,⟨0,0,.c Z38 a0⟩),(1,⟨0,0,.c Z46 a1⟩),(2,⟨0,0,.c (.pure (.int .i64)) a2⟩),(3,⟨0,0,.c (.pure (.int .i64)) a3⟩)] _
 have hs:List.length a1≤2000000000:=hpre
 have hb:List.length a1≤bigLen:=hwf.2.1.1
 refine Vm hG rfl (Vm hG rfl (Vq (Vm hG rfl ?_)))
 refine Vb ?_
 refine Vc.loopF [(9,false,.own Z9),(14,false,.pure (.int .i64))] [0,1,2,3,8,12,13] (fun v=>pkInv (mdF a0 a2 a3) a1 v.1 v.2.1) (fun v=>((List.length a1:Int)-v.2.1).toNat) rfl ?_ ?_
 · exact pkStart
 rintro⟨acc,(i:Int),_⟩ hI
 have hI:pkInv (mdF a0 a2 a3) a1 acc i:=hI
 refine Vm hG rfl (Vq ?_)
 refine Vk rfl ?_ ?_<;>intro h0
 · have hl:i<(List.length a1:Int):=oTr h0
   refine Vs (Vq (Vb (Vq ?_)))
   refine Vr hG rfl ?_ ?_
   · exact pkRange hI hl
   refine Vq ?_
   refine Vr hG rfl ?_ ?_
   · repeat' (first | exact trivial | refine And.intro ?_ ?_ | intro _)
   refine Vk rfl ?_ ?_<;>intro h1
   · have g1:((mdF a0 a2 a3) (List.getD a1 i.toNat (dflt Y40))).2=true:=h1
     have st:=pkYes (d:=dflt Y40) hI hl hb g1
     refine Vr hG rfl ?_ ?_
     · exact pkLenW hI hs
     refine Vn hG rfl ?_
     refine⟨rfl,?_⟩
     exact st
   · have g1:((mdF a0 a2 a3) (List.getD a1 i.toNat (dflt Y40))).2=false:=h1
     have st:=pkNo (d:=dflt Y40) hI hl hb g1
     refine Vs (Vn hG rfl ?_)
     refine⟨rfl,?_⟩
     exact st
 · have hl:¬i<(List.length a1:Int):=oFa h0
   refine Vx (Vq ?_)
   refine Vr hG rfl ?_ ?_
   · exact pkBigW hs (pkEnd hI hl)
   refine Vt ?_
   refine⟨?_,trivial⟩
   exact congrArg joinF (pkEnd hI hl)
noncomputable def F139:Fun:=⟨[.slice Y34,.slice Y40,.int .i64,.int .i64,.pair (.int .i64) (.int .i64)],[.pure (.bool)],fun x=>(fun(_:List Key) (l:List Mandate) (_ _:Int) (_:Span)=>List.length l≤2000000000) x.1 x.2.1 x.2.2.1 x.2.2.2.1 x.2.2.2.2.1,fun x=>(maySignF x.1 x.2.1 x.2.2.1 x.2.2.2.1 x.2.2.2.2.1,())⟩
theorem F139_ok:Meets Tryz.prog 139 F139:=by
 refine mZ (C:=mkC 26 [10] [0,1,2,3,4,9,10] [⟨224,_,F224_ok⟩,⟨225,_,F225_ok⟩,⟨221,_,F221_ok⟩]) (mO _ _ _ _) (fO _) Tryz.func139 rfl rfl rfl (by decide) rfl ?_
 rintro⟨a0,a1,(a2:Int),(a3:Int),a4,_⟩ hwf hpre ⟨⟩ hG rfl rfl
 show Vc _ _ [(0,⟨0,0,.c Z38 a0⟩),(1,⟨0,0,.c Z46 a1⟩),(2,⟨0,0,.c (.pure (.int .i64)) a2⟩),(3,⟨0,0,.c (.pure (.int .i64)) a3⟩),(4,⟨0,0,.c Z9 a4⟩)] _
 have hs:List.length a1≤2000000000:=hpre
 refine Vm hG rfl (Vq ?_)
 refine VrD mixed hG rfl (by kernel_rfl) ?_ ?_
 · exact⟨fun _=>trivial,fun _=>hs,fun _=>mandSpLen hs⟩
 refine Vt ?_
 refine⟨?_,trivial⟩
 exact mayI
noncomputable def F74:Fun:=⟨[.pair Y36 Y57,.pair Y67 Y39,.slice (.slice (.int .i64)),.int .i64,.pair (.int .i64) Y50],[.pure Y26],fun x=>(fun(_:Frame) (e:Evidence) (_:List (List Int)) (_:Int) (_:Sig)=>Sm big20 Y72 e∧((cellsC Y67 e.1:Nat):Int)≤2000000000) x.1 x.2.1 x.2.2.1 x.2.2.2.1 x.2.2.2.2.1,fun x=>(judgeF x.1 x.2.1 x.2.2.1 x.2.2.2.1 x.2.2.2.2.1,())⟩
set_option maxHeartbeats 2000000 in
theorem F74_ok:Meets Tryz.prog 74 F74:=by
 refine mZ (C:=mkC 138 [10] [0,1,2,3,4,5,6,9,10,11,12,13,14,15,16,17,18,23,28,32,38,46,73,87,96,105,113,122] [⟨124,_,F124_ok⟩,⟨125,_,F125_ok⟩,⟨126,_,F126_ok⟩,⟨127,_,F127_ok⟩,⟨128,_,F128_ok⟩,⟨129,_,F129_ok⟩,⟨88,_,F88_ok⟩,⟨130,_,F130_ok⟩,⟨131,_,F131_ok⟩,⟨132,_,F132_ok⟩,⟨133,_,F133_ok⟩,⟨134,_,F134_ok⟩,⟨135,_,F135_ok⟩,⟨136,_,F136_ok⟩,⟨137,_,F137_ok⟩,⟨138,_,F138_ok⟩,⟨140,_,F140_ok⟩,⟨139,_,F139_ok⟩]) (mO _ _ _ _) (fO _) Tryz.func74 rfl rfl rfl (by decide) rfl ?_
 rintro⟨a0,a1,a2,(a3:Int),a4,_⟩ hwf hpre ⟨⟩ hG rfl rfl
 show Vc _ _ [(0,⟨0,0,.c Z68 a0⟩),(1,⟨0,0,.c Z73 a1⟩),(2,⟨0,0,.c Z8 a2⟩),(3,⟨0,0,.c (.pure (.int .i64)) a3⟩),(4,⟨0,0,.c Z54 a4⟩)] _
 have hS:Sm big20 Y67 a1.1:=hpre.1.1
 have hT:Sm big20 (.slice (.slice TStamp)) a1.2:=hpre.1.2
 have hc:((cellsC Y67 a1.1:Nat):Int)≤2000000000:=hpre.2
 refine Vm hG rfl (Vq (Vb (Vm hG rfl ?_)))
 refine Vk rfl ?_ ?_<;>intro h0
 · refine Vm hG rfl (Vt ?_)
   refine⟨?_,trivial⟩
   exact juD (fo1 h0) (by decide)
 · refine Vm hG rfl ?_
   refine Vk rfl ?_ ?_<;>intro h1
   · refine Vm hG rfl (Vt ?_)
     refine⟨?_,trivial⟩
     exact juD (fo2' h0 h1) (by decide)
   · refine Vm hG rfl ?_
     refine Vk rfl ?_ ?_<;>intro h2
     · refine Vm hG rfl (Vt ?_)
       refine⟨?_,trivial⟩
       exact juD (fo3' h0 h1 h2) (by decide)
     · refine Vm hG rfl ?_
       refine Vk rfl ?_ ?_<;>intro h3
       · refine Vm hG rfl (Vt ?_)
         refine⟨?_,trivial⟩
         exact juD (fo4 h0 h1 h2 h3) (by decide)
       · refine Vm hG rfl ?_
         refine Vk rfl ?_ ?_<;>intro h4
         · refine Vm hG rfl (Vt ?_)
           refine⟨?_,trivial⟩
           exact juD (fo5 h0 h1 h2 h3 h4) (by decide)
         · refine Vm hG rfl ?_
           refine Vk rfl ?_ ?_<;>intro h5
           · refine Vm hG rfl (Vt ?_)
             refine⟨?_,trivial⟩
             exact juD (fo6 h0 h1 h2 h3 h4 h5) (by decide)
           · refine Vs (Vq ?_)
             refine VrD mixed hG rfl (by kernel_rfl) ?_ ?_
             · exact⟨trivial,hS⟩
             refine Vq (Vq ?_)
             refine Vr hG rfl ?_ ?_
             · repeat' (first | exact trivial | refine And.intro ?_ ?_ | intro _)
             refine Vk rfl ?_ ?_<;>intro h6
             · refine Vm hG rfl (Vt ?_)
               refine⟨?_,trivial⟩
               exact(boA h6).trans (juB (fo7 h0 h1 h2 h3 h4 h5).symm)
             · refine Vs (Vq ?_)
               refine Vr hG rfl ?_ ?_
               · exact⟨hS,hc⟩
               refine Vm hG rfl (Vq (Vm hG rfl ?_))
               refine Vk rfl ?_ ?_<;>intro h7
               · refine Vm hG rfl (Vt ?_)
                 refine⟨?_,trivial⟩
                 exact((ceA h7).trans (boB h6)).trans (juB (fo7 h0 h1 h2 h3 h4 h5).symm)
               · refine Vs (Vq ?_)
                 refine Vr hG rfl ?_ ?_
                 · exact hT
                 refine Vq (Vm hG rfl ?_)
                 refine Vk rfl ?_ ?_<;>intro h8
                 · refine Vm hG rfl (Vt ?_)
                   refine⟨?_,trivial⟩
                   exact((ceB h7 h8).trans (boB h6)).trans (juB (fo7 h0 h1 h2 h3 h4 h5).symm)
                 · refine Vs (Vm hG rfl (Vq ?_))
                   refine Vr hG rfl ?_ ?_
                   · exact usPieceLen hc
                   refine Vq (Vb (Vm hG rfl ?_))
                   refine Vk rfl ?_ ?_<;>intro h9
                   · refine Vn hG rfl (Vm hG rfl (Vt ?_))
                     refine⟨?_,trivial⟩
                     exact(((enA h9).trans (ceC h7 h8)).trans (boB h6)).trans (juB (fo7 h0 h1 h2 h3 h4 h5).symm)
                   · refine Vm hG rfl ?_
                     refine Vk rfl ?_ ?_<;>intro h10
                     · refine Vn hG rfl (Vm hG rfl (Vt ?_))
                       refine⟨?_,trivial⟩
                       exact(((enB h9 h10).trans (ceC h7 h8)).trans (boB h6)).trans (juB (fo7 h0 h1 h2 h3 h4 h5).symm)
                     · refine Vq ?_
                       refine VrD mixed hG rfl (by kernel_rfl) ?_ ?_
                       · exact⟨usPieceLen hc,mandW (usPieceLen hc)⟩
                       refine Vk rfl ?_ ?_<;>intro h11
                       · refine Vn hG rfl (Vm hG rfl (Vt ?_))
                         refine⟨?_,trivial⟩
                         exact(((enC h9 h10 h11).trans (ceC h7 h8)).trans (boB h6)).trans (juB (fo7 h0 h1 h2 h3 h4 h5).symm)
                       · refine Vs (Vm hG rfl (Vt ?_))
                         refine⟨?_,trivial⟩
                         exact(((enD h9 h10 h11).trans (ceC h7 h8)).trans (boB h6)).trans (juB (fo7 h0 h1 h2 h3 h4 h5).symm)
noncomputable def F34:Fun:=⟨[.pair Y36 Y57,.pair Y67 Y39,.pair (.int .i64) Y13,.pair (.int .i64) Y50],[.pure Y26],fun x=>(fun(_:Frame) (e:Evidence) (_:Doc) (_:Sig)=>Sm big20 Y72 e∧((cellsC Y67 e.1:Nat):Int)≤2000000000) x.1 x.2.1 x.2.2.1 x.2.2.2.1,fun x=>(judgeDocF x.1 x.2.1 x.2.2.1 x.2.2.2.1,())⟩
theorem F34_ok:Meets Tryz.prog 34 F34:=by
 refine mZ (C:=mkC 20 [8] [0,1,2,3,4,5,6,7,8] [⟨75,_,F75_ok⟩,⟨55,_,F55_ok⟩,⟨74,_,F74_ok⟩]) (mO _ _ _ _) (fO _) Tryz.func34 rfl rfl rfl (by decide) rfl ?_
 rintro⟨a0,a1,a2,a3,_⟩ hwf hpre ⟨⟩ hG rfl rfl
 show Vc _ _ [(0,⟨0,0,.c Z68 a0⟩),(1,⟨0,0,.c Z73 a1⟩),(2,⟨0,0,.c Z27 a2⟩),(3,⟨0,0,.c Z54 a3⟩)] _
 have hS:Sm big20 Y67 a1.1:=hpre.1.1
 have hT:Sm big20 (.slice (.slice TStamp)) a1.2:=hpre.1.2
 have hc:((cellsC Y67 a1.1:Nat):Int)≤2000000000:=hpre.2
 refine Vm hG rfl (Vq ?_)
 refine VrD mixed hG rfl (by kernel_rfl) ?_ ?_
 · exact⟨hS,trivial,hpre⟩
 refine Vt ?_
 refine⟨?_,trivial⟩
 all_goals exact rfl
noncomputable def F29:Fun:=⟨[.pair Y36 Y57,.pair Y67 Y39,.pair Y67 Y39,.pair (.int .i64) Y13,.pair (.int .i64) Y50],[.pure Y26],fun x=>(fun(_:Frame) (a b:Evidence) (_:Doc) (_:Sig)=>Sm big20 Y72 a∧Sm big20 Y72 b∧Sm big20 Y72 (joinEvF a b)∧((cellsC Y67 (joinEvF a b).1:Nat):Int)≤2000000000) x.1 x.2.1 x.2.2.1 x.2.2.2.1 x.2.2.2.2.1,fun x=>(judgeBothF x.1 x.2.1 x.2.2.1 x.2.2.2.1 x.2.2.2.2.1,())⟩
theorem F29_ok:Meets Tryz.prog 29 F29:=by
 refine mZ (C:=mkC 18 [10] [0,1,2,3,4,5,6,7,8,9,10] [⟨32,_,F32_ok⟩,⟨34,_,F34_ok⟩]) (mO _ _ _ _) (fO _) Tryz.func29 rfl rfl rfl (by decide) rfl ?_
 rintro⟨a0,a1,a2,a3,a4,_⟩ hwf hpre ⟨⟩ hG rfl rfl
 show Vc _ _ [(0,⟨0,0,.c Z68 a0⟩),(1,⟨0,0,.c Z73 a1⟩),(2,⟨0,0,.c Z73 a2⟩),(3,⟨0,0,.c Z27 a3⟩),(4,⟨0,0,.c Z54 a4⟩)] _
 have hp:=hpre
 refine Vm hG rfl (Vq ?_)
 refine VrD mixed hG rfl (by kernel_rfl) ?_ ?_
 · exact⟨⟨hp.1,hp.2.1⟩,hp.2.2⟩
 refine Vt ?_
 refine⟨?_,trivial⟩
 all_goals exact rfl
noncomputable def F31:Fun:=⟨[.pair Y36 Y57,.pair Y67 Y39,.pair Y67 Y39,.pair (.int .i64) Y13,.pair (.int .i64) Y50],[.pure (.int .i64)],fun x=>(fun(_:Frame) (a b:Evidence) (_:Doc) (_:Sig)=>((cellsC Y67 a.1:Nat):Int)≤2000000000∧((cellsC Y67 b.1:Nat):Int)≤2000000000∧Sm big20 Y72 a∧Sm big20 Y72 b∧Sm big20 Y72 (joinEvF a b)∧((cellsC Y67 (joinEvF a b).1:Nat):Int)≤2000000000) x.1 x.2.1 x.2.2.1 x.2.2.2.1 x.2.2.2.2.1,fun x=>(enoughF x.1 x.2.1 x.2.2.1 x.2.2.2.1 x.2.2.2.2.1,())⟩
theorem F31_ok:Meets Tryz.prog 31 F31:=by
 refine mZ (C:=mkC 43 [10] [0,1,2,3,4,5,6,7,8,9,10,11,12,21,29,39] [⟨29,_,F29_ok⟩,⟨34,_,F34_ok⟩]) (mO _ _ _ _) (fO _) Tryz.func31 rfl rfl rfl (by decide) rfl ?_
 rintro⟨a0,a1,a2,a3,a4,_⟩ hwf hpre ⟨⟩ hG rfl rfl
 show Vc _ _ [(0,⟨0,0,.c Z68 a0⟩),(1,⟨0,0,.c Z73 a1⟩),(2,⟨0,0,.c Z73 a2⟩),(3,⟨0,0,.c Z27 a3⟩),(4,⟨0,0,.c Z54 a4⟩)] _
 have hp:=hpre
 refine Vm hG rfl (Vq ?_)
 refine Vr hG rfl ?_ ?_
 · exact hp.2.2
 refine Vq (Vm hG rfl ?_)
 refine Vk rfl ?_ ?_<;>intro h0
 · refine Vm hG rfl (Vt ?_)
   refine⟨?_,trivial⟩
   exact eno0 h0
 · refine Vs (Vm hG rfl (Vq (Vq ?_)))
   refine Vr hG rfl ?_ ?_
   · exact⟨hp.2.2.1,hp.1⟩
   refine Vk rfl ?_ ?_<;>intro h1
   · refine Vn hG rfl (Vq (Vq ?_))
     refine Vr hG rfl ?_ ?_
     · exact⟨hp.2.2.2.1,hp.2.1⟩
     refine Vk rfl ?_ ?_<;>intro h2
     · refine Vn hG rfl (Vm hG rfl (Vt ?_))
       refine⟨?_,trivial⟩
       exact enoYY h0 h1 h2
     · refine Vs (Vm hG rfl (Vt ?_))
       refine⟨?_,trivial⟩
       exact enoYN h0 h1 h2
   · refine Vs (Vq (Vq ?_))
     refine Vr hG rfl ?_ ?_
     · exact⟨hp.2.2.2.1,hp.2.1⟩
     refine Vk rfl ?_ ?_<;>intro h3
     · refine Vn hG rfl (Vm hG rfl (Vt ?_))
       refine⟨?_,trivial⟩
       exact enoNY h0 h1 h3
     · refine Vs (Vm hG rfl (Vt ?_))
       refine⟨?_,trivial⟩
       exact enoNN h0 h1 h3
noncomputable def F33:Fun:=⟨[.pair Y36 Y57,.pair Y67 Y39,.pair (.int .i64) Y13,.pair (.int .i64) Y50],[.pair Z71 Z41],fun x=>(fun(_:Frame) (e:Evidence) (_:Doc) (_:Sig)=>Sm big20 Y72 e∧((cellsC Y67 e.1:Nat):Int)≤2000000000) x.1 x.2.1 x.2.2.1 x.2.2.2.1,fun x=>(smallF x.1 x.2.1 x.2.2.1 x.2.2.2.1,())⟩
theorem F33_ok:Meets Tryz.prog 33 F33:=by
 refine mZ (C:=mkC 54 [8] [0,1,2,3,4,5,6,7,8,9,10,11,12,26,51] [⟨69,_,F69_ok⟩,⟨34,_,F34_ok⟩]) (mO _ _ _ _) (fO _) Tryz.func33 rfl rfl rfl (by decide) rfl ?_
 rintro⟨a0,a1,a2,a3,_⟩ hwf hpre ⟨⟩ hG rfl rfl
 show Vc _ _ [(0,⟨0,0,.c Z68 a0⟩),(1,⟨0,0,.c Z73 a1⟩),(2,⟨0,0,.c Z27 a2⟩),(3,⟨0,0,.c Z54 a3⟩)] _
 have hS0:Sm big20 Y72 a1:=hpre.1
 have hc:((cellsC Y67 a1.1:Nat):Int)≤2000000000:=hpre.2
 refine Vm hG rfl (Vq ?_)
 refine Vr hG rfl ?_ ?_
 · exact hS0
 refine Vq ?_
 refine Vr hG rfl ?_ ?_
 · exact hpre
 refine Vq (Vm hG rfl (Vb ?_))
 refine Vc.loopF [(9,true,.pair Z71 Z41),(11,false,.pure (.int .i64))] [0,1,2,3,4,5,6,7,8,10] (fun v=>smInv a0 a1 a2 a3 v.1 v.2.1) (fun v=>(v.2.1+1:Int).toNat) rfl ?_ ?_
 · exact smStart hS0
 rintro⟨o,(i:Int),_⟩ hI
 have hI:smInv a0 a1 a2 a3 o i:=hI
 refine Vq (Vm hG rfl ?_)
 refine Vk rfl ?_ ?_<;>intro h0
 · have hl:¬i<0:=Int.not_lt.2 (oTr h0)
   have fa:=smFacts hI hl
   have fb:=smFactsB hI hl
   have pa:=smPreA hI hl hc
   have pb:=smPreB hI hl hc
   have pe:=smPre hI hl hc
   refine Vs (Vq ?_)
   rcases Bool.eq_false_or_eq_true ((judgeDocF a0 (lessE o i) a2 a3).1==(judgeDocF a0 a1 a2 a3).1)with hd | hd
   · refine Vb (Vq ?_)
     refine VrL mixed hG rfl (by kernel_rfl) ?_ ?_
     · repeat' (first | exact trivial | exact fb.1 | exact fb.2.1 | exact fb.2.2 | exact fa.1 | exact fa.2.1 | exact fa.2.2.1 | exact fa.2.2.2.1 | exact fa.2.2.2.2.1 | exact fa.2.2.2.2.2.1 | exact fa.2.2.2.2.2.2 | exact Int.le_refl _ | refine And.intro ?_ ?_ | intro _)
     refine Vq ?_
     refine Vr hG rfl ?_ ?_
     · first
         | exact pb
         | exact pe
     refine Vk rfl ?_ ?_<;>intro h1
     · have st:=smYesB hI hl (show ((judgeDocF a0 (lessB o i) a2 a3).1==(judgeDocF a0 a1 a2 a3).1)=true from h1)
       refine VrT hG rfl (by trivial) (Vn hG rfl ?_)
       refine⟨rfl,?_⟩
       exact st
     · exact tfB hd (show ((judgeDocF a0 (lessE o i) a2 a3).1==(judgeDocF a0 a1 a2 a3).1)=false from(by rw[←lessA_eq (smRange hI hl) (smBig hI),←lessB_A];exact h1))
       --.elim
   · refine Vc.shadow [0,1,2,3,4,5,6,7,8,9,10,26,11] [0,1,2,3,4,5,6,7,8,9,10,26] 11 (.int .i64) rfl rfl rfl hG ?_
     rintro⟨P2,C2,B2,X2,w2,M2,pv2⟩ hH rfl rfl
     refine Vb (Vq ?_)
     refine VrD mixed hH rfl (by kernel_rfl) ?_ ?_
     · repeat' (first | exact trivial | exact fb.1 | exact fb.2.1 | exact fb.2.2 | exact fa.1 | exact fa.2.1 | exact fa.2.2.1 | exact fa.2.2.2.1 | exact fa.2.2.2.2.1 | exact fa.2.2.2.2.2.1 | exact fa.2.2.2.2.2.2 | exact Int.le_refl _ | refine And.intro ?_ ?_ | intro _)
     refine Vq ?_
     refine Vr hH rfl ?_ ?_
     · first
         | exact pb
         | exact pe
     refine Vk rfl ?_ ?_<;>intro h2
     · exact(tfB (p:=False) h2 hd).elim
     · have st:=smNo hI hl hd
       refine Vs ?_
       refine⟨_,rfl,?_⟩
       refine Vn hG rfl ?_
       refine⟨rfl,?_⟩
       exact st
 · have hl:i<0:=Int.not_le.1 (oFa h0)
   refine Vx (Vm hG rfl (Vt ?_))
   refine⟨?_,trivial⟩
   exact smEnd hI hl
noncomputable def F35:Fun:=⟨[.pair Y67 Y39],[.pure (.int .i64)],fun _=>True,fun x=>((fun a0=>List.foldl (fun(n:Int) (s:El Y64)=>IntKind.i64.wrap (n+(List.length s.1:Int))) (0) a0.1) x.1,())⟩
theorem F35_ok:Meets Tryz.prog 35 F35:=by
 refine mZ (C:=mkC 20 [2] [0,1,2,3,5,7,8,9,10] []) (mO _ _ _ _) (fO _) Tryz.func35 rfl rfl rfl (by decide) rfl ?_
 rintro⟨a0,_⟩ hwf hpre ⟨⟩ hG rfl rfl
 show Vc _ _ [(0,⟨0,0,.c Z73 a0⟩)] _
 have hb:List.length a0.1≤bigLen:=hwf.1.1.1
 refine Vm hG rfl (Vm hG rfl (Vq (Vm hG rfl ?_)))
 refine Vb ?_
 refine Vc.loopF [(3,false,.pure (.int .i64)),(9,false,.pure (.int .i64))] [0,1,2,7,8] (fun v=>foInv (fun(n:Int) (s:El Y64)=>IntKind.i64.wrap (n+(List.length s.1:Int))) (0) a0.1 v.1 v.2.1) (fun v=>((List.length a0.1:Int)-v.2.1).toNat) rfl ?_ ?_
 · exact foStart
 rintro⟨acc,(i:Int),_⟩ hI
 have hI:foInv (fun(n:Int) (s:El Y64)=>IntKind.i64.wrap (n+(List.length s.1:Int))) (0) a0.1 acc i:=hI
 refine Vm hG rfl (Vq ?_)
 refine Vk rfl ?_ ?_<;>intro h0
 · have hl:i<(List.length a0.1:Int):=oTr h0
   refine Vs (Vq (Vb (Vq ?_)))
   refine Vr hG rfl ?_ ?_
   · exact foRange hI hl
   refine Vn hG rfl (Vn hG rfl ?_)
   refine⟨rfl,?_⟩
   exact foStep hI hl hb
 · have hl:¬i<(List.length a0.1:Int):=oFa h0
   refine Vx (Vm hG rfl (Vt ?_))
   refine⟨?_,trivial⟩
   exact foEnd hI hl
end Fw
