/- Walks of functions of the program: what each computes. Conditions: those that each contract names. -/
import Derived.Test.YtpcljloahdbjcaaGreatW54T
import Derived.Test.YtpcljloahdbjcaaGreatW54i0
import Derived.Test.YtpcljloahdbjcaaGreatW54i1
import Derived.Test.YtpcljloahdbjcaaGreatW54i2
set_option linter.unusedVariables false
namespace Fw
open Go Go.Proofs
set_option linter.unusedSimpArgs false
set_option maxRecDepth 100000
noncomputable def F263:Fun:=⟨[.pair (.int .i64) Y40,.slice Y34],[.own Z9],fun _=>True,fun x=>(badSpansF x.1 x.2.1,())⟩
theorem F263_ok:Meets Tryz.prog 263 F263:=by
 refine mZ (C:=mkCK 32 [4] [0,1,2,4,5,6,10,18] [⟨224,_,F224_ok⟩,⟨192,_,F192_ok⟩] [] [] [⟨320,_,K320_ok⟩] []) (mkCK_ok _ _ _ _ _ _ _ _) (fO _) Tryz.func263 rfl rfl rfl (by decide) rfl ?_
 rintro⟨a0,a1,_⟩ hwf hpre ⟨⟩ hG rfl rfl
 show Vc _ _ [(0,⟨0,0,.c Z48 a0⟩),(1,⟨0,0,.c Z38 a1⟩)] _
 refine Vm hG rfl (Vm hG rfl (Vm hG rfl (Vq ?_)))
 refine Vm hG rfl ?_
 refine Vk rfl ?_ ?_<;>intro h0
 · refine Vr hG rfl ?_ ?_
   · exact Nat.zero_le _
   refine Vq (Vm hG rfl ?_)
   refine Vk rfl ?_ ?_<;>intro h1
   · refine Vr hG rfl ?_ ?_
     · first
         | exact bp1
         | exact Nat.zero_le _
     refine Vq ?_
     refine Vr hG rfl ?_ ?_
     · exact⟨trivial,(by first | exact bp2 | exact bp1 | exact Nat.zero_le _)⟩
     refine Vq ?_
     refine Vr hG rfl ?_ ?_
     · exact(Nat.le_trans (by first | exact bp3 | exact bp2 | exact bp1) (show 1000≤2000000000 by decide))
     refine Vt ?_
     refine⟨?_,trivial⟩
     exact bdYY h0 h1
   · refine Vs (Vq ?_)
     refine Vr hG rfl ?_ ?_
     · exact⟨trivial,(by first | exact bp2 | exact bp1 | exact Nat.zero_le _)⟩
     refine Vq ?_
     refine Vr hG rfl ?_ ?_
     · exact(Nat.le_trans (by first | exact bp3 | exact bp2 | exact bp1) (show 1000≤2000000000 by decide))
     refine Vt ?_
     refine⟨?_,trivial⟩
     exact bdYN h0 h1
 · refine Vs (Vq (Vm hG rfl ?_))
   refine Vk rfl ?_ ?_<;>intro h2
   · refine Vr hG rfl ?_ ?_
     · first
         | exact bp1
         | exact Nat.zero_le _
     refine Vq ?_
     refine Vr hG rfl ?_ ?_
     · exact⟨trivial,(by first | exact bp2 | exact bp1 | exact Nat.zero_le _)⟩
     refine Vq ?_
     refine Vr hG rfl ?_ ?_
     · exact(Nat.le_trans (by first | exact bp3 | exact bp2 | exact bp1) (show 1000≤2000000000 by decide))
     refine Vt ?_
     refine⟨?_,trivial⟩
     exact bdNY h0 h2
   · refine Vs (Vq ?_)
     refine Vr hG rfl ?_ ?_
     · exact⟨trivial,(by first | exact bp2 | exact bp1 | exact Nat.zero_le _)⟩
     refine Vq ?_
     refine Vr hG rfl ?_ ?_
     · exact(Nat.le_trans (by first | exact bp3 | exact bp2 | exact bp1) (show 1000≤2000000000 by decide))
     refine Vt ?_
     refine⟨?_,trivial⟩
     exact bdNN h0 h2
noncomputable def F39:Fun:=⟨[.pair (.int .i64) (.int .i64),.pair (.int .i64) (.int .i64)],[.pure (.bool)],fun _=>True,fun x=>(isInsideF x.1 x.2.1,())⟩
theorem F39_ok:Meets Tryz.prog 39 F39:=by
 refine mZ (C:=mkC 25 [4] [0,1,2,3,4] [⟨123,_,F123_ok⟩]) (mO _ _ _ _) (fO _) Tryz.func39 rfl rfl rfl (by decide) rfl ?_
 rintro⟨a0,a1,_⟩ hwf hpre ⟨⟩ hG rfl rfl
 show Vc _ _ [(0,⟨0,0,.c Z9 a0⟩),(1,⟨0,0,.c Z9 a1⟩)] _
 refine Vm hG rfl (Vq ?_)
 refine Vr hG rfl ?_ ?_
 · repeat' (first | exact trivial | refine And.intro ?_ ?_ | intro _)
 refine Vt ?_
 refine⟨?_,trivial⟩
 all_goals exact rfl
noncomputable def F125:Fun:=⟨[.slice Y5,.pair (.int .i64) (.int .i64)],[.pure (.bool)],fun x=>(fun(l:List Span) (_:Span)=>List.length l≤2000000000) x.1 x.2.1,fun x=>(coversF x.1 x.2.1,())⟩
theorem F125_ok:Meets Tryz.prog 125 F125:=by
 refine mZ (C:=mkC 18 [4] [0,1,3,4,6,8,9,10,11,16] [⟨192,_,F192_ok⟩,⟨39,_,F39_ok⟩]) (mO _ _ _ _) (fO _) Tryz.func125 rfl rfl rfl (by decide) rfl ?_
 rintro⟨a0,a1,_⟩ hwf hpre ⟨⟩ hG rfl rfl
 show Vc _ _ [(0,⟨0,0,.c Z14 a0⟩),(1,⟨0,0,.c Z9 a1⟩)] _
 have hs:List.length a0≤2000000000:=hpre
 have hb:List.length a0≤bigLen:=hwf.1.1
 have hbj:List.length (joinF a0)≤bigLen:=Nat.le_trans (joinLen a0) hb
 refine Vm hG rfl (Vq (Vq ?_))
 refine Vr hG rfl ?_ ?_
 · exact hs
 refine Vb ?_
 refine Vc.loopF [(10,false,.pure (.int .i64))] [0,1,3,8,9] (fun v=>fInv (fun x=>isInsideF a1 x) (joinF a0) v.1) (fun v=>((List.length (joinF a0):Int)-v.1).toNat) rfl ?_ ?_
 · exact fStart
 rintro⟨(i:Int),_⟩ hI
 have hI:fInv (fun x=>isInsideF a1 x) (joinF a0) i:=hI
 refine Vm hG rfl (Vq ?_)
 refine Vk rfl ?_ ?_<;>intro h0
 · have hl:i<(List.length (joinF a0):Int):=oTr h0
   refine Vs (Vq (Vb (Vq ?_)))
   refine Vr hG rfl ?_ ?_
   · exact fRange hI hl
   refine Vm hG rfl ?_
   refine Vk rfl ?_ ?_<;>intro h1
   · have g1:isInsideF a1 (List.getD (joinF a0) i.toNat (dflt Y5))=true:=h1
     refine Vm hG rfl (Vt ?_)
     refine⟨?_,trivial⟩
     exact cvHit rfl hI hl g1
   · have g1:(fun x=>isInsideF a1 x) (List.getD (joinF a0) i.toNat (dflt Y5))=false:=h1
     refine Vs (Vn hG rfl ?_)
     refine⟨rfl,?_⟩
     exact fStep hI hl hbj g1
 · have hl:¬i<(List.length (joinF a0):Int):=oFa h0
   refine Vx (Vm hG rfl (Vt ?_))
   refine⟨?_,trivial⟩
   exact cvEnd rfl hI hl
noncomputable def F185:Fun:=⟨[.pair (.int .i64) Y40,.slice Y34,.pair (.int .i64) (.int .i64)],[.pure (.bool)],fun _=>True,fun x=>((fun c l s=>coversF (badSpansF c l) s) x.1 x.2.1 x.2.2.1,())⟩
theorem F185_ok:Meets Tryz.prog 185 F185:=by
 refine mZ (C:=mkC 12 [6] [0,1,2,3,5,6] [⟨263,_,F263_ok⟩,⟨125,_,F125_ok⟩]) (mO _ _ _ _) (fO _) Tryz.func185 rfl rfl rfl (by decide) rfl ?_
 rintro⟨a0,a1,a2,_⟩ hwf hpre ⟨⟩ hG rfl rfl
 show Vc _ _ [(0,⟨0,0,.c Z48 a0⟩),(1,⟨0,0,.c Z38 a1⟩),(2,⟨0,0,.c Z9 a2⟩)] _
 refine Vm hG rfl (Vq ?_)
 refine VrD mixed hG rfl (by kernel_rfl) ?_ ?_
 · exact⟨trivial,Nat.le_trans (badLen a0 a1) (by decide)⟩
 refine Vt ?_
 refine⟨?_,trivial⟩
 all_goals exact rfl
noncomputable def F41:Fun:=⟨[.slice Y34,.int .i64],[.pure (.int .i64)],fun _=>True,fun x=>(goodUntilF x.1 x.2.1,())⟩
theorem F41_ok:Meets Tryz.prog 41 F41:=by
 refine mZ (C:=mkC 20 [4] [0,1,4,5,7,16] [⟨124,_,F124_ok⟩]) (mO _ _ _ _) (fO _) Tryz.func41 rfl rfl rfl (by decide) rfl ?_
 rintro⟨a0,(a1:Int),_⟩ hwf hpre ⟨⟩ hG rfl rfl
 show Vc _ _ [(0,⟨0,0,.c Z38 a0⟩),(1,⟨0,0,.c (.pure (.int .i64)) a1⟩)] _
 refine Vm hG rfl (Vm hG rfl (Vq (Vm hG rfl ?_)))
 refine Vk rfl ?_ ?_<;>intro h0
 · refine Vm hG rfl (Vt ?_)
   refine⟨?_,trivial⟩
   exact guA rfl h0
 · refine Vs (Vm hG rfl (Vt ?_))
   refine⟨?_,trivial⟩
   exact guB rfl rfl h0
noncomputable def F354:Fun:=⟨[.pair (.int .i64) (.int .i64),.pair (.int .i64) (.int .i64)],[.pure Y5,.pure (.bool)],fun _=>True,fun x=>((meetF x.1 x.2.1).1,(meetF x.1 x.2.1).2,())⟩
theorem F354_ok:Meets Tryz.prog 354 F354:=by
 refine mZ (C:=mkC 33 [4,5] [0,1,2,3,4,5,6,30] [⟨123,_,F123_ok⟩]) (mO _ _ _ _) (fO _) Tryz.func354 rfl rfl rfl (by decide) rfl ?_
 rintro⟨a0,a1,_⟩ hwf hpre ⟨⟩ hG rfl rfl
 show Vc _ _ [(0,⟨0,0,.c Z9 a0⟩),(1,⟨0,0,.c Z9 a1⟩)] _
 refine Vm hG rfl (Vm hG rfl (Vq (Vq ?_)))
 refine Vr hG rfl ?_ ?_
 · repeat' (first | exact trivial | refine And.intro ?_ ?_ | intro _)
 refine Vk rfl ?_ ?_<;>intro h0
 · refine Vm hG rfl (Vt ?_)
   have e:=meI0 h0
   refine⟨?_,?_,trivial⟩
   · exact(congrArg Prod.fst e).symm
   · exact(congrArg Prod.snd e).symm
 · refine Vs (Vm hG rfl (Vt ?_))
   have e:=meI1 h0
   refine⟨?_,?_,trivial⟩
   · exact(congrArg Prod.fst e).symm
   · exact(congrArg Prod.snd e).symm
noncomputable def F321:Fun:=⟨[.slice Y5,.slice Y5],[.own Z9],fun x=>(fun(a b:List Span)=>List.length a≤1000∧List.length b≤1000) x.1 x.2.1,fun x=>(meetAllF x.1 x.2.1,())⟩
theorem F321_ok:Meets Tryz.prog 321 F321:=by
 refine mZ (C:=mkC 39 [4] [0,1,4,5,7,9,10,11,12,13,14,15,18,19,20,21,30] [⟨354,_,F354_ok⟩,⟨192,_,F192_ok⟩]) (mO _ _ _ _) (fO _) Tryz.func321 rfl rfl rfl (by decide) rfl ?_
 rintro⟨a0,a1,_⟩ hwf hpre ⟨⟩ hG rfl rfl
 show Vc _ _ [(0,⟨0,0,.c Z14 a0⟩),(1,⟨0,0,.c Z14 a1⟩)] _
 have hp1:List.length a0≤1000:=hpre.1
 have hp2:List.length a1≤1000:=hpre.2
 have hb:List.length a0≤bigLen:=hwf.1.1
 have hb1:List.length a1≤bigLen:=hwf.2.1.1
 refine Vm hG rfl (Vm hG rfl (Vq (Vm hG rfl ?_)))
 refine Vb ?_
 refine Vc.loopF [(5,false,.own Z9),(14,false,.pure (.int .i64))] [0,1,4,12,13] (fun v=>foInv (meR a1) [] a0 v.1 v.2.1) (fun v=>((List.length a0:Int)-v.2.1).toNat) rfl ?_ ?_
 · exact foStart
 rintro⟨acc,(i:Int),_⟩ hI
 have hI:foInv (meR a1) [] a0 acc i:=hI
 have hA:List.length acc≤1000000:=meLenI hI hp1 hp2
 refine Vm hG rfl (Vq ?_)
 refine Vk rfl ?_ ?_<;>intro h0
 · have hl:i<(List.length a0:Int):=oTr h0
   refine Vs (Vq (Vb (Vq ?_)))
   refine Vr hG rfl ?_ ?_
   · exact foRange hI hl
   refine Vm hG rfl (Vb ?_)
   refine Vc.loopF [(5,false,.own Z9),(20,false,.pure (.int .i64))] [0,1,4,7,12,13,14,15,18,19] (fun v=>foInv (meG (List.getD a0 i.toNat (dflt Y5))) acc a1 v.1 v.2.1) (fun v=>((List.length a1:Int)-v.2.1).toNat) rfl ?_ ?_
   · exact foStart
   rintro⟨ac2,(k:Int),_⟩ hK
   have hK:foInv (meG (List.getD a0 i.toNat (dflt Y5))) acc a1 ac2 k:=hK
   have hA2:List.length ac2≤2000000:=meLenJ hK hA hp2
   refine Vm hG rfl (Vq ?_)
   refine Vk rfl ?_ ?_<;>intro h1
   · have hm:k<(List.length a1:Int):=oTr h1
     refine Vs (Vq (Vb (Vq ?_)))
     refine Vr hG rfl ?_ ?_
     · exact foRange hK hm
     refine Vm hG rfl (Vm hG rfl ?_)
     refine Vk rfl ?_ ?_<;>intro h2
     · have g2:(meetF (List.getD a0 i.toNat (dflt Y5)) (List.getD a1 k.toNat (dflt Y5))).2=true:=h2
       have st:=foStepE (d:=dflt Y5) hK hm hb1 (meY g2)
       refine Vr hG rfl ?_ ?_
       · exact meApp hA2
       refine Vn hG rfl ?_
       refine⟨rfl,?_⟩
       exact st
     · have g2:(meetF (List.getD a0 i.toNat (dflt Y5)) (List.getD a1 k.toNat (dflt Y5))).2=false:=h2
       have st:=foStepE (d:=dflt Y5) hK hm hb1 (meN (acc:=ac2) g2)
       refine Vs (Vn hG rfl ?_)
       refine⟨rfl,?_⟩
       exact st
   · have hm:¬k<(List.length a1:Int):=oFa h1
     refine Vx (Vn hG rfl ?_)
     refine⟨rfl,?_⟩
     exact foStepE (d:=dflt Y5) hI hl hb (foEnd hK hm)
 · have hl:¬i<(List.length a0:Int):=oFa h0
   refine Vx (Vq ?_)
   refine Vr hG rfl ?_ ?_
   · exact meBig hp1 hp2 (foEnd hI hl)
   refine Vt ?_
   refine⟨?_,trivial⟩
   exact congrArg joinF (foEnd hI hl)
noncomputable def F264:Fun:=⟨[.pair (.int .i64) Y40,.slice Y34],[.own Z9],fun _=>True,fun x=>(goodSpansF x.1 x.2.1,())⟩
theorem F264_ok:Meets Tryz.prog 264 F264:=by
 refine mZ (C:=mkC 15 [4] [0,1,2,4] [⟨40,_,F40_ok⟩,⟨41,_,F41_ok⟩,⟨321,_,F321_ok⟩]) (mO _ _ _ _) (fO _) Tryz.func264 rfl rfl rfl (by decide) rfl ?_
 rintro⟨a0,a1,_⟩ hwf hpre ⟨⟩ hG rfl rfl
 show Vc _ _ [(0,⟨0,0,.c Z48 a0⟩),(1,⟨0,0,.c Z38 a1⟩)] _
 refine Vm hG rfl (Vq ?_)
 refine VrD mixed hG rfl (by kernel_rfl) ?_ ?_
 · exact⟨trivial,trivial,one1,one1⟩
 refine Vt ?_
 refine⟨?_,trivial⟩
 all_goals exact rfl
noncomputable def F186:Fun:=⟨[.pair (.int .i64) Y40,.slice Y34,.pair (.int .i64) (.int .i64)],[.pure (.bool)],fun _=>True,fun x=>((fun c l s=>coversF (goodSpansF c l) s) x.1 x.2.1 x.2.2.1,())⟩
theorem F186_ok:Meets Tryz.prog 186 F186:=by
 refine mZ (C:=mkC 12 [6] [0,1,2,3,5,6] [⟨264,_,F264_ok⟩,⟨125,_,F125_ok⟩]) (mO _ _ _ _) (fO _) Tryz.func186 rfl rfl rfl (by decide) rfl ?_
 rintro⟨a0,a1,a2,_⟩ hwf hpre ⟨⟩ hG rfl rfl
 show Vc _ _ [(0,⟨0,0,.c Z48 a0⟩),(1,⟨0,0,.c Z38 a1⟩),(2,⟨0,0,.c Z9 a2⟩)] _
 refine Vm hG rfl (Vq ?_)
 refine VrD mixed hG rfl (by kernel_rfl) ?_ ?_
 · exact⟨trivial,Nat.le_trans (goodLen a0 a1) (by decide)⟩
 refine Vt ?_
 refine⟨?_,trivial⟩
 all_goals exact rfl
noncomputable def F44:Fun:=⟨[.slice Y19],[.own Z43],fun x=>(fun a0=>List.length a0≤2000000000) x.1,fun x=>(mandatesF x.1,())⟩
theorem F44_ok:Meets Tryz.prog 44 F44:=by
 refine mZ (C:=mkC 26 [2] [0,2,3,5,6,7,8,9,10,11,19] [⟨105,_,F105_ok⟩]) (mO _ _ _ _) (fO _) Tryz.func44 rfl rfl rfl (by decide) rfl ?_
 rintro⟨a0,_⟩ hwf hpre ⟨⟩ hG rfl rfl
 show Vc _ _ [(0,⟨0,0,.c Z28 a0⟩)] _
 have hb:List.length a0≤bigLen:=hwf.1.1
 have hs:List.length a0≤2000000000:=hpre
 refine Vm hG rfl (Vm hG rfl (Vq (Vm hG rfl ?_)))
 refine Vb ?_
 refine Vc.loopF [(3,false,.own Z43),(10,false,.pure (.int .i64))] [0,2,8,9] (fun v=>pkInv (pieceMandF) a0 v.1 v.2.1) (fun v=>((List.length a0:Int)-v.2.1).toNat) rfl ?_ ?_
 · exact pkStart
 rintro⟨acc,(i:Int),_⟩ hI
 have hI:pkInv (pieceMandF) a0 acc i:=hI
 refine Vm hG rfl (Vq ?_)
 refine Vk rfl ?_ ?_<;>intro h0
 · have hl:i<(List.length a0:Int):=oTr h0
   refine Vs (Vq (Vb (Vq ?_)))
   refine Vr hG rfl ?_ ?_
   · exact pkRange hI hl
   refine Vm hG rfl (Vm hG rfl ?_)
   refine Vk rfl ?_ ?_<;>intro h1
   · have g1:((pieceMandF) (List.getD a0 i.toNat (dflt Y19))).2=true:=h1
     refine Vr hG rfl ?_ ?_
     · exact pkLenW hI hs
     refine Vn hG rfl ?_
     refine⟨rfl,?_⟩
     first
       | exact pkYes (d:=dflt Y19) hI hl hb g1
       | exact pkNo (d:=dflt Y19) hI hl hb g1
   · have g1:((pieceMandF) (List.getD a0 i.toNat (dflt Y19))).2=false:=h1
     refine Vs (Vn hG rfl ?_)
     refine⟨rfl,?_⟩
     first
       | exact pkYes (d:=dflt Y19) hI hl hb g1
       | exact pkNo (d:=dflt Y19) hI hl hb g1
 · have hl:¬i<(List.length a0:Int):=oFa h0
   refine Vx (Vm hG rfl (Vt ?_))
   refine⟨?_,trivial⟩
   exact pkEnd hI hl
noncomputable def F266:Fun:=⟨[.pair (.int .i64) Y34],[.pure (.bool)],fun _=>True,fun x=>(isMandF x.1,())⟩
theorem F266_ok:Meets Tryz.prog 266 F266:=by
 refine mZ (C:=mkC 24 [2] [0,1,2] [⟨86,_,F86_ok⟩,⟨123,_,F123_ok⟩]) (mO _ _ _ _) (fO _) Tryz.func266 rfl rfl rfl (by decide) rfl ?_
 rintro⟨a0,_⟩ hwf hpre ⟨⟩ hG rfl rfl
 show Vc _ _ [(0,⟨0,0,.c Z43 a0⟩)] _
 refine Vm hG rfl (Vq ?_)
 refine Vr hG rfl ?_ ?_
 · repeat' (first | exact trivial | refine And.intro ?_ ?_ | intro _)
 refine Vt ?_
 refine⟨?_,trivial⟩
 all_goals exact rfl
noncomputable def F267:Fun:=⟨[.pair (.int .i64) Y34],[.own (.pure (.int .i64))],fun _=>True,fun x=>(mandIntsF x.1,())⟩
theorem F267_ok:Meets Tryz.prog 267 F267:=by
 refine mZ (C:=mkC 14 [2] [0,1,2] []) (mO _ _ _ _) (fO _) Tryz.func267 rfl rfl rfl (by decide) rfl ?_
 rintro⟨a0,_⟩ hwf hpre ⟨⟩ hG rfl rfl
 show Vc _ _ [(0,⟨0,0,.c Z43 a0⟩)] _
 refine Vm hG rfl (Vm hG rfl (Vt ?_))
 refine⟨?_,trivial⟩
 all_goals exact rfl
noncomputable def F193:Fun:=⟨[.slice Y34,.pair (.int .i64) Y34],[.pure (.bool)],fun _=>True,fun x=>(checkMandF x.1 x.2.1,())⟩
theorem F193_ok:Meets Tryz.prog 193 F193:=by
 refine mZ (C:=mkC 26 [4] [0,1,3,4] [⟨266,_,F266_ok⟩,⟨189,_,F189_ok⟩,⟨267,_,F267_ok⟩,⟨106,_,F106_ok⟩]) (mO _ _ _ _) (fO _) Tryz.func193 rfl rfl rfl (by decide) rfl ?_
 rintro⟨a0,a1,_⟩ hwf hpre ⟨⟩ hG rfl rfl
 show Vc _ _ [(0,⟨0,0,.c Z38 a0⟩),(1,⟨0,0,.c Z43 a1⟩)] _
 refine Vm hG rfl (Vq ?_)
 refine VrD mixed hG rfl (by kernel_rfl) ?_ ?_
 · repeat' (first | exact trivial | exact smallLit (n:=6) rfl (by decide) | refine And.intro ?_ ?_ | intro _)
 refine Vt ?_
 refine⟨?_,trivial⟩
 all_goals exact rfl
noncomputable def F126:Fun:=⟨[.slice Y34,.slice Y40,.int .i64,.int .i64],[.own Z9],fun x=>(fun(_:List Key) (l:List Mandate) (_ _:Int)=>List.length l≤2000000000) x.1 x.2.1 x.2.2.1 x.2.2.2.1,fun x=>(mandSpansF x.1 x.2.1 x.2.2.1 x.2.2.2.1,())⟩
theorem F126_ok:Meets Tryz.prog 126 F126:=by
 refine mZ (C:=mkC 44 [8] [0,1,2,3,8,9,11,12,13,14,15,32] [⟨193,_,F193_ok⟩,⟨192,_,F192_ok⟩]) (mO _ _ _ _) (fO _) Tryz.func126 rfl rfl rfl (by decide) rfl ?_
 rintro⟨a0,a1,(a2:Int),(a3:Int),_⟩ hwf hpre ⟨⟩ hG rfl rfl
 show Vc _ _ [(0,⟨0,0,.c Z38 a0⟩),(1,⟨0,0,.c Z46 a1⟩),(2,⟨0,0,.c (.pure (.int .i64)) a2⟩),(3,⟨0,0,.c (.pure (.int .i64)) a3⟩)] _
 have hs:List.length a1≤2000000000:=hpre
 have hb:List.length a1≤bigLen:=hwf.2.1.1
 refine Vm hG rfl (Vm hG rfl (Vq (Vm hG rfl ?_)))
 refine Vb ?_
 refine Vc.loopF [(9,false,.own Z9),(14,false,.pure (.int .i64))] [0,1,2,3,8,12,13] (fun v=>pkInv (mdF a0 a2 a3) a1 v.1 v.2.1) (fun v=>((List.length a1:Int)-v.2.1).toNat) rfl ?_ ?_
 · exact pkStart
 rintro⟨acc,(i:Int),_⟩ hI
 have hI:pkInv (mdF a0 a2 a3) a1 acc i:=hI
 refine Vm hG rfl (Vq ?_)
 refine Vk rfl ?_ ?_<;>intro h0
 · have hl:i<(List.length a1:Int):=oTr h0
   refine Vs (Vq (Vb (Vq ?_)))
   refine Vr hG rfl ?_ ?_
   · exact pkRange hI hl
   refine Vq ?_
   refine Vr hG rfl ?_ ?_
   · repeat' (first | exact trivial | refine And.intro ?_ ?_ | intro _)
   refine Vk rfl ?_ ?_<;>intro h1
   · have g1:((mdF a0 a2 a3) (List.getD a1 i.toNat (dflt Y40))).2=true:=h1
     have st:=pkYes (d:=dflt Y40) hI hl hb g1
     refine Vr hG rfl ?_ ?_
     · exact pkLenW hI hs
     refine Vn hG rfl ?_
     refine⟨rfl,?_⟩
     exact st
   · have g1:((mdF a0 a2 a3) (List.getD a1 i.toNat (dflt Y40))).2=false:=h1
     have st:=pkNo (d:=dflt Y40) hI hl hb g1
     refine Vs (Vn hG rfl ?_)
     refine⟨rfl,?_⟩
     exact st
 · have hl:¬i<(List.length a1:Int):=oFa h0
   refine Vx (Vq ?_)
   refine Vr hG rfl ?_ ?_
   · exact pkBigW hs (pkEnd hI hl)
   refine Vt ?_
   refine⟨?_,trivial⟩
   exact congrArg joinF (pkEnd hI hl)
noncomputable def F43:Fun:=⟨[.slice Y34,.slice Y40,.int .i64,.int .i64,.pair (.int .i64) (.int .i64)],[.pure (.bool)],fun x=>(fun(_:List Key) (l:List Mandate) (_ _:Int) (_:Span)=>List.length l≤2000000000) x.1 x.2.1 x.2.2.1 x.2.2.2.1 x.2.2.2.2.1,fun x=>(maySignF x.1 x.2.1 x.2.2.1 x.2.2.2.1 x.2.2.2.2.1,())⟩
theorem F43_ok:Meets Tryz.prog 43 F43:=by
 refine mZ (C:=mkC 26 [10] [0,1,2,3,4,9,10] [⟨123,_,F123_ok⟩,⟨126,_,F126_ok⟩,⟨125,_,F125_ok⟩]) (mO _ _ _ _) (fO _) Tryz.func43 rfl rfl rfl (by decide) rfl ?_
 rintro⟨a0,a1,(a2:Int),(a3:Int),a4,_⟩ hwf hpre ⟨⟩ hG rfl rfl
 show Vc _ _ [(0,⟨0,0,.c Z38 a0⟩),(1,⟨0,0,.c Z46 a1⟩),(2,⟨0,0,.c (.pure (.int .i64)) a2⟩),(3,⟨0,0,.c (.pure (.int .i64)) a3⟩),(4,⟨0,0,.c Z9 a4⟩)] _
 have hs:List.length a1≤2000000000:=hpre
 refine Vm hG rfl (Vq ?_)
 refine VrD mixed hG rfl (by kernel_rfl) ?_ ?_
 · exact⟨fun _=>trivial,fun _=>hs,fun _=>mandSpLen hs⟩
 refine Vt ?_
 refine⟨?_,trivial⟩
 exact mayI
noncomputable def F116:Fun:=⟨[.pair Y36 Y57,.pair Y67 Y39,.slice (.slice (.int .i64)),.int .i64,.pair (.int .i64) Y50],[.pure Y26],fun x=>(fun(_:Frame) (e:Evidence) (_:List (List Int)) (_:Int) (_:Sig)=>Sm big20 Y72 e∧((cellsC Y67 e.1:Nat):Int)≤2000000000) x.1 x.2.1 x.2.2.1 x.2.2.2.1 x.2.2.2.2.1,fun x=>(judgeF x.1 x.2.1 x.2.2.1 x.2.2.2.1 x.2.2.2.2.1,())⟩
set_option maxHeartbeats 2000000 in
theorem F116_ok:Meets Tryz.prog 116 F116:=by
 refine mZ (C:=mkC 138 [10] [0,1,2,3,4,5,6,9,10,11,12,13,14,15,16,17,18,23,28,32,38,46,73,87,96,105,113,122] [⟨182,_,F182_ok⟩,⟨183,_,F183_ok⟩,⟨121,_,F121_ok⟩,⟨184,_,F184_ok⟩,⟨34,_,F34_ok⟩,⟨37,_,F37_ok⟩,⟨24,_,F24_ok⟩,⟨25,_,F25_ok⟩,⟨98,_,F98_ok⟩,⟨38,_,F38_ok⟩,⟨26,_,F26_ok⟩,⟨35,_,F35_ok⟩,⟨30,_,F30_ok⟩,⟨42,_,F42_ok⟩,⟨185,_,F185_ok⟩,⟨186,_,F186_ok⟩,⟨44,_,F44_ok⟩,⟨43,_,F43_ok⟩]) (mO _ _ _ _) (fO _) Tryz.func116 rfl rfl rfl (by decide) rfl ?_
 rintro⟨a0,a1,a2,(a3:Int),a4,_⟩ hwf hpre ⟨⟩ hG rfl rfl
 show Vc _ _ [(0,⟨0,0,.c Z68 a0⟩),(1,⟨0,0,.c Z73 a1⟩),(2,⟨0,0,.c Z8 a2⟩),(3,⟨0,0,.c (.pure (.int .i64)) a3⟩),(4,⟨0,0,.c Z54 a4⟩)] _
 have hS:Sm big20 Y67 a1.1:=hpre.1.1
 have hT:Sm big20 (.slice (.slice TStamp)) a1.2:=hpre.1.2
 have hc:((cellsC Y67 a1.1:Nat):Int)≤2000000000:=hpre.2
 refine Vm hG rfl (Vq (Vb (Vm hG rfl ?_)))
 refine Vk rfl ?_ ?_<;>intro h0
 · refine Vm hG rfl (Vt ?_)
   refine⟨?_,trivial⟩
   exact juD (fo1 h0) (by decide)
 · refine Vm hG rfl ?_
   refine Vk rfl ?_ ?_<;>intro h1
   · refine Vm hG rfl (Vt ?_)
     refine⟨?_,trivial⟩
     exact juD (fo2' h0 h1) (by decide)
   · refine Vm hG rfl ?_
     refine Vk rfl ?_ ?_<;>intro h2
     · refine Vm hG rfl (Vt ?_)
       refine⟨?_,trivial⟩
       exact juD (fo3' h0 h1 h2) (by decide)
     · refine Vm hG rfl ?_
       refine Vk rfl ?_ ?_<;>intro h3
       · refine Vm hG rfl (Vt ?_)
         refine⟨?_,trivial⟩
         exact juD (fo4 h0 h1 h2 h3) (by decide)
       · refine Vm hG rfl ?_
         refine Vk rfl ?_ ?_<;>intro h4
         · refine Vm hG rfl (Vt ?_)
           refine⟨?_,trivial⟩
           exact juD (fo5 h0 h1 h2 h3 h4) (by decide)
         · refine Vm hG rfl ?_
           refine Vk rfl ?_ ?_<;>intro h5
           · refine Vm hG rfl (Vt ?_)
             refine⟨?_,trivial⟩
             exact juD (fo6 h0 h1 h2 h3 h4 h5) (by decide)
           · refine Vs (Vq ?_)
             refine VrD mixed hG rfl (by kernel_rfl) ?_ ?_
             · exact⟨trivial,hS⟩
             refine Vq (Vq ?_)
             refine Vr hG rfl ?_ ?_
             · repeat' (first | exact trivial | refine And.intro ?_ ?_ | intro _)
             refine Vk rfl ?_ ?_<;>intro h6
             · refine Vm hG rfl (Vt ?_)
               refine⟨?_,trivial⟩
               exact(boA h6).trans (juB (fo7 h0 h1 h2 h3 h4 h5).symm)
             · refine Vs (Vq ?_)
               refine Vr hG rfl ?_ ?_
               · exact⟨hS,hc⟩
               refine Vm hG rfl (Vq (Vm hG rfl ?_))
               refine Vk rfl ?_ ?_<;>intro h7
               · refine Vm hG rfl (Vt ?_)
                 refine⟨?_,trivial⟩
                 exact((ceA h7).trans (boB h6)).trans (juB (fo7 h0 h1 h2 h3 h4 h5).symm)
               · refine Vs (Vq ?_)
                 refine Vr hG rfl ?_ ?_
                 · exact hT
                 refine Vq (Vm hG rfl ?_)
                 refine Vk rfl ?_ ?_<;>intro h8
                 · refine Vm hG rfl (Vt ?_)
                   refine⟨?_,trivial⟩
                   exact((ceB h7 h8).trans (boB h6)).trans (juB (fo7 h0 h1 h2 h3 h4 h5).symm)
                 · refine Vs (Vm hG rfl (Vq ?_))
                   refine Vr hG rfl ?_ ?_
                   · exact usPieceLen hc
                   refine Vq (Vb (Vm hG rfl ?_))
                   refine Vk rfl ?_ ?_<;>intro h9
                   · refine Vn hG rfl (Vm hG rfl (Vt ?_))
                     refine⟨?_,trivial⟩
                     exact(((enA h9).trans (ceC h7 h8)).trans (boB h6)).trans (juB (fo7 h0 h1 h2 h3 h4 h5).symm)
                   · refine Vm hG rfl ?_
                     refine Vk rfl ?_ ?_<;>intro h10
                     · refine Vn hG rfl (Vm hG rfl (Vt ?_))
                       refine⟨?_,trivial⟩
                       exact(((enB h9 h10).trans (ceC h7 h8)).trans (boB h6)).trans (juB (fo7 h0 h1 h2 h3 h4 h5).symm)
                     · refine Vq ?_
                       refine VrD mixed hG rfl (by kernel_rfl) ?_ ?_
                       · exact⟨usPieceLen hc,mandW (usPieceLen hc)⟩
                       refine Vk rfl ?_ ?_<;>intro h11
                       · refine Vn hG rfl (Vm hG rfl (Vt ?_))
                         refine⟨?_,trivial⟩
                         exact(((enC h9 h10 h11).trans (ceC h7 h8)).trans (boB h6)).trans (juB (fo7 h0 h1 h2 h3 h4 h5).symm)
                       · refine Vs (Vm hG rfl (Vt ?_))
                         refine⟨?_,trivial⟩
                         exact(((enD h9 h10 h11).trans (ceC h7 h8)).trans (boB h6)).trans (juB (fo7 h0 h1 h2 h3 h4 h5).symm)
noncomputable def F33:Fun:=⟨[.pair Y36 Y57,.pair Y67 Y39,.pair (.int .i64) Y13,.pair (.int .i64) Y50],[.pure Y26],fun x=>(fun(_:Frame) (e:Evidence) (_:Doc) (_:Sig)=>Sm big20 Y72 e∧((cellsC Y67 e.1:Nat):Int)≤2000000000) x.1 x.2.1 x.2.2.1 x.2.2.2.1,fun x=>(judgeDocF x.1 x.2.1 x.2.2.1 x.2.2.2.1,())⟩
theorem F33_ok:Meets Tryz.prog 33 F33:=by
 refine mZ (C:=mkC 20 [8] [0,1,2,3,4,5,6,7,8] [⟨23,_,F23_ok⟩,⟨36,_,F36_ok⟩,⟨116,_,F116_ok⟩]) (mO _ _ _ _) (fO _) Tryz.func33 rfl rfl rfl (by decide) rfl ?_
 rintro⟨a0,a1,a2,a3,_⟩ hwf hpre ⟨⟩ hG rfl rfl
 show Vc _ _ [(0,⟨0,0,.c Z68 a0⟩),(1,⟨0,0,.c Z73 a1⟩),(2,⟨0,0,.c Z27 a2⟩),(3,⟨0,0,.c Z54 a3⟩)] _
 have hS:Sm big20 Y67 a1.1:=hpre.1.1
 have hT:Sm big20 (.slice (.slice TStamp)) a1.2:=hpre.1.2
 have hc:((cellsC Y67 a1.1:Nat):Int)≤2000000000:=hpre.2
 refine Vm hG rfl (Vq ?_)
 refine VrD mixed hG rfl (by kernel_rfl) ?_ ?_
 · exact⟨hS,trivial,hpre⟩
 refine Vt ?_
 refine⟨?_,trivial⟩
 all_goals exact rfl
noncomputable def F166:Fun:=⟨[.slice Y19],[.own Z31],fun x=>Sm big20 Y25 x.1,fun x=>(id x.1,())⟩
theorem F166_ok:Meets Tryz.prog 166 F166:=by
 refine mZ (C:=mkC 19 [2] [0,2,3,5,6,7,8,9] [⟨99,_,F99_ok⟩]) (mO _ _ _ _) (fO _) Tryz.func166 rfl rfl rfl (by decide) rfl ?_
 rintro⟨a0,_⟩ hwf hpre ⟨⟩ hG rfl rfl
 show Vc _ _ [(0,⟨0,0,.c Z28 a0⟩)] _
 have hp:_∧_:=hpre
 have hb:List.length a0≤bigLen:=hwf.1.1
 refine Vm hG rfl (Vm hG rfl (Vq (Vm hG rfl ?_)))
 refine Vb ?_
 refine Vc.loopF [(3,false,.own Z31),(8,false,.pure (.int .i64))] [0,2,6,7] (fun v=>cpInv a0 v.1 v.2.1) (fun v=>((List.length a0:Int)-v.2.1).toNat) rfl ?_ ?_
 · exact cpStart
 rintro⟨acc,(i:Int),_⟩ hI
 have hI:cpInv a0 acc i:=hI
 refine Vm hG rfl (Vq ?_)
 refine Vk rfl ?_ ?_<;>intro h0
 · have hl:i<(List.length a0:Int):=oTr h0
   have hE:Sm big20 Y19 (List.getD a0 i.toNat (dflt Y19)):=hp.2 _ (upElem hI.1 hl)
   refine Vs (Vq (Vb (Vq ?_)))
   refine Vr hG rfl ?_ ?_
   · exact cpRange hI hl
   refine Vr hG rfl ?_ ?_
   · exact⟨hE,cpLen hI hl hp.1⟩
   refine Vn hG rfl ?_
   refine⟨rfl,?_⟩
   exact cpStep (d:=dflt Y19) hI hl hb rfl
 · have hl:¬i<(List.length a0:Int):=oFa h0
   refine Vx (Vm hG rfl (Vt ?_))
   refine⟨?_,trivial⟩
   exact cpEnd hI hl
noncomputable def F94:Fun:=⟨[.slice Y34],[.own Z35],fun x=>(fun l=>List.length l≤4000000) x.1,fun x=>(id x.1,())⟩
theorem F94_ok:Meets Tryz.prog 94 F94:=by
 refine mZ (C:=mkC 6 [2] [0,2] []) (mO _ _ _ _) (fO _) Tryz.func94 rfl rfl rfl (by decide) rfl ?_
 rintro⟨a0,_⟩ hwf hpre ⟨⟩ hG rfl rfl
 show Vc _ _ [(0,⟨0,0,.c Z38 a0⟩)] _
 have hp:List.length a0≤4000000:=hpre
 refine Vm hG rfl (Vq ?_)
 refine Vr hG rfl ?_ ?_
 · exact appMore hp
 refine Vt ?_
 refine⟨?_,trivial⟩
 all_goals exact rfl
noncomputable def F153:Fun:=⟨[.pair (.int .i64) Y55],[.pair (.pure (.int .i64)) Z60],fun x=>Sm big20 Y58 x.1,fun x=>(id x.1,())⟩
theorem F153_ok:Meets Tryz.prog 153 F153:=by
 refine mZ (C:=mkC 13 [2] [0,1,2] [⟨94,_,F94_ok⟩]) (mO _ _ _ _) (fO _) Tryz.func153 rfl rfl rfl (by decide) rfl ?_
 rintro⟨a0,_⟩ hwf hpre ⟨⟩ hG rfl rfl
 show Vc _ _ [(0,⟨0,0,.c Z59 a0⟩)] _
 have hp1:List.length a0.2.2.2.1≤big20:=hpre.2.2.2.1.1
 have hp2:List.length a0.2.2.2.2≤4000000:=Nat.le_trans hpre.2.2.2.2.1 (by decide)
 refine Vm hG rfl (Vq ?_)
 refine Vr hG rfl ?_ ?_
 · exact appOk hp1
 refine Vq ?_
 refine Vr hG rfl ?_ ?_
 · exact hp2
 refine Vm hG rfl (Vt ?_)
 refine⟨?_,trivial⟩
 all_goals exact rfl
noncomputable def F92:Fun:=⟨[.pair Y25 Y61],[.pair Z33 Z63],fun x=>Sm big20 Y64 x.1,fun x=>(id x.1,())⟩
theorem F92_ok:Meets Tryz.prog 92 F92:=by
 refine mZ (C:=mkC 26 [2] [0,1,2,3,5,11,12,13,14] [⟨166,_,F166_ok⟩,⟨153,_,F153_ok⟩]) (mO _ _ _ _) (fO _) Tryz.func92 rfl rfl rfl (by decide) rfl ?_
 rintro⟨a0,_⟩ hwf hpre ⟨⟩ hG rfl rfl
 show Vc _ _ [(0,⟨0,0,.c Z66 a0⟩)] _
 have hp0:Sm big20 Y25 a0.1:=hpre.1
 have hp:_∧_:=hpre.2
 have hb:List.length a0.2≤bigLen:=hwf.1.2.1
 refine Vm hG rfl (Vq ?_)
 refine Vr hG rfl ?_ ?_
 · exact hp0
 refine Vq (Vm hG rfl (Vb ?_))
 refine Vc.loopF [(3,true,.pair Z33 Z63),(13,false,.pure (.int .i64))] [0,1,2,11,12] (fun v=>v.1.1=a0.1∧cpInv a0.2 v.1.2 v.2.1) (fun v=>((List.length a0.2:Int)-v.2.1).toNat) rfl ?_ ?_
 · exact⟨rfl,cpStart⟩
 rintro⟨acc,(i:Int),_⟩ hI
 have hI:acc.1=a0.1∧cpInv a0.2 acc.2 i:=hI
 refine Vm hG rfl (Vq ?_)
 refine Vk rfl ?_ ?_<;>intro h0
 · have hl:i<(List.length a0.2:Int):=oTr h0
   have hE:Sm big20 Y58 (List.getD a0.2 i.toNat (dflt Y58)):=hp.2 _ (upElem hI.2.1 hl)
   refine Vs (Vq (Vb (Vq ?_)))
   refine Vr hG rfl ?_ ?_
   · exact cpRange hI.2 hl
   refine VrD mixed hG rfl (by kernel_rfl) ?_ ?_
   · exact⟨hE,cpLen hI.2 hl hp.1⟩
   refine Vn hG rfl ?_
   refine⟨rfl,?_⟩
   have e:=cpStep (d:=dflt Y58) hI.2 hl hb rfl
   exact⟨⟨hI.1,e.1⟩,e.2⟩
 · have hl:¬i<(List.length a0.2:Int):=oFa h0
   refine Vx (Vm hG rfl (Vt ?_))
   refine⟨?_,trivial⟩
   exact Prod.ext hI.1 (cpEnd hI.2 hl)
noncomputable def F91:Fun:=⟨[.pair Y67 Y39],[.pair Z71 Z41],fun x=>Sm big20 Y72 x.1,fun x=>(id x.1,())⟩
theorem F91_ok:Meets Tryz.prog 91 F91:=by
 refine mZ (C:=mkC 39 [2] [0,1,2,3,5,7,9,10,11,12,24,25,26,27] [⟨92,_,F92_ok⟩,⟨94,_,F94_ok⟩]) (mO _ _ _ _) (fO _) Tryz.func91 rfl rfl rfl (by decide) rfl ?_
 rintro⟨a0,_⟩ hwf hpre ⟨⟩ hG rfl rfl
 show Vc _ _ [(0,⟨0,0,.c Z73 a0⟩)] _
 have hS:List.length a0.1≤big20∧∀ x∈a0.1,Sm big20 Y64 x:=hpre.1
 have hT:List.length a0.2≤big20∧∀ x∈a0.2,Sm big20 (.slice TStamp) x:=hpre.2
 have hb:List.length a0.1≤bigLen:=hwf.1.1.1
 have hb2:List.length a0.2≤bigLen:=hwf.1.2.1
 refine Vm hG rfl (Vm hG rfl (Vq (Vm hG rfl ?_)))
 refine Vb ?_
 refine Vc.loopF [(3,true,.pair Z71 Z41),(11,false,.pure (.int .i64))] [0,1,2,7,9,10,24,25,26,27] (fun v=>v.1.2=[]∧cpInv a0.1 v.1.1 v.2.1) (fun v=>((List.length a0.1:Int)-v.2.1).toNat) rfl ?_ ?_
 · exact⟨rfl,cpStart⟩
 rintro⟨ev,(i:Int),_⟩ hI
 have hI:ev.2=[]∧cpInv a0.1 ev.1 i:=hI
 refine Vm hG rfl (Vq ?_)
 refine Vk rfl ?_ ?_<;>intro h0
 · have hl:i<(List.length a0.1:Int):=oTr h0
   have r1:=cpRange hI.2 hl
   have hE:=hS.2 _ (getD_mem r1 (dflt Y64))
   have hA:=cpLen hI.2 hl hS.1
   refine Vs (Vq (Vb (Vq ?_)))
   refine Vr hG rfl ?_ ?_
   · exact r1
   refine VrD mixed hG rfl (by kernel_rfl) ?_ ?_
   · exact⟨hE,hA⟩
   refine Vn hG rfl ?_
   refine⟨rfl,?_⟩
   have e:=cpStep (d:=dflt Y64) hI.2 hl hb rfl
   exact⟨⟨hI.1,e.1⟩,e.2⟩
 · have hl:¬i<(List.length a0.1:Int):=oFa h0
   have eI:=cpEnd hI.2 hl
   refine Vx (Vq (Vm hG rfl (Vb ?_)))
   refine Vc.loopF [(3,true,.pair Z71 Z41),(26,false,.pure (.int .i64))] [0,1,2,5,9,10,11,12,24,25] (fun v=>v.1.1=a0.1∧cpInv a0.2 v.1.2 v.2.1) (fun v=>((List.length a0.2:Int)-v.2.1).toNat) rfl ?_ ?_
   · exact⟨eI,by rw[hI.1];exact cpStart⟩
   rintro⟨ev2,(j:Int),_⟩ hJ
   have hJ:ev2.1=a0.1∧cpInv a0.2 ev2.2 j:=hJ
   refine Vm hG rfl (Vq ?_)
   refine Vk rfl ?_ ?_<;>intro h1
   · have hj:j<(List.length a0.2:Int):=oTr h1
     have r2:=cpRange hJ.2 hj
     have hF:List.length (List.getD a0.2 j.toNat (dflt (.slice TStamp)))≤big20:=(hT.2 _ (getD_mem r2 (dflt (.slice TStamp)))).1
     have hF4:List.length (List.getD a0.2 j.toNat (dflt (.slice TStamp)))≤4000000:=Nat.le_trans hF (by decide)
     have hA2:=cpLen hJ.2 hj hT.1
     refine Vs (Vq (Vb (Vq ?_)))
     refine Vr hG rfl ?_ ?_
     · exact r2
     refine VrD mixed hG rfl (by kernel_rfl) ?_ ?_
     · exact⟨hF4,hA2⟩
     refine Vn hG rfl ?_
     refine⟨rfl,?_⟩
     have e:=cpStep (d:=dflt (.slice TStamp)) hJ.2 hj hb2 rfl
     exact⟨⟨hJ.1,e.1⟩,e.2⟩
   · have hj:¬j<(List.length a0.2:Int):=oFa h1
     refine Vx (Vm hG rfl (Vt ?_))
     refine⟨?_,trivial⟩
     exact Prod.ext hJ.1 (cpEnd hJ.2 hj)
noncomputable def F136:Fun:=⟨[.slice Y19,.slice Y19],[.pure (.bool)],fun _=>True,fun x=>(eqC x.1 x.2.1,())⟩
theorem F136_ok:Meets Tryz.prog 136 F136:=by
 refine mZ (C:=mkC 27 [4] [0,1,4,5,10,12,13,14,25] [⟨29,_,F29_ok⟩]) (mO _ _ _ _) (fO _) Tryz.func136 rfl rfl rfl (by decide) rfl ?_
 rintro⟨a0,a1,_⟩ hwf hpre ⟨⟩ hG rfl rfl
 show Vc _ _ [(0,⟨0,0,.c Z28 a0⟩),(1,⟨0,0,.c Z28 a1⟩)] _
 have hb0:List.length a0≤bigLen:=hwf.1.1
 refine Vm hG rfl (Vq (Vm hG rfl ?_))
 refine Vk rfl ?_ ?_<;>intro h0
 · refine Vm hG rfl (Vt ?_)
   refine⟨?_,trivial⟩
   refine eqC_no (fun e=>?_)
   have e:a0=a1:=e
   have g:((List.length a0:Int) != (List.length a1:Int))=true:=h0
   subst e
   exact bself g
 · have g0:((List.length a0:Int) != (List.length a1:Int))=false:=h0
   have f0_0:List.length a0=List.length a1:=(lenEq g0)
   refine Vs (Vq (Vm hG rfl (Vb ?_)))
   refine Vc.loopF [(13,false,.pure (.int .i64))] [0,1,10,12] (fun v=>eqInv a0 a1 v.1) (fun v=>((List.length a0:Int)-v.1).toNat) rfl ?_ ?_
   · exact eqStart f0_0
   rintro⟨(i0:Int),_⟩ hI0
   have hI0:eqInv a0 a1 i0:=hI0
   refine Vm hG rfl (Vq ?_)
   refine Vk rfl ?_ ?_<;>intro h1
   · have hl0:i0<(List.length a0:Int):=oTr h1
     refine Vs (Vq (Vb (Vm hG rfl ?_)))
     refine Vq ?_
     refine VrD mixed hG rfl (by kernel_rfl) ?_ ?_
     · exact⟨(eqRange hI0 hl0).1,(eqRange hI0 hl0).2,trivial⟩
     refine Vk rfl ?_ ?_<;>intro h2
     · refine Vm hG rfl (Vt ?_)
       refine⟨?_,trivial⟩
       refine eqC_no (fun e=>?_)
       have e:a0=a1:=e
       have g:(!(eqC (List.getD a0 i0.toNat (dflt Y19)) (List.getD a1 i0.toNat (dflt Y19))))=true:=h2
       subst e
       exact(nself (eqC_self _)) g
     · have g2:(!(eqC (List.getD a0 i0.toNat (dflt Y19)) (List.getD a1 i0.toNat (dflt Y19))))=false:=h2
       have f2_0:(List.getD a0 i0.toNat (dflt Y19))=(List.getD a1 i0.toNat (dflt Y19)):=(eqC_iff.1 (notF g2))
       have s0:(List.getD a0 i0.toNat (dflt Y19))=(List.getD a1 i0.toNat (dflt Y19)):=f2_0
       refine Vs (Vn hG rfl ?_)
       refine⟨rfl,?_⟩
       exact⟨eqStep (d:=dflt Y19) hI0 hl0 hb0 s0,(upStep hI0.1 hl0 hb0).2.2⟩
   · have hl0:¬i0<(List.length a0:Int):=oFa h1
     have e0:a0=a1:=eqEnd hI0 hl0
     refine Vx (Vm hG rfl (Vt ?_))
     refine⟨?_,trivial⟩
     exact eqC_yes e0
end Fw
