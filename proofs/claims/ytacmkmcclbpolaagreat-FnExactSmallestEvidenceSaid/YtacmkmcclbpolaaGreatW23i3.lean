/- Walks of functions of the program: what each computes. Conditions: those that each contract names. -/
import Derived.Test.YtacmkmcclbpolaaGreatW23T
import Derived.Test.YtacmkmcclbpolaaGreatW23i0
import Derived.Test.YtacmkmcclbpolaaGreatW23i1
import Derived.Test.YtacmkmcclbpolaaGreatW23i2
namespace Fw
open Go Go.Proofs
set_option linter.unusedSimpArgs false
set_option maxRecDepth 100000
noncomputable def F230:Fun:=⟨[.pair (.int .i64) Y38,.slice Y32],[.own Z8],fun _=>True,fun x=>(badSpansF x.1 x.2.1,())⟩
theorem F230_ok:Meets Tryz.prog 230 F230:=by
 refine mZ (C:=mkCK 32 [4] [0,1,2,4,5,6,10,18] [⟨300,_,F300_ok⟩,⟨296,_,F296_ok⟩] [] [] [⟨298,_,K298_ok⟩] []) (mkCK_ok _ _ _ _ _ _ _ _) (fO _) Tryz.func230 rfl rfl rfl (by decide) rfl ?_
 rintro⟨a0,a1,_⟩ hwf hpre ⟨⟩ hG rfl rfl
 show Vc _ _ [(0,⟨0,0,.c Z46 a0⟩),(1,⟨0,0,.c Z36 a1⟩)] _
 refine Vm hG rfl (Vm hG rfl (Vm hG rfl (Vq ?_)))
 refine Vm hG rfl ?_
 refine Vk rfl ?_ ?_<;>intro h0
 · refine Vr hG rfl ?_ ?_
   · exact Nat.zero_le _
   refine Vq (Vm hG rfl ?_)
   refine Vk rfl ?_ ?_<;>intro h1
   · refine Vr hG rfl ?_ ?_
     · first
         | exact bp1
         | exact Nat.zero_le _
     refine Vq ?_
     refine Vr hG rfl ?_ ?_
     · exact⟨trivial,(by first | exact bp2 | exact bp1 | exact Nat.zero_le _)⟩
     refine Vq ?_
     refine Vr hG rfl ?_ ?_
     · exact(Nat.le_trans (by first | exact bp3 | exact bp2 | exact bp1) (show 1000≤2000000000 by decide))
     refine Vt ?_
     refine⟨?_,trivial⟩
     exact bdYY h0 h1
   · refine Vs (Vq ?_)
     refine Vr hG rfl ?_ ?_
     · exact⟨trivial,(by first | exact bp2 | exact bp1 | exact Nat.zero_le _)⟩
     refine Vq ?_
     refine Vr hG rfl ?_ ?_
     · exact(Nat.le_trans (by first | exact bp3 | exact bp2 | exact bp1) (show 1000≤2000000000 by decide))
     refine Vt ?_
     refine⟨?_,trivial⟩
     exact bdYN h0 h1
 · refine Vs (Vq (Vm hG rfl ?_))
   refine Vk rfl ?_ ?_<;>intro h2
   · refine Vr hG rfl ?_ ?_
     · first
         | exact bp1
         | exact Nat.zero_le _
     refine Vq ?_
     refine Vr hG rfl ?_ ?_
     · exact⟨trivial,(by first | exact bp2 | exact bp1 | exact Nat.zero_le _)⟩
     refine Vq ?_
     refine Vr hG rfl ?_ ?_
     · exact(Nat.le_trans (by first | exact bp3 | exact bp2 | exact bp1) (show 1000≤2000000000 by decide))
     refine Vt ?_
     refine⟨?_,trivial⟩
     exact bdNY h0 h2
   · refine Vs (Vq ?_)
     refine Vr hG rfl ?_ ?_
     · exact⟨trivial,(by first | exact bp2 | exact bp1 | exact Nat.zero_le _)⟩
     refine Vq ?_
     refine Vr hG rfl ?_ ?_
     · exact(Nat.le_trans (by first | exact bp3 | exact bp2 | exact bp1) (show 1000≤2000000000 by decide))
     refine Vt ?_
     refine⟨?_,trivial⟩
     exact bdNN h0 h2
noncomputable def F297:Fun:=⟨[.pair (.int .i64) (.int .i64),.pair (.int .i64) (.int .i64)],[.pure (.bool)],fun _=>True,fun x=>(isInsideF x.1 x.2.1,())⟩
theorem F297_ok:Meets Tryz.prog 297 F297:=by
 refine mZ (C:=mkC 25 [4] [0,1,2,3,4] [⟨232,_,F232_ok⟩]) (mO _ _ _ _) (fO _) Tryz.func297 rfl rfl rfl (by decide) rfl ?_
 rintro⟨a0,a1,_⟩ hwf hpre ⟨⟩ hG rfl rfl
 show Vc _ _ [(0,⟨0,0,.c Z8 a0⟩),(1,⟨0,0,.c Z8 a1⟩)] _
 refine Vm hG rfl (Vq ?_)
 refine Vr hG rfl ?_ ?_
 · repeat' (first | exact trivial | refine And.intro ?_ ?_ | intro _)
 refine Vt ?_
 refine⟨?_,trivial⟩
 all_goals exact rfl
noncomputable def F229:Fun:=⟨[.slice Y4,.pair (.int .i64) (.int .i64)],[.pure (.bool)],fun x=>(fun(l:List Span) (_:Span)=>List.length l≤2000000000) x.1 x.2.1,fun x=>(coversF x.1 x.2.1,())⟩
theorem F229_ok:Meets Tryz.prog 229 F229:=by
 refine mZ (C:=mkC 18 [4] [0,1,3,4,6,8,9,10,11,16] [⟨296,_,F296_ok⟩,⟨297,_,F297_ok⟩]) (mO _ _ _ _) (fO _) Tryz.func229 rfl rfl rfl (by decide) rfl ?_
 rintro⟨a0,a1,_⟩ hwf hpre ⟨⟩ hG rfl rfl
 show Vc _ _ [(0,⟨0,0,.c Z14 a0⟩),(1,⟨0,0,.c Z8 a1⟩)] _
 have hs:List.length a0≤2000000000:=hpre
 have hb:List.length a0≤bigLen:=hwf.1.1
 have hbj:List.length (joinF a0)≤bigLen:=Nat.le_trans (joinLen a0) hb
 refine Vm hG rfl (Vq (Vq ?_))
 refine Vr hG rfl ?_ ?_
 · exact hs
 refine Vb ?_
 refine Vc.loopF [(10,false,.pure (.int .i64))] [0,1,3,8,9] (fun v=>fInv (fun x=>isInsideF a1 x) (joinF a0) v.1) (fun v=>((List.length (joinF a0):Int)-v.1).toNat) rfl ?_ ?_
 · exact fStart
 rintro⟨(i:Int),_⟩ hI
 have hI:fInv (fun x=>isInsideF a1 x) (joinF a0) i:=hI
 refine Vm hG rfl (Vq ?_)
 refine Vk rfl ?_ ?_<;>intro h0
 · have hl:i<(List.length (joinF a0):Int):=oTr h0
   refine Vs (Vq (Vb (Vq ?_)))
   refine Vr hG rfl ?_ ?_
   · exact fRange hI hl
   refine Vm hG rfl ?_
   refine Vk rfl ?_ ?_<;>intro h1
   · have g1:isInsideF a1 (List.getD (joinF a0) i.toNat (dflt Y4))=true:=h1
     refine Vm hG rfl (Vt ?_)
     refine⟨?_,trivial⟩
     exact cvHit rfl hI hl g1
   · have g1:(fun x=>isInsideF a1 x) (List.getD (joinF a0) i.toNat (dflt Y4))=false:=h1
     refine Vs (Vn hG rfl ?_)
     refine⟨rfl,?_⟩
     exact fStep hI hl hbj g1
 · have hl:¬i<(List.length (joinF a0):Int):=oFa h0
   refine Vx (Vm hG rfl (Vt ?_))
   refine⟨?_,trivial⟩
   exact cvEnd rfl hI hl
noncomputable def F158:Fun:=⟨[.pair (.int .i64) Y38,.slice Y32,.pair (.int .i64) (.int .i64)],[.pure (.bool)],fun _=>True,fun x=>((fun c l s=>coversF (badSpansF c l) s) x.1 x.2.1 x.2.2.1,())⟩
theorem F158_ok:Meets Tryz.prog 158 F158:=by
 refine mZ (C:=mkC 12 [6] [0,1,2,3,5,6] [⟨230,_,F230_ok⟩,⟨229,_,F229_ok⟩]) (mO _ _ _ _) (fO _) Tryz.func158 rfl rfl rfl (by decide) rfl ?_
 rintro⟨a0,a1,a2,_⟩ hwf hpre ⟨⟩ hG rfl rfl
 show Vc _ _ [(0,⟨0,0,.c Z46 a0⟩),(1,⟨0,0,.c Z36 a1⟩),(2,⟨0,0,.c Z8 a2⟩)] _
 refine Vm hG rfl (Vq ?_)
 refine VrD mixed hG rfl (by kernel_rfl) ?_ ?_
 · exact⟨trivial,Nat.le_trans (badLen a0 a1) (by decide)⟩
 refine Vt ?_
 refine⟨?_,trivial⟩
 all_goals exact rfl
noncomputable def F303:Fun:=⟨[.slice Y32,.int .i64],[.pure (.int .i64)],fun _=>True,fun x=>(goodUntilF x.1 x.2.1,())⟩
theorem F303_ok:Meets Tryz.prog 303 F303:=by
 refine mZ (C:=mkC 20 [4] [0,1,4,5,7,16] [⟨336,_,F336_ok⟩]) (mO _ _ _ _) (fO _) Tryz.func303 rfl rfl rfl (by decide) rfl ?_
 rintro⟨a0,(a1:Int),_⟩ hwf hpre ⟨⟩ hG rfl rfl
 show Vc _ _ [(0,⟨0,0,.c Z36 a0⟩),(1,⟨0,0,.c (.pure (.int .i64)) a1⟩)] _
 refine Vm hG rfl (Vm hG rfl (Vq (Vm hG rfl ?_)))
 refine Vk rfl ?_ ?_<;>intro h0
 · refine Vm hG rfl (Vt ?_)
   refine⟨?_,trivial⟩
   exact guA rfl h0
 · refine Vs (Vm hG rfl (Vt ?_))
   refine⟨?_,trivial⟩
   exact guB rfl rfl h0
noncomputable def F337:Fun:=⟨[.pair (.int .i64) (.int .i64),.pair (.int .i64) (.int .i64)],[.pure Y4,.pure (.bool)],fun _=>True,fun x=>((meetF x.1 x.2.1).1,(meetF x.1 x.2.1).2,())⟩
theorem F337_ok:Meets Tryz.prog 337 F337:=by
 refine mZ (C:=mkC 33 [4,5] [0,1,2,3,4,5,6,30] [⟨232,_,F232_ok⟩]) (mO _ _ _ _) (fO _) Tryz.func337 rfl rfl rfl (by decide) rfl ?_
 rintro⟨a0,a1,_⟩ hwf hpre ⟨⟩ hG rfl rfl
 show Vc _ _ [(0,⟨0,0,.c Z8 a0⟩),(1,⟨0,0,.c Z8 a1⟩)] _
 refine Vm hG rfl (Vm hG rfl (Vq (Vq ?_)))
 refine Vr hG rfl ?_ ?_
 · repeat' (first | exact trivial | refine And.intro ?_ ?_ | intro _)
 refine Vk rfl ?_ ?_<;>intro h0
 · refine Vm hG rfl (Vt ?_)
   have e:=meI0 h0
   refine⟨?_,?_,trivial⟩
   · exact(congrArg Prod.fst e).symm
   · exact(congrArg Prod.snd e).symm
 · refine Vs (Vm hG rfl (Vt ?_))
   have e:=meI1 h0
   refine⟨?_,?_,trivial⟩
   · exact(congrArg Prod.fst e).symm
   · exact(congrArg Prod.snd e).symm
noncomputable def F301:Fun:=⟨[.slice Y4,.slice Y4],[.own Z8],fun x=>(fun(a b:List Span)=>List.length a≤1000∧List.length b≤1000) x.1 x.2.1,fun x=>(meetAllF x.1 x.2.1,())⟩
theorem F301_ok:Meets Tryz.prog 301 F301:=by
 refine mZ (C:=mkC 39 [4] [0,1,4,5,7,9,10,11,12,13,14,15,18,19,20,21,30] [⟨337,_,F337_ok⟩,⟨296,_,F296_ok⟩]) (mO _ _ _ _) (fO _) Tryz.func301 rfl rfl rfl (by decide) rfl ?_
 rintro⟨a0,a1,_⟩ hwf hpre ⟨⟩ hG rfl rfl
 show Vc _ _ [(0,⟨0,0,.c Z14 a0⟩),(1,⟨0,0,.c Z14 a1⟩)] _
 have hp1:List.length a0≤1000:=hpre.1
 have hp2:List.length a1≤1000:=hpre.2
 have hb:List.length a0≤bigLen:=hwf.1.1
 have hb1:List.length a1≤bigLen:=hwf.2.1.1
 refine Vm hG rfl (Vm hG rfl (Vq (Vm hG rfl ?_)))
 refine Vb ?_
 refine Vc.loopF [(5,false,.own Z8),(14,false,.pure (.int .i64))] [0,1,4,12,13] (fun v=>foInv (meR a1) [] a0 v.1 v.2.1) (fun v=>((List.length a0:Int)-v.2.1).toNat) rfl ?_ ?_
 · exact foStart
 rintro⟨acc,(i:Int),_⟩ hI
 have hI:foInv (meR a1) [] a0 acc i:=hI
 have hA:List.length acc≤1000000:=meLenI hI hp1 hp2
 refine Vm hG rfl (Vq ?_)
 refine Vk rfl ?_ ?_<;>intro h0
 · have hl:i<(List.length a0:Int):=oTr h0
   refine Vs (Vq (Vb (Vq ?_)))
   refine Vr hG rfl ?_ ?_
   · exact foRange hI hl
   refine Vm hG rfl (Vb ?_)
   refine Vc.loopF [(5,false,.own Z8),(20,false,.pure (.int .i64))] [0,1,4,7,12,13,14,15,18,19] (fun v=>foInv (meG (List.getD a0 i.toNat (dflt Y4))) acc a1 v.1 v.2.1) (fun v=>((List.length a1:Int)-v.2.1).toNat) rfl ?_ ?_
   · exact foStart
   rintro⟨ac2,(k:Int),_⟩ hK
   have hK:foInv (meG (List.getD a0 i.toNat (dflt Y4))) acc a1 ac2 k:=hK
   have hA2:List.length ac2≤2000000:=meLenJ hK hA hp2
   refine Vm hG rfl (Vq ?_)
   refine Vk rfl ?_ ?_<;>intro h1
   · have hm:k<(List.length a1:Int):=oTr h1
     refine Vs (Vq (Vb (Vq ?_)))
     refine Vr hG rfl ?_ ?_
     · exact foRange hK hm
     refine Vm hG rfl (Vm hG rfl ?_)
     refine Vk rfl ?_ ?_<;>intro h2
     · have g2:(meetF (List.getD a0 i.toNat (dflt Y4)) (List.getD a1 k.toNat (dflt Y4))).2=true:=h2
       have st:=foStepE (d:=dflt Y4) hK hm hb1 (meY g2)
       refine Vr hG rfl ?_ ?_
       · exact meApp hA2
       refine Vn hG rfl ?_
       refine⟨rfl,?_⟩
       exact st
     · have g2:(meetF (List.getD a0 i.toNat (dflt Y4)) (List.getD a1 k.toNat (dflt Y4))).2=false:=h2
       have st:=foStepE (d:=dflt Y4) hK hm hb1 (meN (acc:=ac2) g2)
       refine Vs (Vn hG rfl ?_)
       refine⟨rfl,?_⟩
       exact st
   · have hm:¬k<(List.length a1:Int):=oFa h1
     refine Vx (Vn hG rfl ?_)
     refine⟨rfl,?_⟩
     exact foStepE (d:=dflt Y4) hI hl hb (foEnd hK hm)
 · have hl:¬i<(List.length a0:Int):=oFa h0
   refine Vx (Vq ?_)
   refine Vr hG rfl ?_ ?_
   · exact meBig hp1 hp2 (foEnd hI hl)
   refine Vt ?_
   refine⟨?_,trivial⟩
   exact congrArg joinF (foEnd hI hl)
noncomputable def F231:Fun:=⟨[.pair (.int .i64) Y38,.slice Y32],[.own Z8],fun _=>True,fun x=>(goodSpansF x.1 x.2.1,())⟩
theorem F231_ok:Meets Tryz.prog 231 F231:=by
 refine mZ (C:=mkC 15 [4] [0,1,2,4] [⟨302,_,F302_ok⟩,⟨303,_,F303_ok⟩,⟨301,_,F301_ok⟩]) (mO _ _ _ _) (fO _) Tryz.func231 rfl rfl rfl (by decide) rfl ?_
 rintro⟨a0,a1,_⟩ hwf hpre ⟨⟩ hG rfl rfl
 show Vc _ _ [(0,⟨0,0,.c Z46 a0⟩),(1,⟨0,0,.c Z36 a1⟩)] _
 refine Vm hG rfl (Vq ?_)
 refine VrD mixed hG rfl (by kernel_rfl) ?_ ?_
 · exact⟨trivial,trivial,one1,one1⟩
 refine Vt ?_
 refine⟨?_,trivial⟩
 all_goals exact rfl
noncomputable def F159:Fun:=⟨[.pair (.int .i64) Y38,.slice Y32,.pair (.int .i64) (.int .i64)],[.pure (.bool)],fun _=>True,fun x=>((fun c l s=>coversF (goodSpansF c l) s) x.1 x.2.1 x.2.2.1,())⟩
theorem F159_ok:Meets Tryz.prog 159 F159:=by
 refine mZ (C:=mkC 12 [6] [0,1,2,3,5,6] [⟨231,_,F231_ok⟩,⟨229,_,F229_ok⟩]) (mO _ _ _ _) (fO _) Tryz.func159 rfl rfl rfl (by decide) rfl ?_
 rintro⟨a0,a1,a2,_⟩ hwf hpre ⟨⟩ hG rfl rfl
 show Vc _ _ [(0,⟨0,0,.c Z46 a0⟩),(1,⟨0,0,.c Z36 a1⟩),(2,⟨0,0,.c Z8 a2⟩)] _
 refine Vm hG rfl (Vq ?_)
 refine VrD mixed hG rfl (by kernel_rfl) ?_ ?_
 · exact⟨trivial,Nat.le_trans (goodLen a0 a1) (by decide)⟩
 refine Vt ?_
 refine⟨?_,trivial⟩
 all_goals exact rfl
noncomputable def F161:Fun:=⟨[.slice Y19],[.own Z41],fun x=>(fun a0=>List.length a0≤2000000000) x.1,fun x=>(mandatesF x.1,())⟩
theorem F161_ok:Meets Tryz.prog 161 F161:=by
 refine mZ (C:=mkC 26 [2] [0,2,3,5,6,7,8,9,10,11,19] [⟨234,_,F234_ok⟩]) (mO _ _ _ _) (fO _) Tryz.func161 rfl rfl rfl (by decide) rfl ?_
 rintro⟨a0,_⟩ hwf hpre ⟨⟩ hG rfl rfl
 show Vc _ _ [(0,⟨0,0,.c Z26 a0⟩)] _
 have hb:List.length a0≤bigLen:=hwf.1.1
 have hs:List.length a0≤2000000000:=hpre
 refine Vm hG rfl (Vm hG rfl (Vq (Vm hG rfl ?_)))
 refine Vb ?_
 refine Vc.loopF [(3,false,.own Z41),(10,false,.pure (.int .i64))] [0,2,8,9] (fun v=>pkInv (pieceMandF) a0 v.1 v.2.1) (fun v=>((List.length a0:Int)-v.2.1).toNat) rfl ?_ ?_
 · exact pkStart
 rintro⟨acc,(i:Int),_⟩ hI
 have hI:pkInv (pieceMandF) a0 acc i:=hI
 refine Vm hG rfl (Vq ?_)
 refine Vk rfl ?_ ?_<;>intro h0
 · have hl:i<(List.length a0:Int):=oTr h0
   refine Vs (Vq (Vb (Vq ?_)))
   refine Vr hG rfl ?_ ?_
   · exact pkRange hI hl
   refine Vm hG rfl (Vm hG rfl ?_)
   refine Vk rfl ?_ ?_<;>intro h1
   · have g1:((pieceMandF) (List.getD a0 i.toNat (dflt Y19))).2=true:=h1
     refine Vr hG rfl ?_ ?_
     · exact pkLenW hI hs
     refine Vn hG rfl ?_
     refine⟨rfl,?_⟩
     first
       | exact pkYes (d:=dflt Y19) hI hl hb g1
       | exact pkNo (d:=dflt Y19) hI hl hb g1
   · have g1:((pieceMandF) (List.getD a0 i.toNat (dflt Y19))).2=false:=h1
     refine Vs (Vn hG rfl ?_)
     refine⟨rfl,?_⟩
     first
       | exact pkYes (d:=dflt Y19) hI hl hb g1
       | exact pkNo (d:=dflt Y19) hI hl hb g1
 · have hl:¬i<(List.length a0:Int):=oFa h0
   refine Vx (Vm hG rfl (Vt ?_))
   refine⟨?_,trivial⟩
   exact pkEnd hI hl
noncomputable def F338:Fun:=⟨[.pair (.int .i64) Y32],[.pure (.bool)],fun _=>True,fun x=>(isMandF x.1,())⟩
theorem F338_ok:Meets Tryz.prog 338 F338:=by
 refine mZ (C:=mkC 24 [2] [0,1,2] [⟨72,_,F72_ok⟩,⟨232,_,F232_ok⟩]) (mO _ _ _ _) (fO _) Tryz.func338 rfl rfl rfl (by decide) rfl ?_
 rintro⟨a0,_⟩ hwf hpre ⟨⟩ hG rfl rfl
 show Vc _ _ [(0,⟨0,0,.c Z41 a0⟩)] _
 refine Vm hG rfl (Vq ?_)
 refine Vr hG rfl ?_ ?_
 · repeat' (first | exact trivial | refine And.intro ?_ ?_ | intro _)
 refine Vt ?_
 refine⟨?_,trivial⟩
 all_goals exact rfl
noncomputable def F339:Fun:=⟨[.pair (.int .i64) Y32],[.own (.pure (.int .i64))],fun _=>True,fun x=>(mandIntsF x.1,())⟩
theorem F339_ok:Meets Tryz.prog 339 F339:=by
 refine mZ (C:=mkC 14 [2] [0,1,2] []) (mO _ _ _ _) (fO _) Tryz.func339 rfl rfl rfl (by decide) rfl ?_
 rintro⟨a0,_⟩ hwf hpre ⟨⟩ hG rfl rfl
 show Vc _ _ [(0,⟨0,0,.c Z41 a0⟩)] _
 refine Vm hG rfl (Vm hG rfl (Vt ?_))
 refine⟨?_,trivial⟩
 all_goals exact rfl
noncomputable def F304:Fun:=⟨[.slice Y32,.pair (.int .i64) Y32],[.pure (.bool)],fun _=>True,fun x=>(checkMandF x.1 x.2.1,())⟩
theorem F304_ok:Meets Tryz.prog 304 F304:=by
 refine mZ (C:=mkC 26 [4] [0,1,3,4] [⟨338,_,F338_ok⟩,⟨292,_,F292_ok⟩,⟨339,_,F339_ok⟩,⟨214,_,F214_ok⟩]) (mO _ _ _ _) (fO _) Tryz.func304 rfl rfl rfl (by decide) rfl ?_
 rintro⟨a0,a1,_⟩ hwf hpre ⟨⟩ hG rfl rfl
 show Vc _ _ [(0,⟨0,0,.c Z36 a0⟩),(1,⟨0,0,.c Z41 a1⟩)] _
 refine Vm hG rfl (Vq ?_)
 refine VrD mixed hG rfl (by kernel_rfl) ?_ ?_
 · repeat' (first | exact trivial | exact smallLit (n:=6) rfl (by decide) | refine And.intro ?_ ?_ | intro _)
 refine Vt ?_
 refine⟨?_,trivial⟩
 all_goals exact rfl
noncomputable def F233:Fun:=⟨[.slice Y32,.slice Y38,.int .i64,.int .i64],[.own Z8],fun x=>(fun(_:List Key) (l:List Mandate) (_ _:Int)=>List.length l≤2000000000) x.1 x.2.1 x.2.2.1 x.2.2.2.1,fun x=>(mandSpansF x.1 x.2.1 x.2.2.1 x.2.2.2.1,())⟩
theorem F233_ok:Meets Tryz.prog 233 F233:=by
 refine mZ (C:=mkC 44 [8] [0,1,2,3,8,9,11,12,13,14,15,32] [⟨304,_,F304_ok⟩,⟨296,_,F296_ok⟩]) (mO _ _ _ _) (fO _) Tryz.func233 rfl rfl rfl (by decide) rfl ?_
 rintro⟨a0,a1,(a2:Int),(a3:Int),_⟩ hwf hpre ⟨⟩ hG rfl rfl
 show Vc _ _ [(0,⟨0,0,.c Z36 a0⟩),(1,⟨0,0,.c Z44 a1⟩),(2,⟨0,0,.c (.pure (.int .i64)) a2⟩),(3,⟨0,0,.c (.pure (.int .i64)) a3⟩)] _
 have hs:List.length a1≤2000000000:=hpre
 have hb:List.length a1≤bigLen:=hwf.2.1.1
 refine Vm hG rfl (Vm hG rfl (Vq (Vm hG rfl ?_)))
 refine Vb ?_
 refine Vc.loopF [(9,false,.own Z8),(14,false,.pure (.int .i64))] [0,1,2,3,8,12,13] (fun v=>pkInv (mdF a0 a2 a3) a1 v.1 v.2.1) (fun v=>((List.length a1:Int)-v.2.1).toNat) rfl ?_ ?_
 · exact pkStart
 rintro⟨acc,(i:Int),_⟩ hI
 have hI:pkInv (mdF a0 a2 a3) a1 acc i:=hI
 refine Vm hG rfl (Vq ?_)
 refine Vk rfl ?_ ?_<;>intro h0
 · have hl:i<(List.length a1:Int):=oTr h0
   refine Vs (Vq (Vb (Vq ?_)))
   refine Vr hG rfl ?_ ?_
   · exact pkRange hI hl
   refine Vq ?_
   refine Vr hG rfl ?_ ?_
   · repeat' (first | exact trivial | refine And.intro ?_ ?_ | intro _)
   refine Vk rfl ?_ ?_<;>intro h1
   · have g1:((mdF a0 a2 a3) (List.getD a1 i.toNat (dflt Y38))).2=true:=h1
     have st:=pkYes (d:=dflt Y38) hI hl hb g1
     refine Vr hG rfl ?_ ?_
     · exact pkLenW hI hs
     refine Vn hG rfl ?_
     refine⟨rfl,?_⟩
     exact st
   · have g1:((mdF a0 a2 a3) (List.getD a1 i.toNat (dflt Y38))).2=false:=h1
     have st:=pkNo (d:=dflt Y38) hI hl hb g1
     refine Vs (Vn hG rfl ?_)
     refine⟨rfl,?_⟩
     exact st
 · have hl:¬i<(List.length a1:Int):=oFa h0
   refine Vx (Vq ?_)
   refine Vr hG rfl ?_ ?_
   · exact pkBigW hs (pkEnd hI hl)
   refine Vt ?_
   refine⟨?_,trivial⟩
   exact congrArg joinF (pkEnd hI hl)
noncomputable def F160:Fun:=⟨[.slice Y32,.slice Y38,.int .i64,.int .i64,.pair (.int .i64) (.int .i64)],[.pure (.bool)],fun x=>(fun(_:List Key) (l:List Mandate) (_ _:Int) (_:Span)=>List.length l≤2000000000) x.1 x.2.1 x.2.2.1 x.2.2.2.1 x.2.2.2.2.1,fun x=>(maySignF x.1 x.2.1 x.2.2.1 x.2.2.2.1 x.2.2.2.2.1,())⟩
theorem F160_ok:Meets Tryz.prog 160 F160:=by
 refine mZ (C:=mkC 26 [10] [0,1,2,3,4,9,10] [⟨232,_,F232_ok⟩,⟨233,_,F233_ok⟩,⟨229,_,F229_ok⟩]) (mO _ _ _ _) (fO _) Tryz.func160 rfl rfl rfl (by decide) rfl ?_
 rintro⟨a0,a1,(a2:Int),(a3:Int),a4,_⟩ hwf hpre ⟨⟩ hG rfl rfl
 show Vc _ _ [(0,⟨0,0,.c Z36 a0⟩),(1,⟨0,0,.c Z44 a1⟩),(2,⟨0,0,.c (.pure (.int .i64)) a2⟩),(3,⟨0,0,.c (.pure (.int .i64)) a3⟩),(4,⟨0,0,.c Z8 a4⟩)] _
 have hs:List.length a1≤2000000000:=hpre
 refine Vm hG rfl (Vq ?_)
 refine VrD mixed hG rfl (by kernel_rfl) ?_ ?_
 · exact⟨fun _=>trivial,fun _=>hs,fun _=>mandSpLen hs⟩
 refine Vt ?_
 refine⟨?_,trivial⟩
 exact mayI
noncomputable def F91:Fun:=⟨[.pair Y34 Y55,.pair Y66 Y37,.slice (.slice (.int .i64)),.int .i64,.pair (.int .i64) Y48],[.pure Y24],fun x=>(fun(_:Frame) (e:Evidence) (_:List (List Int)) (_:Int) (_:Sig)=>Sm big20 Y71 e∧((cellsC Y66 e.1:Nat):Int)≤2000000000) x.1 x.2.1 x.2.2.1 x.2.2.2.1 x.2.2.2.2.1,fun x=>(judgeF x.1 x.2.1 x.2.2.1 x.2.2.2.1 x.2.2.2.2.1,())⟩
set_option maxHeartbeats 2000000 in
theorem F91_ok:Meets Tryz.prog 91 F91:=by
 refine mZ (C:=mkC 138 [10] [0,1,2,3,4,5,6,9,10,11,12,13,14,15,16,17,18,23,28,32,38,46,73,87,96,105,113,122] [⟨144,_,F144_ok⟩,⟨145,_,F145_ok⟩,⟨146,_,F146_ok⟩,⟨147,_,F147_ok⟩,⟨148,_,F148_ok⟩,⟨149,_,F149_ok⟩,⟨151,_,F151_ok⟩,⟨150,_,F150_ok⟩,⟨152,_,F152_ok⟩,⟨153,_,F153_ok⟩,⟨154,_,F154_ok⟩,⟨155,_,F155_ok⟩,⟨156,_,F156_ok⟩,⟨157,_,F157_ok⟩,⟨158,_,F158_ok⟩,⟨159,_,F159_ok⟩,⟨161,_,F161_ok⟩,⟨160,_,F160_ok⟩]) (mO _ _ _ _) (fO _) Tryz.func91 rfl rfl rfl (by decide) rfl ?_
 rintro⟨a0,a1,a2,(a3:Int),a4,_⟩ hwf hpre ⟨⟩ hG rfl rfl
 show Vc _ _ [(0,⟨0,0,.c Z67 a0⟩),(1,⟨0,0,.c Z72 a1⟩),(2,⟨0,0,.c Z7 a2⟩),(3,⟨0,0,.c (.pure (.int .i64)) a3⟩),(4,⟨0,0,.c Z52 a4⟩)] _
 have hS:Sm big20 Y66 a1.1:=hpre.1.1
 have hT:Sm big20 (.slice (.slice TStamp)) a1.2:=hpre.1.2
 have hc:((cellsC Y66 a1.1:Nat):Int)≤2000000000:=hpre.2
 refine Vm hG rfl (Vq (Vb (Vm hG rfl ?_)))
 refine Vk rfl ?_ ?_<;>intro h0
 · refine Vm hG rfl (Vt ?_)
   refine⟨?_,trivial⟩
   exact juD (fo1 h0) (by decide)
 · refine Vm hG rfl ?_
   refine Vk rfl ?_ ?_<;>intro h1
   · refine Vm hG rfl (Vt ?_)
     refine⟨?_,trivial⟩
     exact juD (fo2' h0 h1) (by decide)
   · refine Vm hG rfl ?_
     refine Vk rfl ?_ ?_<;>intro h2
     · refine Vm hG rfl (Vt ?_)
       refine⟨?_,trivial⟩
       exact juD (fo3' h0 h1 h2) (by decide)
     · refine Vm hG rfl ?_
       refine Vk rfl ?_ ?_<;>intro h3
       · refine Vm hG rfl (Vt ?_)
         refine⟨?_,trivial⟩
         exact juD (fo4 h0 h1 h2 h3) (by decide)
       · refine Vm hG rfl ?_
         refine Vk rfl ?_ ?_<;>intro h4
         · refine Vm hG rfl (Vt ?_)
           refine⟨?_,trivial⟩
           exact juD (fo5 h0 h1 h2 h3 h4) (by decide)
         · refine Vm hG rfl ?_
           refine Vk rfl ?_ ?_<;>intro h5
           · refine Vm hG rfl (Vt ?_)
             refine⟨?_,trivial⟩
             exact juD (fo6 h0 h1 h2 h3 h4 h5) (by decide)
           · refine Vs (Vq ?_)
             refine VrD mixed hG rfl (by kernel_rfl) ?_ ?_
             · exact⟨trivial,hS⟩
             refine Vq (Vq ?_)
             refine Vr hG rfl ?_ ?_
             · repeat' (first | exact trivial | refine And.intro ?_ ?_ | intro _)
             refine Vk rfl ?_ ?_<;>intro h6
             · refine Vm hG rfl (Vt ?_)
               refine⟨?_,trivial⟩
               exact(boA h6).trans (juB (fo7 h0 h1 h2 h3 h4 h5).symm)
             · refine Vs (Vq ?_)
               refine Vr hG rfl ?_ ?_
               · exact⟨hS,hc⟩
               refine Vm hG rfl (Vq (Vm hG rfl ?_))
               refine Vk rfl ?_ ?_<;>intro h7
               · refine Vm hG rfl (Vt ?_)
                 refine⟨?_,trivial⟩
                 exact((ceA h7).trans (boB h6)).trans (juB (fo7 h0 h1 h2 h3 h4 h5).symm)
               · refine Vs (Vq ?_)
                 refine Vr hG rfl ?_ ?_
                 · exact hT
                 refine Vq (Vm hG rfl ?_)
                 refine Vk rfl ?_ ?_<;>intro h8
                 · refine Vm hG rfl (Vt ?_)
                   refine⟨?_,trivial⟩
                   exact((ceB h7 h8).trans (boB h6)).trans (juB (fo7 h0 h1 h2 h3 h4 h5).symm)
                 · refine Vs (Vm hG rfl (Vq ?_))
                   refine Vr hG rfl ?_ ?_
                   · exact usPieceLen hc
                   refine Vq (Vb (Vm hG rfl ?_))
                   refine Vk rfl ?_ ?_<;>intro h9
                   · refine Vn hG rfl (Vm hG rfl (Vt ?_))
                     refine⟨?_,trivial⟩
                     exact(((enA h9).trans (ceC h7 h8)).trans (boB h6)).trans (juB (fo7 h0 h1 h2 h3 h4 h5).symm)
                   · refine Vm hG rfl ?_
                     refine Vk rfl ?_ ?_<;>intro h10
                     · refine Vn hG rfl (Vm hG rfl (Vt ?_))
                       refine⟨?_,trivial⟩
                       exact(((enB h9 h10).trans (ceC h7 h8)).trans (boB h6)).trans (juB (fo7 h0 h1 h2 h3 h4 h5).symm)
                     · refine Vq ?_
                       refine VrD mixed hG rfl (by kernel_rfl) ?_ ?_
                       · exact⟨usPieceLen hc,mandW (usPieceLen hc)⟩
                       refine Vk rfl ?_ ?_<;>intro h11
                       · refine Vn hG rfl (Vm hG rfl (Vt ?_))
                         refine⟨?_,trivial⟩
                         exact(((enC h9 h10 h11).trans (ceC h7 h8)).trans (boB h6)).trans (juB (fo7 h0 h1 h2 h3 h4 h5).symm)
                       · refine Vs (Vm hG rfl (Vt ?_))
                         refine⟨?_,trivial⟩
                         exact(((enD h9 h10 h11).trans (ceC h7 h8)).trans (boB h6)).trans (juB (fo7 h0 h1 h2 h3 h4 h5).symm)
noncomputable def F49:Fun:=⟨[.pair Y34 Y55,.pair Y66 Y37,.pair (.int .i64) Y13,.pair (.int .i64) Y48],[.pure Y24],fun x=>(fun(_:Frame) (e:Evidence) (_:Doc) (_:Sig)=>Sm big20 Y71 e∧((cellsC Y66 e.1:Nat):Int)≤2000000000) x.1 x.2.1 x.2.2.1 x.2.2.2.1,fun x=>(judgeDocF x.1 x.2.1 x.2.2.1 x.2.2.2.1,())⟩
theorem F49_ok:Meets Tryz.prog 49 F49:=by
 refine mZ (C:=mkC 20 [8] [0,1,2,3,4,5,6,7,8] [⟨92,_,F92_ok⟩,⟨93,_,F93_ok⟩,⟨91,_,F91_ok⟩]) (mO _ _ _ _) (fO _) Tryz.func49 rfl rfl rfl (by decide) rfl ?_
 rintro⟨a0,a1,a2,a3,_⟩ hwf hpre ⟨⟩ hG rfl rfl
 show Vc _ _ [(0,⟨0,0,.c Z67 a0⟩),(1,⟨0,0,.c Z72 a1⟩),(2,⟨0,0,.c Z25 a2⟩),(3,⟨0,0,.c Z52 a3⟩)] _
 have hS:Sm big20 Y66 a1.1:=hpre.1.1
 have hT:Sm big20 (.slice (.slice TStamp)) a1.2:=hpre.1.2
 have hc:((cellsC Y66 a1.1:Nat):Int)≤2000000000:=hpre.2
 refine Vm hG rfl (Vq ?_)
 refine VrD mixed hG rfl (by kernel_rfl) ?_ ?_
 · exact⟨hS,trivial,hpre⟩
 refine Vt ?_
 refine⟨?_,trivial⟩
 all_goals exact rfl
noncomputable def F13:Fun:=⟨[.pair Y34 Y55,.pair Y66 Y37,.pair (.int .i64) Y13,.pair (.int .i64) Y48],[.pair Z70 Z39],fun x=>(fun(_:Frame) (e:Evidence) (_:Doc) (_:Sig)=>Sm big20 Y71 e∧((cellsC Y66 e.1:Nat):Int)≤2000000000) x.1 x.2.1 x.2.2.1 x.2.2.2.1,fun x=>(smallF x.1 x.2.1 x.2.2.1 x.2.2.2.1,())⟩
theorem F13_ok:Meets Tryz.prog 13 F13:=by
 refine mZ (C:=mkC 54 [8] [0,1,2,3,4,5,6,7,8,9,10,11,12,26,51] [⟨48,_,F48_ok⟩,⟨49,_,F49_ok⟩]) (mO _ _ _ _) (fO _) Tryz.func13 rfl rfl rfl (by decide) rfl ?_
 rintro⟨a0,a1,a2,a3,_⟩ hwf hpre ⟨⟩ hG rfl rfl
 show Vc _ _ [(0,⟨0,0,.c Z67 a0⟩),(1,⟨0,0,.c Z72 a1⟩),(2,⟨0,0,.c Z25 a2⟩),(3,⟨0,0,.c Z52 a3⟩)] _
 have hS0:Sm big20 Y71 a1:=hpre.1
 have hc:((cellsC Y66 a1.1:Nat):Int)≤2000000000:=hpre.2
 refine Vm hG rfl (Vq ?_)
 refine Vr hG rfl ?_ ?_
 · exact hS0
 refine Vq ?_
 refine Vr hG rfl ?_ ?_
 · exact hpre
 refine Vq (Vm hG rfl (Vb ?_))
 refine Vc.loopF [(9,true,.pair Z70 Z39),(11,false,.pure (.int .i64))] [0,1,2,3,4,5,6,7,8,10] (fun v=>smInv a0 a1 a2 a3 v.1 v.2.1) (fun v=>(v.2.1+1:Int).toNat) rfl ?_ ?_
 · exact smStart hS0
 rintro⟨o,(i:Int),_⟩ hI
 have hI:smInv a0 a1 a2 a3 o i:=hI
 refine Vq (Vm hG rfl ?_)
 refine Vk rfl ?_ ?_<;>intro h0
 · have hl:¬i<0:=Int.not_lt.2 (oTr h0)
   have fa:=smFacts hI hl
   have fb:=smFactsB hI hl
   have pa:=smPreA hI hl hc
   have pb:=smPreB hI hl hc
   have pe:=smPre hI hl hc
   refine Vs (Vq ?_)
   rcases Bool.eq_false_or_eq_true ((judgeDocF a0 (lessE o i) a2 a3).1==(judgeDocF a0 a1 a2 a3).1)with hd | hd
   · refine Vb (Vq ?_)
     refine VrL mixed hG rfl (by kernel_rfl) ?_ ?_
     · repeat' (first | exact trivial | exact fb.1 | exact fb.2.1 | exact fb.2.2 | exact fa.1 | exact fa.2.1 | exact fa.2.2.1 | exact fa.2.2.2.1 | exact fa.2.2.2.2.1 | exact fa.2.2.2.2.2.1 | exact fa.2.2.2.2.2.2 | exact Int.le_refl _ | refine And.intro ?_ ?_ | intro _)
     refine Vq ?_
     refine Vr hG rfl ?_ ?_
     · first
         | exact pb
         | exact pe
     refine Vk rfl ?_ ?_<;>intro h1
     · have st:=smYesB hI hl (show ((judgeDocF a0 (lessB o i) a2 a3).1==(judgeDocF a0 a1 a2 a3).1)=true from h1)
       refine VrT hG rfl (by trivial) (Vn hG rfl ?_)
       refine⟨rfl,?_⟩
       exact st
     · exact tfB hd (show ((judgeDocF a0 (lessE o i) a2 a3).1==(judgeDocF a0 a1 a2 a3).1)=false from(by rw[←lessA_eq (smRange hI hl) (smBig hI),←lessB_A];exact h1))
       --.elim
   · refine Vc.shadow [0,1,2,3,4,5,6,7,8,9,10,26,11] [0,1,2,3,4,5,6,7,8,9,10,26] 11 (.int .i64) rfl rfl rfl hG ?_
     rintro⟨P2,C2,B2,X2,w2,M2,pv2⟩ hH rfl rfl
     refine Vb (Vq ?_)
     refine VrD mixed hH rfl (by kernel_rfl) ?_ ?_
     · repeat' (first | exact trivial | exact fb.1 | exact fb.2.1 | exact fb.2.2 | exact fa.1 | exact fa.2.1 | exact fa.2.2.1 | exact fa.2.2.2.1 | exact fa.2.2.2.2.1 | exact fa.2.2.2.2.2.1 | exact fa.2.2.2.2.2.2 | exact Int.le_refl _ | refine And.intro ?_ ?_ | intro _)
     refine Vq ?_
     refine Vr hH rfl ?_ ?_
     · first
         | exact pb
         | exact pe
     refine Vk rfl ?_ ?_<;>intro h2
     · exact(tfB (p:=False) h2 hd).elim
     · have st:=smNo hI hl hd
       refine Vs ?_
       refine⟨_,rfl,?_⟩
       refine Vn hG rfl ?_
       refine⟨rfl,?_⟩
       exact st
 · have hl:i<0:=Int.not_le.1 (oFa h0)
   refine Vx (Vm hG rfl (Vt ?_))
   refine⟨?_,trivial⟩
   exact smEnd hI hl
end Fw
