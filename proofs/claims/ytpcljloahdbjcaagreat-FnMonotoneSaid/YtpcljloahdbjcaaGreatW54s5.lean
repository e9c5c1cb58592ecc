/- Walks of functions of the program: what each computes. Conditions: those that each contract names. -/
import Derived.Test.YtpcljloahdbjcaaGreatW54T
import Derived.Test.YtpcljloahdbjcaaGreatW54s0
import Derived.Test.YtpcljloahdbjcaaGreatW54s3
import Derived.Test.YtpcljloahdbjcaaGreatW54s4
set_option linter.unusedVariables false
namespace Fw
open Go Go.Proofs
set_option linter.unusedSimpArgs false
set_option maxRecDepth 100000
noncomputable def F343:Fun:=⟨[.slice Y34,.int .i64],[.pure (.int .i64)],fun _=>True,fun x=>(goodUntilF x.1 x.2.1,())⟩
theorem F343_ok:Meets Tryz.prog 343 F343:=by
 refine mZ (C:=mkC 55 [4] [0,1,4,5,6,7,11,20,26,44,51] [⟨294,_,F294_ok⟩]) (mO _ _ _ _) (fO _) Tryz.func343 rfl rfl rfl (by decide) rfl ?_
 rintro⟨a0,(a1:Int),_⟩ hwf hpre ⟨⟩ hG rfl rfl
 show Vc _ _ [(0,⟨0,0,.c Z38 a0⟩),(1,⟨0,0,.c (.pure (.int .i64)) a1⟩)] _
 have hb:List.length a0≤bigLen:=hwf.1.1
 refine Vm hG rfl (Vm hG rfl (Vm hG rfl (Vq ?_)))
 refine Vm hG rfl (Vb ?_)
 refine Vc.loopF [(5,false,.pure (.int .i64)),(6,false,.pure (.int .i64)),(7,false,.pure (.int .i64))] [0,1,4,51] (fun v=>foInv (lsS a1) (-1) a0 v.1 v.2.2.1∧foInv (gsS a1) (-1) a0 v.2.1 v.2.2.1) (fun v=>((List.length a0:Int)-v.2.2.1).toNat) rfl ?_ ?_
 · exact⟨foStart,foStart⟩
 rintro⟨(x:Int),(y:Int),(i:Int),_⟩ hI
 have hI:foInv (lsS a1) (-1) a0 x i∧foInv (gsS a1) (-1) a0 y i:=hI
 refine Vq (Vm hG rfl ?_)
 refine Vk rfl ?_ ?_<;>intro h0
 · have hl:i<(List.length a0:Int):=oTr h0
   refine Vs (Vq (Vb (Vq ?_)))
   refine Vq ?_
   refine Vr hG rfl ?_ ?_
   · exact foRange hI.1 hl
   refine Vk rfl ?_ ?_<;>intro h1
   · have g1:((List.getD a0 i.toNat (dflt Y34)).1 != a1)=true:=h1
     have st:=fo2 (d:=dflt Y34) hI hl hb (lsN1 g1) (gsN1 g1)
     refine Vx (Vn hG rfl ?_)
     refine⟨rfl,?_⟩
     exact st
   · have g1:((List.getD a0 i.toNat (dflt Y34)).1 != a1)=false:=h1
     refine Vs (Vq ?_)
     refine Vr hG rfl ?_ ?_
     · exact foRange hI.1 hl
     refine Vk rfl ?_ ?_<;>intro h2
     · have g2:(List.getD a0 i.toNat (dflt Y34)).2.2.1<0:=oTr h2
       have st:=fo2 (d:=dflt Y34) hI hl hb (lsN2 g2) (gsY g1 g2)
       refine Vr hG rfl ?_ ?_
       · exact⟨foRange hI.1 hl,trivial⟩
       refine Vn hG rfl ?_
       refine⟨rfl,?_⟩
       exact st
     · have g2:¬(List.getD a0 i.toNat (dflt Y34)).2.2.1<0:=oFa h2
       refine Vq ?_
       refine Vr hG rfl ?_ ?_
       · repeat' (first | exact trivial | exact foRange hI.1 hl | refine And.intro ?_ ?_ | intro _)
       refine Vk rfl ?_ ?_<;>intro h3
       · have st:=fo2 (d:=dflt Y34) hI hl hb (lsY g1 g2 h3) (gsN2 g2)
         refine Vr hG rfl ?_ ?_
         · exact foRange hI.1 hl
         refine Vn hG rfl ?_
         refine⟨rfl,?_⟩
         exact st
       · have st:=fo2 (d:=dflt Y34) hI hl hb (lsN3 h3) (gsN2 g2)
         refine Vs (Vn hG rfl ?_)
         refine⟨rfl,?_⟩
         exact st
 · have hl:¬i<(List.length a0:Int):=oFa h0
   refine Vx (Vq (Vm hG rfl ?_))
   refine Vk rfl ?_ ?_<;>intro h4
   · refine Vm hG rfl (Vt ?_)
     refine⟨?_,trivial⟩
     exact guA (foEnd hI.1 hl) h4
   · refine Vs (Vm hG rfl (Vt ?_))
     refine⟨?_,trivial⟩
     exact guB (foEnd hI.1 hl) (foEnd hI.2 hl) h4
noncomputable def F364:Fun:=⟨[.pair (.int .i64) (.int .i64),.pair (.int .i64) (.int .i64)],[.pure Y5,.pure (.bool)],fun _=>True,fun x=>((meetF x.1 x.2.1).1,(meetF x.1 x.2.1).2,())⟩
theorem F364_ok:Meets Tryz.prog 364 F364:=by
 refine mZ (C:=mkC 28 [4,5] [0,1,2,3,4,5,13] [⟨299,_,F299_ok⟩,⟨294,_,F294_ok⟩,⟨285,_,F285_ok⟩,⟨344,_,F344_ok⟩]) (mO _ _ _ _) (fO _) Tryz.func364 rfl rfl rfl (by decide) rfl ?_
 rintro⟨a0,a1,_⟩ hwf hpre ⟨⟩ hG rfl rfl
 show Vc _ _ [(0,⟨0,0,.c Z9 a0⟩),(1,⟨0,0,.c Z9 a1⟩)] _
 refine Vm hG rfl (Vq (Vq ?_))
 refine Vr hG rfl ?_ ?_
 · repeat' (first | exact trivial | refine And.intro ?_ ?_ | intro _)
 refine Vk rfl ?_ ?_<;>intro h0
 · refine Vm hG rfl (Vt ?_)
   have e:=meS0 h0
   refine⟨?_,?_,trivial⟩
   · exact(congrArg Prod.fst e).symm
   · exact(congrArg Prod.snd e).symm
 · refine Vs (Vq (VrD mixed hG rfl (by kernel_rfl) (by trivial) (Vt ?_)))
   have e:=meS1 h0
   refine⟨?_,?_,trivial⟩
   · exact(congrArg Prod.fst e).symm
   · exact(congrArg Prod.snd e).symm
noncomputable def F345:Fun:=⟨[.slice Y5,.slice Y5],[.own Z9],fun x=>(fun(a b:List Span)=>List.length a≤1000∧List.length b≤1000) x.1 x.2.1,fun x=>(meetAllF x.1 x.2.1,())⟩
theorem F345_ok:Meets Tryz.prog 345 F345:=by
 refine mZ (C:=mkC 42 [4] [0,1,4,5,6,7,8,9,14,20,35] [⟨364,_,F364_ok⟩,⟨339,_,F339_ok⟩]) (mO _ _ _ _) (fO _) Tryz.func345 rfl rfl rfl (by decide) rfl ?_
 rintro⟨a0,a1,_⟩ hwf hpre ⟨⟩ hG rfl rfl
 show Vc _ _ [(0,⟨0,0,.c Z14 a0⟩),(1,⟨0,0,.c Z14 a1⟩)] _
 have hp1:List.length a0≤1000:=hpre.1
 have hp2:List.length a1≤1000:=hpre.2
 have hb:List.length a0≤bigLen:=hwf.1.1
 have hb1:List.length a1≤bigLen:=hwf.2.1.1
 refine Vm hG rfl (Vm hG rfl (Vq (Vm hG rfl ?_)))
 refine Vb ?_
 refine Vc.loopF [(5,false,.own Z9),(6,false,.pure (.int .i64))] [0,1,4] (fun v=>foInv (meR a1) [] a0 v.1 v.2.1) (fun v=>((List.length a0:Int)-v.2.1).toNat) rfl ?_ ?_
 · exact foStart
 rintro⟨acc,(i:Int),_⟩ hI
 have hI:foInv (meR a1) [] a0 acc i:=hI
 have hA:List.length acc≤1000000:=meLenI hI hp1 hp2
 refine Vq (Vm hG rfl ?_)
 refine Vk rfl ?_ ?_<;>intro h0
 · have hl:i<(List.length a0:Int):=oTr h0
   refine Vs (Vq (Vb (Vm hG rfl ?_)))
   refine Vb ?_
   refine Vc.loopF [(5,false,.own Z9),(7,false,.pure (.int .i64))] [0,1,4,6,14] (fun v=>foInv (meG (List.getD a0 i.toNat (dflt Y5))) acc a1 v.1 v.2.1) (fun v=>((List.length a1:Int)-v.2.1).toNat) rfl ?_ ?_
   · exact foStart
   rintro⟨ac2,(k:Int),_⟩ hK
   have hK:foInv (meG (List.getD a0 i.toNat (dflt Y5))) acc a1 ac2 k:=hK
   have hA2:List.length ac2≤2000000:=meLenJ hK hA hp2
   refine Vq (Vm hG rfl ?_)
   refine Vk rfl ?_ ?_<;>intro h1
   · have hm:k<(List.length a1:Int):=oTr h1
     refine Vs (Vq (Vb (Vq ?_)))
     refine VrD mixed hG rfl (by kernel_rfl) ?_ ?_
     · exact⟨foRange hI hl,foRange hK hm,trivial⟩
     refine Vm hG rfl ?_
     refine Vk rfl ?_ ?_<;>intro h2
     · have g2:(meetF (List.getD a0 i.toNat (dflt Y5)) (List.getD a1 k.toNat (dflt Y5))).2=true:=h2
       have st:=foStepE (d:=dflt Y5) hK hm hb1 (meY g2)
       refine Vr hG rfl ?_ ?_
       · exact meApp hA2
       refine Vn hG rfl ?_
       refine⟨rfl,?_⟩
       exact st
     · have g2:(meetF (List.getD a0 i.toNat (dflt Y5)) (List.getD a1 k.toNat (dflt Y5))).2=false:=h2
       have st:=foStepE (d:=dflt Y5) hK hm hb1 (meN (acc:=ac2) g2)
       refine Vs (Vn hG rfl ?_)
       refine⟨rfl,?_⟩
       exact st
   · have hm:¬k<(List.length a1:Int):=oFa h1
     refine Vx (Vn hG rfl ?_)
     refine⟨rfl,?_⟩
     exact foStepE (d:=dflt Y5) hI hl hb (foEnd hK hm)
 · have hl:¬i<(List.length a0:Int):=oFa h0
   refine Vx (Vq ?_)
   refine Vr hG rfl ?_ ?_
   · exact meBig hp1 hp2 (foEnd hI hl)
   refine Vt ?_
   refine⟨?_,trivial⟩
   exact congrArg joinF (foEnd hI hl)
noncomputable def F298:Fun:=⟨[.pair (.int .i64) Y40,.slice Y34],[.own Z9],fun _=>True,fun x=>(goodSpansF x.1 x.2.1,())⟩
theorem F298_ok:Meets Tryz.prog 298 F298:=by
 refine mZ (C:=mkC 30 [4] [0,1,2,4,5,6,7,22] [⟨343,_,F343_ok⟩,⟨344,_,F344_ok⟩,⟨346,_,F346_ok⟩,⟨345,_,F345_ok⟩]) (mO _ _ _ _) (fO _) Tryz.func298 rfl rfl rfl (by decide) rfl ?_
 rintro⟨a0,a1,_⟩ hwf hpre ⟨⟩ hG rfl rfl
 show Vc _ _ [(0,⟨0,0,.c Z48 a0⟩),(1,⟨0,0,.c Z38 a1⟩)] _
 refine Vm hG rfl (Vm hG rfl (Vm hG rfl (Vq ?_)))
 refine Vm hG rfl ?_
 refine Vk rfl ?_ ?_<;>intro h0
 · refine Vm hG rfl (Vt ?_)
   refine⟨?_,trivial⟩
   exact gsNone h0
 · refine Vs (Vq ?_)
   refine VrD mixed hG rfl (by kernel_rfl) ?_ ?_
   · exact⟨trivial,one1,one1⟩
   refine Vt ?_
   refine⟨?_,trivial⟩
   exact gsSome h0
noncomputable def F217:Fun:=⟨[.pair (.int .i64) Y40,.slice Y34,.pair (.int .i64) (.int .i64)],[.pure (.bool)],fun _=>True,fun x=>((fun c l s=>coversF (goodSpansF c l) s) x.1 x.2.1 x.2.2.1,())⟩
theorem F217_ok:Meets Tryz.prog 217 F217:=by
 refine mZ (C:=mkC 12 [6] [0,1,2,3,5,6] [⟨298,_,F298_ok⟩,⟨296,_,F296_ok⟩]) (mO _ _ _ _) (fO _) Tryz.func217 rfl rfl rfl (by decide) rfl ?_
 rintro⟨a0,a1,a2,_⟩ hwf hpre ⟨⟩ hG rfl rfl
 show Vc _ _ [(0,⟨0,0,.c Z48 a0⟩),(1,⟨0,0,.c Z38 a1⟩),(2,⟨0,0,.c Z9 a2⟩)] _
 refine Vm hG rfl (Vq ?_)
 refine VrD mixed hG rfl (by kernel_rfl) ?_ ?_
 · exact⟨trivial,Nat.le_trans (goodLen a0 a1) (by decide)⟩
 refine Vt ?_
 refine⟨?_,trivial⟩
 all_goals exact rfl
noncomputable def F219:Fun:=⟨[.slice Y19],[.own Z43],fun x=>(fun a0=>List.length a0≤2000000000) x.1,fun x=>(mandatesF x.1,())⟩
theorem F219_ok:Meets Tryz.prog 219 F219:=by
 refine mZ (C:=mkC 28 [2] [0,2,3,4,5,6,11,22] [⟨301,_,F301_ok⟩]) (mO _ _ _ _) (fO _) Tryz.func219 rfl rfl rfl (by decide) rfl ?_
 rintro⟨a0,_⟩ hwf hpre ⟨⟩ hG rfl rfl
 show Vc _ _ [(0,⟨0,0,.c Z28 a0⟩)] _
 have hb:List.length a0≤bigLen:=hwf.1.1
 have hs:List.length a0≤2000000000:=hpre
 refine Vm hG rfl (Vm hG rfl (Vq (Vm hG rfl ?_)))
 refine Vb ?_
 refine Vc.loopF [(3,false,.own Z43),(4,false,.pure (.int .i64))] [0,2] (fun v=>pkInv (pieceMandF) a0 v.1 v.2.1) (fun v=>((List.length a0:Int)-v.2.1).toNat) rfl ?_ ?_
 · exact pkStart
 rintro⟨acc,(i:Int),_⟩ hI
 have hI:pkInv (pieceMandF) a0 acc i:=hI
 refine Vq (Vm hG rfl ?_)
 refine Vk rfl ?_ ?_<;>intro h0
 · have hl:i<(List.length a0:Int):=oTr h0
   refine Vs (Vq (Vb (Vq ?_)))
   refine Vr hG rfl ?_ ?_
   · exact⟨pkRange hI hl,trivial⟩
   refine Vm hG rfl ?_
   refine Vk rfl ?_ ?_<;>intro h1
   · have g1:((pieceMandF) (List.getD a0 i.toNat (dflt Y19))).2=true:=h1
     refine Vr hG rfl ?_ ?_
     · exact pkLenW hI hs
     refine Vn hG rfl ?_
     refine⟨rfl,?_⟩
     first
       | exact pkYes (d:=dflt Y19) hI hl hb g1
       | exact pkNo (d:=dflt Y19) hI hl hb g1
   · have g1:((pieceMandF) (List.getD a0 i.toNat (dflt Y19))).2=false:=h1
     refine Vs (Vn hG rfl ?_)
     refine⟨rfl,?_⟩
     first
       | exact pkYes (d:=dflt Y19) hI hl hb g1
       | exact pkNo (d:=dflt Y19) hI hl hb g1
 · have hl:¬i<(List.length a0:Int):=oFa h0
   refine Vx (Vm hG rfl (Vt ?_))
   refine⟨?_,trivial⟩
   exact pkEnd hI hl
noncomputable def F347:Fun:=⟨[.slice Y34,.pair (.int .i64) Y34],[.pure (.bool)],fun _=>True,fun x=>(checkMandF x.1 x.2.1,())⟩
theorem F347_ok:Meets Tryz.prog 347 F347:=by
 refine mZ (C:=mkC 26 [4] [0,1,3,4] [⟨309,_,F309_ok⟩,⟨242,_,F242_ok⟩,⟨310,_,F310_ok⟩,⟨330,_,F330_ok⟩]) (mO _ _ _ _) (fO _) Tryz.func347 rfl rfl rfl (by decide) rfl ?_
 rintro⟨a0,a1,_⟩ hwf hpre ⟨⟩ hG rfl rfl
 show Vc _ _ [(0,⟨0,0,.c Z38 a0⟩),(1,⟨0,0,.c Z43 a1⟩)] _
 refine Vm hG rfl (Vq ?_)
 refine VrD mixed hG rfl (by kernel_rfl) ?_ ?_
 · repeat' (first | exact trivial | exact smallLit (n:=6) rfl (by decide) | refine And.intro ?_ ?_ | intro _)
 refine Vt ?_
 refine⟨?_,trivial⟩
 all_goals exact rfl
noncomputable def F300:Fun:=⟨[.slice Y34,.slice Y40,.int .i64,.int .i64],[.own Z9],fun x=>(fun(_:List Key) (l:List Mandate) (_ _:Int)=>List.length l≤2000000000) x.1 x.2.1 x.2.2.1 x.2.2.2.1,fun x=>(mandSpansF x.1 x.2.1 x.2.2.1 x.2.2.2.1,())⟩
theorem F300_ok:Meets Tryz.prog 300 F300:=by
 refine mZ (C:=mkC 58 [8] [0,1,2,3,8,9,10,15,41] [⟨347,_,F347_ok⟩,⟨339,_,F339_ok⟩]) (mO _ _ _ _) (fO _) Tryz.func300 rfl rfl rfl (by decide) rfl ?_
 rintro⟨a0,a1,(a2:Int),(a3:Int),_⟩ hwf hpre ⟨⟩ hG rfl rfl
 show Vc _ _ [(0,⟨0,0,.c Z38 a0⟩),(1,⟨0,0,.c Z46 a1⟩),(2,⟨0,0,.c (.pure (.int .i64)) a2⟩),(3,⟨0,0,.c (.pure (.int .i64)) a3⟩)] _
 have hs:List.length a1≤2000000000:=hpre
 have hb:List.length a1≤bigLen:=hwf.2.1.1
 refine Vm hG rfl (Vm hG rfl (Vq (Vm hG rfl ?_)))
 refine Vb ?_
 refine Vc.loopF [(9,false,.own Z9),(10,false,.pure (.int .i64))] [0,1,2,3,8] (fun v=>pkInv (mdF a0 a2 a3) a1 v.1 v.2.1) (fun v=>((List.length a1:Int)-v.2.1).toNat) rfl ?_ ?_
 · exact pkStart
 rintro⟨acc,(i:Int),_⟩ hI
 have hI:pkInv (mdF a0 a2 a3) a1 acc i:=hI
 refine Vq (Vm hG rfl ?_)
 refine Vk rfl ?_ ?_<;>intro h0
 · have hl:i<(List.length a1:Int):=oTr h0
   refine Vs (Vq (Vb (Vq ?_)))
   refine Vr hG rfl ?_ ?_
   · repeat' (first | exact pkRange hI hl | exact trivial | refine And.intro ?_ ?_ | intro _)
   refine Vk rfl ?_ ?_<;>intro h1
   · have g1:((mdF a0 a2 a3) (List.getD a1 i.toNat (dflt Y40))).2=true:=h1
     have st:=pkYes (d:=dflt Y40) hI hl hb g1
     refine VrD mixed hG rfl (by kernel_rfl) ?_ ?_
     · exact⟨pkRange hI hl,pkRange hI hl,pkLenW hI hs⟩
     refine Vn hG rfl ?_
     refine⟨rfl,?_⟩
     exact st
   · have g1:((mdF a0 a2 a3) (List.getD a1 i.toNat (dflt Y40))).2=false:=h1
     have st:=pkNo (d:=dflt Y40) hI hl hb g1
     refine Vs (Vn hG rfl ?_)
     refine⟨rfl,?_⟩
     exact st
 · have hl:¬i<(List.length a1:Int):=oFa h0
   refine Vx (Vq ?_)
   refine Vr hG rfl ?_ ?_
   · exact pkBigW hs (pkEnd hI hl)
   refine Vt ?_
   refine⟨?_,trivial⟩
   exact congrArg joinF (pkEnd hI hl)
noncomputable def F218:Fun:=⟨[.slice Y34,.slice Y40,.int .i64,.int .i64,.pair (.int .i64) (.int .i64)],[.pure (.bool)],fun x=>(fun(_:List Key) (l:List Mandate) (_ _:Int) (_:Span)=>List.length l≤2000000000) x.1 x.2.1 x.2.2.1 x.2.2.2.1 x.2.2.2.2.1,fun x=>(maySignF x.1 x.2.1 x.2.2.1 x.2.2.2.1 x.2.2.2.2.1,())⟩
theorem F218_ok:Meets Tryz.prog 218 F218:=by
 refine mZ (C:=mkC 22 [10] [0,1,2,3,4,9,10,12] [⟨299,_,F299_ok⟩,⟨300,_,F300_ok⟩,⟨296,_,F296_ok⟩]) (mO _ _ _ _) (fO _) Tryz.func218 rfl rfl rfl (by decide) rfl ?_
 rintro⟨a0,a1,(a2:Int),(a3:Int),a4,_⟩ hwf hpre ⟨⟩ hG rfl rfl
 show Vc _ _ [(0,⟨0,0,.c Z38 a0⟩),(1,⟨0,0,.c Z46 a1⟩),(2,⟨0,0,.c (.pure (.int .i64)) a2⟩),(3,⟨0,0,.c (.pure (.int .i64)) a3⟩),(4,⟨0,0,.c Z9 a4⟩)] _
 have hs:List.length a1≤2000000000:=hpre
 refine Vm hG rfl (Vq (Vm hG rfl ?_))
 refine Vk rfl ?_ ?_<;>intro h0
 · refine Vm hG rfl (Vt ?_)
   refine⟨?_,trivial⟩
   exact mayS h0
 · refine Vs (Vq ?_)
   refine VrD mixed hG rfl (by kernel_rfl) ?_ ?_
   · exact⟨hs,mandSpLen hs⟩
   refine Vt ?_
   refine⟨?_,trivial⟩
   exact mayN h0
noncomputable def F143:Fun:=⟨[.pair Y36 Y57,.pair Y67 Y39,.slice (.slice (.int .i64)),.int .i64,.pair (.int .i64) Y50],[.pure Y26],fun x=>(fun(_:Frame) (e:Evidence) (_:List (List Int)) (_:Int) (_:Sig)=>Sm big20 Y72 e∧((cellsC Y67 e.1:Nat):Int)≤2000000000) x.1 x.2.1 x.2.2.1 x.2.2.2.1 x.2.2.2.2.1,fun x=>(judgeF x.1 x.2.1 x.2.2.1 x.2.2.2.1 x.2.2.2.2.1,())⟩
set_option maxHeartbeats 2000000 in
theorem F143_ok:Meets Tryz.prog 143 F143:=by
 refine mZ (C:=mkC 120 [10] [0,1,2,3,4,5,6,9,10,11,12,13,14,15,16,17,18,19,26,58,72,81,89,96,104] [⟨206,_,F206_ok⟩,⟨208,_,F208_ok⟩,⟨207,_,F207_ok⟩,⟨209,_,F209_ok⟩,⟨210,_,F210_ok⟩,⟨211,_,F211_ok⟩,⟨212,_,F212_ok⟩,⟨213,_,F213_ok⟩,⟨214,_,F214_ok⟩,⟨215,_,F215_ok⟩,⟨216,_,F216_ok⟩,⟨217,_,F217_ok⟩,⟨219,_,F219_ok⟩,⟨218,_,F218_ok⟩]) (mO _ _ _ _) (fO _) Tryz.func143 rfl rfl rfl (by decide) rfl ?_
 rintro⟨a0,a1,a2,(a3:Int),a4,_⟩ hwf hpre ⟨⟩ hG rfl rfl
 show Vc _ _ [(0,⟨0,0,.c Z68 a0⟩),(1,⟨0,0,.c Z73 a1⟩),(2,⟨0,0,.c Z8 a2⟩),(3,⟨0,0,.c (.pure (.int .i64)) a3⟩),(4,⟨0,0,.c Z54 a4⟩)] _
 have hS:Sm big20 Y67 a1.1:=hpre.1.1
 have hT:Sm big20 (.slice (.slice TStamp)) a1.2:=hpre.1.2
 have hc:((cellsC Y67 a1.1:Nat):Int)≤2000000000:=hpre.2
 refine Vm hG rfl (Vm hG rfl (Vq (Vm hG rfl ?_)))
 refine Vk rfl ?_ ?_<;>intro h0
 · refine Vm hG rfl (Vt ?_)
   refine⟨?_,trivial⟩
   exact juA h0
 · have k0:=foKey (bneI h0)
   refine Vs (Vq ?_)
   refine VrD mixed hG rfl (by kernel_rfl) ?_ ?_
   · exact⟨trivial,hS⟩
   refine Vq ?_
   refine VrD mixed hG rfl (by kernel_rfl) ?_ ?_
   · exact⟨trivial,findRange k0⟩
   refine Vq (Vq ?_)
   refine Vr hG rfl ?_ ?_
   · repeat' (first | exact trivial | refine And.intro ?_ ?_ | intro _)
   refine Vk rfl ?_ ?_<;>intro h1
   · have g1:pick2 (decide (evBoundF a0 a1 a2 (signPieceF a4)≥brkKeyF a0 a4.1)) true (decide (evBoundF a0 a1 a2 (signPieceF a4)≥breakF a0.2.2.1 a4.2.2.1))=true:=by rw[←bk1 k0];exact h1
     refine Vm hG rfl (Vt ?_)
     refine⟨?_,trivial⟩
     exact(boA g1).trans (juC h0)
   · have g1:pick2 (decide (evBoundF a0 a1 a2 (signPieceF a4)≥brkKeyF a0 a4.1)) true (decide (evBoundF a0 a1 a2 (signPieceF a4)≥breakF a0.2.2.1 a4.2.2.1))=false:=by rw[←bk1 k0];exact h1
     refine Vs (Vq ?_)
     refine Vr hG rfl ?_ ?_
     · exact⟨hS,hc⟩
     refine Vm hG rfl (Vq (Vm hG rfl ?_))
     refine Vk rfl ?_ ?_<;>intro h2
     · refine Vm hG rfl (Vt ?_)
       refine⟨?_,trivial⟩
       exact((ceA h2).trans (boB g1)).trans (juC h0)
     · refine Vs (Vq ?_)
       refine Vr hG rfl ?_ ?_
       · exact hT
       refine Vq (Vm hG rfl ?_)
       refine Vk rfl ?_ ?_<;>intro h3
       · refine Vm hG rfl (Vt ?_)
         refine⟨?_,trivial⟩
         exact((ceB h2 h3).trans (boB g1)).trans (juC h0)
       · refine Vs (Vm hG rfl (Vq ?_))
         refine Vr hG rfl ?_ ?_
         · exact usPieceLen hc
         refine Vq (Vb (Vm hG rfl ?_))
         refine Vk rfl ?_ ?_<;>intro h4
         · refine Vm hG rfl (Vt ?_)
           refine⟨?_,trivial⟩
           exact(((enA h4).trans (ceC h2 h3)).trans (boB g1)).trans (juC h0)
         · refine Vm hG rfl ?_
           refine Vk rfl ?_ ?_<;>intro h5
           · refine Vm hG rfl (Vt ?_)
             refine⟨?_,trivial⟩
             exact(((enB h4 h5).trans (ceC h2 h3)).trans (boB g1)).trans (juC h0)
           · refine Vq ?_
             refine VrD mixed hG rfl (by kernel_rfl) ?_ ?_
             · exact⟨usPieceLen hc,mandW (usPieceLen hc)⟩
             refine Vk rfl ?_ ?_<;>intro h6
             · refine Vm hG rfl (Vt ?_)
               refine⟨?_,trivial⟩
               exact(((enC h4 h5 h6).trans (ceC h2 h3)).trans (boB g1)).trans (juC h0)
             · refine Vs (Vm hG rfl (Vt ?_))
               refine⟨?_,trivial⟩
               exact(((enD h4 h5 h6).trans (ceC h2 h3)).trans (boB g1)).trans (juC h0)
noncomputable def F63:Fun:=⟨[.pair Y36 Y57,.pair Y67 Y39,.pair (.int .i64) Y13,.pair (.int .i64) Y50],[.pure Y26],fun x=>(fun(_:Frame) (e:Evidence) (_:Doc) (_:Sig)=>Sm big20 Y72 e∧((cellsC Y67 e.1:Nat):Int)≤2000000000) x.1 x.2.1 x.2.2.1 x.2.2.2.1,fun x=>(judgeDocF x.1 x.2.1 x.2.2.1 x.2.2.2.1,())⟩
theorem F63_ok:Meets Tryz.prog 63 F63:=by
 refine mZ (C:=mkC 20 [8] [0,1,2,3,4,5,6,7,8] [⟨144,_,F144_ok⟩,⟨145,_,F145_ok⟩,⟨143,_,F143_ok⟩]) (mO _ _ _ _) (fO _) Tryz.func63 rfl rfl rfl (by decide) rfl ?_
 rintro⟨a0,a1,a2,a3,_⟩ hwf hpre ⟨⟩ hG rfl rfl
 show Vc _ _ [(0,⟨0,0,.c Z68 a0⟩),(1,⟨0,0,.c Z73 a1⟩),(2,⟨0,0,.c Z27 a2⟩),(3,⟨0,0,.c Z54 a3⟩)] _
 have hS:Sm big20 Y67 a1.1:=hpre.1.1
 have hT:Sm big20 (.slice (.slice TStamp)) a1.2:=hpre.1.2
 have hc:((cellsC Y67 a1.1:Nat):Int)≤2000000000:=hpre.2
 refine Vm hG rfl (Vq ?_)
 refine VrD mixed hG rfl (by kernel_rfl) ?_ ?_
 · exact⟨hS,trivial,hpre⟩
 refine Vt ?_
 refine⟨?_,trivial⟩
 all_goals exact rfl
end Fw
