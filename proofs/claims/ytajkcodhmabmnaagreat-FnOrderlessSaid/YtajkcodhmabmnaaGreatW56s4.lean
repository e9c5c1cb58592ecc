/- Walks of functions of the program: what each computes. Conditions: those that each contract names. -/
import Derived.Test.YtajkcodhmabmnaaGreatW56T
import Derived.Test.YtajkcodhmabmnaaGreatW56s0
import Derived.Test.YtajkcodhmabmnaaGreatW56s1
import Derived.Test.YtajkcodhmabmnaaGreatW56s3
namespace Fw
open Go Go.Proofs
set_option linter.unusedSimpArgs false
set_option maxRecDepth 100000
noncomputable def F187:Fun:=⟨[.pair Y36 Y57,.int .i64,.pair (.int .i64) Y50],[.pure Y26],fun _=>True,fun x=>(formF x.1 x.2.1 x.2.2.1,())⟩
theorem F187_ok:Meets Tryz.prog 187 F187:=by
 refine mZ (C:=mkC 43 [6] [0,1,2,3,5,6,7,12,17,21,27,35] [⟨248,_,F248_ok⟩,⟨190,_,F190_ok⟩,⟨242,_,F242_ok⟩,⟨249,_,F249_ok⟩,⟨143,_,F143_ok⟩,⟨250,_,F250_ok⟩]) (mO _ _ _ _) (fO _) Tryz.func187 rfl rfl rfl (by decide) rfl ?_
 rintro⟨a0,(a1:Int),a2,_⟩ hwf hpre ⟨⟩ hG rfl rfl
 show Vc _ _ [(0,⟨0,0,.c Z68 a0⟩),(1,⟨0,0,.c (.pure (.int .i64)) a1⟩),(2,⟨0,0,.c Z54 a2⟩)] _
 refine Vm hG rfl (Vq (Vb (Vm hG rfl ?_)))
 refine Vk rfl ?_ ?_<;>intro h0
 · refine Vm hG rfl (Vt ?_)
   refine⟨?_,trivial⟩
   exact fo1 h0
 · refine Vm hG rfl ?_
   refine Vk rfl ?_ ?_<;>intro h1
   · refine Vm hG rfl (Vt ?_)
     refine⟨?_,trivial⟩
     exact fo2' h0 h1
   · refine Vm hG rfl ?_
     refine Vk rfl ?_ ?_<;>intro h2
     · refine Vm hG rfl (Vt ?_)
       refine⟨?_,trivial⟩
       exact fo3' h0 h1 h2
     · refine Vm hG rfl ?_
       refine Vk rfl ?_ ?_<;>intro h3
       · refine Vm hG rfl (Vt ?_)
         refine⟨?_,trivial⟩
         exact fo4 h0 h1 h2 h3
       · refine Vm hG rfl ?_
         refine Vk rfl ?_ ?_<;>intro h4
         · refine Vm hG rfl (Vt ?_)
           refine⟨?_,trivial⟩
           exact fo5 h0 h1 h2 h3 h4
         · refine Vm hG rfl ?_
           refine Vk rfl ?_ ?_<;>intro h5
           · refine Vm hG rfl (Vt ?_)
             refine⟨?_,trivial⟩
             exact fo6 h0 h1 h2 h3 h4 h5
           · refine Vs (Vm hG rfl (Vt ?_))
             refine⟨?_,trivial⟩
             exact fo7 h0 h1 h2 h3 h4 h5
noncomputable def F251:Fun:=⟨[.int .i64,.int .i64],[.pure (.int .i64)],fun _=>True,fun x=>((fun(a b:Int)=>min a b) x.1 x.2.1,())⟩
theorem F251_ok:Meets Tryz.prog 251 F251:=by
 refine mZ (C:=mkC 10 [4] [0,1,4,7] []) (mO _ _ _ _) (fO _) Tryz.func251 rfl rfl rfl (by decide) rfl ?_
 rintro⟨(a0:Int),(a1:Int),_⟩ hwf hpre ⟨⟩ hG rfl rfl
 show Vc _ _ [(0,⟨0,0,.c (.pure (.int .i64)) a0⟩),(1,⟨0,0,.c (.pure (.int .i64)) a1⟩)] _
 refine Vm hG rfl (Vq (Vm hG rfl ?_))
 refine Vk rfl ?_ ?_<;>intro h0
 · refine Vm hG rfl (Vt ?_)
   refine⟨?_,trivial⟩
   exact minT h0
 · refine Vs (Vm hG rfl (Vt ?_))
   refine⟨?_,trivial⟩
   exact minE h0
noncomputable def F319:Fun:=⟨[.int .i64,.int .i64],[.pure Y5,.pure (.bool)],fun _=>True,fun x=>((makeSpanF x.1 x.2.1).1,(makeSpanF x.1 x.2.1).2,())⟩
theorem F319_ok:Meets Tryz.prog 319 F319:=by
 refine mZ (C:=mkC 19 [4,5] [0,1,4,5,6,16] [⟨241,_,F241_ok⟩,⟨251,_,F251_ok⟩]) (mO _ _ _ _) (fO _) Tryz.func319 rfl rfl rfl (by decide) rfl ?_
 rintro⟨(a0:Int),(a1:Int),_⟩ hwf hpre ⟨⟩ hG rfl rfl
 show Vc _ _ [(0,⟨0,0,.c (.pure (.int .i64)) a0⟩),(1,⟨0,0,.c (.pure (.int .i64)) a1⟩)] _
 refine Vm hG rfl (Vm hG rfl (Vq (Vm hG rfl ?_)))
 refine Vk rfl ?_ ?_<;>intro h0
 · have g0:max 0 a0>min 10000 a1:=oTr h0
   refine Vm hG rfl (Vt ?_)
   have e:=mkSp0 g0
   refine⟨?_,?_,trivial⟩
   · exact(congrArg Prod.fst e).symm
   · exact(congrArg Prod.snd e).symm
 · have g0:¬max 0 a0>min 10000 a1:=oFa h0
   refine Vs (Vm hG rfl (Vt ?_))
   have e:=mkSp1 g0
   refine⟨?_,?_,trivial⟩
   · exact(congrArg Prod.fst e).symm
   · exact(congrArg Prod.snd e).symm
noncomputable def F311:Fun:=⟨[.slice Y15,.pair (.int .i64) Y26],[.pure Y5,.pure (.bool)],fun _=>True,fun x=>((stampSpanF x.1 x.2.1).1,(stampSpanF x.1 x.2.1).2,())⟩
theorem F311_ok:Meets Tryz.prog 311 F311:=by
 refine mZ (C:=mkC 47 [4,5] [0,1,3,4,5,6,26] [⟨141,_,F141_ok⟩,⟨142,_,F142_ok⟩,⟨319,_,F319_ok⟩]) (mO _ _ _ _) (fO _) Tryz.func311 rfl rfl rfl (by decide) rfl ?_
 rintro⟨a0,a1,_⟩ hwf hpre ⟨⟩ hG rfl rfl
 show Vc _ _ [(0,⟨0,0,.c Z24 a0⟩),(1,⟨0,0,.c Z35 a1⟩)] _
 refine Vm hG rfl (Vm hG rfl (Vq (Vq ?_)))
 refine Vr hG rfl ?_ ?_
 · exact⟨fun h=>findRange (oFa h),fun _=>trivial⟩
 refine Vk rfl ?_ ?_<;>intro h0
 · have g0:ssBad a0 a1=true:=h0
   refine Vm hG rfl (Vt ?_)
   have e:=ss0 g0
   refine⟨?_,?_,trivial⟩
   · exact(congrArg Prod.fst e).symm
   · exact(congrArg Prod.snd e).symm
 · have g0:ssBad a0 a1=false:=h0
   refine Vs (Vq ?_)
   refine VrD mixed hG rfl (by kernel_rfl) ?_ ?_
   · exact⟨ssIdx g0,ssIdx g0,trivial⟩
   refine Vt ?_
   have e:=ss1 g0
   refine⟨?_,?_,trivial⟩
   · exact(congrArg Prod.fst e).symm
   · exact(congrArg Prod.snd e).symm
noncomputable def F349:Fun:=⟨[.slice Y5,.int .i64],[.pure (.int .i64)],fun _=>True,fun x=>(countAtF x.1 x.2.1,())⟩
theorem F349_ok:Meets Tryz.prog 349 F349:=by
 refine mZ (C:=mkC 39 [4] [0,1,4,5,6,10,35] [⟨263,_,F263_ok⟩]) (mO _ _ _ _) (fO _) Tryz.func349 rfl rfl rfl (by decide) rfl ?_
 rintro⟨a0,(a1:Int),_⟩ hwf hpre ⟨⟩ hG rfl rfl
 show Vc _ _ [(0,⟨0,0,.c Z14 a0⟩),(1,⟨0,0,.c (.pure (.int .i64)) a1⟩)] _
 have hb:List.length a0≤bigLen:=hwf.1.1
 refine Vm hG rfl (Vm hG rfl (Vq (Vm hG rfl ?_)))
 refine Vb ?_
 refine Vc.loopF [(5,false,.pure (.int .i64)),(6,false,.pure (.int .i64))] [0,1,4] (fun v=>foInv (cntStep a1) 0 a0 v.1 v.2.1) (fun v=>((List.length a0:Int)-v.2.1).toNat) rfl ?_ ?_
 · exact foStart
 rintro⟨(acc:Int),(i:Int),_⟩ hI
 have hI:foInv (cntStep a1) 0 a0 acc i:=hI
 refine Vq (Vm hG rfl ?_)
 refine Vk rfl ?_ ?_<;>intro h0
 · have hl:i<(List.length a0:Int):=oTr h0
   refine Vs (Vq (Vb (Vq ?_)))
   refine Vr hG rfl ?_ ?_
   · repeat' (first | exact trivial | exact foRange hI hl | refine And.intro ?_ ?_ | intro _)
   refine Vk rfl ?_ ?_<;>intro h1
   · have g1:inSp a1 (List.getD a0 i.toNat (dflt Y5))=true:=cntSpec.symm.trans h1
     have st:=foStepE (d:=dflt Y5) hI hl hb (cntY (n:=acc) g1).symm
     refine Vn hG rfl (Vn hG rfl ?_)
     refine⟨rfl,?_⟩
     exact st
   · have g1:inSp a1 (List.getD a0 i.toNat (dflt Y5))=false:=cntSpec.symm.trans h1
     have st:=foStepE (d:=dflt Y5) hI hl hb (cntN (n:=acc) g1).symm
     refine Vs (Vn hG rfl ?_)
     refine⟨rfl,?_⟩
     exact st
 · have hl:¬i<(List.length a0:Int):=oFa h0
   refine Vx (Vm hG rfl (Vt ?_))
   refine⟨?_,trivial⟩
   exact foEnd hI hl
noncomputable def F338:Fun:=⟨[.slice Y5,.int .i64,.int .i64],[.pure (.bool)],fun _=>True,fun x=>(supF x.1 x.2.1 x.2.2.1,())⟩
theorem F338_ok:Meets Tryz.prog 338 F338:=by
 refine mZ (C:=mkC 22 [6] [0,1,2,6] [⟨146,_,F146_ok⟩,⟨349,_,F349_ok⟩]) (mO _ _ _ _) (fO _) Tryz.func338 rfl rfl rfl (by decide) rfl ?_
 rintro⟨a0,(a1:Int),(a2:Int),_⟩ hwf hpre ⟨⟩ hG rfl rfl
 show Vc _ _ [(0,⟨0,0,.c Z14 a0⟩),(1,⟨0,0,.c (.pure (.int .i64)) a1⟩),(2,⟨0,0,.c (.pure (.int .i64)) a2⟩)] _
 refine Vm hG rfl (Vq ?_)
 refine Vr hG rfl ?_ ?_
 · repeat' (first | exact trivial | refine And.intro ?_ ?_ | intro _)
 refine Vt ?_
 refine⟨?_,trivial⟩
 all_goals exact rfl
noncomputable def F313:Fun:=⟨[.slice Y5,.int .i64],[.pure Y5,.pure (.bool)],fun _=>True,fun x=>((agreedF x.1 x.2.1).1,(agreedF x.1 x.2.1).2,())⟩
theorem F313_ok:Meets Tryz.prog 313 F313:=by
 refine mZ (C:=mkC 83 [4,5] [0,1,4,5,6,7,8,14,19,49,69,78] [⟨146,_,F146_ok⟩,⟨263,_,F263_ok⟩,⟨338,_,F338_ok⟩,⟨241,_,F241_ok⟩]) (mO _ _ _ _) (fO _) Tryz.func313 rfl rfl rfl (by decide) rfl ?_
 rintro⟨a0,(a1:Int),_⟩ hwf hpre ⟨⟩ hG rfl rfl
 show Vc _ _ [(0,⟨0,0,.c Z14 a0⟩),(1,⟨0,0,.c (.pure (.int .i64)) a1⟩)] _
 have hb:List.length a0≤bigLen:=hwf.1.1
 refine Vm hG rfl (Vq (Vm hG rfl ?_))
 refine Vk rfl ?_ ?_<;>intro h0
 · have g0:=h0
   refine Vm hG rfl (Vt ?_)
   have e:=agBad g0
   refine⟨?_,?_,trivial⟩
   · exact(congrArg Prod.fst e).symm
   · exact(congrArg Prod.snd e).symm
 · have g0:=h0
   refine Vs (Vm hG rfl (Vm hG rfl (Vq ?_)))
   refine Vm hG rfl (Vb ?_)
   refine Vc.loopF [(6,false,.pure (.int .i64)),(7,false,.pure (.int .i64)),(8,false,.pure (.int .i64))] [0,1,4,5,14,78] (fun v=>aeInv a0 a1 v.1 v.2.1 v.2.2.1) (fun v=>((List.length a0:Int)-v.2.2.1).toNat) rfl ?_ ?_
   · exact aeStart
   rintro⟨(f:Int),(t:Int),(i:Int),_⟩ hI
   have hI:aeInv a0 a1 f t i:=hI
   refine Vq (Vm hG rfl ?_)
   refine Vk rfl ?_ ?_<;>intro h1
   · have hl:i<(List.length a0:Int):=oTr h1
     refine Vs (Vq (Vb (Vq ?_)))
     refine Vq ?_
     refine Vr hG rfl ?_ ?_
     · repeat' (first | exact trivial | exact upRange hI.1 hl | refine And.intro ?_ ?_ | intro _)
     refine Vk rfl ?_ ?_<;>intro h2
     · have g2:aeA a0 a1 f (List.getD a0 i.toNat (dflt Y5))=true:=h2
       have e2:(List.getD a0 i.toNat (dflt Y5)).1=(if aeA a0 a1 f (List.getD a0 i.toNat (dflt Y5))=true then(List.getD a0 i.toNat (dflt Y5)).1 else f):=by rw[if_pos g2]
       refine Vr hG rfl ?_ ?_
       · exact upRange hI.1 hl
       refine Vq ?_
       refine Vr hG rfl ?_ ?_
       · repeat' (first | exact trivial | exact upRange hI.1 hl | refine And.intro ?_ ?_ | intro _)
       refine Vk rfl ?_ ?_<;>intro h3
       · have g3:aeB a0 a1 (List.getD a0 i.toNat (dflt Y5))=true:=h3
         have e3:max t (List.getD a0 i.toNat (dflt Y5)).2=(if aeB a0 a1 (List.getD a0 i.toNat (dflt Y5))=true then max t (List.getD a0 i.toNat (dflt Y5)).2 else t):=by rw[if_pos g3]
         refine Vr hG rfl ?_ ?_
         · exact⟨upRange hI.1 hl,trivial⟩
         refine Vn hG rfl ?_
         refine⟨rfl,?_⟩
         exact aeStep (d:=dflt Y5) hI hl hb e2 e3
       · have g3:aeB a0 a1 (List.getD a0 i.toNat (dflt Y5))=false:=h3
         have e3:t=(if aeB a0 a1 (List.getD a0 i.toNat (dflt Y5))=true then max t (List.getD a0 i.toNat (dflt Y5)).2 else t):=by rw[if_neg (by rw[g3];decide)]
         refine Vs (Vn hG rfl ?_)
         refine⟨rfl,?_⟩
         exact aeStep (d:=dflt Y5) hI hl hb e2 e3
     · have g2:aeA a0 a1 f (List.getD a0 i.toNat (dflt Y5))=false:=h2
       have e2:f=(if aeA a0 a1 f (List.getD a0 i.toNat (dflt Y5))=true then(List.getD a0 i.toNat (dflt Y5)).1 else f):=by rw[if_neg (by rw[g2];decide)]
       refine Vs (Vq ?_)
       refine Vr hG rfl ?_ ?_
       · repeat' (first | exact trivial | exact upRange hI.1 hl | refine And.intro ?_ ?_ | intro _)
       refine Vk rfl ?_ ?_<;>intro h4
       · have g3:aeB a0 a1 (List.getD a0 i.toNat (dflt Y5))=true:=h4
         have e3:max t (List.getD a0 i.toNat (dflt Y5)).2=(if aeB a0 a1 (List.getD a0 i.toNat (dflt Y5))=true then max t (List.getD a0 i.toNat (dflt Y5)).2 else t):=by rw[if_pos g3]
         refine Vr hG rfl ?_ ?_
         · exact⟨upRange hI.1 hl,trivial⟩
         refine Vn hG rfl ?_
         refine⟨rfl,?_⟩
         exact aeStep (d:=dflt Y5) hI hl hb e2 e3
       · have g3:aeB a0 a1 (List.getD a0 i.toNat (dflt Y5))=false:=h4
         have e3:t=(if aeB a0 a1 (List.getD a0 i.toNat (dflt Y5))=true then max t (List.getD a0 i.toNat (dflt Y5)).2 else t):=by rw[if_neg (by rw[g3];decide)]
         refine Vs (Vn hG rfl ?_)
         refine⟨rfl,?_⟩
         exact aeStep (d:=dflt Y5) hI hl hb e2 e3
   · have hl:¬i<(List.length a0:Int):=oFa h1
     refine Vx (Vq (Vm hG rfl ?_))
     refine Vk rfl ?_ ?_<;>intro h5
     · have g4:f<0:=oTr h5
       refine Vm hG rfl (Vt ?_)
       have e:=aeNone hb hI hl g4
       refine⟨?_,?_,trivial⟩
       · exact(congrArg Prod.fst e).symm
       · exact(congrArg Prod.snd e).symm
     · have g4:¬f<0:=oFa h5
       refine Vs (Vm hG rfl (Vt ?_))
       have e:=aeSome hb hI hl g4
       refine⟨?_,?_,trivial⟩
       · exact(congrArg Prod.fst e).symm
       · exact(congrArg Prod.snd e).symm
noncomputable def F336:Fun:=⟨[.slice Y15,.pair (.int .i64) Y55,.int .i64],[.pure Y5,.pure (.bool)],fun x=>(fun(_:List Authority) (a1:Renewal) (_:Int)=>List.length a1.2.2.2.2≤1048576) x.1 x.2.1 x.2.2.1,fun x=>(((fun a0 a1 a2=>rsF a0 a1.2.2.2.2 a2) x.1 x.2.1 x.2.2.1).1,((fun a0 a1 a2=>rsF a0 a1.2.2.2.2 a2) x.1 x.2.1 x.2.2.1).2,())⟩
theorem F336_ok:Meets Tryz.prog 336 F336:=by
 refine mZ (C:=mkC 42 [6,7] [0,1,2,4,6,7,8,9,10,11,17,31] [⟨311,_,F311_ok⟩,⟨313,_,F313_ok⟩]) (mO _ _ _ _) (fO _) Tryz.func336 rfl rfl rfl (by decide) rfl ?_
 rintro⟨a0,a1,(a2:Int),_⟩ hwf hpre ⟨⟩ hG rfl rfl
 show Vc _ _ [(0,⟨0,0,.c Z24 a0⟩),(1,⟨0,0,.c Z60 a1⟩),(2,⟨0,0,.c (.pure (.int .i64)) a2⟩)] _
 have hs:List.length a1.2.2.2.2≤1048576:=hpre
 have hb:List.length a1.2.2.2.2≤bigLen:=by unfold bigLen;omega
 refine Vm hG rfl (Vm hG rfl (Vq (Vm hG rfl ?_)))
 refine Vb ?_
 refine Vc.loopF [(6,true,.pure Y5),(8,false,.own Z9),(9,false,.pure (.int .i64))] [0,1,2,4] (fun v=>rsInv a0 a1.2.2.2.2 v.2.1 v.2.2.1) (fun v=>((List.length a1.2.2.2.2:Int)-v.2.2.1).toNat) rfl ?_ ?_
 · exact rsStart
 rintro⟨r6,acc,(i:Int),_⟩ hI
 have hI:rsInv a0 a1.2.2.2.2 acc i:=hI
 have hA:List.length acc≤1048576:=Nat.le_trans (rsLen hI) hs
 refine Vq (Vm hG rfl ?_)
 refine Vk rfl ?_ ?_<;>intro h0
 · have hl:i<(List.length a1.2.2.2.2:Int):=oTr h0
   refine Vs (Vq (Vb (Vq ?_)))
   refine Vr hG rfl ?_ ?_
   · exact⟨rsRange hI hl,trivial⟩
   refine Vq (Vm hG rfl ?_)
   refine Vk rfl ?_ ?_<;>intro h1
   · have g1:¬rsP a0 (List.getD a1.2.2.2.2 i.toNat (dflt TStamp)):=fun q=>nself q h1
     refine Vm hG rfl (Vt ?_)
     have e:=rsBad (d:=dflt TStamp) (liars:=a2) hI hl g1
     refine⟨?_,?_,trivial⟩
     · exact congrArg (fun(q:Span×Bool)=>q.1) e
     · exact congrArg (fun(q:Span×Bool)=>q.2) e
   · have g1:rsP a0 (List.getD a1.2.2.2.2 i.toNat (dflt TStamp)):=notF h1
     refine Vs ?_
     refine Vr hG rfl ?_ ?_
     · show List.length acc+1≤maxApp
       unfold maxApp;omega
     refine Vn hG rfl ?_
     refine⟨rfl,?_⟩
     exact rsStep (d:=dflt TStamp) hI hl hb g1
 · have hl:¬i<(List.length a1.2.2.2.2:Int):=oFa h0
   refine Vx (Vm hG rfl (Vt ?_))
   have e:=rsEnd (liars:=a2) hI hl
   refine⟨?_,?_,trivial⟩
   · exact congrArg (fun(q:Span×Bool)=>q.1) e
   · exact congrArg (fun(q:Span×Bool)=>q.2) e
noncomputable def F253:Fun:=⟨[.slice Y26,.int .i64],[.pure (.int .i64)],fun _=>True,fun x=>((fun a0 a1=>findI (fun x=>x.1==a1) a0) x.1 x.2.1,())⟩
theorem F253_ok:Meets Tryz.prog 253 F253:=by
 refine mZ (C:=mkC 20 [4] [0,1,4,5,9,18] []) (mO _ _ _ _) (fO _) Tryz.func253 rfl rfl rfl (by decide) rfl ?_
 rintro⟨a0,(a1:Int),_⟩ hwf hpre ⟨⟩ hG rfl rfl
 show Vc _ _ [(0,⟨0,0,.c Z32 a0⟩),(1,⟨0,0,.c (.pure (.int .i64)) a1⟩)] _
 have hb:List.length a0≤bigLen:=hwf.1.1
 refine Vm hG rfl (Vq (Vm hG rfl (Vb ?_)))
 refine Vc.loopF [(5,false,.pure (.int .i64))] [0,1] (fun v=>fInv (fun x=>x.1==a1) a0 v.1) (fun v=>((List.length a0:Int)-v.1).toNat) rfl ?_ ?_
 · exact fStart
 rintro⟨(i:Int),_⟩ hI
 have hI:fInv (fun x=>x.1==a1) a0 i:=hI
 refine Vq (Vm hG rfl ?_)
 refine Vk rfl ?_ ?_<;>intro h0
 · have hl:i<(List.length a0:Int):=oTr h0
   refine Vs (Vq (Vb (Vq ?_)))
   refine Vr hG rfl ?_ ?_
   · exact fRange hI hl
   refine Vk rfl ?_ ?_<;>intro h1
   · have g1:(fun x=>x.1==a1) (List.getD a0 i.toNat (dflt Y26))=true:=h1
     refine Vm hG rfl (Vt ?_)
     refine⟨?_,trivial⟩
     exact fHit hI hl g1
   · have g1:(fun x=>x.1==a1) (List.getD a0 i.toNat (dflt Y26))=false:=h1
     refine Vs (Vn hG rfl ?_)
     refine⟨rfl,?_⟩
     exact fStep hI hl hb g1
 · have hl:¬i<(List.length a0:Int):=oFa h0
   refine Vx (Vm hG rfl (Vt ?_))
   refine⟨?_,trivial⟩
   exact fEnd hI hl
noncomputable def F189:Fun:=⟨[.slice Y26,.int .i64],[.pure (.int .i64)],fun _=>True,fun x=>(breakF x.1 x.2.1,())⟩
theorem F189_ok:Meets Tryz.prog 189 F189:=by
 refine mZ (C:=mkC 16 [4] [0,1,4,5,10] [⟨253,_,F253_ok⟩]) (mO _ _ _ _) (fO _) Tryz.func189 rfl rfl rfl (by decide) rfl ?_
 rintro⟨a0,(a1:Int),_⟩ hwf hpre ⟨⟩ hG rfl rfl
 show Vc _ _ [(0,⟨0,0,.c Z32 a0⟩),(1,⟨0,0,.c (.pure (.int .i64)) a1⟩)] _
 refine Vm hG rfl (Vm hG rfl (Vq (Vm hG rfl ?_)))
 refine Vk rfl ?_ ?_<;>intro h0
 · have g0:methI a0 a1<0:=oTr h0
   refine Vm hG rfl (Vt ?_)
   refine⟨?_,trivial⟩
   exact brk0 g0
 · have g0:¬methI a0 a1<0:=oFa h0
   refine Vs (Vq ?_)
   refine Vr hG rfl ?_ ?_
   · exact findRange g0
   refine Vt ?_
   refine⟨?_,trivial⟩
   exact brk1 g0
noncomputable def F355:Fun:=⟨[.slice Y34,.slice Y15,.slice Y26,.pair (.int .i64) Y55],[.pure (.int .i64)],fun _=>True,fun x=>(rbF x.1 x.2.1 x.2.2.1 x.2.2.2.1,())⟩
theorem F355_ok:Meets Tryz.prog 355 F355:=by
 refine mZ (C:=mkC 44 [8] [0,1,2,3,7,8,9,10,11,20,33] [⟨189,_,F189_ok⟩,⟨297,_,F297_ok⟩,⟨143,_,F143_ok⟩,⟨251,_,F251_ok⟩]) (mO _ _ _ _) (fO _) Tryz.func355 rfl rfl rfl (by decide) rfl ?_
 rintro⟨a0,a1,a2,a3,_⟩ hwf hpre ⟨⟩ hG rfl rfl
 show Vc _ _ [(0,⟨0,0,.c Z38 a0⟩),(1,⟨0,0,.c Z24 a1⟩),(2,⟨0,0,.c Z32 a2⟩),(3,⟨0,0,.c Z60 a3⟩)] _
 have hb:List.length a3.2.2.2.2≤bigLen:=hwf.2.2.2.1.2.2.2.2.1
 refine Vm hG rfl (Vm hG rfl (Vq (Vm hG rfl ?_)))
 refine Vb ?_
 refine Vc.loopF [(9,false,.pure (.int .i64)),(10,false,.pure (.int .i64))] [0,1,2,3,7] (fun v=>efInv (rbBad a0 a1) (rbG a0 a1 a2) 0 (breakF a2 a3.2.1) a3.2.2.2.2 v.1 v.2.1) (fun v=>((List.length a3.2.2.2.2:Int)-v.2.1).toNat) rfl ?_ ?_
 · exact efStart
 rintro⟨(m:Int),(i:Int),_⟩ hI
 have hI:efInv (rbBad a0 a1) (rbG a0 a1 a2) 0 (breakF a2 a3.2.1) a3.2.2.2.2 m i:=hI
 refine Vq (Vm hG rfl ?_)
 refine Vk rfl ?_ ?_<;>intro h0
 · have hl:i<(List.length a3.2.2.2.2:Int):=oTr h0
   refine Vs (Vq (Vb (Vq ?_)))
   refine Vr hG rfl ?_ ?_
   · exact⟨efRange hI hl,trivial,trivial⟩
   refine Vq (Vm hG rfl ?_)
   refine Vk rfl ?_ ?_<;>intro h1
   · have g1:rbBad a0 a1 (List.getD a3.2.2.2.2 i.toNat (dflt Y34))=true:=h1
     refine Vm hG rfl (Vt ?_)
     refine⟨?_,trivial⟩
     exact efStop (d:=dflt Y34) hI hl g1
   · have g1:rbBad a0 a1 (List.getD a3.2.2.2.2 i.toNat (dflt Y34))=false:=h1
     have n1:¬keyI a0 (stampKeyF a1 (List.getD a3.2.2.2.2 i.toNat (dflt Y34)))<0:=oFa h1
     refine Vs ?_
     refine Vr hG rfl ?_ ?_
     · exact⟨findRange n1,trivial,trivial⟩
     refine Vn hG rfl ?_
     refine⟨rfl,?_⟩
     exact efStep (d:=dflt Y34) hI hl hb g1
 · have hl:¬i<(List.length a3.2.2.2.2:Int):=oFa h0
   refine Vx (Vm hG rfl (Vt ?_))
   refine⟨?_,trivial⟩
   exact efEnd hI hl
noncomputable def F352:Fun:=⟨[.pair Y36 Y57,.pair Y25 Y61,.int .i64],[.pure (.bool)],fun x=>(fun(_:Frame) (s:Strand) (_:Int)=>Sm big20 (.slice TPiece) s.1∧∀ r∈s.2,Sm big20 TRen r) x.1 x.2.1 x.2.2.1,fun x=>(linkF x.1 x.2.1 x.2.2.1,())⟩
theorem F352_ok:Meets Tryz.prog 352 F352:=by
 refine mZ (C:=mkC 60 [6] [0,1,2,3,4,6,7,8,9,16,34] [⟨146,_,F146_ok⟩,⟨355,_,F355_ok⟩,⟨336,_,F336_ok⟩]) (mO _ _ _ _) (fO _) Tryz.func352 rfl rfl rfl (by decide) rfl ?_
 rintro⟨a0,a1,(a2:Int),_⟩ hwf hpre ⟨⟩ hG rfl rfl
 show Vc _ _ [(0,⟨0,0,.c Z68 a0⟩),(1,⟨0,0,.c Z66 a1⟩),(2,⟨0,0,.c (.pure (.int .i64)) a2⟩)] _
 have hP:Sm big20 (.slice TPiece) a1.1:=hpre.1
 have hR:∀ r∈a1.2,Sm big20 TRen r:=hpre.2
 have hb:List.length a1.2≤bigLen:=hwf.2.1.2.1
 have hSt:∀ k:Int,inRange k (List.length a1.2)→List.length (chAt a1 k).2.2.2.2≤1048576:=fun k hk=>(hR _ (getD_mem hk (dflt TRen))).2.2.2.2.1
 refine Vm hG rfl (Vq (Vm hG rfl ?_))
 refine Vk rfl ?_ ?_<;>intro h0
 · have g0:=h0
   refine Vm hG rfl (Vt ?_)
   refine⟨?_,trivial⟩
   exact lk0 g0
 · have g0:=h0
   have k0:=laIdx g0 hb
   refine Vs (Vq ?_)
   refine VrD mixed hG rfl (by kernel_rfl) ?_ ?_
   · exact⟨k0,trivial⟩
   refine Vq (Vm hG rfl ?_)
   refine Vk rfl ?_ ?_<;>intro h1
   · have g1:=h1
     refine Vm hG rfl (Vt ?_)
     refine⟨?_,trivial⟩
     exact lk1 g0 g1
   · have g1:=h1
     have k1:=lkNext g0 g1 hb
     refine Vs (Vq ?_)
     refine VrD mixed hG rfl (by kernel_rfl) ?_ ?_
     · exact⟨k1,hSt _ k1⟩
     refine Vm hG rfl (Vt ?_)
     refine⟨?_,trivial⟩
     exact lk2 g0 g1
noncomputable def F356:Fun:=⟨[.int .i64,.int .i64,.slice Y2],[.pure (.int .i64)],fun _=>True,fun x=>(followF x.1 x.2.1 x.2.2.1,())⟩
theorem F356_ok:Meets Tryz.prog 356 F356:=by
 refine mZ (C:=mkC 38 [6] [0,1,2,6,7,8,13,20] [⟨228,_,F228_ok⟩]) (mO _ _ _ _) (fO _) Tryz.func356 rfl rfl rfl (by decide) rfl ?_
 rintro⟨(a0:Int),(a1:Int),a2,_⟩ hwf hpre ⟨⟩ hG rfl rfl
 show Vc _ _ [(0,⟨0,0,.c (.pure (.int .i64)) a0⟩),(1,⟨0,0,.c (.pure (.int .i64)) a1⟩),(2,⟨0,0,.c (.pure Y7) a2⟩)] _
 have hb:List.length a2≤bigLen:=hwf.2.2.1.1
 refine Vm hG rfl (Vm hG rfl (Vq (Vm hG rfl ?_)))
 refine Vb ?_
 refine Vc.loopF [(7,false,.pure (.int .i64)),(8,false,.pure (.int .i64))] [0,1,2,6] (fun v=>foInv (flStep a0) a1 a2 v.1 v.2.1) (fun v=>((List.length a2:Int)-v.2.1).toNat) rfl ?_ ?_
 · exact foStart
 rintro⟨(acc:Int),(i:Int),_⟩ hI
 have hI:foInv (flStep a0) a1 a2 acc i:=hI
 refine Vq (Vm hG rfl ?_)
 refine Vk rfl ?_ ?_<;>intro h0
 · have hl:i<(List.length a2:Int):=oTr h0
   refine Vs (Vq (Vb (Vq ?_)))
   refine Vr hG rfl ?_ ?_
   · exact foRange hI hl
   refine Vk rfl ?_ ?_<;>intro h1
   · have g1:(List.getD a2 i.toNat (dflt (.pair TI .bool))).2=true:=h1
     have st:=foStepE (d:=dflt (.pair TI .bool)) hI hl hb (flL (m:=a0) (x:=acc) g1).symm
     refine Vr hG rfl ?_ ?_
     · exact⟨foRange hI hl,trivial⟩
     refine Vn hG rfl ?_
     refine⟨rfl,?_⟩
     exact st
   · have g1:(List.getD a2 i.toNat (dflt (.pair TI .bool))).2=false:=h1
     have st:=foStepE (d:=dflt (.pair TI .bool)) hI hl hb (flR (m:=a0) (x:=acc) g1).symm
     refine Vr hG rfl ?_ ?_
     · exact⟨foRange hI hl,trivial⟩
     refine Vn hG rfl ?_
     refine⟨rfl,?_⟩
     exact st
 · have hl:¬i<(List.length a2:Int):=oFa h0
   refine Vx (Vm hG rfl (Vt ?_))
   refine⟨?_,trivial⟩
   exact foEnd hI hl
noncomputable def F357:Fun:=⟨[.slice Y34,.slice Y15,.pair (.int .i64) Y26],[.pure (.bool)],fun _=>True,fun x=>(checkStampF x.1 x.2.1 x.2.2.1,())⟩
theorem F357_ok:Meets Tryz.prog 357 F357:=by
 refine mZ (C:=mkC 22 [6] [0,1,2,5,6,7,8] [⟨77,_,F77_ok⟩]) (mO _ _ _ _) (fO _) Tryz.func357 rfl rfl rfl (by decide) rfl ?_
 rintro⟨a0,a1,a2,_⟩ hwf hpre ⟨⟩ hG rfl rfl
 show Vc _ _ [(0,⟨0,0,.c Z38 a0⟩),(1,⟨0,0,.c Z24 a1⟩),(2,⟨0,0,.c Z35 a2⟩)] _
 refine Vm hG rfl (Vm hG rfl (Vm hG rfl (Vt ?_)))
 refine⟨?_,trivial⟩
 all_goals exact rfl
noncomputable def F353:Fun:=⟨[.slice Y34,.slice Y15,.pair (.int .i64) Y55,.int .i64],[.pure (.bool)],fun _=>True,fun x=>(checkRenF x.1 x.2.1 x.2.2.1 x.2.2.2.1,())⟩
theorem F353_ok:Meets Tryz.prog 353 F353:=by
 refine mZ (C:=mkC 73 [8] [0,1,2,3,6,8,9,10,32,37,72] [⟨356,_,F356_ok⟩,⟨146,_,F146_ok⟩,⟨357,_,F357_ok⟩]) (mO _ _ _ _) (fO _) Tryz.func353 rfl rfl rfl (by decide) rfl ?_
 rintro⟨a0,a1,a2,(a3:Int),_⟩ hwf hpre ⟨⟩ hG rfl rfl
 show Vc _ _ [(0,⟨0,0,.c Z38 a0⟩),(1,⟨0,0,.c Z24 a1⟩),(2,⟨0,0,.c Z60 a2⟩),(3,⟨0,0,.c (.pure (.int .i64)) a3⟩)] _
 have hb:List.length a2.2.2.2.2≤bigLen:=hwf.2.2.1.2.2.2.2.1
 refine Vm hG rfl (Vq (Vq ?_))
 refine VrD mixed hG rfl (by kernel_rfl) ?_ ?_
 · repeat' (first | exact trivial | refine And.intro ?_ ?_ | intro _)
 refine Vk rfl ?_ ?_<;>intro h0
 · have g0:=cr0S (keys:=a0) (l:=a1) (r:=a2) (leaf:=a3) h0
   refine Vm hG rfl (Vt ?_)
   refine⟨?_,trivial⟩
   exact g0
 · have g0:=crPreS.1 h0
   refine Vs (Vq (Vm hG rfl (Vb ?_)))
   refine Vc.loopF [(9,false,.pure (.int .i64))] [0,1,2,3,6,32] (fun v=>kInv (crS a0 a1 a2) a2.2.2.2.2 v.1) (fun v=>((List.length a2.2.2.2.2:Int)-v.1).toNat) rfl ?_ ?_
   · exact kStart
   rintro⟨(i:Int),_⟩ hI
   have hI:kInv (crS a0 a1 a2) a2.2.2.2.2 i:=hI
   refine Vq (Vm hG rfl ?_)
   refine Vk rfl ?_ ?_<;>intro h1
   · have hl:i<(List.length a2.2.2.2.2:Int):=oTr h1
     refine Vs (Vq (Vb (Vq ?_)))
     refine Vr hG rfl ?_ ?_
     · exact kRange hI hl
     refine Vq ?_
     refine VrD mixed hG rfl (by kernel_rfl) ?_ ?_
     · repeat' (first | exact trivial | (intro h2;exact backRange hI hl hb (oTr h2)) | refine And.intro ?_ ?_ | intro _)
     refine Vk rfl ?_ ?_<;>intro h2
     · have g2:crTestS a0 a1 a2 i=true:=h2
       refine Vm hG rfl (Vt ?_)
       refine⟨?_,trivial⟩
       exact crBadS hI hl hb g2
     · have g2:crTestS a0 a1 a2 i=false:=h2
       refine Vs (Vn hG rfl ?_)
       refine⟨rfl,?_⟩
       exact kStep hI hl hb (crGoodS hI hl hb g2)
   · have hl:¬i<(List.length a2.2.2.2.2:Int):=oFa h1
     refine Vx (Vm hG rfl (Vt ?_))
     refine⟨?_,trivial⟩
     exact crEndS g0 hI hl
noncomputable def F346:Fun:=⟨[.pair Y36 Y57,.pair Y25 Y61,.slice (.int .i64),.int .i64],[.pure (.bool)],fun x=>(fun(_:Frame) (s:Strand) (_:List Int) (k:Int)=>(Sm big20 (.slice TPiece) s.1∧∀ r∈s.2,Sm big20 TRen r)∧inRange k (List.length s.2)) x.1 x.2.1 x.2.2.1 x.2.2.2.1,fun x=>(keptF x.1 x.2.1 x.2.2.1 x.2.2.2.1,())⟩
theorem F346_ok:Meets Tryz.prog 346 F346:=by
 refine mZ (C:=mkC 47 [8] [0,1,2,3,4,5,8,10] [⟨336,_,F336_ok⟩,⟨352,_,F352_ok⟩,⟨148,_,F148_ok⟩,⟨353,_,F353_ok⟩]) (mO _ _ _ _) (fO _) Tryz.func346 rfl rfl rfl (by decide) rfl ?_
 rintro⟨a0,a1,a2,(a3:Int),_⟩ hwf hpre ⟨⟩ hG rfl rfl
 show Vc _ _ [(0,⟨0,0,.c Z68 a0⟩),(1,⟨0,0,.c Z66 a1⟩),(2,⟨0,0,.c Z3 a2⟩),(3,⟨0,0,.c (.pure (.int .i64)) a3⟩)] _
 have hP:Sm big20 (.slice TPiece) a1.1:=hpre.1.1
 have hR:∀ r∈a1.2,Sm big20 TRen r:=hpre.1.2
 have hb:List.length a1.2≤bigLen:=hwf.2.1.2.1
 have hSt:∀ k:Int,inRange k (List.length a1.2)→List.length (chAt a1 k).2.2.2.2≤1048576:=fun k hk=>(hR _ (getD_mem hk (dflt TRen))).2.2.2.2.1
 have hk:inRange a3 (List.length a1.2):=hpre.2
 refine Vm hG rfl (Vq ?_)
 refine VrD mixed hG rfl (by kernel_rfl) ?_ ?_
 · exact⟨hk,hSt _ hk⟩
 refine Vq ?_
 refine VrD mixed hG rfl (by kernel_rfl) ?_ ?_
 · repeat' (first | exact trivial | exact hk | exact⟨hP,hR⟩ | refine And.intro ?_ ?_ | intro _)
 refine Vt ?_
 refine⟨?_,trivial⟩
 all_goals exact rfl
noncomputable def F335:Fun:=⟨[.pair Y36 Y57,.pair Y25 Y61,.slice (.int .i64)],[.pure (.int .i64)],fun x=>(fun(_:Frame) (s:Strand) (_:List Int)=>Sm big20 (.slice TPiece) s.1∧∀ r∈s.2,Sm big20 TRen r) x.1 x.2.1 x.2.2.1,fun x=>(firstKeptF x.1 x.2.1 x.2.2.1,())⟩
theorem F335_ok:Meets Tryz.prog 335 F335:=by
 refine mZ (C:=mkC 24 [6] [0,1,2,3,4,6,7,20] [⟨346,_,F346_ok⟩]) (mO _ _ _ _) (fO _) Tryz.func335 rfl rfl rfl (by decide) rfl ?_
 rintro⟨a0,a1,a2,_⟩ hwf hpre ⟨⟩ hG rfl rfl
 show Vc _ _ [(0,⟨0,0,.c Z68 a0⟩),(1,⟨0,0,.c Z66 a1⟩),(2,⟨0,0,.c Z3 a2⟩)] _
 have hP:Sm big20 (.slice TPiece) a1.1:=hpre.1
 have hR:∀ r∈a1.2,Sm big20 TRen r:=hpre.2
 have hb:List.length a1.2≤bigLen:=hwf.2.1.2.1
 have hSt:∀ k:Int,inRange k (List.length a1.2)→List.length (chAt a1 k).2.2.2.2≤1048576:=fun k hk=>(hR _ (getD_mem hk (dflt TRen))).2.2.2.2.1
 refine Vm hG rfl (Vm hG rfl (Vq (Vb ?_)))
 refine Vc.loopF [(7,false,.pure (.int .i64))] [0,1,2,3,4,6] (fun v=>fkInv a0 a1 a2 v.1) (fun v=>v.1.toNat) rfl ?_ ?_
 · exact fkStart
 rintro⟨(j:Int),_⟩ hI
 have hI:fkInv a0 a1 a2 j:=hI
 refine Vq (Vq ?_)
 refine Vr hG rfl ?_ ?_
 · exact fun h=>⟨⟨hP,hR⟩,fkIdx hI (oTr h) hb⟩
 refine Vk rfl ?_ ?_<;>intro h0
 · have g0:j>0:=oTr (andT h0).1
   have g1:keptF a0 a1 a2 (IntKind.i64.wrap (j-1))=true:=(andT h0).2
   refine Vs (Vb (Vn hG rfl ?_))
   refine⟨rfl,?_⟩
   exact fkStep hI g0 hb g1
 · have g1:=fkEndS hI hb h0
   refine Vx (Vm hG rfl (Vt ?_))
   refine⟨?_,trivial⟩
   exact g1
noncomputable def F306:Fun:=⟨[.pair Y36 Y57,.pair Y25 Y61,.slice (.int .i64),.int .i64],[.pure (.int .i64)],fun x=>(fun(_:Frame) (s:Strand) (_:List Int) (_:Int)=>Sm big20 (.slice TPiece) s.1∧∀ r∈s.2,Sm big20 TRen r) x.1 x.2.1 x.2.2.1 x.2.2.2.1,fun x=>(boundOfF x.1 x.2.1 x.2.2.1 x.2.2.2.1,())⟩
theorem F306_ok:Meets Tryz.prog 306 F306:=by
 refine mZ (C:=mkC 52 [8] [0,1,2,3,4,5,8,9,10,11,23,33] [⟨335,_,F335_ok⟩,⟨336,_,F336_ok⟩,⟨251,_,F251_ok⟩]) (mO _ _ _ _) (fO _) Tryz.func306 rfl rfl rfl (by decide) rfl ?_
 rintro⟨a0,a1,a2,(a3:Int),_⟩ hwf hpre ⟨⟩ hG rfl rfl
 show Vc _ _ [(0,⟨0,0,.c Z68 a0⟩),(1,⟨0,0,.c Z66 a1⟩),(2,⟨0,0,.c Z3 a2⟩),(3,⟨0,0,.c (.pure (.int .i64)) a3⟩)] _
 have hP:Sm big20 (.slice TPiece) a1.1:=hpre.1
 have hR:∀ r∈a1.2,Sm big20 TRen r:=hpre.2
 have hb:List.length a1.2≤bigLen:=hwf.2.1.2.1
 have hSt:∀ k:Int,inRange k (List.length a1.2)→List.length (chAt a1 k).2.2.2.2≤1048576:=fun k hk=>(hR _ (getD_mem hk (dflt TRen))).2.2.2.2.1
 refine Vm hG rfl (Vm hG rfl (Vq (Vq ?_)))
 refine Vr hG rfl ?_ ?_
 · exact⟨hP,hR⟩
 refine Vb ?_
 refine Vc.loopF [(9,false,.pure (.int .i64)),(10,false,.pure (.int .i64))] [0,1,2,3,4,5,8] (fun v=>boInv a0 a1 a2 a3 v.1 v.2.1) (fun v=>((List.length a1.2:Int)-v.2.1).toNat) rfl ?_ ?_
 · exact boStart
 rintro⟨(t:Int),(j:Int),_⟩ hI
 have hI:boInv a0 a1 a2 a3 t j:=hI
 refine Vq (Vm hG rfl ?_)
 refine Vk rfl ?_ ?_<;>intro h0
 · have hl:j<(List.length a1.2:Int):=oTr h0
   have k0:=boRange hI hl
   refine Vs (Vq (Vb (Vq ?_)))
   refine Vr hG rfl ?_ ?_
   · exact k0
   refine Vk rfl ?_ ?_<;>intro h1
   · have st:=boStep hI hl hb (boY (f:=a0) (t:=t) (r:=chAt a1 j) h1).symm
     refine Vq ?_
     refine VrD mixed hG rfl (by kernel_rfl) ?_ ?_
     · exact⟨k0,hSt _ k0⟩
     refine Vn hG rfl (Vn hG rfl ?_)
     refine⟨rfl,?_⟩
     exact st
   · have st:=boStep hI hl hb (boN (f:=a0) (t:=t) (r:=chAt a1 j) h1).symm
     refine Vs (Vn hG rfl ?_)
     refine⟨rfl,?_⟩
     exact st
 · have hl:¬j<(List.length a1.2:Int):=oFa h0
   refine Vx (Vm hG rfl (Vt ?_))
   refine⟨?_,trivial⟩
   exact boEnd hI hl
noncomputable def F252:Fun:=⟨[.pair Y36 Y57,.pair Y25 Y61,.slice (.int .i64),.pair (.int .i64) Y10],[.pure (.int .i64)],fun x=>(fun(_:Frame) (s:Strand) (_:List Int) (_:Piece)=>Sm big20 (.slice TPiece) s.1∧∀ r∈s.2,Sm big20 TRen r) x.1 x.2.1 x.2.2.1 x.2.2.2.1,fun x=>(pieceBoundF x.1 x.2.1 x.2.2.1 x.2.2.2.1,())⟩
theorem F252_ok:Meets Tryz.prog 252 F252:=by
 refine mZ (C:=mkC 22 [8] [0,1,2,3,4,5,7,8,9,14] [⟨246,_,F246_ok⟩,⟨306,_,F306_ok⟩]) (mO _ _ _ _) (fO _) Tryz.func252 rfl rfl rfl (by decide) rfl ?_
 rintro⟨a0,a1,a2,a3,_⟩ hwf hpre ⟨⟩ hG rfl rfl
 show Vc _ _ [(0,⟨0,0,.c Z68 a0⟩),(1,⟨0,0,.c Z66 a1⟩),(2,⟨0,0,.c Z3 a2⟩),(3,⟨0,0,.c Z23 a3⟩)] _
 have hp:=hpre
 refine Vm hG rfl (Vm hG rfl (Vq (Vm hG rfl ?_)))
 refine Vk rfl ?_ ?_<;>intro h0
 · have g0:findPieceF a1 a3<0:=oTr h0
   refine Vm hG rfl (Vt ?_)
   refine⟨?_,trivial⟩
   exact pb0 g0
 · have g0:¬findPieceF a1 a3<0:=oFa h0
   refine Vs (Vq ?_)
   refine Vr hG rfl ?_ ?_
   · exact hp
   refine Vt ?_
   refine⟨?_,trivial⟩
   exact pb1 g0
noncomputable def F188:Fun:=⟨[.pair Y36 Y57,.pair Y67 Y39,.slice (.slice (.int .i64)),.pair (.int .i64) Y10],[.pure (.int .i64)],fun x=>(fun(_:Frame) (e:Evidence) (_:List (List Int)) (_:Piece)=>Sm big20 Y67 e.1) x.1 x.2.1 x.2.2.1 x.2.2.2.1,fun x=>(evBoundF x.1 x.2.1 x.2.2.1 x.2.2.2.1,())⟩
theorem F188_ok:Meets Tryz.prog 188 F188:=by
 refine mZ (C:=mkC 41 [8] [0,1,2,3,4,5,7,8,9,10,23] [⟨252,_,F252_ok⟩,⟨251,_,F251_ok⟩]) (mO _ _ _ _) (fO _) Tryz.func188 rfl rfl rfl (by decide) rfl ?_
 rintro⟨a0,a1,a2,a3,_⟩ hwf hpre ⟨⟩ hG rfl rfl
 show Vc _ _ [(0,⟨0,0,.c Z68 a0⟩),(1,⟨0,0,.c Z73 a1⟩),(2,⟨0,0,.c Z8 a2⟩),(3,⟨0,0,.c Z23 a3⟩)] _
 have hS:Sm big20 Y67 a1.1:=hpre
 have hb:List.length a1.1≤bigLen:=hwf.2.1.1.1
 refine Vm hG rfl (Vm hG rfl (Vq (Vm hG rfl ?_)))
 refine Vb ?_
 refine Vc.loopF [(9,false,.pure (.int .i64)),(10,false,.pure (.int .i64))] [0,1,2,3,4,5,7,8] (fun v=>ebInv a0 a1 a2 a3 v.1 v.2.1) (fun v=>((List.length a1.1:Int)-v.2.1).toNat) rfl ?_ ?_
 · exact ebStart
 rintro⟨(t:Int),(i:Int),_⟩ hI
 have hI:ebInv a0 a1 a2 a3 t i:=hI
 refine Vq (Vm hG rfl ?_)
 refine Vk rfl ?_ ?_<;>intro h0
 · have hh:=andLt h0
   have hl:=hh.1
   have hd:=hh.2
   have st:=ebYes (dflt Y64) (dflt (.slice TI)) hI hl hd hb rfl
   have r1:=ebRange hI hl
   have r2:=ebRangeD hI hd
   have r3:=usStrand hS r1
   refine Vs (Vq (Vb ?_))
   refine VrD mixed hG rfl (by kernel_rfl) ?_ ?_
   · exact⟨r1,r2,r3,trivial⟩
   refine Vn hG rfl ?_
   refine⟨rfl,?_⟩
   exact st
 · have hx:=andGe h0
   refine Vx (Vm hG rfl (Vt ?_))
   refine⟨?_,trivial⟩
   exact ebEnd hI hx
noncomputable def F309:Fun:=⟨[.pair (.int .i64) Y10],[.pure (.int .i64)],fun _=>True,fun x=>(kindF x.1,())⟩
theorem F309_ok:Meets Tryz.prog 309 F309:=by
 refine mZ (C:=mkC 31 [2] [0,1,2,14,26] [⟨146,_,F146_ok⟩]) (mO _ _ _ _) (fO _) Tryz.func309 rfl rfl rfl (by decide) rfl ?_
 rintro⟨a0,_⟩ hwf hpre ⟨⟩ hG rfl rfl
 show Vc _ _ [(0,⟨0,0,.c Z23 a0⟩)] _
 refine Vm hG rfl (Vq (Vq ?_))
 refine Vr hG rfl ?_ ?_
 · exact⟨fun h=>kLen h,fun _=>trivial⟩
 refine Vk rfl ?_ ?_<;>intro h0
 · have g0:kb1 a0=true:=h0
   refine Vm hG rfl (Vt ?_)
   refine⟨?_,trivial⟩
   exact kind0 g0
 · have g0:kb1 a0=false:=h0
   refine Vs (Vq (Vq ?_))
   refine VrD mixed hG rfl (by kernel_rfl) ?_ ?_
   · exact⟨kLen1 g0,kIdx g0⟩
   refine Vk rfl ?_ ?_<;>intro h1
   · have g1:kb2 a0=true:=h1
     refine Vm hG rfl (Vt ?_)
     refine⟨?_,trivial⟩
     exact kind1 g1
   · have g1:kb2 a0=false:=h1
     refine Vs (Vq ?_)
     refine Vr hG rfl ?_ ?_
     · exact kLen1 g0
     refine Vt ?_
     refine⟨?_,trivial⟩
     exact kind2 g0 g1
noncomputable def F256:Fun:=⟨[.pair (.int .i64) Y10],[.pure Y47,.pure (.bool)],fun _=>True,fun x=>((pieceCertF x.1).1,(pieceCertF x.1).2,())⟩
theorem F256_ok:Meets Tryz.prog 256 F256:=by
 refine mZ (C:=mkC 44 [2,3] [0,1,2,3,15] [⟨309,_,F309_ok⟩]) (mO _ _ _ _) (fO _) Tryz.func256 rfl rfl rfl (by decide) rfl ?_
 rintro⟨a0,_⟩ hwf hpre ⟨⟩ hG rfl rfl
 show Vc _ _ [(0,⟨0,0,.c Z23 a0⟩)] _
 refine Vm hG rfl (Vq (Vq ?_))
 refine VrD mixed hG rfl (by kernel_rfl) ?_ ?_
 · exact⟨trivial,fun h=>seven (kind7 h) 6 (by decide)⟩
 refine Vk rfl ?_ ?_<;>intro h0
 · have g0:pcBad a0=true:=h0
   refine Vm hG rfl (Vt ?_)
   have e:=pc0 g0
   refine⟨?_,?_,trivial⟩
   · exact(congrArg Prod.fst e).symm
   · exact(congrArg Prod.snd e).symm
 · have g0:pcBad a0=false:=h0
   refine Vs (Vq ?_)
   refine VrD mixed hG rfl (by kernel_rfl) ?_ ?_
   · exact⟨seven (pc7 g0) 1 (by decide),seven (pc7 g0) 2 (by decide),seven (pc7 g0) 3 (by decide),seven (pc7 g0) 4 (by decide),seven (pc7 g0) 5 (by decide),seven (pc7 g0) 6 (by decide)⟩
   refine Vt ?_
   have e:=pc1 g0
   refine⟨?_,?_,trivial⟩
   · exact(congrArg Prod.fst e).symm
   · exact(congrArg Prod.snd e).symm
noncomputable def F259:Fun:=⟨[.pair (.int .i64) Y10],[.pure Y34,.pure (.bool)],fun _=>True,fun x=>((pieceStatF x.1).1,(pieceStatF x.1).2,())⟩
theorem F259_ok:Meets Tryz.prog 259 F259:=by
 refine mZ (C:=mkC 36 [2,3] [0,1,2,3,15] [⟨309,_,F309_ok⟩]) (mO _ _ _ _) (fO _) Tryz.func259 rfl rfl rfl (by decide) rfl ?_
 rintro⟨a0,_⟩ hwf hpre ⟨⟩ hG rfl rfl
 show Vc _ _ [(0,⟨0,0,.c Z23 a0⟩)] _
 refine Vm hG rfl (Vq (Vq ?_))
 refine VrD mixed hG rfl (by kernel_rfl) ?_ ?_
 · exact⟨trivial,fun h=>nIdx (psN h) 4 (by decide)⟩
 refine Vk rfl ?_ ?_<;>intro h0
 · have g0:psBad a0=true:=h0
   refine Vm hG rfl (Vt ?_)
   have e:=ps0 g0
   refine⟨?_,?_,trivial⟩
   · exact(congrArg Prod.fst e).symm
   · exact(congrArg Prod.snd e).symm
 · have g0:psBad a0=false:=h0
   refine Vs (Vq ?_)
   refine VrD mixed hG rfl (by kernel_rfl) ?_ ?_
   · exact⟨nIdx (psN (orF g0).1) 1 (by decide),nIdx (psN (orF g0).1) 2 (by decide),nIdx (psN (orF g0).1) 3 (by decide),nIdx (psN (orF g0).1) 4 (by decide)⟩
   refine Vt ?_
   have e:=ps1 g0
   refine⟨?_,?_,trivial⟩
   · exact(congrArg Prod.fst e).symm
   · exact(congrArg Prod.snd e).symm
noncomputable def F347:Fun:=⟨[.pair (.int .i64) Y10],[.pure Y34,.pure (.bool)],fun _=>True,fun x=>((pieceStampF x.1).1,(pieceStampF x.1).2,())⟩
theorem F347_ok:Meets Tryz.prog 347 F347:=by
 refine mZ (C:=mkC 27 [2,3] [0,1,2,3,6] [⟨309,_,F309_ok⟩]) (mO _ _ _ _) (fO _) Tryz.func347 rfl rfl rfl (by decide) rfl ?_
 rintro⟨a0,_⟩ hwf hpre ⟨⟩ hG rfl rfl
 show Vc _ _ [(0,⟨0,0,.c Z23 a0⟩)] _
 refine Vm hG rfl (Vq (Vm hG rfl ?_))
 refine Vk rfl ?_ ?_<;>intro h0
 · have g0:pstBad a0=true:=h0
   refine Vm hG rfl (Vt ?_)
   have e:=pst0 g0
   refine⟨?_,?_,trivial⟩
   · exact(congrArg Prod.fst e).symm
   · exact(congrArg Prod.snd e).symm
 · have g0:pstBad a0=false:=h0
   refine Vs (Vq ?_)
   refine VrD mixed hG rfl (by kernel_rfl) ?_ ?_
   · exact⟨nIdx (pstN g0) 1 (by decide),nIdx (pstN g0) 2 (by decide),nIdx (pstN g0) 3 (by decide),nIdx (pstN g0) 4 (by decide)⟩
   refine Vt ?_
   have e:=pst1 g0
   refine⟨?_,?_,trivial⟩
   · exact(congrArg Prod.fst e).symm
   · exact(congrArg Prod.snd e).symm
noncomputable def F348:Fun:=⟨[.pair (.int .i64) Y10],[.pure Y53,.pure (.bool)],fun _=>True,fun x=>((pieceSignF x.1).1,(pieceSignF x.1).2,())⟩
theorem F348_ok:Meets Tryz.prog 348 F348:=by
 refine mZ (C:=mkC 52 [2,3] [0,1,2,3,15] [⟨309,_,F309_ok⟩]) (mO _ _ _ _) (fO _) Tryz.func348 rfl rfl rfl (by decide) rfl ?_
 rintro⟨a0,_⟩ hwf hpre ⟨⟩ hG rfl rfl
 show Vc _ _ [(0,⟨0,0,.c Z23 a0⟩)] _
 refine Vm hG rfl (Vq (Vq ?_))
 refine VrD mixed hG rfl (by kernel_rfl) ?_ ?_
 · exact⟨trivial,fun h=>nIdx (psgN h) 1 (by decide)⟩
 refine Vk rfl ?_ ?_<;>intro h0
 · have g0:psgBad a0=true:=h0
   refine Vm hG rfl (Vt ?_)
   have e:=psg0 g0
   refine⟨?_,?_,trivial⟩
   · exact(congrArg Prod.fst e).symm
   · exact(congrArg Prod.snd e).symm
 · have g0:psgBad a0=false:=h0
   refine Vs (Vq ?_)
   refine VrD mixed hG rfl (by kernel_rfl) ?_ ?_
   · exact⟨nIdx (psgN (orF g0).1) 1 (by decide),nIdx (psgN (orF g0).1) 2 (by decide),nIdx (psgN (orF g0).1) 3 (by decide),nIdx (psgN (orF g0).1) 4 (by decide),nIdx (psgN (orF g0).1) 5 (by decide),nIdx (psgN (orF g0).1) 6 (by decide),nIdx (psgN (orF g0).1) 7 (by decide),nIdx (psgN (orF g0).1) 8 (by decide)⟩
   refine Vt ?_
   have e:=psg1 g0
   refine⟨?_,?_,trivial⟩
   · exact(congrArg Prod.fst e).symm
   · exact(congrArg Prod.snd e).symm
noncomputable def F265:Fun:=⟨[.pair (.int .i64) Y10],[.pure Y40,.pure (.bool)],fun _=>True,fun x=>((pieceMandF x.1).1,(pieceMandF x.1).2,())⟩
theorem F265_ok:Meets Tryz.prog 265 F265:=by
 refine mZ (C:=mkC 40 [2,3] [0,1,2,3,15] [⟨309,_,F309_ok⟩]) (mO _ _ _ _) (fO _) Tryz.func265 rfl rfl rfl (by decide) rfl ?_
 rintro⟨a0,_⟩ hwf hpre ⟨⟩ hG rfl rfl
 show Vc _ _ [(0,⟨0,0,.c Z23 a0⟩)] _
 refine Vm hG rfl (Vq (Vq ?_))
 refine VrD mixed hG rfl (by kernel_rfl) ?_ ?_
 · exact⟨trivial,fun h=>nIdx (pmN h) 5 (by decide)⟩
 refine Vk rfl ?_ ?_<;>intro h0
 · have g0:pmBad a0=true:=h0
   refine Vm hG rfl (Vt ?_)
   have e:=pm0 g0
   refine⟨?_,?_,trivial⟩
   · exact(congrArg Prod.fst e).symm
   · exact(congrArg Prod.snd e).symm
 · have g0:pmBad a0=false:=h0
   refine Vs (Vq ?_)
   refine VrD mixed hG rfl (by kernel_rfl) ?_ ?_
   · exact⟨nIdx (pmN (orF g0).1) 1 (by decide),nIdx (pmN (orF g0).1) 2 (by decide),nIdx (pmN (orF g0).1) 3 (by decide),nIdx (pmN (orF g0).1) 4 (by decide),nIdx (pmN (orF g0).1) 5 (by decide)⟩
   refine Vt ?_
   have e:=pm1 g0
   refine⟨?_,?_,trivial⟩
   · exact(congrArg Prod.fst e).symm
   · exact(congrArg Prod.snd e).symm
noncomputable def F337:Fun:=⟨[.pair (.int .i64) Y10],[.pure (.bool)],fun _=>True,fun x=>(shapeF x.1,())⟩
theorem F337_ok:Meets Tryz.prog 337 F337:=by
 refine mZ (C:=mkC 51 [2] [0,1,2,4,6,8,10,12] [⟨256,_,F256_ok⟩,⟨259,_,F259_ok⟩,⟨347,_,F347_ok⟩,⟨348,_,F348_ok⟩,⟨265,_,F265_ok⟩]) (mO _ _ _ _) (fO _) Tryz.func337 rfl rfl rfl (by decide) rfl ?_
 rintro⟨a0,_⟩ hwf hpre ⟨⟩ hG rfl rfl
 show Vc _ _ [(0,⟨0,0,.c Z23 a0⟩)] _
 refine Vm hG rfl (Vm hG rfl (Vm hG rfl (Vm hG rfl ?_)))
 refine Vm hG rfl (Vm hG rfl (Vm hG rfl (Vt ?_)))
 refine⟨?_,trivial⟩
 all_goals exact rfl
noncomputable def F307:Fun:=⟨[.slice Y34,.pair (.int .i64) Y10],[.pure (.bool)],fun _=>True,fun x=>(checkPieceF x.1 x.2.1,())⟩
theorem F307_ok:Meets Tryz.prog 307 F307:=by
 refine mZ (C:=mkC 17 [4] [0,1,3,4] [⟨337,_,F337_ok⟩,⟨305,_,F305_ok⟩]) (mO _ _ _ _) (fO _) Tryz.func307 rfl rfl rfl (by decide) rfl ?_
 rintro⟨a0,a1,_⟩ hwf hpre ⟨⟩ hG rfl rfl
 show Vc _ _ [(0,⟨0,0,.c Z38 a0⟩),(1,⟨0,0,.c Z23 a1⟩)] _
 refine Vm hG rfl (Vq ?_)
 refine Vr hG rfl ?_ ?_
 · exact⟨trivial,fun h=>shapeSmall h⟩
 refine Vt ?_
 refine⟨?_,trivial⟩
 all_goals exact rfl
noncomputable def F254:Fun:=⟨[.pair Y36 Y57,.pair Y67 Y39,.slice (.slice (.int .i64)),.pair (.int .i64) Y10],[.pure (.bool)],fun x=>(fun(_:Frame) (e:Evidence) (_:List (List Int)) (_:Piece)=>Sm big20 Y67 e.1) x.1 x.2.1 x.2.2.1 x.2.2.2.1,fun x=>(usableF x.1 x.2.1 x.2.2.1 x.2.2.2.1,())⟩
theorem F254_ok:Meets Tryz.prog 254 F254:=by
 refine mZ (C:=mkC 40 [8] [0,1,2,3,4,5,7,8,9] [⟨143,_,F143_ok⟩,⟨307,_,F307_ok⟩,⟨188,_,F188_ok⟩,⟨189,_,F189_ok⟩]) (mO _ _ _ _) (fO _) Tryz.func254 rfl rfl rfl (by decide) rfl ?_
 rintro⟨a0,a1,a2,a3,_⟩ hwf hpre ⟨⟩ hG rfl rfl
 show Vc _ _ [(0,⟨0,0,.c Z68 a0⟩),(1,⟨0,0,.c Z73 a1⟩),(2,⟨0,0,.c Z8 a2⟩),(3,⟨0,0,.c Z23 a3⟩)] _
 have hS:Sm big20 Y67 a1.1:=hpre
 refine Vm hG rfl (Vm hG rfl (Vq ?_))
 refine VrD mixed hG rfl (by kernel_rfl) ?_ ?_
 · exact⟨fun _=>trivial,fun _=>hS,fun h=>findRange (geNot (andT h).1),fun _=>trivial⟩
 refine Vt ?_
 refine⟨?_,trivial⟩
 exact usS
noncomputable def F308:Fun:=⟨[.pair (.int .i64) Y10,.pair (.int .i64) Y10],[.pure (.bool)],fun _=>True,fun x=>(pbF x.1 x.2.1,())⟩
theorem F308_ok:Meets Tryz.prog 308 F308:=by
 refine mZ (C:=mkC 71 [4] [0,1,2,3,4,5,17,30,48,60] []) (mO _ _ _ _) (fO _) Tryz.func308 rfl rfl rfl (by decide) rfl ?_
 rintro⟨a0,a1,_⟩ hwf hpre ⟨⟩ hG rfl rfl
 show Vc _ _ [(0,⟨0,0,.c Z23 a0⟩),(1,⟨0,0,.c Z23 a1⟩)] _
 have hb:List.length a0.2.1≤bigLen:=hwf.1.2.1.1
 refine Vm hG rfl (Vq (Vm hG rfl (Vb ?_)))
 refine Vc.loopF [(5,false,.pure (.int .i64))] [0,1,2,3,48,60] (fun v=>pbInv a0 a1 v.1) (fun v=>((List.length a0.2.1:Int)-v.1).toNat) rfl ?_ ?_
 · exact pbStart
 rintro⟨(i:Int),_⟩ hI
 have hI:pbInv a0 a1 i:=hI
 refine Vq (Vm hG rfl ?_)
 refine Vk rfl ?_ ?_<;>intro h0
 · have hh:=andLt h0
   have hl:=hh.1
   have hm:=hh.2
   refine Vs (Vq (Vb (Vq ?_)))
   refine VrD mixed hG rfl (by kernel_rfl) ?_ ?_
   · exact⟨pbRangeA hI hl,pbRangeB hI hm⟩
   refine Vk rfl ?_ ?_<;>intro h1
   · have g1:=bneT h1
     refine Vq ?_
     refine VrD mixed hG rfl (by kernel_rfl) ?_ ?_
     · exact⟨pbRangeA hI hl,pbRangeB hI hm⟩
     refine Vt ?_
     refine⟨?_,trivial⟩
     exact pbHit hI hl hm g1
   · have g1:=bneI h1
     refine Vs (Vn hG rfl ?_)
     refine⟨rfl,?_⟩
     exact pbStep hI hl hm hb g1
 · have hx:=andGe h0
   refine Vx (Vq (Vm hG rfl ?_))
   refine Vk rfl ?_ ?_<;>intro h2
   · refine Vm hG rfl (Vt ?_)
     refine⟨?_,trivial⟩
     exact pbLen hI hx h2
   · refine Vs (Vq (Vm hG rfl ?_))
     refine Vk rfl ?_ ?_<;>intro h3
     · refine Vm hG rfl (Vt ?_)
       refine⟨?_,trivial⟩
       exact pbKey hI hx h2 h3
     · refine Vs (Vm hG rfl (Vt ?_))
       refine⟨?_,trivial⟩
       exact pbMark hI hx h2 h3
noncomputable def T255:TFun:=⟨.own Z31,[.pair (.int .i64) Y10],.own Z31,fun x xs=>(fun(l:List Piece) (p:Piece)=>List.length l≤2000000000∧AscP l∧Sm big20 Y19 p) x xs.1,fun x xs=>(fun l p=>usPut p l) x xs.1⟩
theorem T255_ok:MeetsT Tryz.prog 255 T255:=by
 refine meetsT_of_vc (C:=mkCM 46 [4] [0,1,3,4,5,17,31] [⟨308,_,F308_ok⟩,⟨202,_,F202_ok⟩,⟨165,_,F165_ok⟩] [] [] []) (mkCM_ok _ _ _ _ _ _ _) (fO _) Tryz.func255 rfl rfl rfl (by decide) rfl rfl rfl rfl ?_ rfl
 rintro a0 ⟨a1,_⟩ hwf0 hwf hpre ⟨⟩ hG rfl rfl
 show Vc _ _ [(0,⟨0,0,.c Z33 a0⟩),(1,⟨0,0,.c Z23 a1⟩)] _
 have hs:List.length a0≤2000000000:=hpre.1
 have ha:AscP a0:=hpre.2.1
 have hp:Sm big20 Y19 a1:=hpre.2.2
 refine Vm hG rfl (Vm hG rfl (Vq (Vb ?_)))
 refine Vc.loopF [(5,false,.pure (.int .i64))] [0,1,3,4,31] (fun v=>tkInv (fun(y:Piece)=>pbF y a1) a0 v.1) (fun v=>((List.length a0:Int)-v.1).toNat) rfl ?_ ?_
 · exact tkStart
 rintro⟨(i:Int),_⟩ hI
 have hI:tkInv (fun(y:Piece)=>pbF y a1) a0 i:=hI
 refine Vq (Vq ?_)
 refine VrD mixed hG rfl (by kernel_rfl) ?_ ?_
 · exact⟨fun h=>tkRange hI (oTr h),fun _=>trivial⟩
 refine Vk rfl ?_ ?_<;>intro h0
 · have g0:pick2 (decide (i<(List.length a0:Int))) (pbF (List.getD a0 i.toNat (dflt Y19)) a1) false=true:=h0
   refine Vs (Vb (Vn hG rfl ?_))
   refine⟨rfl,?_⟩
   exact tkStepW (p:=(fun(y:Piece)=>pbF y a1)) hI hs g0
 · have g0:pick2 (decide (i<(List.length a0:Int))) (pbF (List.getD a0 i.toNat (dflt Y19)) a1) false=false:=h0
   have hk:=tkEnd (p:=(fun(y:Piece)=>pbF y a1)) hI g0
   refine Vx (Vq (Vq ?_))
   refine VrD mixed hG rfl (by kernel_rfl) ?_ ?_
   · exact⟨fun h=>tkRange hI (oTr h),fun _=>trivial⟩
   refine Vk rfl ?_ ?_<;>intro h1
   · have g1:pick2 (decide (i<(List.length a0:Int))) (eqC (List.getD a0 i.toNat (dflt Y19)) a1) false=true:=h1
     refine Vm hG rfl (Vt ?_)
     refine⟨?_,trivial⟩
     exact putYes hI.1 g1
   · have g1:pick2 (decide (i<(List.length a0:Int))) (eqC (List.getD a0 i.toNat (dflt Y19)) a1) false=false:=h1
     refine Vs (Vq ?_)
     refine VrD mixed hG rfl (by kernel_rfl) ?_ ?_
     · exact insConds2W hI hs hp
     refine Vt ?_
     refine⟨?_,trivial⟩
     exact(putEq hI hk).trans (putNo ha hk hI.1 g1).symm
noncomputable def F191:Fun:=⟨[.pair Y36 Y57,.pair Y67 Y39,.slice (.slice (.int .i64))],[.own Z31],fun x=>(fun(_:Frame) (e:Evidence) (_:List (List Int))=>Sm big20 Y67 e.1∧((cellsC Y67 e.1:Nat):Int)≤2000000000) x.1 x.2.1 x.2.2.1,fun x=>(usablePiecesF x.1 x.2.1 x.2.2.1,())⟩
theorem F191_ok:Meets Tryz.prog 191 F191:=by
 refine mZ (C:=mkCM 48 [6] [0,1,2,3,4,6,7,8,9,10,16,27,43] [⟨254,_,F254_ok⟩] [] [⟨255,_,T255_ok⟩] []) (mkCM_ok _ _ _ _ _ _ _) (fO _) Tryz.func191 rfl rfl rfl (by decide) rfl ?_
 rintro⟨a0,a1,a2,_⟩ hwf hpre ⟨⟩ hG rfl rfl
 show Vc _ _ [(0,⟨0,0,.c Z68 a0⟩),(1,⟨0,0,.c Z73 a1⟩),(2,⟨0,0,.c Z8 a2⟩)] _
 have hS:Sm big20 Y67 a1.1:=hpre.1
 have hc:((cellsC Y67 a1.1:Nat):Int)≤2000000000:=hpre.2
 have hb:List.length a1.1≤bigLen:=hwf.2.1.1.1
 refine Vm hG rfl (Vm hG rfl (Vq (Vm hG rfl ?_)))
 refine Vb ?_
 refine Vc.loopF [(7,false,.own Z31),(8,false,.pure (.int .i64))] [0,1,2,3,4,6] (fun v=>uoInv a0 a1 a2 v.1 v.2.1) (fun v=>((List.length a1.1:Int)-v.2.1).toNat) rfl ?_ ?_
 · exact uoStart
 rintro⟨out,(i:Int),_⟩ hI
 have hI:uoInv a0 a1 a2 out i:=hI
 refine Vq (Vm hG rfl ?_)
 refine Vk rfl ?_ ?_<;>intro h0
 · have hl:i<(List.length a1.1:Int):=oTr h0
   have ri:=uoRange hI hl
   have sS:=usStrand hS ri
   have hbk:List.length (List.getD a1.1 i.toNat (dflt Y64)).1≤bigLen:=Nat.le_trans sS.1.1 (by decide)
   refine Vs (Vq (Vb (Vm hG rfl ?_)))
   refine Vb ?_
   refine Vc.loopF [(7,false,.own Z31),(9,false,.pure (.int .i64))] [0,1,2,3,4,6,8,16] (fun v=>uiInv a0 a1 a2 i v.1 v.2.1) (fun v=>((List.length (List.getD a1.1 i.toNat (dflt Y64)).1:Int)-v.2.1).toNat) rfl ?_ ?_
   · exact uiStart hI
   rintro⟨out2,(k:Int),_⟩ hK
   have hK:uiInv a0 a1 a2 i out2 k:=hK
   refine Vq (Vq ?_)
   refine Vr hG rfl ?_ ?_
   · exact ri
   refine Vk rfl ?_ ?_<;>intro h1
   · have hm:k<(List.length (List.getD a1.1 i.toNat (dflt Y64)).1:Int):=oTr h1
     have rk:=uiRange hK hm
     have ho:=uiLen ri hK hc
     have hE:Sm big20 Y19 (List.getD (List.getD a1.1 i.toNat (dflt Y64)).1 k.toNat (dflt Y19)):=sS.1.2 _ (getD_mem rk _)
     refine Vs (Vq (Vb (Vq ?_)))
     refine Vr hG rfl ?_ ?_
     · exact⟨ri,rk⟩
     refine Vq ?_
     refine Vr hG rfl ?_ ?_
     · exact hS
     refine Vk rfl ?_ ?_<;>intro h2
     · have g2:usableF a0 a1 a2 (List.getD (List.getD a1.1 i.toNat (dflt Y64)).1 k.toNat (dflt Y19))=true:=h2
       have st:=uiStep hK hm hbk (usYes g2)
       refine Vr hG rfl ?_ ?_
       · exact⟨ho,uiAsc hK,hE⟩
       refine Vn hG rfl ?_
       refine⟨rfl,?_⟩
       exact st
     · have g2:usableF a0 a1 a2 (List.getD (List.getD a1.1 i.toNat (dflt Y64)).1 k.toNat (dflt Y19))=false:=h2
       have st:=uiStep hK hm hbk (usNo (out:=out2) g2)
       refine Vs (Vn hG rfl ?_)
       refine⟨rfl,?_⟩
       exact st
   · have hm:¬k<(List.length (List.getD a1.1 i.toNat (dflt Y64)).1:Int):=oFa h1
     refine Vx (Vn hG rfl ?_)
     refine⟨rfl,?_⟩
     exact uoStep hI hl hb hK hm
 · have hl:¬i<(List.length a1.1:Int):=oFa h0
   refine Vx (Vm hG rfl (Vt ?_))
   refine⟨?_,trivial⟩
   exact uoEnd hI hl
noncomputable def F257:Fun:=⟨[.slice Y34,.pair (.int .i64) Y40],[.pure (.bool)],fun _=>True,fun x=>(checkCertF x.1 x.2.1,())⟩
theorem F257_ok:Meets Tryz.prog 257 F257:=by
 refine mZ (C:=mkC 26 [4] [0,1,3,4] [⟨310,_,F310_ok⟩,⟨300,_,F300_ok⟩,⟨305,_,F305_ok⟩,⟨177,_,F177_ok⟩]) (mO _ _ _ _) (fO _) Tryz.func257 rfl rfl rfl (by decide) rfl ?_
 rintro⟨a0,a1,_⟩ hwf hpre ⟨⟩ hG rfl rfl
 show Vc _ _ [(0,⟨0,0,.c Z38 a0⟩),(1,⟨0,0,.c Z48 a1⟩)] _
 refine Vm hG rfl (Vq ?_)
 refine VrD mixed hG rfl (by kernel_rfl) ?_ ?_
 · exact⟨trivial,fun _=>trivial,fun _=>smallLit (n:=7) rfl (by decide),fun _=>trivial⟩
 refine Vt ?_
 refine⟨?_,trivial⟩
 all_goals exact rfl
noncomputable def F192:Fun:=⟨[.pair Y36 Y57,.slice Y19,.pair (.int .i64) Y50],[.pure Y47,.pure (.bool)],fun _=>True,fun x=>(((fun a0 a1 a2=>certForF a0.1 a1 a2) x.1 x.2.1 x.2.2.1).1,((fun a0 a1 a2=>certForF a0.1 a1 a2) x.1 x.2.1 x.2.2.1).2,())⟩
theorem F192_ok:Meets Tryz.prog 192 F192:=by
 refine mZ (C:=mkC 56 [6,7] [0,1,2,3,5,6,7,8,9,10,11,12,17,48,53] [⟨256,_,F256_ok⟩,⟨257,_,F257_ok⟩]) (mO _ _ _ _) (fO _) Tryz.func192 rfl rfl rfl (by decide) rfl ?_
 rintro⟨a0,a1,a2,_⟩ hwf hpre ⟨⟩ hG rfl rfl
 show Vc _ _ [(0,⟨0,0,.c Z68 a0⟩),(1,⟨0,0,.c Z28 a1⟩),(2,⟨0,0,.c Z54 a2⟩)] _
 have hb:List.length a1≤bigLen:=hwf.2.1.1
 refine Vm hG rfl (Vm hG rfl (Vm hG rfl (Vq ?_)))
 refine Vm hG rfl (Vb ?_)
 refine Vc.loopF [(8,true,.pure Y47),(9,false,.pure (.int .i64)),(10,false,.pure (.int .i64))] [0,1,2,3,5,6,7,53] (fun v=>cfInv a0.1 a2 a1 v.1 v.2.1 v.2.2.1) (fun v=>((List.length a1:Int)-v.2.2.1).toNat) rfl ?_ ?_
 · exact cfStart
 rintro⟨c,(n:Int),(i:Int),_⟩ hI
 have hI:cfInv a0.1 a2 a1 c n i:=hI
 refine Vq (Vm hG rfl ?_)
 refine Vk rfl ?_ ?_<;>intro h0
 · have hl:i<(List.length a1:Int):=oTr h0
   refine Vs (Vq (Vb (Vq ?_)))
   refine Vr hG rfl ?_ ?_
   · exact⟨cfRange hI hl,trivial⟩
   refine Vq ?_
   refine Vr hG rfl ?_ ?_
   · repeat' (first | exact trivial | refine And.intro ?_ ?_ | intro _)
   refine Vk rfl ?_ ?_<;>intro h1
   · have g1:cfTest a0.1 a2 (List.getD a1 i.toNat (dflt Y19))=true:=h1
     refine Vm hG rfl (Vn hG rfl (Vn hG rfl ?_))
     refine⟨rfl,?_⟩
     first | exact cfGo1 hI hl hb g1 | exact cfGo0 hI hl hb g1
   · have g1:cfTest a0.1 a2 (List.getD a1 i.toNat (dflt Y19))=false:=h1
     refine Vs (Vn hG rfl ?_)
     refine⟨rfl,?_⟩
     first | exact cfGo1 hI hl hb g1 | exact cfGo0 hI hl hb g1
 · have hl:¬i<(List.length a1:Int):=oFa h0
   refine Vx (Vq (Vm hG rfl ?_))
   refine Vk rfl ?_ ?_<;>intro h2
   · have g2:(n != 1)=true:=h2
     refine Vm hG rfl (Vt ?_)
     have e:=cfEnd0 hI hl g2
     refine⟨?_,?_,trivial⟩
     · exact(congrArg Prod.fst e).symm
     · exact(congrArg Prod.snd e).symm
   · have g2:(n != 1)=false:=h2
     refine Vs (Vm hG rfl (Vt ?_))
     have e:=cfEnd1 hI hl g2
     refine⟨?_,?_,trivial⟩
     · exact(congrArg Prod.fst e).symm
     · exact(congrArg Prod.snd e).symm
noncomputable def F312:Fun:=⟨[.slice Y19,.pair (.int .i64) Y10],[.pure (.bool)],fun _=>True,fun x=>(hasF x.1 x.2.1,())⟩
theorem F312_ok:Meets Tryz.prog 312 F312:=by
 refine mZ (C:=mkC 18 [4] [0,1,3,4,5,9,17] [⟨202,_,F202_ok⟩]) (mO _ _ _ _) (fO _) Tryz.func312 rfl rfl rfl (by decide) rfl ?_
 rintro⟨a0,a1,_⟩ hwf hpre ⟨⟩ hG rfl rfl
 show Vc _ _ [(0,⟨0,0,.c Z28 a0⟩),(1,⟨0,0,.c Z23 a1⟩)] _
 have hb:List.length a0≤bigLen:=hwf.1.1
 refine Vm hG rfl (Vq (Vm hG rfl (Vb ?_)))
 refine Vc.loopF [(5,false,.pure (.int .i64))] [0,1,3] (fun v=>fInv (fun x=>eqC x a1) a0 v.1) (fun v=>((List.length a0:Int)-v.1).toNat) rfl ?_ ?_
 · exact fStart
 rintro⟨(i:Int),_⟩ hI
 have hI:fInv (fun x=>eqC x a1) a0 i:=hI
 refine Vq (Vm hG rfl ?_)
 refine Vk rfl ?_ ?_<;>intro h0
 · have hl:i<(List.length a0:Int):=oTr h0
   refine Vs (Vq (Vb (Vq ?_)))
   refine VrD mixed hG rfl (by kernel_rfl) ?_ ?_
   · exact⟨fRange hI hl,trivial⟩
   refine Vk rfl ?_ ?_<;>intro h1
   · have g1:(fun x=>eqC x a1) (List.getD a0 i.toNat (dflt Y19))=true:=h1
     refine Vm hG rfl (Vt ?_)
     refine⟨?_,trivial⟩
     exact hasYes hI hl g1
   · have g1:(fun x=>eqC x a1) (List.getD a0 i.toNat (dflt Y19))=false:=h1
     refine Vs (Vn hG rfl ?_)
     refine⟨rfl,?_⟩
     exact fStep hI hl hb g1
 · have hl:¬i<(List.length a0:Int):=oFa h0
   refine Vx (Vm hG rfl (Vt ?_))
   refine⟨?_,trivial⟩
   exact hasNo hI hl
noncomputable def F258:Fun:=⟨[.pair Y36 Y57,.slice Y19,.slice Y34],[.pure (.int .i64),.pure (.bool)],fun x=>(fun(_:Frame) (_:List Piece) (l:List Stamp)=>List.length l≤1048576) x.1 x.2.1 x.2.2.1,fun x=>((l23F x.1 x.2.1 x.2.2.1).1,(l23F x.1 x.2.1 x.2.2.1).2,())⟩
theorem F258_ok:Meets Tryz.prog 258 F258:=by
 refine mZ (C:=mkC 82 [6,7] [0,1,2,3,6,7,8,9,10,11,12,13,18,67] [⟨311,_,F311_ok⟩,⟨297,_,F297_ok⟩,⟨175,_,F175_ok⟩,⟨312,_,F312_ok⟩,⟨313,_,F313_ok⟩]) (mO _ _ _ _) (fO _) Tryz.func258 rfl rfl rfl (by decide) rfl ?_
 rintro⟨a0,a1,a2,_⟩ hwf hpre ⟨⟩ hG rfl rfl
 show Vc _ _ [(0,⟨0,0,.c Z68 a0⟩),(1,⟨0,0,.c Z28 a1⟩),(2,⟨0,0,.c Z38 a2⟩)] _
 have hs:List.length a2≤1048576:=hpre
 have hb:List.length a2≤bigLen:=hwf.2.2.1.1
 refine Vm hG rfl (Vm hG rfl (Vq (Vm hG rfl ?_)))
 refine Vb ?_
 refine Vc.loopF [(8,false,.own Z9),(9,false,.pure (.int .i64))] [0,1,2,3,12,13] (fun v=>l23Inv a0 a1 a2 v.1 v.2.1) (fun v=>((List.length a2:Int)-v.2.1).toNat) rfl ?_ ?_
 · exact l23Start
 rintro⟨acc,(i:Int),_⟩ hI
 have hI:l23Inv a0 a1 a2 acc i:=hI
 have hA:List.length acc≤1048576:=Nat.le_trans (rsLen hI.1) hs
 have h0i:0≤i:=by obtain⟨n,_,e⟩:=hI.1.1;omega
 refine Vq (Vm hG rfl ?_)
 refine Vk rfl ?_ ?_<;>intro h0
 · have hl:i<(List.length a2:Int):=oTr h0
   refine Vs (Vq (Vb (Vq ?_)))
   refine VrD mixed hG rfl (by kernel_rfl) ?_ ?_
   · exact⟨rsRange hI.1 hl,trivial⟩
   refine Vq (Vq ?_)
   refine VrD mixed hG rfl (by kernel_rfl) ?_ ?_
   · repeat' (first | exact trivial | exact rsRange hI.1 hl | (intro h2;exact prevIdx (rsRange hI.1 hl) (oTr h2) hb) | refine And.intro ?_ ?_ | intro _)
   refine Vk rfl ?_ ?_<;>intro h1
   · have g1:l23Bad a0 a1 a2 i=true:=h1
     refine Vm hG rfl (Vt ?_)
     have e:=l23Stop hI hl hb g1
     refine⟨?_,?_,trivial⟩
     · exact congrArg (fun(q:Int×Bool)=>q.1) e
     · exact congrArg (fun(q:Int×Bool)=>q.2) e
   · have g1:l23Bad a0 a1 a2 i=false:=h1
     refine Vs ?_
     refine Vr hG rfl ?_ ?_
     · exact(show List.length acc+1≤maxApp from by unfold maxApp;omega)
     refine Vn hG rfl ?_
     refine⟨rfl,?_⟩
     exact l23Step hI hl hb ((l23_iff h0i hl hb).1 g1)
 · have hl:¬i<(List.length a2:Int):=oFa h0
   refine Vx (Vm hG rfl (Vm hG rfl (Vt ?_)))
   have e:=l23End hI hl
   refine⟨?_,?_,trivial⟩
   · exact congrArg (fun(q:Int×Bool)=>q.1) e
   · exact congrArg (fun(q:Int×Bool)=>q.2) e
end Fw
