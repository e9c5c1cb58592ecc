/- Walks of functions of the program: what each computes. Conditions: those that each contract names. -/
import Derived.Test.YtpcljloahdbjcaaGreatW51T
import Derived.Test.YtpcljloahdbjcaaGreatW51i0
set_option linter.unusedVariables false
namespace Fw
open Go Go.Proofs
set_option linter.unusedSimpArgs false
set_option maxRecDepth 100000
noncomputable def F256:Fun:=⟨[.int .i64,.int .i64],[.pure Y5,.pure (.bool)],fun _=>True,fun x=>((makeSpanF x.1 x.2.1).1,(makeSpanF x.1 x.2.1).2,())⟩
theorem F256_ok:Meets Tryz.prog 256 F256:=by
 refine mZ (C:=mkC 22 [4,5] [0,1,4,5,6,19] [⟨123,_,F123_ok⟩]) (mO _ _ _ _) (fO _) Tryz.func256 rfl rfl rfl (by decide) rfl ?_
 rintro⟨(a0:Int),(a1:Int),_⟩ hwf hpre ⟨⟩ hG rfl rfl
 show Vc _ _ [(0,⟨0,0,.c (.pure (.int .i64)) a0⟩),(1,⟨0,0,.c (.pure (.int .i64)) a1⟩)] _
 refine Vm hG rfl (Vm hG rfl (Vq (Vq ?_)))
 refine Vr hG rfl ?_ ?_
 · repeat' (first | exact trivial | refine And.intro ?_ ?_ | intro _)
 refine Vk rfl ?_ ?_<;>intro h0
 · refine Vm hG rfl (Vt ?_)
   have e:=mkSpI0 h0
   refine⟨?_,?_,trivial⟩
   · exact(congrArg Prod.fst e).symm
   · exact(congrArg Prod.snd e).symm
 · refine Vs (Vm hG rfl (Vt ?_))
   have e:=mkSpI1 h0
   refine⟨?_,?_,trivial⟩
   · exact(congrArg Prod.fst e).symm
   · exact(congrArg Prod.snd e).symm
noncomputable def F173:Fun:=⟨[.slice Y15,.pair (.int .i64) Y27],[.pure Y5,.pure (.bool)],fun _=>True,fun x=>((stampSpanF x.1 x.2.1).1,(stampSpanF x.1 x.2.1).2,())⟩
theorem F173_ok:Meets Tryz.prog 173 F173:=by
 refine mZ (C:=mkC 47 [4,5] [0,1,3,4,5,6,26] [⟨172,_,F172_ok⟩,⟨132,_,F132_ok⟩,⟨256,_,F256_ok⟩]) (mO _ _ _ _) (fO _) Tryz.func173 rfl rfl rfl (by decide) rfl ?_
 rintro⟨a0,a1,_⟩ hwf hpre ⟨⟩ hG rfl rfl
 show Vc _ _ [(0,⟨0,0,.c Z25 a0⟩),(1,⟨0,0,.c Z37 a1⟩)] _
 refine Vm hG rfl (Vm hG rfl (Vq (Vq ?_)))
 refine Vr hG rfl ?_ ?_
 · exact⟨fun h=>findRange (oFa h),fun _=>trivial⟩
 refine Vk rfl ?_ ?_<;>intro h0
 · have g0:ssBad a0 a1=true:=h0
   refine Vm hG rfl (Vt ?_)
   have e:=ss0 g0
   refine⟨?_,?_,trivial⟩
   · exact(congrArg Prod.fst e).symm
   · exact(congrArg Prod.snd e).symm
 · have g0:ssBad a0 a1=false:=h0
   refine Vs (Vq ?_)
   refine VrD mixed hG rfl (by kernel_rfl) ?_ ?_
   · exact⟨ssIdx g0,ssIdx g0,trivial⟩
   refine Vt ?_
   have e:=ss1 g0
   refine⟨?_,?_,trivial⟩
   · exact(congrArg Prod.fst e).symm
   · exact(congrArg Prod.snd e).symm
noncomputable def F317:Fun:=⟨[.slice Y5,.int .i64],[.pure (.int .i64)],fun _=>True,fun x=>(countAtF x.1 x.2.1,())⟩
theorem F317_ok:Meets Tryz.prog 317 F317:=by
 refine mZ (C:=mkC 28 [4] [0,1,4,5,7,8,9,10,11,23] [⟨123,_,F123_ok⟩,⟨86,_,F86_ok⟩]) (mO _ _ _ _) (fO _) Tryz.func317 rfl rfl rfl (by decide) rfl ?_
 rintro⟨a0,(a1:Int),_⟩ hwf hpre ⟨⟩ hG rfl rfl
 show Vc _ _ [(0,⟨0,0,.c Z14 a0⟩),(1,⟨0,0,.c (.pure (.int .i64)) a1⟩)] _
 have hb:List.length a0≤bigLen:=hwf.1.1
 refine Vm hG rfl (Vm hG rfl (Vq (Vm hG rfl ?_)))
 refine Vb ?_
 refine Vc.loopF [(5,false,.pure (.int .i64)),(10,false,.pure (.int .i64))] [0,1,4,8,9] (fun v=>foInv (cntStep a1) 0 a0 v.1 v.2.1) (fun v=>((List.length a0:Int)-v.2.1).toNat) rfl ?_ ?_
 · exact foStart
 rintro⟨(acc:Int),(i:Int),_⟩ hI
 have hI:foInv (cntStep a1) 0 a0 acc i:=hI
 refine Vm hG rfl (Vq ?_)
 refine Vk rfl ?_ ?_<;>intro h0
 · have hl:i<(List.length a0:Int):=oTr h0
   refine Vs (Vq (Vb (Vq ?_)))
   refine Vr hG rfl ?_ ?_
   · exact foRange hI hl
   refine Vq ?_
   refine Vr hG rfl ?_ ?_
   · repeat' (first | exact trivial | refine And.intro ?_ ?_ | intro _)
   refine Vk rfl ?_ ?_<;>intro h1
   · have g1:inSp a1 (List.getD a0 i.toNat (dflt Y5))=true:=h1
     have st:=foStepE (d:=dflt Y5) hI hl hb (cntY (n:=acc) g1).symm
     refine Vn hG rfl (Vn hG rfl ?_)
     refine⟨rfl,?_⟩
     exact st
   · have g1:inSp a1 (List.getD a0 i.toNat (dflt Y5))=false:=h1
     have st:=foStepE (d:=dflt Y5) hI hl hb (cntN (n:=acc) g1).symm
     refine Vs (Vn hG rfl ?_)
     refine⟨rfl,?_⟩
     exact st
 · have hl:¬i<(List.length a0:Int):=oFa h0
   refine Vx (Vm hG rfl (Vt ?_))
   refine⟨?_,trivial⟩
   exact foEnd hI hl
noncomputable def F257:Fun:=⟨[.slice Y5,.int .i64,.int .i64],[.pure (.bool)],fun _=>True,fun x=>(supF x.1 x.2.1 x.2.2.1,())⟩
theorem F257_ok:Meets Tryz.prog 257 F257:=by
 refine mZ (C:=mkC 22 [6] [0,1,2,6] [⟨86,_,F86_ok⟩,⟨317,_,F317_ok⟩]) (mO _ _ _ _) (fO _) Tryz.func257 rfl rfl rfl (by decide) rfl ?_
 rintro⟨a0,(a1:Int),(a2:Int),_⟩ hwf hpre ⟨⟩ hG rfl rfl
 show Vc _ _ [(0,⟨0,0,.c Z14 a0⟩),(1,⟨0,0,.c (.pure (.int .i64)) a1⟩),(2,⟨0,0,.c (.pure (.int .i64)) a2⟩)] _
 refine Vm hG rfl (Vq ?_)
 refine Vr hG rfl ?_ ?_
 · repeat' (first | exact trivial | refine And.intro ?_ ?_ | intro _)
 refine Vt ?_
 refine⟨?_,trivial⟩
 all_goals exact rfl
noncomputable def F174:Fun:=⟨[.slice Y5,.int .i64],[.pure Y5,.pure (.bool)],fun _=>True,fun x=>((agreedF x.1 x.2.1).1,(agreedF x.1 x.2.1).2,())⟩
theorem F174_ok:Meets Tryz.prog 174 F174:=by
 refine mZ (C:=mkC 25 [4,5] [0,1,4,5,6,7,8,10,16,18] [⟨257,_,F257_ok⟩]) (mO _ _ _ _) (fO _) Tryz.func174 rfl rfl rfl (by decide) rfl ?_
 rintro⟨a0,(a1:Int),_⟩ hwf hpre ⟨⟩ hG rfl rfl
 show Vc _ _ [(0,⟨0,0,.c Z14 a0⟩),(1,⟨0,0,.c (.pure (.int .i64)) a1⟩)] _
 have hb:List.length a0≤bigLen:=hwf.1.1
 refine Vm hG rfl (Vm hG rfl (Vm hG rfl (Vq ?_)))
 refine Vm hG rfl (Vb ?_)
 refine Vc.loopF [(6,true,.pure Y5),(7,false,.pure (.bool)),(8,false,.pure (.int .i64))] [0,1,4,5] (fun v=>agInv a0 a1 v.1 v.2.1 v.2.2.1) (fun v=>((10001:Int)-v.2.2.1).toNat) rfl ?_ ?_
 · exact agStart
 rintro⟨s,fd,(t:Int),_⟩ hI
 have hI:agInv a0 a1 s fd t:=hI
 refine Vq (Vm hG rfl ?_)
 refine Vk rfl ?_ ?_<;>intro h0
 · have hl:t≤10000:=oTr h0
   refine Vs (Vq (Vb (Vm hG rfl ?_)))
   refine Vk rfl ?_ ?_<;>intro h1
   · have g1:supF a0 t a1=true:=h1
     refine Vq (Vm hG rfl ?_)
     refine Vk rfl ?_ ?_<;>intro h2
     · have g2:fd=false:=by simpa using h2
       have st:=agStep hI hl (s':=(t,t)) (found':=true) (by rw[if_pos g1,if_neg (by rw[g2];decide)])
       refine Vn hG rfl (Vm hG rfl (Vn hG rfl (Vn hG rfl ?_)))
       refine⟨rfl,?_⟩
       exact st
     · have g2:fd=true:=by simpa using h2
       have st:=agStep hI hl (s':=(s.1,t)) (found':=true) (by rw[if_pos g1,if_pos g2])
       refine Vs (Vm hG rfl (Vn hG rfl (Vn hG rfl ?_)))
       refine⟨rfl,?_⟩
       exact st
   · have g1:supF a0 t a1=false:=h1
     have st:=agStep hI hl (s':=s) (found':=fd) (by rw[if_neg (by rw[g1];decide)])
     refine Vs (Vn hG rfl ?_)
     refine⟨rfl,?_⟩
     exact st
 · have hl:¬t≤10000:=oFa h0
   refine Vx (Vm hG rfl (Vt ?_))
   have e:=agEnd hI hl
   refine⟨?_,?_,trivial⟩
   · exact congrArg (fun(q:Span×Bool)=>q.1) e
   · exact congrArg (fun(q:Span×Bool)=>q.2) e
noncomputable def F112:Fun:=⟨[.slice Y15,.slice Y36,.int .i64],[.pure Y5,.pure (.bool)],fun x=>(fun(_:List Authority) (a1:List Stamp) (_:Int)=>List.length a1≤1048576) x.1 x.2.1 x.2.2.1,fun x=>(((fun a0 a1 a2=>rsF a0 a1 a2) x.1 x.2.1 x.2.2.1).1,((fun a0 a1 a2=>rsF a0 a1 a2) x.1 x.2.1 x.2.2.1).2,())⟩
theorem F112_ok:Meets Tryz.prog 112 F112:=by
 refine mZ (C:=mkC 38 [6,7] [0,1,2,6,7,8,10,11,12,13,14,15,16,26] [⟨173,_,F173_ok⟩,⟨174,_,F174_ok⟩]) (mO _ _ _ _) (fO _) Tryz.func112 rfl rfl rfl (by decide) rfl ?_
 rintro⟨a0,a1,(a2:Int),_⟩ hwf hpre ⟨⟩ hG rfl rfl
 show Vc _ _ [(0,⟨0,0,.c Z25 a0⟩),(1,⟨0,0,.c Z40 a1⟩),(2,⟨0,0,.c (.pure (.int .i64)) a2⟩)] _
 have hs:List.length a1≤1048576:=hpre
 have hb:List.length a1≤bigLen:=by unfold bigLen;omega
 refine Vm hG rfl (Vm hG rfl (Vq (Vm hG rfl ?_)))
 refine Vb ?_
 refine Vc.loopF [(6,true,.pure Y5),(8,false,.own Z9),(15,false,.pure (.int .i64))] [0,1,2,13,14] (fun v=>rsInv a0 a1 v.2.1 v.2.2.1) (fun v=>((List.length a1:Int)-v.2.2.1).toNat) rfl ?_ ?_
 · exact rsStart
 rintro⟨r6,acc,(i:Int),_⟩ hI
 have hI:rsInv a0 a1 acc i:=hI
 have hA:List.length acc≤1048576:=Nat.le_trans (rsLen hI) hs
 refine Vm hG rfl (Vq ?_)
 refine Vk rfl ?_ ?_<;>intro h0
 · have hl:i<(List.length a1:Int):=oTr h0
   refine Vs (Vq (Vb (Vq ?_)))
   refine Vr hG rfl ?_ ?_
   · exact rsRange hI hl
   refine Vm hG rfl (Vq (Vm hG rfl ?_))
   refine Vk rfl ?_ ?_<;>intro h1
   · have g1:¬rsP a0 (List.getD a1 i.toNat (dflt TStamp)):=fun q=>nself q h1
     refine Vm hG rfl (Vt ?_)
     have e:=rsBad (d:=dflt TStamp) (liars:=a2) hI hl g1
     refine⟨?_,?_,trivial⟩
     · exact congrArg (fun(q:Span×Bool)=>q.1) e
     · exact congrArg (fun(q:Span×Bool)=>q.2) e
   · have g1:rsP a0 (List.getD a1 i.toNat (dflt TStamp)):=notF h1
     refine Vs ?_
     refine Vr hG rfl ?_ ?_
     · show List.length acc+1≤maxApp
       unfold maxApp;omega
     refine Vn hG rfl ?_
     refine⟨rfl,?_⟩
     exact rsStep (d:=dflt TStamp) hI hl hb g1
 · have hl:¬i<(List.length a1:Int):=oFa h0
   refine Vx (Vm hG rfl (Vt ?_))
   have e:=rsEnd (liars:=a2) hI hl
   refine⟨?_,?_,trivial⟩
   · exact congrArg (fun(q:Span×Bool)=>q.1) e
   · exact congrArg (fun(q:Span×Bool)=>q.2) e
noncomputable def F315:Fun:=⟨[.slice Y15,.pair (.int .i64) Y53,.int .i64],[.pure Y5,.pure (.bool)],fun x=>(fun(_:List Authority) (a1:Renewal) (_:Int)=>List.length a1.2.2.2.2≤1048576) x.1 x.2.1 x.2.2.1,fun x=>(((fun a0 a1 a2=>rsF a0 a1.2.2.2.2 a2) x.1 x.2.1 x.2.2.1).1,((fun a0 a1 a2=>rsF a0 a1.2.2.2.2 a2) x.1 x.2.1 x.2.2.1).2,())⟩
theorem F315_ok:Meets Tryz.prog 315 F315:=by
 refine mZ (C:=mkC 15 [6,7] [0,1,2,4,6,7] [⟨112,_,F112_ok⟩]) (mO _ _ _ _) (fO _) Tryz.func315 rfl rfl rfl (by decide) rfl ?_
 rintro⟨a0,a1,(a2:Int),_⟩ hwf hpre ⟨⟩ hG rfl rfl
 show Vc _ _ [(0,⟨0,0,.c Z25 a0⟩),(1,⟨0,0,.c Z58 a1⟩),(2,⟨0,0,.c (.pure (.int .i64)) a2⟩)] _
 have hs:List.length a1.2.2.2.2≤1048576:=hpre
 refine Vm hG rfl (Vq ?_)
 refine Vr hG rfl ?_ ?_
 · exact hs
 refine Vt ?_
 refine⟨?_,?_,trivial⟩
 all_goals exact rfl
noncomputable def F254:Fun:=⟨[.pair Y38 Y55,.pair (.int .i64) Y53],[.pure Y5,.pure (.bool)],fun x=>(fun(_:Frame) (r:Renewal)=>List.length r.2.2.2.2≤1048576) x.1 x.2.1,fun x=>((spanOfF x.1 x.2.1).1,(spanOfF x.1 x.2.1).2,())⟩
theorem F254_ok:Meets Tryz.prog 254 F254:=by
 refine mZ (C:=mkC 14 [4,5] [0,1,2,3,4,5] [⟨315,_,F315_ok⟩]) (mO _ _ _ _) (fO _) Tryz.func254 rfl rfl rfl (by decide) rfl ?_
 rintro⟨a0,a1,_⟩ hwf hpre ⟨⟩ hG rfl rfl
 show Vc _ _ [(0,⟨0,0,.c Z66 a0⟩),(1,⟨0,0,.c Z58 a1⟩)] _
 have hs:List.length a1.2.2.2.2≤1048576:=hpre
 refine Vm hG rfl (Vq ?_)
 refine Vr hG rfl ?_ ?_
 · exact hs
 refine Vt ?_
 refine⟨?_,?_,trivial⟩
 all_goals exact rfl
noncomputable def F156:Fun:=⟨[.pair (.int .i64) Y27],[.own (.pure (.int .i64))],fun _=>True,fun x=>(stampIntsF x.1,())⟩
theorem F156_ok:Meets Tryz.prog 156 F156:=by
 refine mZ (C:=mkC 12 [2] [0,1,2] []) (mO _ _ _ _) (fO _) Tryz.func156 rfl rfl rfl (by decide) rfl ?_
 rintro⟨a0,_⟩ hwf hpre ⟨⟩ hG rfl rfl
 show Vc _ _ [(0,⟨0,0,.c Z37 a0⟩)] _
 refine Vm hG rfl (Vm hG rfl (Vt ?_))
 refine⟨?_,trivial⟩
 all_goals exact rfl
noncomputable def F88:Fun:=⟨[.int .i64,.pair (.int .i64) Y53],[.pure (.int .i64)],fun x=>(fun(_:Int) (r:Renewal)=>Sm big20 TRen r) x.1 x.2.1,fun x=>(renDigF x.1 x.2.1,())⟩
theorem F88_ok:Meets Tryz.prog 88 F88:=by
 refine mZ (C:=mkC 59 [4] [0,1,3,4,5,7,8,10,19,20,21,22,26,41,42,43,44] [⟨156,_,F156_ok⟩,⟨120,_,F120_ok⟩]) (mO _ _ _ _) (fO _) Tryz.func88 rfl rfl rfl (by decide) rfl ?_
 rintro⟨(a0:Int),a1,_⟩ hwf hpre ⟨⟩ hG rfl rfl
 show Vc _ _ [(0,⟨0,0,.c (.pure (.int .i64)) a0⟩),(1,⟨0,0,.c Z58 a1⟩)] _
 have hp:Sm big20 TRen a1:=hpre
 have h3:List.length a1.2.2.2.1≤1048576:=hp.2.2.2.1.1
 have h4:List.length a1.2.2.2.2≤1048576:=hp.2.2.2.2.1
 have hb0:List.length a1.2.2.2.1≤bigLen:=hwf.2.1.2.2.2.1.1
 have hb1:List.length a1.2.2.2.2≤bigLen:=hwf.2.1.2.2.2.2.1
 refine Vm hG rfl (Vm hG rfl (Vq (Vm hG rfl ?_)))
 refine Vb ?_
 refine Vc.loopF [(5,false,.own (.pure (.int .i64))),(21,false,.pure (.int .i64))] [0,1,3,4,10,19,20,41,42,43,44] (fun v=>gsInv (stepG a1) [4,a1.1,a1.2.1,a1.2.2.1] a1.2.2.2.1 v.1 v.2.1) (fun v=>((List.length a1.2.2.2.1:Int)-v.2.1).toNat) rfl ?_ ?_
 · exact gsStart
 rintro⟨acc,(i:Int),_⟩ hI0
 have hI0:gsInv (stepG a1) [4,a1.1,a1.2.1,a1.2.2.1] a1.2.2.2.1 acc i:=hI0
 have hA:List.length acc≤2097156:=gsLen (c:=2) (m:=1048576) hI0 (fun _=>Nat.le_refl _) h3 (by simp)
 refine Vm hG rfl (Vq ?_)
 refine Vk rfl ?_ ?_<;>intro h0
 · have hl0:i<(List.length a1.2.2.2.1:Int):=oTr h0
   refine Vs (Vq (Vb (Vq ?_)))
   refine Vr hG rfl ?_ ?_
   · exact gsRange hI0 hl0
   refine Vm hG rfl (Vq (Vm hG rfl ?_))
   refine Vk rfl ?_ ?_<;>intro h1
   · have g1:(List.getD a1.2.2.2.1 i.toNat (dflt TStep)).2=true:=h1
     refine Vn hG rfl ?_
     refine Vr hG rfl ?_ ?_
     · exact(show List.length acc+2≤maxApp from by unfold maxApp;omega)
     refine Vn hG rfl ?_
     refine⟨rfl,?_⟩
     first | exact gsStep hI0 hl0 hb0 (stepYesI g1) | exact gsStep hI0 hl0 hb0 (stepNoI g1)
   · have g1:(List.getD a1.2.2.2.1 i.toNat (dflt TStep)).2=false:=h1
     refine Vs ?_
     refine Vr hG rfl ?_ ?_
     · exact(show List.length acc+2≤maxApp from by unfold maxApp;omega)
     refine Vn hG rfl ?_
     refine⟨rfl,?_⟩
     first | exact gsStep hI0 hl0 hb0 (stepYesI g1) | exact gsStep hI0 hl0 hb0 (stepNoI g1)
 · have hl0:¬i<(List.length a1.2.2.2.1:Int):=oFa h0
   refine Vx (Vq ?_)
   refine Vr hG rfl ?_ ?_
   · exact(show List.length acc+1≤maxApp from by unfold maxApp;omega)
   refine Vq (Vm hG rfl (Vb ?_))
   refine Vc.loopF [(5,false,.own (.pure (.int .i64))),(43,false,.pure (.int .i64))] [0,1,3,4,7,8,19,20,21,22,26,41,42] (fun v=>gsInv (stmpG a1) (renMid a1) a1.2.2.2.2 v.1 v.2.1) (fun v=>((List.length a1.2.2.2.2:Int)-v.2.1).toNat) rfl ?_ ?_
   · exact gsStart2 (renMidEq hI0 hl0)
   rintro⟨acc2,(i:Int),_⟩ hI1
   have hI1:gsInv (stmpG a1) (renMid a1) a1.2.2.2.2 acc2 i:=hI1
   have hA2:List.length acc2≤8388613:=gsLen (c:=6) (m:=1048576) hI1 (fun _=>Nat.le_refl _) h4 (by have:=midLen h3;omega)
   refine Vm hG rfl (Vq ?_)
   refine Vk rfl ?_ ?_<;>intro h2
   · have hl1:i<(List.length a1.2.2.2.2:Int):=oTr h2
     refine Vs (Vq (Vb (Vq ?_)))
     refine Vr hG rfl ?_ ?_
     · exact gsRange hI1 hl1
     refine VrD mixed hG rfl (by kernel_rfl) ?_ ?_
     · exact⟨trivial,(show List.length acc2+5≤maxApp from by unfold maxApp;omega),(by show List.length (acc2++stampIntsF (List.getD a1.2.2.2.2 i.toNat (dflt TStamp)))+1≤maxApp;rw[List.length_append];show List.length acc2+5+1≤maxApp;unfold maxApp;omega)⟩
     refine Vn hG rfl ?_
     refine⟨rfl,?_⟩
     exact gsStep hI1 hl1 hb1 stmpEq
   · have hl1:¬i<(List.length a1.2.2.2.2:Int):=oFa h2
     refine Vx (Vq ?_)
     refine Vr hG rfl ?_ ?_
     · exact(show List.length acc2≤1000000000 from by omega)
     refine Vt ?_
     refine⟨?_,trivial⟩
     have e:=congrArg (digestF a0) (gsEnd hI1 hl1)
     exact e
noncomputable def F157:Fun:=⟨[.int .i64,.slice Y20],[.pure (.int .i64)],fun x=>(fun(_:Int) (l:List Piece)=>Sm big20 (.slice TPiece) l) x.1 x.2.1,fun x=>(piecesF x.1 x.2.1,())⟩
theorem F157_ok:Meets Tryz.prog 157 F157:=by
 refine mZ (C:=mkC 32 [4] [0,1,4,5,7,9,10,11,12] [⟨120,_,F120_ok⟩]) (mO _ _ _ _) (fO _) Tryz.func157 rfl rfl rfl (by decide) rfl ?_
 rintro⟨(a0:Int),a1,_⟩ hwf hpre ⟨⟩ hG rfl rfl
 show Vc _ _ [(0,⟨0,0,.c (.pure (.int .i64)) a0⟩),(1,⟨0,0,.c Z29 a1⟩)] _
 have hp:List.length a1≤big20∧∀ x∈a1,Sm big20 TPiece x:=hpre
 have hL:List.length a1≤1048576:=hp.1
 have hb:List.length a1≤bigLen:=hwf.2.1.1
 refine Vm hG rfl (Vm hG rfl (Vq (Vm hG rfl ?_)))
 refine Vb ?_
 refine Vc.loopF [(5,false,.own (.pure (.int .i64))),(11,false,.pure (.int .i64))] [0,1,4,9,10] (fun v=>gsInv (piecesG a0 a1) [2] a1 v.1 v.2.1) (fun v=>((List.length a1:Int)-v.2.1).toNat) rfl ?_ ?_
 · exact gsStart
 rintro⟨acc,(i:Int),_⟩ hI
 have hI:gsInv (piecesG a0 a1) [2] a1 acc i:=hI
 have hA:List.length acc≤1048577:=gsLen (c:=1) (m:=1048576) hI (fun _=>Nat.le_refl _) hL (by simp)
 refine Vm hG rfl (Vq ?_)
 refine Vk rfl ?_ ?_<;>intro h0
 · have hl:i<(List.length a1:Int):=oTr h0
   have hE:List.length (List.getD a1 i.toNat (dflt TPiece)).2.1≤1048576:=(hp.2 _ (upElem hI.1 hl)).2.1.1
   refine Vs (Vq (Vb (Vq ?_)))
   refine Vr hG rfl ?_ ?_
   · exact gsRange hI hl
   refine Vr hG rfl ?_ ?_
   · exact⟨(show 2+List.length (List.getD a1 i.toNat (dflt TPiece)).2.1≤maxApp from by unfold maxApp;omega),(show List.length (List.getD a1 i.toNat (dflt TPiece)).2.1+2≤1000000000 from by omega),(show List.length acc+1≤maxApp from by unfold maxApp;omega)⟩
   refine Vn hG rfl ?_
   refine⟨rfl,?_⟩
   exact gsStep hI hl hb rfl
 · have hl:¬i<(List.length a1:Int):=oFa h0
   refine Vx (Vq ?_)
   refine Vr hG rfl ?_ ?_
   · exact(show List.length acc≤1000000000 from by omega)
   refine Vt ?_
   refine⟨?_,trivial⟩
   have e:=congrArg (digestF a0) (gsEnd hI hl)
   exact e
noncomputable def F89:Fun:=⟨[.int .i64,.int .i64,.slice Y20,.int .i64],[.pure (.int .i64)],fun x=>(fun(_ _:Int) (l:List Piece) (_:Int)=>Sm big20 (.slice TPiece) l) x.1 x.2.1 x.2.2.1 x.2.2.2.1,fun x=>(leafOfF x.1 x.2.1 x.2.2.1 x.2.2.2.1,())⟩
theorem F89_ok:Meets Tryz.prog 89 F89:=by
 refine mZ (C:=mkC 17 [8] [0,1,2,3,8] [⟨157,_,F157_ok⟩,⟨120,_,F120_ok⟩]) (mO _ _ _ _) (fO _) Tryz.func89 rfl rfl rfl (by decide) rfl ?_
 rintro⟨(a0:Int),(a1:Int),a2,(a3:Int),_⟩ hwf hpre ⟨⟩ hG rfl rfl
 show Vc _ _ [(0,⟨0,0,.c (.pure (.int .i64)) a0⟩),(1,⟨0,0,.c (.pure (.int .i64)) a1⟩),(2,⟨0,0,.c Z29 a2⟩),(3,⟨0,0,.c (.pure (.int .i64)) a3⟩)] _
 have hp:Sm big20 (.slice TPiece) a2:=hpre
 refine Vm hG rfl (Vq ?_)
 refine Vr hG rfl ?_ ?_
 · exact⟨hp,smallLit (n:=4) rfl (by decide)⟩
 refine Vt ?_
 refine⟨?_,trivial⟩
 all_goals exact rfl
noncomputable def F18:Fun:=⟨[.pair Y26 Y59,.slice (.int .i64),.int .i64],[.pure (.int .i64)],fun x=>(fun(s:Strand) (_:List Int) (_:Int)=>Sm big20 (.slice TPiece) s.1∧∀ r∈s.2,Sm big20 TRen r) x.1 x.2.1 x.2.2.1,fun x=>(leafAtF x.1 x.2.1 x.2.2.1,())⟩
theorem F18_ok:Meets Tryz.prog 18 F18:=by
 refine mZ (C:=mkC 66 [6] [0,1,2,3,6,7,8,36,43] [⟨86,_,F86_ok⟩,⟨88,_,F88_ok⟩,⟨89,_,F89_ok⟩]) (mO _ _ _ _) (fO _) Tryz.func18 rfl rfl rfl (by decide) rfl ?_
 rintro⟨a0,a1,(a2:Int),_⟩ hwf hpre ⟨⟩ hG rfl rfl
 show Vc _ _ [(0,⟨0,0,.c Z64 a0⟩),(1,⟨0,0,.c Z3 a1⟩),(2,⟨0,0,.c (.pure (.int .i64)) a2⟩)] _
 have hP:Sm big20 (.slice TPiece) a0.1:=hpre.1
 have hR:∀ r∈a0.2,Sm big20 TRen r:=hpre.2
 have hb:List.length a0.2≤bigLen:=hwf.1.2.1
 refine Vm hG rfl (Vq (Vq ?_))
 refine VrD mixed hG rfl (by kernel_rfl) ?_ ?_
 · exact⟨trivial,fun h=>laIdx (orF h).1 hb,fun _=>trivial⟩
 refine Vk rfl ?_ ?_<;>intro h0
 · have g0:leafAtBad a0 a1 a2=true:=h0
   refine Vm hG rfl (Vt ?_)
   refine⟨?_,trivial⟩
   exact la0 g0
 · have g0:leafAtBad a0 a1 a2=false:=h0
   have k1:=laIdx (orF (orF g0).1).1 hb
   have k2:(List.length a1:Int)=(List.length a0.2:Int):=bneI (orF (orF g0).1).2
   have k3:=rg (orF g0).2
   have k4:inRange a2 (List.length a1):=⟨k1.1,by have:=k1.2;omega⟩
   refine Vs (Vq ?_)
   refine Vr hG rfl ?_ ?_
   · exact k1
   refine Vm hG rfl (Vq (Vm hG rfl ?_))
   refine Vk rfl ?_ ?_<;>intro h1
   · have g1:a2>0:=oTr h1
     refine VrD mixed hG rfl (by kernel_rfl) ?_ ?_
     · exact⟨prevIdx k1 g1 hb,hR _ (getD_mem (prevIdx k1 g1 hb) (dflt TRen))⟩
     refine Vq ?_
     refine VrD mixed hG rfl (by kernel_rfl) ?_ ?_
     · exact⟨k4,Int.le_refl _,k3.1,k3.2,subL_sm hP⟩
     refine Vt ?_
     refine⟨?_,trivial⟩
     exact la1 g0 g1
   · have g1:¬a2>0:=oFa h1
     refine Vs (Vq ?_)
     refine VrD mixed hG rfl (by kernel_rfl) ?_ ?_
     · exact⟨k4,Int.le_refl _,k3.1,k3.2,subL_sm hP⟩
     refine Vt ?_
     refine⟨?_,trivial⟩
     exact la2 g0 g1
noncomputable def F87:Fun:=⟨[.int .i64,.int .i64,.int .i64],[.pure (.int .i64)],fun _=>True,fun x=>(pairDF x.1 x.2.1 x.2.2.1,())⟩
theorem F87_ok:Meets Tryz.prog 87 F87:=by
 refine mZ (C:=mkC 12 [6] [0,1,2,6] [⟨120,_,F120_ok⟩]) (mO _ _ _ _) (fO _) Tryz.func87 rfl rfl rfl (by decide) rfl ?_
 rintro⟨(a0:Int),(a1:Int),(a2:Int),_⟩ hwf hpre ⟨⟩ hG rfl rfl
 show Vc _ _ [(0,⟨0,0,.c (.pure (.int .i64)) a0⟩),(1,⟨0,0,.c (.pure (.int .i64)) a1⟩),(2,⟨0,0,.c (.pure (.int .i64)) a2⟩)] _
 refine Vm hG rfl (Vq ?_)
 refine Vr hG rfl ?_ ?_
 · exact smallLit (n:=3) rfl (by decide)
 refine Vt ?_
 refine⟨?_,trivial⟩
 all_goals exact rfl
noncomputable def F17:Fun:=⟨[.int .i64,.int .i64,.slice Y2],[.pure (.int .i64)],fun _=>True,fun x=>(followF x.1 x.2.1 x.2.2.1,())⟩
theorem F17_ok:Meets Tryz.prog 17 F17:=by
 refine mZ (C:=mkC 29 [6] [0,1,2,6,8,9,10,11,12,16] [⟨87,_,F87_ok⟩]) (mO _ _ _ _) (fO _) Tryz.func17 rfl rfl rfl (by decide) rfl ?_
 rintro⟨(a0:Int),(a1:Int),a2,_⟩ hwf hpre ⟨⟩ hG rfl rfl
 show Vc _ _ [(0,⟨0,0,.c (.pure (.int .i64)) a0⟩),(1,⟨0,0,.c (.pure (.int .i64)) a1⟩),(2,⟨0,0,.c (.pure Y7) a2⟩)] _
 have hb:List.length a2≤bigLen:=hwf.2.2.1.1
 refine Vm hG rfl (Vq (Vm hG rfl (Vb ?_)))
 refine Vc.loopF [(1,false,.pure (.int .i64)),(11,false,.pure (.int .i64))] [0,2,6,9,10] (fun v=>foInv (flStep a0) a1 a2 v.1 v.2.1) (fun v=>((List.length a2:Int)-v.2.1).toNat) rfl ?_ ?_
 · exact foStart
 rintro⟨(acc:Int),(i:Int),_⟩ hI
 have hI:foInv (flStep a0) a1 a2 acc i:=hI
 refine Vm hG rfl (Vq ?_)
 refine Vk rfl ?_ ?_<;>intro h0
 · have hl:i<(List.length a2:Int):=oTr h0
   refine Vs (Vq (Vb (Vq ?_)))
   refine Vr hG rfl ?_ ?_
   · exact foRange hI hl
   refine Vm hG rfl ?_
   refine Vk rfl ?_ ?_<;>intro h1
   · have g1:(List.getD a2 i.toNat (dflt (.pair TI .bool))).2=true:=h1
     have st:=foStepE (d:=dflt (.pair TI .bool)) hI hl hb (flL (m:=a0) (x:=acc) g1).symm
     refine Vn hG rfl (Vn hG rfl ?_)
     refine⟨rfl,?_⟩
     exact st
   · have g1:(List.getD a2 i.toNat (dflt (.pair TI .bool))).2=false:=h1
     have st:=foStepE (d:=dflt (.pair TI .bool)) hI hl hb (flR (m:=a0) (x:=acc) g1).symm
     refine Vn hG rfl (Vn hG rfl ?_)
     refine⟨rfl,?_⟩
     exact st
 · have hl:¬i<(List.length a2:Int):=oFa h0
   refine Vx (Vm hG rfl (Vt ?_))
   refine⟨?_,trivial⟩
   exact foEnd hI hl
noncomputable def F108:Fun:=⟨[.slice Y36],[.pure (.bool)],fun _=>True,fun x=>(riseF x.1,())⟩
theorem F108_ok:Meets Tryz.prog 108 F108:=by
 refine mZ (C:=mkC 22 [2] [0,2,3,7,21] []) (mO _ _ _ _) (fO _) Tryz.func108 rfl rfl rfl (by decide) rfl ?_
 rintro⟨a0,_⟩ hwf hpre ⟨⟩ hG rfl rfl
 show Vc _ _ [(0,⟨0,0,.c Z40 a0⟩)] _
 have hb:List.length a0≤bigLen:=hwf.1.1
 refine Vm hG rfl (Vq (Vm hG rfl (Vb ?_)))
 refine Vc.loopF [(3,false,.pure (.int .i64))] [0] (fun v=>riInv a0 v.1) (fun v=>((List.length a0:Int)-v.1).toNat) rfl ?_ ?_
 · exact riStart
 rintro⟨(i:Int),_⟩ hI
 have hI:riInv a0 i:=hI
 refine Vq (Vm hG rfl ?_)
 refine Vk rfl ?_ ?_<;>intro h0
 · have hl:i<(List.length a0:Int):=oTr h0
   refine Vs (Vq (Vb (Vq ?_)))
   refine VrD mixed hG rfl (by kernel_rfl) ?_ ?_
   · exact⟨riPrev hI hl hb,riRange hI hl⟩
   refine Vk rfl ?_ ?_<;>intro h1
   · have g1:=riseBad hI.1 hl hb h1
     refine Vm hG rfl (Vt ?_)
     refine⟨?_,trivial⟩
     exact riBad hI hl g1
   · have g1:=riseGood hI.1 hl hb h1
     refine Vs (Vn hG rfl ?_)
     refine⟨rfl,?_⟩
     exact riStep hI hl hb g1
 · have hl:¬i<(List.length a0:Int):=oFa h0
   refine Vx (Vm hG rfl (Vt ?_))
   refine⟨?_,trivial⟩
   exact riEnd hI hl
noncomputable def F365:Fun:=⟨[.slice Y36,.slice Y15,.pair (.int .i64) Y27],[.pure Y36,.pure (.bool)],fun _=>True,fun x=>((makeStampF x.1 x.2.1 x.2.2.1).1,(makeStampF x.1 x.2.1 x.2.2.1).2,())⟩
theorem F365_ok:Meets Tryz.prog 365 F365:=by
 refine mZ (C:=mkC 47 [6,7] [0,1,2,5,6,7,8,9,10,27,42] [⟨172,_,F172_ok⟩,⟨132,_,F132_ok⟩,⟨156,_,F156_ok⟩,⟨170,_,F170_ok⟩]) (mO _ _ _ _) (fO _) Tryz.func365 rfl rfl rfl (by decide) rfl ?_
 rintro⟨a0,a1,a2,_⟩ hwf hpre ⟨⟩ hG rfl rfl
 show Vc _ _ [(0,⟨0,0,.c Z40 a0⟩),(1,⟨0,0,.c Z25 a1⟩),(2,⟨0,0,.c Z37 a2⟩)] _
 refine Vm hG rfl (Vm hG rfl (Vq (Vq ?_)))
 refine Vr hG rfl ?_ ?_
 · intro _;exact trivial
 refine Vk rfl ?_ ?_<;>intro h0
 · have g0:stampBad a1 a2=true:=h0
   refine Vm hG rfl (Vt ?_)
   have e:=ms_1 (keys:=a0) g0
   refine⟨?_,?_,trivial⟩
   · exact(congrArg Prod.fst e).symm
   · exact(congrArg Prod.snd e).symm
 · have g0:stampBad a1 a2=false:=h0
   refine Vs (Vq ?_)
   refine VrD mixed hG rfl (by kernel_rfl) ?_ ?_
   · exact⟨bad_idx g0,trivial,smallLit (n:=5) rfl (by decide)⟩
   refine Vq (Vm hG rfl ?_)
   refine Vk rfl ?_ ?_<;>intro h1
   · have g1:keyI a0 (authAt a1 a2.1).2.1<0:=mb_no h1
     refine Vm hG rfl (Vt ?_)
     have e:=ms_2 (keys:=a0) g0 g1
     refine⟨?_,?_,trivial⟩
     · exact(congrArg Prod.fst e).symm
     · exact(congrArg Prod.snd e).symm
   · have k1:(!(markByF a0 (authAt a1 a2.1).2.1 (stampIntsF a2)).2)=false:=h1
     have g1:¬keyI a0 (authAt a1 a2.1).2.1<0:=mb_ok k1
     refine Vs (Vm hG rfl (Vm hG rfl (Vt ?_)))
     have e:=ms_3 (keys:=a0) g0 g1
     have e2:=markBy_yes (l:=stampIntsF a2) g1
     refine⟨?_,?_,trivial⟩
     · refine Eq.trans ?_ (congrArg Prod.fst e).symm
       exact congrArg (fun m=>(a2.1,a2.2.1,a2.2.2.1,a2.2.2.2.1,m)) (congrArg Prod.fst e2)
     · exact(congrArg Prod.snd e).symm
noncomputable def F351:Fun:=⟨[.slice Y36,.slice Y15,.pair (.int .i64) Y27],[.pure (.bool)],fun _=>True,fun x=>(checkStampF x.1 x.2.1 x.2.2.1,())⟩
theorem F351_ok:Meets Tryz.prog 351 F351:=by
 refine mZ (C:=mkC 22 [6] [0,1,2,5,6,7,8] [⟨365,_,F365_ok⟩]) (mO _ _ _ _) (fO _) Tryz.func351 rfl rfl rfl (by decide) rfl ?_
 rintro⟨a0,a1,a2,_⟩ hwf hpre ⟨⟩ hG rfl rfl
 show Vc _ _ [(0,⟨0,0,.c Z40 a0⟩),(1,⟨0,0,.c Z25 a1⟩),(2,⟨0,0,.c Z37 a2⟩)] _
 refine Vm hG rfl (Vm hG rfl (Vm hG rfl (Vt ?_)))
 refine⟨?_,trivial⟩
 all_goals exact rfl
noncomputable def F313:Fun:=⟨[.slice Y36,.slice Y15,.pair (.int .i64) Y53,.int .i64],[.pure (.bool)],fun _=>True,fun x=>(checkRenF x.1 x.2.1 x.2.2.1 x.2.2.2.1,())⟩
theorem F313_ok:Meets Tryz.prog 313 F313:=by
 refine mZ (C:=mkC 59 [8] [0,1,2,3,6,8,10,38,40,41,42,43,57] [⟨17,_,F17_ok⟩,⟨86,_,F86_ok⟩,⟨108,_,F108_ok⟩,⟨351,_,F351_ok⟩]) (mO _ _ _ _) (fO _) Tryz.func313 rfl rfl rfl (by decide) rfl ?_
 rintro⟨a0,a1,a2,(a3:Int),_⟩ hwf hpre ⟨⟩ hG rfl rfl
 show Vc _ _ [(0,⟨0,0,.c Z40 a0⟩),(1,⟨0,0,.c Z25 a1⟩),(2,⟨0,0,.c Z58 a2⟩),(3,⟨0,0,.c (.pure (.int .i64)) a3⟩)] _
 have hb:List.length a2.2.2.2.2≤bigLen:=hwf.2.2.1.2.2.2.2.1
 refine Vm hG rfl (Vq (Vq ?_))
 refine VrD mixed hG rfl (by kernel_rfl) ?_ ?_
 · repeat' (first | exact trivial | refine And.intro ?_ ?_ | intro _)
 refine Vk rfl ?_ ?_<;>intro h0
 · have g0:=cr0I (keys:=a0) (l:=a1) (r:=a2) (leaf:=a3) h0
   refine Vm hG rfl (Vt ?_)
   refine⟨?_,trivial⟩
   exact g0
 · have g0:=(crPreI rfl).1 h0
   refine Vs (Vq (Vm hG rfl (Vb ?_)))
   refine Vc.loopF [(42,false,.pure (.int .i64))] [0,1,2,3,6,38,40,41] (fun v=>kInv (crG a0 a1 a2) a2.2.2.2.2 v.1) (fun v=>((List.length a2.2.2.2.2:Int)-v.1).toNat) rfl ?_ ?_
   · exact kStart
   rintro⟨(i:Int),_⟩ hI
   have hI:kInv (crG a0 a1 a2) a2.2.2.2.2 i:=hI
   refine Vm hG rfl (Vq ?_)
   refine Vk rfl ?_ ?_<;>intro h1
   · have hl:i<(List.length a2.2.2.2.2:Int):=oTr h1
     refine Vs (Vq (Vb (Vq ?_)))
     refine Vr hG rfl ?_ ?_
     · exact kRange hI hl
     refine Vq ?_
     refine Vr hG rfl ?_ ?_
     · repeat' (first | exact trivial | refine And.intro ?_ ?_ | intro _)
     refine Vk rfl ?_ ?_<;>intro h2
     · have g2:crTestI a0 a1 a2 i=true:=h2
       refine Vm hG rfl (Vt ?_)
       refine⟨?_,trivial⟩
       exact crBadI hI hl g2
     · have g2:crTestI a0 a1 a2 i=false:=h2
       refine Vs (Vn hG rfl ?_)
       refine⟨rfl,?_⟩
       exact kStep hI hl hb (crTestI_iff.1 g2)
   · have hl:¬i<(List.length a2.2.2.2.2:Int):=oFa h1
     refine Vx (Vm hG rfl (Vt ?_))
     refine⟨?_,trivial⟩
     exact crEndI g0 hI hl
noncomputable def F122:Fun:=⟨[.slice Y27,.int .i64],[.pure (.int .i64)],fun _=>True,fun x=>((fun a0 a1=>findI (fun x=>x.1==a1) a0) x.1 x.2.1,())⟩
theorem F122_ok:Meets Tryz.prog 122 F122:=by
 refine mZ (C:=mkC 20 [4] [0,1,4,5,6,7,8,9,10,17] []) (mO _ _ _ _) (fO _) Tryz.func122 rfl rfl rfl (by decide) rfl ?_
 rintro⟨a0,(a1:Int),_⟩ hwf hpre ⟨⟩ hG rfl rfl
 show Vc _ _ [(0,⟨0,0,.c Z34 a0⟩),(1,⟨0,0,.c (.pure (.int .i64)) a1⟩)] _
 have hb:List.length a0≤bigLen:=hwf.1.1
 refine Vm hG rfl (Vq (Vm hG rfl (Vb ?_)))
 refine Vc.loopF [(9,false,.pure (.int .i64))] [0,1,7,8] (fun v=>fInv (fun x=>x.1==a1) a0 v.1) (fun v=>((List.length a0:Int)-v.1).toNat) rfl ?_ ?_
 · exact fStart
 rintro⟨(i:Int),_⟩ hI
 have hI:fInv (fun x=>x.1==a1) a0 i:=hI
 refine Vm hG rfl (Vq ?_)
 refine Vk rfl ?_ ?_<;>intro h0
 · have hl:i<(List.length a0:Int):=oTr h0
   refine Vs (Vq (Vb (Vq ?_)))
   refine Vr hG rfl ?_ ?_
   · exact fRange hI hl
   refine Vm hG rfl ?_
   refine Vk rfl ?_ ?_<;>intro h1
   · have g1:(fun x=>x.1==a1) (List.getD a0 i.toNat (dflt Y27))=true:=h1
     refine Vm hG rfl (Vt ?_)
     refine⟨?_,trivial⟩
     exact fHit hI hl g1
   · have g1:(fun x=>x.1==a1) (List.getD a0 i.toNat (dflt Y27))=false:=h1
     refine Vs (Vn hG rfl ?_)
     refine⟨rfl,?_⟩
     exact fStep hI hl hb g1
 · have hl:¬i<(List.length a0:Int):=oFa h0
   refine Vx (Vm hG rfl (Vt ?_))
   refine⟨?_,trivial⟩
   exact fEnd hI hl
noncomputable def F38:Fun:=⟨[.slice Y27,.int .i64],[.pure (.int .i64)],fun _=>True,fun x=>(breakF x.1 x.2.1,())⟩
theorem F38_ok:Meets Tryz.prog 38 F38:=by
 refine mZ (C:=mkC 16 [4] [0,1,4,5,10] [⟨122,_,F122_ok⟩]) (mO _ _ _ _) (fO _) Tryz.func38 rfl rfl rfl (by decide) rfl ?_
 rintro⟨a0,(a1:Int),_⟩ hwf hpre ⟨⟩ hG rfl rfl
 show Vc _ _ [(0,⟨0,0,.c Z34 a0⟩),(1,⟨0,0,.c (.pure (.int .i64)) a1⟩)] _
 refine Vm hG rfl (Vq (Vm hG rfl (Vm hG rfl ?_)))
 refine Vk rfl ?_ ?_<;>intro h0
 · have g0:¬methI a0 a1<0:=Int.not_lt.2 (oTr h0)
   refine Vq ?_
   refine Vr hG rfl ?_ ?_
   · exact findRange g0
   refine Vt ?_
   refine⟨?_,trivial⟩
   exact brk1 g0
 · have g0:methI a0 a1<0:=Int.not_le.1 (oFa h0)
   refine Vs (Vm hG rfl (Vt ?_))
   refine⟨?_,trivial⟩
   exact brk0 g0
noncomputable def F111:Fun:=⟨[.slice Y15,.pair (.int .i64) Y27],[.pure (.int .i64)],fun _=>True,fun x=>(stampKeyF x.1 x.2.1,())⟩
theorem F111_ok:Meets Tryz.prog 111 F111:=by
 refine mZ (C:=mkC 17 [4] [0,1,3,4,5,11] [⟨172,_,F172_ok⟩]) (mO _ _ _ _) (fO _) Tryz.func111 rfl rfl rfl (by decide) rfl ?_
 rintro⟨a0,a1,_⟩ hwf hpre ⟨⟩ hG rfl rfl
 show Vc _ _ [(0,⟨0,0,.c Z25 a0⟩),(1,⟨0,0,.c Z37 a1⟩)] _
 refine Vm hG rfl (Vq (Vm hG rfl (Vm hG rfl ?_)))
 refine Vk rfl ?_ ?_<;>intro h0
 · have g0:¬authI a0 a1.1<0:=Int.not_lt.2 (oTr h0)
   refine Vq ?_
   refine Vr hG rfl ?_ ?_
   · exact findRange g0
   refine Vt ?_
   refine⟨?_,trivial⟩
   exact stampKey1 g0
 · have g0:authI a0 a1.1<0:=Int.not_le.1 (oFa h0)
   refine Vs (Vm hG rfl (Vt ?_))
   refine⟨?_,trivial⟩
   exact stampKey0 g0
noncomputable def F352:Fun:=⟨[.slice Y36,.slice Y15,.slice Y27,.pair (.int .i64) Y53],[.pure (.int .i64)],fun _=>True,fun x=>(rbF x.1 x.2.1 x.2.2.1 x.2.2.2.1,())⟩
theorem F352_ok:Meets Tryz.prog 352 F352:=by
 refine mZ (C:=mkC 42 [8] [0,1,2,3,7,8,9,11,12,18,19,20,21,30] [⟨38,_,F38_ok⟩,⟨111,_,F111_ok⟩,⟨34,_,F34_ok⟩]) (mO _ _ _ _) (fO _) Tryz.func352 rfl rfl rfl (by decide) rfl ?_
 rintro⟨a0,a1,a2,a3,_⟩ hwf hpre ⟨⟩ hG rfl rfl
 show Vc _ _ [(0,⟨0,0,.c Z40 a0⟩),(1,⟨0,0,.c Z25 a1⟩),(2,⟨0,0,.c Z34 a2⟩),(3,⟨0,0,.c Z58 a3⟩)] _
 have hb:List.length a3.2.2.2.2≤bigLen:=hwf.2.2.2.1.2.2.2.2.1
 refine Vm hG rfl (Vm hG rfl (Vq (Vm hG rfl ?_)))
 refine Vb ?_
 refine Vc.loopF [(9,false,.pure (.int .i64)),(20,false,.pure (.int .i64))] [0,1,2,3,7,18,19] (fun v=>efInv (rbBad a0 a1) (rbG a0 a1 a2) 0 (breakF a2 a3.2.1) a3.2.2.2.2 v.1 v.2.1) (fun v=>((List.length a3.2.2.2.2:Int)-v.2.1).toNat) rfl ?_ ?_
 · exact efStart
 rintro⟨(m:Int),(i:Int),_⟩ hI
 have hI:efInv (rbBad a0 a1) (rbG a0 a1 a2) 0 (breakF a2 a3.2.1) a3.2.2.2.2 m i:=hI
 refine Vm hG rfl (Vq ?_)
 refine Vk rfl ?_ ?_<;>intro h0
 · have hl:i<(List.length a3.2.2.2.2:Int):=oTr h0
   refine Vs (Vq (Vb (Vq ?_)))
   refine Vr hG rfl ?_ ?_
   · exact efRange hI hl
   refine Vm hG rfl (Vq (Vm hG rfl ?_))
   refine Vk rfl ?_ ?_<;>intro h1
   · have g1:rbBad a0 a1 (List.getD a3.2.2.2.2 i.toNat (dflt Y36))=true:=h1
     refine Vm hG rfl (Vt ?_)
     refine⟨?_,trivial⟩
     exact efStop (d:=dflt Y36) hI hl g1
   · have g1:rbBad a0 a1 (List.getD a3.2.2.2.2 i.toNat (dflt Y36))=false:=h1
     have n1:¬keyI a0 (stampKeyF a1 (List.getD a3.2.2.2.2 i.toNat (dflt Y36)))<0:=oFa h1
     refine Vs ?_
     refine Vr hG rfl ?_ ?_
     · exact⟨findRange n1,trivial⟩
     refine Vn hG rfl ?_
     refine⟨rfl,?_⟩
     exact efStep (d:=dflt Y36) hI hl hb g1
 · have hl:¬i<(List.length a3.2.2.2.2:Int):=oFa h0
   refine Vx (Vm hG rfl (Vt ?_))
   refine⟨?_,trivial⟩
   exact efEnd hI hl
noncomputable def F314:Fun:=⟨[.pair Y38 Y55,.pair Y26 Y59,.int .i64],[.pure (.bool)],fun x=>(fun(_:Frame) (s:Strand) (_:Int)=>Sm big20 (.slice TPiece) s.1∧∀ r∈s.2,Sm big20 TRen r) x.1 x.2.1 x.2.2.1,fun x=>(linkF x.1 x.2.1 x.2.2.1,())⟩
theorem F314_ok:Meets Tryz.prog 314 F314:=by
 refine mZ (C:=mkC 57 [6] [0,1,2,3,4,6,7,8,9,16,34] [⟨86,_,F86_ok⟩,⟨352,_,F352_ok⟩,⟨254,_,F254_ok⟩]) (mO _ _ _ _) (fO _) Tryz.func314 rfl rfl rfl (by decide) rfl ?_
 rintro⟨a0,a1,(a2:Int),_⟩ hwf hpre ⟨⟩ hG rfl rfl
 show Vc _ _ [(0,⟨0,0,.c Z66 a0⟩),(1,⟨0,0,.c Z64 a1⟩),(2,⟨0,0,.c (.pure (.int .i64)) a2⟩)] _
 have hP:Sm big20 (.slice TPiece) a1.1:=hpre.1
 have hR:∀ r∈a1.2,Sm big20 TRen r:=hpre.2
 have hb:List.length a1.2≤bigLen:=hwf.2.1.2.1
 have hSt:∀ k:Int,inRange k (List.length a1.2)→List.length (chAt a1 k).2.2.2.2≤1048576:=fun k hk=>(hR _ (getD_mem hk (dflt TRen))).2.2.2.2.1
 refine Vm hG rfl (Vq (Vm hG rfl ?_))
 refine Vk rfl ?_ ?_<;>intro h0
 · have g0:=h0
   refine Vm hG rfl (Vt ?_)
   refine⟨?_,trivial⟩
   exact lk0 g0
 · have g0:=h0
   have k0:=laIdx g0 hb
   refine Vs (Vq ?_)
   refine VrD mixed hG rfl (by kernel_rfl) ?_ ?_
   · exact⟨k0,trivial⟩
   refine Vq (Vm hG rfl ?_)
   refine Vk rfl ?_ ?_<;>intro h1
   · have g1:=h1
     refine Vm hG rfl (Vt ?_)
     refine⟨?_,trivial⟩
     exact lk1 g0 g1
   · have g1:=h1
     have k1:=lkNext g0 g1 hb
     refine Vs (Vq ?_)
     refine VrD mixed hG rfl (by kernel_rfl) ?_ ?_
     · exact⟨k1,hSt _ k1⟩
     refine Vm hG rfl (Vt ?_)
     refine⟨?_,trivial⟩
     exact lk2 g0 g1
noncomputable def F253:Fun:=⟨[.pair Y38 Y55,.pair Y26 Y59,.slice (.int .i64)],[.pure (.int .i64)],fun x=>(fun(_:Frame) (s:Strand) (_:List Int)=>Sm big20 (.slice TPiece) s.1∧∀ r∈s.2,Sm big20 TRen r) x.1 x.2.1 x.2.2.1,fun x=>(firstKeptF x.1 x.2.1 x.2.2.1,())⟩
theorem F253_ok:Meets Tryz.prog 253 F253:=by
 refine mZ (C:=mkC 58 [6] [0,1,2,3,4,6,7,9,14,54] [⟨254,_,F254_ok⟩,⟨18,_,F18_ok⟩,⟨313,_,F313_ok⟩,⟨314,_,F314_ok⟩]) (mO _ _ _ _) (fO _) Tryz.func253 rfl rfl rfl (by decide) rfl ?_
 rintro⟨a0,a1,a2,_⟩ hwf hpre ⟨⟩ hG rfl rfl
 show Vc _ _ [(0,⟨0,0,.c Z66 a0⟩),(1,⟨0,0,.c Z64 a1⟩),(2,⟨0,0,.c Z3 a2⟩)] _
 have hP:Sm big20 (.slice TPiece) a1.1:=hpre.1
 have hR:∀ r∈a1.2,Sm big20 TRen r:=hpre.2
 have hb:List.length a1.2≤bigLen:=hwf.2.1.2.1
 have hSt:∀ k:Int,inRange k (List.length a1.2)→List.length (chAt a1 k).2.2.2.2≤1048576:=fun k hk=>(hR _ (getD_mem hk (dflt TRen))).2.2.2.2.1
 refine Vm hG rfl (Vm hG rfl (Vq (Vb ?_)))
 refine Vc.loopF [(7,false,.pure (.int .i64))] [0,1,2,3,4,6] (fun v=>fkInv a0 a1 a2 v.1) (fun v=>v.1.toNat) rfl ?_ ?_
 · exact fkStart
 rintro⟨(j:Int),_⟩ hI
 have hI:fkInv a0 a1 a2 j:=hI
 refine Vq (Vm hG rfl ?_)
 refine Vk rfl ?_ ?_<;>intro h0
 · have g0:j>0:=oTr h0
   have k0:=fkIdx hI g0 hb
   refine Vs (Vb (Vq ?_))
   refine VrD mixed hG rfl (by kernel_rfl) ?_ ?_
   · exact⟨k0,hSt _ k0⟩
   refine Vq (Vq ?_)
   refine VrD mixed hG rfl (by kernel_rfl) ?_ ?_
   · repeat' (first | exact trivial | exact k0 | exact⟨hP,hR⟩ | refine And.intro ?_ ?_ | intro _)
   refine Vk rfl ?_ ?_<;>intro h1
   · have g1:keptF a0 a1 a2 (IntKind.i64.wrap (j-1))=false:=by have q:=keptI.symm.trans h1;simpa using q
     refine Vx (Vm hG rfl (Vt ?_))
     refine⟨?_,trivial⟩
     exact fkStop hI g0 hb g1
   · have g1:keptF a0 a1 a2 (IntKind.i64.wrap (j-1))=true:=by have q:=keptI.symm.trans h1;simpa using q
     refine Vs (Vn hG rfl ?_)
     refine⟨rfl,?_⟩
     exact fkStep hI g0 hb g1
 · have g0:¬j>0:=oFa h0
   refine Vx (Vm hG rfl (Vt ?_))
   refine⟨?_,trivial⟩
   exact fkZero hI g0
noncomputable def F168:Fun:=⟨[.pair Y38 Y55,.pair Y26 Y59,.slice (.int .i64),.int .i64],[.pure (.int .i64)],fun x=>(fun(_:Frame) (s:Strand) (_:List Int) (_:Int)=>Sm big20 (.slice TPiece) s.1∧∀ r∈s.2,Sm big20 TRen r) x.1 x.2.1 x.2.2.1 x.2.2.2.1,fun x=>(boundOfF x.1 x.2.1 x.2.2.1 x.2.2.2.1,())⟩
theorem F168_ok:Meets Tryz.prog 168 F168:=by
 refine mZ (C:=mkC 49 [8] [0,1,2,3,4,5,8,9,10,11,23,43] [⟨253,_,F253_ok⟩,⟨254,_,F254_ok⟩]) (mO _ _ _ _) (fO _) Tryz.func168 rfl rfl rfl (by decide) rfl ?_
 rintro⟨a0,a1,a2,(a3:Int),_⟩ hwf hpre ⟨⟩ hG rfl rfl
 show Vc _ _ [(0,⟨0,0,.c Z66 a0⟩),(1,⟨0,0,.c Z64 a1⟩),(2,⟨0,0,.c Z3 a2⟩),(3,⟨0,0,.c (.pure (.int .i64)) a3⟩)] _
 have hP:Sm big20 (.slice TPiece) a1.1:=hpre.1
 have hR:∀ r∈a1.2,Sm big20 TRen r:=hpre.2
 have hb:List.length a1.2≤bigLen:=hwf.2.1.2.1
 have hSt:∀ k:Int,inRange k (List.length a1.2)→List.length (chAt a1 k).2.2.2.2≤1048576:=fun k hk=>(hR _ (getD_mem hk (dflt TRen))).2.2.2.2.1
 refine Vm hG rfl (Vm hG rfl (Vq (Vq ?_)))
 refine Vr hG rfl ?_ ?_
 · exact⟨hP,hR⟩
 refine Vb ?_
 refine Vc.loopF [(9,false,.pure (.int .i64)),(10,false,.pure (.int .i64))] [0,1,2,3,4,5,8] (fun v=>boInv a0 a1 a2 a3 v.1 v.2.1) (fun v=>((List.length a1.2:Int)-v.2.1).toNat) rfl ?_ ?_
 · exact boStart
 rintro⟨(t:Int),(j:Int),_⟩ hI
 have hI:boInv a0 a1 a2 a3 t j:=hI
 refine Vq (Vm hG rfl ?_)
 refine Vk rfl ?_ ?_<;>intro h0
 · have hl:j<(List.length a1.2:Int):=oTr h0
   have k0:=boRange hI hl
   refine Vs (Vq (Vb (Vq ?_)))
   refine VrD mixed hG rfl (by kernel_rfl) ?_ ?_
   · exact⟨k0,hSt _ k0⟩
   refine Vq ?_
   refine Vr hG rfl ?_ ?_
   · exact k0
   refine Vk rfl ?_ ?_<;>intro h1
   · have st:=boStep hI hl hb (boY (f:=a0) (t:=t) (r:=chAt a1 j) h1).symm
     refine Vn hG rfl (Vn hG rfl ?_)
     refine⟨rfl,?_⟩
     exact st
   · have st:=boStep hI hl hb (boN (f:=a0) (t:=t) (r:=chAt a1 j) h1).symm
     refine Vs (Vn hG rfl ?_)
     refine⟨rfl,?_⟩
     exact st
 · have hl:¬j<(List.length a1.2:Int):=oFa h0
   refine Vx (Vm hG rfl (Vt ?_))
   refine⟨?_,trivial⟩
   exact boEnd hI hl
noncomputable def F96:Fun:=⟨[.pair Y38 Y55,.pair Y26 Y59,.slice (.int .i64),.pair (.int .i64) Y10],[.pure (.int .i64)],fun x=>(fun(_:Frame) (s:Strand) (_:List Int) (_:Piece)=>Sm big20 (.slice TPiece) s.1∧∀ r∈s.2,Sm big20 TRen r) x.1 x.2.1 x.2.2.1 x.2.2.2.1,fun x=>(pieceBoundF x.1 x.2.1 x.2.2.1 x.2.2.2.1,())⟩
theorem F96_ok:Meets Tryz.prog 96 F96:=by
 refine mZ (C:=mkC 22 [8] [0,1,2,3,4,5,7,8,9,14] [⟨167,_,F167_ok⟩,⟨168,_,F168_ok⟩]) (mO _ _ _ _) (fO _) Tryz.func96 rfl rfl rfl (by decide) rfl ?_
 rintro⟨a0,a1,a2,a3,_⟩ hwf hpre ⟨⟩ hG rfl rfl
 show Vc _ _ [(0,⟨0,0,.c Z66 a0⟩),(1,⟨0,0,.c Z64 a1⟩),(2,⟨0,0,.c Z3 a2⟩),(3,⟨0,0,.c Z24 a3⟩)] _
 have hp:=hpre
 refine Vm hG rfl (Vm hG rfl (Vq (Vm hG rfl ?_)))
 refine Vk rfl ?_ ?_<;>intro h0
 · have g0:findPieceF a1 a3<0:=oTr h0
   refine Vm hG rfl (Vt ?_)
   refine⟨?_,trivial⟩
   exact pb0 g0
 · have g0:¬findPieceF a1 a3<0:=oFa h0
   refine Vs (Vq ?_)
   refine Vr hG rfl ?_ ?_
   · exact hp
   refine Vt ?_
   refine⟨?_,trivial⟩
   exact pb1 g0
noncomputable def F25:Fun:=⟨[.pair Y38 Y55,.pair Y65 Y41,.slice (.slice (.int .i64)),.pair (.int .i64) Y10],[.pure (.int .i64)],fun x=>(fun(_:Frame) (e:Evidence) (_:List (List Int)) (_:Piece)=>Sm big20 Y65 e.1) x.1 x.2.1 x.2.2.1 x.2.2.2.1,fun x=>(evBoundF x.1 x.2.1 x.2.2.1 x.2.2.2.1,())⟩
theorem F25_ok:Meets Tryz.prog 25 F25:=by
 refine mZ (C:=mkC 38 [8] [0,1,2,3,4,5,7,8,9,10,11,15,16,17,18,25] [⟨96,_,F96_ok⟩]) (mO _ _ _ _) (fO _) Tryz.func25 rfl rfl rfl (by decide) rfl ?_
 rintro⟨a0,a1,a2,a3,_⟩ hwf hpre ⟨⟩ hG rfl rfl
 show Vc _ _ [(0,⟨0,0,.c Z66 a0⟩),(1,⟨0,0,.c Z69 a1⟩),(2,⟨0,0,.c Z8 a2⟩),(3,⟨0,0,.c Z24 a3⟩)] _
 have hS:Sm big20 Y65 a1.1:=hpre
 have hb:List.length a1.1≤bigLen:=hwf.2.1.1.1
 refine Vm hG rfl (Vm hG rfl (Vq (Vm hG rfl ?_)))
 refine Vb ?_
 refine Vc.loopF [(9,false,.pure (.int .i64)),(17,false,.pure (.int .i64))] [0,1,2,3,4,5,7,8,15,16] (fun v=>ebInv a0 a1 a2 a3 v.1 v.2.1) (fun v=>((List.length a1.1:Int)-v.2.1).toNat) rfl ?_ ?_
 · exact ebStart
 rintro⟨(t:Int),(i:Int),_⟩ hI
 have hI:ebInv a0 a1 a2 a3 t i:=hI
 refine Vm hG rfl (Vq ?_)
 refine Vk rfl ?_ ?_<;>intro h0
 · have hl:i<(List.length a1.1:Int):=oTr h0
   refine Vs (Vq (Vb (Vq ?_)))
   refine Vr hG rfl ?_ ?_
   · exact ebRange hI hl
   refine Vm hG rfl ?_
   refine Vk rfl ?_ ?_<;>intro h1
   · have hd:i<(List.length a2:Int):=oTr h1
     have st:=ebYes (dflt Y62) (dflt (.slice TI)) hI hl hd hb rfl
     have r1:=ebRange hI hl
     have r2:=ebRangeD hI hd
     have r3:=usStrand hS r1
     refine VrD mixed hG rfl (by kernel_rfl) ?_ ?_
     · exact⟨r2,r3⟩
     refine Vn hG rfl ?_
     refine⟨rfl,?_⟩
     exact st
   · have hd:¬i<(List.length a2:Int):=oFa h1
     have st:=ebNo hI hl hd hb
     refine Vs (Vn hG rfl ?_)
     refine⟨rfl,?_⟩
     exact st
 · have hl:¬i<(List.length a1.1:Int):=oFa h0
   refine Vx (Vm hG rfl (Vt ?_))
   refine⟨?_,trivial⟩
   exact ebEnd hI (fun q=>hl q.1)
noncomputable def F98:Fun:=⟨[.pair Y38 Y55,.int .i64],[.pure (.int .i64)],fun _=>True,fun x=>(brkKeyF x.1 x.2.1,())⟩
theorem F98_ok:Meets Tryz.prog 98 F98:=by
 refine mZ (C:=mkC 21 [4] [0,1,2,4,5,11] [⟨34,_,F34_ok⟩,⟨38,_,F38_ok⟩]) (mO _ _ _ _) (fO _) Tryz.func98 rfl rfl rfl (by decide) rfl ?_
 rintro⟨a0,(a1:Int),_⟩ hwf hpre ⟨⟩ hG rfl rfl
 show Vc _ _ [(0,⟨0,0,.c Z66 a0⟩),(1,⟨0,0,.c (.pure (.int .i64)) a1⟩)] _
 refine Vm hG rfl (Vm hG rfl (Vq (Vm hG rfl ?_)))
 refine Vk rfl ?_ ?_<;>intro h0
 · have g0:keyI a0.1 a1<0:=oTr h0
   refine Vm hG rfl (Vt ?_)
   refine⟨?_,trivial⟩
   exact bk0 g0
 · have g0:¬keyI a0.1 a1<0:=oFa h0
   refine Vs (Vq ?_)
   refine VrD mixed hG rfl (by kernel_rfl) ?_ ?_
   · exact⟨findRange g0,trivial⟩
   refine Vt ?_
   refine⟨?_,trivial⟩
   exact bk1 g0
noncomputable def F100:Fun:=⟨[.pair (.int .i64) Y10],[.pure (.int .i64)],fun _=>True,fun x=>(kindF x.1,())⟩
theorem F100_ok:Meets Tryz.prog 100 F100:=by
 refine mZ (C:=mkC 32 [2] [0,1,2,27] [⟨86,_,F86_ok⟩]) (mO _ _ _ _) (fO _) Tryz.func100 rfl rfl rfl (by decide) rfl ?_
 rintro⟨a0,_⟩ hwf hpre ⟨⟩ hG rfl rfl
 show Vc _ _ [(0,⟨0,0,.c Z24 a0⟩)] _
 refine Vm hG rfl (Vq (Vq ?_))
 refine VrD mixed hG rfl (by kernel_rfl) ?_ ?_
 · exact⟨fun h=>kLen h,fun _=>trivial,fun h=>kLen1 h,fun h=>kIdx h⟩
 refine Vk rfl ?_ ?_<;>intro h0
 · have g0:pick2 (kb1 a0) true (kb2 a0)=true:=h0
   refine Vm hG rfl (Vt ?_)
   refine⟨?_,trivial⟩
   exact kindI g0
 · have g0:pick2 (kb1 a0) true (kb2 a0)=false:=h0
   refine Vs (Vq ?_)
   refine Vr hG rfl ?_ ?_
   · exact kLen1 (orF g0).1
   refine Vt ?_
   refine⟨?_,trivial⟩
   exact kind2 (orF g0).1 (orF g0).2
noncomputable def F101:Fun:=⟨[.pair (.int .i64) Y10],[.pure Y45,.pure (.bool)],fun _=>True,fun x=>((pieceCertF x.1).1,(pieceCertF x.1).2,())⟩
theorem F101_ok:Meets Tryz.prog 101 F101:=by
 refine mZ (C:=mkC 41 [2,3] [0,1,2,3,4,16] [⟨100,_,F100_ok⟩]) (mO _ _ _ _) (fO _) Tryz.func101 rfl rfl rfl (by decide) rfl ?_
 rintro⟨a0,_⟩ hwf hpre ⟨⟩ hG rfl rfl
 show Vc _ _ [(0,⟨0,0,.c Z24 a0⟩)] _
 refine Vm hG rfl (Vq (Vq ?_))
 refine VrD mixed hG rfl (by kernel_rfl) ?_ ?_
 · exact⟨trivial,fun h=>seven (kind7 h) 6 (by decide)⟩
 refine Vk rfl ?_ ?_<;>intro h0
 · have g0:pcBad a0=true:=h0
   refine Vm hG rfl (Vt ?_)
   have e:=pc0 g0
   refine⟨?_,?_,trivial⟩
   · exact(congrArg Prod.fst e).symm
   · exact(congrArg Prod.snd e).symm
 · have g0:pcBad a0=false:=h0
   refine Vs (Vm hG rfl (Vq ?_))
   refine VrD mixed hG rfl (by kernel_rfl) ?_ ?_
   · exact⟨seven (pc7 g0) 1 (by decide),seven (pc7 g0) 2 (by decide),seven (pc7 g0) 3 (by decide),seven (pc7 g0) 4 (by decide),seven (pc7 g0) 5 (by decide),seven (pc7 g0) 6 (by decide)⟩
   refine Vt ?_
   have e:=pc1 g0
   refine⟨?_,?_,trivial⟩
   · exact(congrArg Prod.fst e).symm
   · exact(congrArg Prod.snd e).symm
noncomputable def F102:Fun:=⟨[.pair (.int .i64) Y10],[.pure Y36,.pure (.bool)],fun _=>True,fun x=>((pieceStatF x.1).1,(pieceStatF x.1).2,())⟩
theorem F102_ok:Meets Tryz.prog 102 F102:=by
 refine mZ (C:=mkC 35 [2,3] [0,1,2,3,4,16] [⟨100,_,F100_ok⟩]) (mO _ _ _ _) (fO _) Tryz.func102 rfl rfl rfl (by decide) rfl ?_
 rintro⟨a0,_⟩ hwf hpre ⟨⟩ hG rfl rfl
 show Vc _ _ [(0,⟨0,0,.c Z24 a0⟩)] _
 refine Vm hG rfl (Vq (Vq ?_))
 refine VrD mixed hG rfl (by kernel_rfl) ?_ ?_
 · exact⟨trivial,fun h=>nIdx (psN h) 4 (by decide)⟩
 refine Vk rfl ?_ ?_<;>intro h0
 · have g0:psBad a0=true:=h0
   refine Vm hG rfl (Vt ?_)
   have e:=ps0 g0
   refine⟨?_,?_,trivial⟩
   · exact(congrArg Prod.fst e).symm
   · exact(congrArg Prod.snd e).symm
 · have g0:psBad a0=false:=h0
   refine Vs (Vm hG rfl (Vq ?_))
   refine VrD mixed hG rfl (by kernel_rfl) ?_ ?_
   · exact⟨nIdx (psN (orF g0).1) 1 (by decide),nIdx (psN (orF g0).1) 2 (by decide),nIdx (psN (orF g0).1) 3 (by decide),nIdx (psN (orF g0).1) 4 (by decide)⟩
   refine Vt ?_
   have e:=ps1 g0
   refine⟨?_,?_,trivial⟩
   · exact(congrArg Prod.fst e).symm
   · exact(congrArg Prod.snd e).symm
noncomputable def F103:Fun:=⟨[.pair (.int .i64) Y10],[.pure Y36,.pure (.bool)],fun _=>True,fun x=>((pieceStampF x.1).1,(pieceStampF x.1).2,())⟩
theorem F103_ok:Meets Tryz.prog 103 F103:=by
 refine mZ (C:=mkC 26 [2,3] [0,1,2,3,4,7] [⟨100,_,F100_ok⟩]) (mO _ _ _ _) (fO _) Tryz.func103 rfl rfl rfl (by decide) rfl ?_
 rintro⟨a0,_⟩ hwf hpre ⟨⟩ hG rfl rfl
 show Vc _ _ [(0,⟨0,0,.c Z24 a0⟩)] _
 refine Vm hG rfl (Vq (Vm hG rfl ?_))
 refine Vk rfl ?_ ?_<;>intro h0
 · have g0:pstBad a0=true:=h0
   refine Vm hG rfl (Vt ?_)
   have e:=pst0 g0
   refine⟨?_,?_,trivial⟩
   · exact(congrArg Prod.fst e).symm
   · exact(congrArg Prod.snd e).symm
 · have g0:pstBad a0=false:=h0
   refine Vs (Vm hG rfl (Vq ?_))
   refine VrD mixed hG rfl (by kernel_rfl) ?_ ?_
   · exact⟨nIdx (pstN g0) 1 (by decide),nIdx (pstN g0) 2 (by decide),nIdx (pstN g0) 3 (by decide),nIdx (pstN g0) 4 (by decide)⟩
   refine Vt ?_
   have e:=pst1 g0
   refine⟨?_,?_,trivial⟩
   · exact(congrArg Prod.fst e).symm
   · exact(congrArg Prod.snd e).symm
noncomputable def F104:Fun:=⟨[.pair (.int .i64) Y10],[.pure Y51,.pure (.bool)],fun _=>True,fun x=>((pieceSignF x.1).1,(pieceSignF x.1).2,())⟩
theorem F104_ok:Meets Tryz.prog 104 F104:=by
 refine mZ (C:=mkC 47 [2,3] [0,1,2,3,4,16] [⟨100,_,F100_ok⟩]) (mO _ _ _ _) (fO _) Tryz.func104 rfl rfl rfl (by decide) rfl ?_
 rintro⟨a0,_⟩ hwf hpre ⟨⟩ hG rfl rfl
 show Vc _ _ [(0,⟨0,0,.c Z24 a0⟩)] _
 refine Vm hG rfl (Vq (Vq ?_))
 refine VrD mixed hG rfl (by kernel_rfl) ?_ ?_
 · exact⟨trivial,fun h=>nIdx (psgN h) 1 (by decide)⟩
 refine Vk rfl ?_ ?_<;>intro h0
 · have g0:psgBad a0=true:=h0
   refine Vm hG rfl (Vt ?_)
   have e:=psg0 g0
   refine⟨?_,?_,trivial⟩
   · exact(congrArg Prod.fst e).symm
   · exact(congrArg Prod.snd e).symm
 · have g0:psgBad a0=false:=h0
   refine Vs (Vm hG rfl (Vq ?_))
   refine VrD mixed hG rfl (by kernel_rfl) ?_ ?_
   · exact⟨nIdx (psgN (orF g0).1) 1 (by decide),nIdx (psgN (orF g0).1) 2 (by decide),nIdx (psgN (orF g0).1) 3 (by decide),nIdx (psgN (orF g0).1) 4 (by decide),nIdx (psgN (orF g0).1) 5 (by decide),nIdx (psgN (orF g0).1) 6 (by decide),nIdx (psgN (orF g0).1) 7 (by decide),nIdx (psgN (orF g0).1) 8 (by decide)⟩
   refine Vt ?_
   have e:=psg1 g0
   refine⟨?_,?_,trivial⟩
   · exact(congrArg Prod.fst e).symm
   · exact(congrArg Prod.snd e).symm
noncomputable def F105:Fun:=⟨[.pair (.int .i64) Y10],[.pure Y42,.pure (.bool)],fun _=>True,fun x=>((pieceMandF x.1).1,(pieceMandF x.1).2,())⟩
theorem F105_ok:Meets Tryz.prog 105 F105:=by
 refine mZ (C:=mkC 38 [2,3] [0,1,2,3,4,16] [⟨100,_,F100_ok⟩]) (mO _ _ _ _) (fO _) Tryz.func105 rfl rfl rfl (by decide) rfl ?_
 rintro⟨a0,_⟩ hwf hpre ⟨⟩ hG rfl rfl
 show Vc _ _ [(0,⟨0,0,.c Z24 a0⟩)] _
 refine Vm hG rfl (Vq (Vq ?_))
 refine VrD mixed hG rfl (by kernel_rfl) ?_ ?_
 · exact⟨trivial,fun h=>nIdx (pmN h) 5 (by decide)⟩
 refine Vk rfl ?_ ?_<;>intro h0
 · have g0:pmBad a0=true:=h0
   refine Vm hG rfl (Vt ?_)
   have e:=pm0 g0
   refine⟨?_,?_,trivial⟩
   · exact(congrArg Prod.fst e).symm
   · exact(congrArg Prod.snd e).symm
 · have g0:pmBad a0=false:=h0
   refine Vs (Vm hG rfl (Vq ?_))
   refine VrD mixed hG rfl (by kernel_rfl) ?_ ?_
   · exact⟨nIdx (pmN (orF g0).1) 1 (by decide),nIdx (pmN (orF g0).1) 2 (by decide),nIdx (pmN (orF g0).1) 3 (by decide),nIdx (pmN (orF g0).1) 4 (by decide),nIdx (pmN (orF g0).1) 5 (by decide)⟩
   refine Vt ?_
   have e:=pm1 g0
   refine⟨?_,?_,trivial⟩
   · exact(congrArg Prod.fst e).symm
   · exact(congrArg Prod.snd e).symm
noncomputable def F28:Fun:=⟨[.slice Y36,.pair (.int .i64) Y10],[.pure (.bool)],fun _=>True,fun x=>(checkPieceF x.1 x.2.1,())⟩
theorem F28_ok:Meets Tryz.prog 28 F28:=by
 refine mZ (C:=mkC 54 [4] [0,1,3,4,5,7,8,15,22,29,36] [⟨100,_,F100_ok⟩,⟨101,_,F101_ok⟩,⟨102,_,F102_ok⟩,⟨103,_,F103_ok⟩,⟨104,_,F104_ok⟩,⟨105,_,F105_ok⟩,⟨106,_,F106_ok⟩]) (mO _ _ _ _) (fO _) Tryz.func28 rfl rfl rfl (by decide) rfl ?_
 rintro⟨a0,a1,_⟩ hwf hpre ⟨⟩ hG rfl rfl
 show Vc _ _ [(0,⟨0,0,.c Z40 a0⟩),(1,⟨0,0,.c Z24 a1⟩)] _
 refine Vm hG rfl (Vm hG rfl (Vq (Vm hG rfl ?_)))
 refine Vb (Vm hG rfl ?_)
 refine Vk rfl ?_ ?_<;>intro h0
 · have g0:kindF a1=101:=beqI2 h0
   refine Vn hG rfl (Vq ?_)
   refine Vr hG rfl ?_ ?_
   · first
       | exact fun h=>shapeSmall ((sh101 g0).trans h)
       | exact fun h=>shapeSmall ((sh102 g1).trans h)
       | exact fun h=>shapeSmall ((sh103 g2).trans h)
       | exact fun h=>shapeSmall ((sh104 g3).trans h)
       | exact fun h=>shapeSmall ((sh105 g4).trans h)
       | (intro h;cases h)
   refine Vt ?_
   refine⟨?_,trivial⟩
   show pick2 (pieceCertF a1).2 (checkMarkF a0 a1.1 a1.2.1 a1.2.2) false=checkPieceF a0 a1
   unfold checkPieceF
   rw[sh101 g0]
 · have n0:kindF a1≠101:=bneI' h0
   refine Vm hG rfl ?_
   refine Vk rfl ?_ ?_<;>intro h1
   · have g1:kindF a1=102:=beqI2 h1
     refine Vn hG rfl (Vq ?_)
     refine Vr hG rfl ?_ ?_
     · first
         | exact fun h=>shapeSmall ((sh101 g0).trans h)
         | exact fun h=>shapeSmall ((sh102 g1).trans h)
         | exact fun h=>shapeSmall ((sh103 g2).trans h)
         | exact fun h=>shapeSmall ((sh104 g3).trans h)
         | exact fun h=>shapeSmall ((sh105 g4).trans h)
         | (intro h;cases h)
     refine Vt ?_
     refine⟨?_,trivial⟩
     show pick2 (pieceStatF a1).2 (checkMarkF a0 a1.1 a1.2.1 a1.2.2) false=checkPieceF a0 a1
     unfold checkPieceF
     rw[sh102 g1]
   · have n1:kindF a1≠102:=bneI' h1
     refine Vm hG rfl ?_
     refine Vk rfl ?_ ?_<;>intro h2
     · have g2:kindF a1=103:=beqI2 h2
       refine Vn hG rfl (Vq ?_)
       refine Vr hG rfl ?_ ?_
       · first
           | exact fun h=>shapeSmall ((sh101 g0).trans h)
           | exact fun h=>shapeSmall ((sh102 g1).trans h)
           | exact fun h=>shapeSmall ((sh103 g2).trans h)
           | exact fun h=>shapeSmall ((sh104 g3).trans h)
           | exact fun h=>shapeSmall ((sh105 g4).trans h)
           | (intro h;cases h)
       refine Vt ?_
       refine⟨?_,trivial⟩
       show pick2 (pieceStampF a1).2 (checkMarkF a0 a1.1 a1.2.1 a1.2.2) false=checkPieceF a0 a1
       unfold checkPieceF
       rw[sh103 g2]
     · have n2:kindF a1≠103:=bneI' h2
       refine Vm hG rfl ?_
       refine Vk rfl ?_ ?_<;>intro h3
       · have g3:kindF a1=104:=beqI2 h3
         refine Vn hG rfl (Vq ?_)
         refine Vr hG rfl ?_ ?_
         · first
             | exact fun h=>shapeSmall ((sh101 g0).trans h)
             | exact fun h=>shapeSmall ((sh102 g1).trans h)
             | exact fun h=>shapeSmall ((sh103 g2).trans h)
             | exact fun h=>shapeSmall ((sh104 g3).trans h)
             | exact fun h=>shapeSmall ((sh105 g4).trans h)
             | (intro h;cases h)
         refine Vt ?_
         refine⟨?_,trivial⟩
         show pick2 (pieceSignF a1).2 (checkMarkF a0 a1.1 a1.2.1 a1.2.2) false=checkPieceF a0 a1
         unfold checkPieceF
         rw[sh104 g3]
       · have n3:kindF a1≠104:=bneI' h3
         refine Vm hG rfl ?_
         refine Vk rfl ?_ ?_<;>intro h4
         · have g4:kindF a1=105:=beqI2 h4
           refine Vn hG rfl (Vq ?_)
           refine Vr hG rfl ?_ ?_
           · first
               | exact fun h=>shapeSmall ((sh101 g0).trans h)
               | exact fun h=>shapeSmall ((sh102 g1).trans h)
               | exact fun h=>shapeSmall ((sh103 g2).trans h)
               | exact fun h=>shapeSmall ((sh104 g3).trans h)
               | exact fun h=>shapeSmall ((sh105 g4).trans h)
               | (intro h;cases h)
           refine Vt ?_
           refine⟨?_,trivial⟩
           show pick2 (pieceMandF a1).2 (checkMarkF a0 a1.1 a1.2.1 a1.2.2) false=checkPieceF a0 a1
           unfold checkPieceF
           rw[sh105 g4]
         · have n4:kindF a1≠105:=bneI' h4
           refine Vs (Vq ?_)
           refine Vr hG rfl ?_ ?_
           · first
               | exact fun h=>shapeSmall ((sh101 g0).trans h)
               | exact fun h=>shapeSmall ((sh102 g1).trans h)
               | exact fun h=>shapeSmall ((sh103 g2).trans h)
               | exact fun h=>shapeSmall ((sh104 g3).trans h)
               | exact fun h=>shapeSmall ((sh105 g4).trans h)
               | (intro h;cases h)
           refine Vt ?_
           refine⟨?_,trivial⟩
           show pick2 false (checkMarkF a0 a1.1 a1.2.1 a1.2.2) false=checkPieceF a0 a1
           unfold checkPieceF
           rw[shNo n0 n1 n2 n3 n4]
end Fw
