/- Walks of functions of the program: what each computes. Conditions: those that each contract names. -/
import Derived.Test.YtacmkmcclbpolaaGreatW23T
import Derived.Test.YtacmkmcclbpolaaGreatW23i0
namespace Fw
open Go Go.Proofs
set_option linter.unusedSimpArgs false
set_option maxRecDepth 100000
noncomputable def F116:Fun:=⟨[.slice Y32,.slice Y15,.pair (.int .i64) Y24],[.pure Y32,.pure (.bool)],fun _=>True,fun x=>((makeStampF x.1 x.2.1 x.2.2.1).1,(makeStampF x.1 x.2.1 x.2.2.1).2,())⟩
theorem F116_ok:Meets Tryz.prog 116 F116:=by
 refine mZ (C:=mkC 47 [6,7] [0,1,2,5,6,7,8,9,10,27,42] [⟨174,_,F174_ok⟩,⟨175,_,F175_ok⟩,⟨177,_,F177_ok⟩,⟨176,_,F176_ok⟩]) (mO _ _ _ _) (fO _) Tryz.func116 rfl rfl rfl (by decide) rfl ?_
 rintro⟨a0,a1,a2,_⟩ hwf hpre ⟨⟩ hG rfl rfl
 show Vc _ _ [(0,⟨0,0,.c Z36 a0⟩),(1,⟨0,0,.c Z21 a1⟩),(2,⟨0,0,.c Z33 a2⟩)] _
 refine Vm hG rfl (Vm hG rfl (Vq (Vq ?_)))
 refine Vr hG rfl ?_ ?_
 · intro _;exact trivial
 refine Vk rfl ?_ ?_<;>intro h0
 · have g0:stampBad a1 a2=true:=h0
   refine Vm hG rfl (Vt ?_)
   have e:=ms_1 (keys:=a0) g0
   refine⟨?_,?_,trivial⟩
   · exact(congrArg Prod.fst e).symm
   · exact(congrArg Prod.snd e).symm
 · have g0:stampBad a1 a2=false:=h0
   refine Vs (Vq ?_)
   refine VrD mixed hG rfl (by kernel_rfl) ?_ ?_
   · exact⟨bad_idx g0,trivial,smallLit (n:=5) rfl (by decide)⟩
   refine Vq (Vm hG rfl ?_)
   refine Vk rfl ?_ ?_<;>intro h1
   · have g1:keyI a0 (authAt a1 a2.1).2.1<0:=mb_no h1
     refine Vm hG rfl (Vt ?_)
     have e:=ms_2 (keys:=a0) g0 g1
     refine⟨?_,?_,trivial⟩
     · exact(congrArg Prod.fst e).symm
     · exact(congrArg Prod.snd e).symm
   · have k1:(!(markByF a0 (authAt a1 a2.1).2.1 (stampIntsF a2)).2)=false:=h1
     have g1:¬keyI a0 (authAt a1 a2.1).2.1<0:=mb_ok k1
     refine Vs (Vm hG rfl (Vm hG rfl (Vt ?_)))
     have e:=ms_3 (keys:=a0) g0 g1
     have e2:=markBy_yes (l:=stampIntsF a2) g1
     refine⟨?_,?_,trivial⟩
     · refine Eq.trans ?_ (congrArg Prod.fst e).symm
       exact congrArg (fun m=>(a2.1,a2.2.1,a2.2.2.1,a2.2.2.2.1,m)) (congrArg Prod.fst e2)
     · exact(congrArg Prod.snd e).symm
noncomputable def F75:Fun:=⟨[.slice Y32,.slice Y15,.pair (.int .i64) Y24],[.pure (.bool)],fun _=>True,fun x=>(checkStampF x.1 x.2.1 x.2.2.1,())⟩
theorem F75_ok:Meets Tryz.prog 75 F75:=by
 refine mZ (C:=mkC 22 [6] [0,1,2,5,6,7,8] [⟨116,_,F116_ok⟩]) (mO _ _ _ _) (fO _) Tryz.func75 rfl rfl rfl (by decide) rfl ?_
 rintro⟨a0,a1,a2,_⟩ hwf hpre ⟨⟩ hG rfl rfl
 show Vc _ _ [(0,⟨0,0,.c Z36 a0⟩),(1,⟨0,0,.c Z21 a1⟩),(2,⟨0,0,.c Z33 a2⟩)] _
 refine Vm hG rfl (Vm hG rfl (Vm hG rfl (Vt ?_)))
 refine⟨?_,trivial⟩
 all_goals exact rfl
noncomputable def F355:Fun:=⟨[.slice Y32,.slice Y15,.pair (.int .i64) Y53,.int .i64],[.pure (.bool)],fun _=>True,fun x=>(checkRenF x.1 x.2.1 x.2.2.1 x.2.2.2.1,())⟩
theorem F355_ok:Meets Tryz.prog 355 F355:=by
 refine mZ (C:=mkC 59 [8] [0,1,2,3,6,8,10,38,40,41,42,43,57] [⟨366,_,F366_ok⟩,⟨72,_,F72_ok⟩,⟨223,_,F223_ok⟩,⟨75,_,F75_ok⟩]) (mO _ _ _ _) (fO _) Tryz.func355 rfl rfl rfl (by decide) rfl ?_
 rintro⟨a0,a1,a2,(a3:Int),_⟩ hwf hpre ⟨⟩ hG rfl rfl
 show Vc _ _ [(0,⟨0,0,.c Z36 a0⟩),(1,⟨0,0,.c Z21 a1⟩),(2,⟨0,0,.c Z57 a2⟩),(3,⟨0,0,.c (.pure (.int .i64)) a3⟩)] _
 have hb:List.length a2.2.2.2.2≤bigLen:=hwf.2.2.1.2.2.2.2.1
 refine Vm hG rfl (Vq (Vq ?_))
 refine VrD mixed hG rfl (by kernel_rfl) ?_ ?_
 · repeat' (first | exact trivial | refine And.intro ?_ ?_ | intro _)
 refine Vk rfl ?_ ?_<;>intro h0
 · have g0:=cr0I (keys:=a0) (l:=a1) (r:=a2) (leaf:=a3) h0
   refine Vm hG rfl (Vt ?_)
   refine⟨?_,trivial⟩
   exact g0
 · have g0:=(crPreI rfl).1 h0
   refine Vs (Vq (Vm hG rfl (Vb ?_)))
   refine Vc.loopF [(42,false,.pure (.int .i64))] [0,1,2,3,6,38,40,41] (fun v=>kInv (crG a0 a1 a2) a2.2.2.2.2 v.1) (fun v=>((List.length a2.2.2.2.2:Int)-v.1).toNat) rfl ?_ ?_
   · exact kStart
   rintro⟨(i:Int),_⟩ hI
   have hI:kInv (crG a0 a1 a2) a2.2.2.2.2 i:=hI
   refine Vm hG rfl (Vq ?_)
   refine Vk rfl ?_ ?_<;>intro h1
   · have hl:i<(List.length a2.2.2.2.2:Int):=oTr h1
     refine Vs (Vq (Vb (Vq ?_)))
     refine Vr hG rfl ?_ ?_
     · exact kRange hI hl
     refine Vq ?_
     refine Vr hG rfl ?_ ?_
     · repeat' (first | exact trivial | refine And.intro ?_ ?_ | intro _)
     refine Vk rfl ?_ ?_<;>intro h2
     · have g2:crTestI a0 a1 a2 i=true:=h2
       refine Vm hG rfl (Vt ?_)
       refine⟨?_,trivial⟩
       exact crBadI hI hl g2
     · have g2:crTestI a0 a1 a2 i=false:=h2
       refine Vs (Vn hG rfl ?_)
       refine⟨rfl,?_⟩
       exact kStep hI hl hb (crTestI_iff.1 g2)
   · have hl:¬i<(List.length a2.2.2.2.2:Int):=oFa h1
     refine Vx (Vm hG rfl (Vt ?_))
     refine⟨?_,trivial⟩
     exact crEndI g0 hI hl
noncomputable def F217:Fun:=⟨[.slice Y24,.int .i64],[.pure (.int .i64)],fun _=>True,fun x=>((fun a0 a1=>findI (fun x=>x.1==a1) a0) x.1 x.2.1,())⟩
theorem F217_ok:Meets Tryz.prog 217 F217:=by
 refine mZ (C:=mkC 20 [4] [0,1,4,5,6,7,8,9,10,17] []) (mO _ _ _ _) (fO _) Tryz.func217 rfl rfl rfl (by decide) rfl ?_
 rintro⟨a0,(a1:Int),_⟩ hwf hpre ⟨⟩ hG rfl rfl
 show Vc _ _ [(0,⟨0,0,.c Z30 a0⟩),(1,⟨0,0,.c (.pure (.int .i64)) a1⟩)] _
 have hb:List.length a0≤bigLen:=hwf.1.1
 refine Vm hG rfl (Vq (Vm hG rfl (Vb ?_)))
 refine Vc.loopF [(9,false,.pure (.int .i64))] [0,1,7,8] (fun v=>fInv (fun x=>x.1==a1) a0 v.1) (fun v=>((List.length a0:Int)-v.1).toNat) rfl ?_ ?_
 · exact fStart
 rintro⟨(i:Int),_⟩ hI
 have hI:fInv (fun x=>x.1==a1) a0 i:=hI
 refine Vm hG rfl (Vq ?_)
 refine Vk rfl ?_ ?_<;>intro h0
 · have hl:i<(List.length a0:Int):=oTr h0
   refine Vs (Vq (Vb (Vq ?_)))
   refine Vr hG rfl ?_ ?_
   · exact fRange hI hl
   refine Vm hG rfl ?_
   refine Vk rfl ?_ ?_<;>intro h1
   · have g1:(fun x=>x.1==a1) (List.getD a0 i.toNat (dflt Y24))=true:=h1
     refine Vm hG rfl (Vt ?_)
     refine⟨?_,trivial⟩
     exact fHit hI hl g1
   · have g1:(fun x=>x.1==a1) (List.getD a0 i.toNat (dflt Y24))=false:=h1
     refine Vs (Vn hG rfl ?_)
     refine⟨rfl,?_⟩
     exact fStep hI hl hb g1
 · have hl:¬i<(List.length a0:Int):=oFa h0
   refine Vx (Vm hG rfl (Vt ?_))
   refine⟨?_,trivial⟩
   exact fEnd hI hl
noncomputable def F153:Fun:=⟨[.slice Y24,.int .i64],[.pure (.int .i64)],fun _=>True,fun x=>(breakF x.1 x.2.1,())⟩
theorem F153_ok:Meets Tryz.prog 153 F153:=by
 refine mZ (C:=mkC 16 [4] [0,1,4,5,10] [⟨217,_,F217_ok⟩]) (mO _ _ _ _) (fO _) Tryz.func153 rfl rfl rfl (by decide) rfl ?_
 rintro⟨a0,(a1:Int),_⟩ hwf hpre ⟨⟩ hG rfl rfl
 show Vc _ _ [(0,⟨0,0,.c Z30 a0⟩),(1,⟨0,0,.c (.pure (.int .i64)) a1⟩)] _
 refine Vm hG rfl (Vq (Vm hG rfl (Vm hG rfl ?_)))
 refine Vk rfl ?_ ?_<;>intro h0
 · have g0:¬methI a0 a1<0:=Int.not_lt.2 (oTr h0)
   refine Vq ?_
   refine Vr hG rfl ?_ ?_
   · exact findRange g0
   refine Vt ?_
   refine⟨?_,trivial⟩
   exact brk1 g0
 · have g0:methI a0 a1<0:=Int.not_le.1 (oFa h0)
   refine Vs (Vm hG rfl (Vt ?_))
   refine⟨?_,trivial⟩
   exact brk0 g0
noncomputable def F226:Fun:=⟨[.slice Y15,.pair (.int .i64) Y24],[.pure (.int .i64)],fun _=>True,fun x=>(stampKeyF x.1 x.2.1,())⟩
theorem F226_ok:Meets Tryz.prog 226 F226:=by
 refine mZ (C:=mkC 17 [4] [0,1,3,4,5,11] [⟨174,_,F174_ok⟩]) (mO _ _ _ _) (fO _) Tryz.func226 rfl rfl rfl (by decide) rfl ?_
 rintro⟨a0,a1,_⟩ hwf hpre ⟨⟩ hG rfl rfl
 show Vc _ _ [(0,⟨0,0,.c Z21 a0⟩),(1,⟨0,0,.c Z33 a1⟩)] _
 refine Vm hG rfl (Vq (Vm hG rfl (Vm hG rfl ?_)))
 refine Vk rfl ?_ ?_<;>intro h0
 · have g0:¬authI a0 a1.1<0:=Int.not_lt.2 (oTr h0)
   refine Vq ?_
   refine Vr hG rfl ?_ ?_
   · exact findRange g0
   refine Vt ?_
   refine⟨?_,trivial⟩
   exact stampKey1 g0
 · have g0:authI a0 a1.1<0:=Int.not_le.1 (oFa h0)
   refine Vs (Vm hG rfl (Vt ?_))
   refine⟨?_,trivial⟩
   exact stampKey0 g0
noncomputable def F369:Fun:=⟨[.slice Y32,.slice Y15,.slice Y24,.pair (.int .i64) Y53],[.pure (.int .i64)],fun _=>True,fun x=>(rbF x.1 x.2.1 x.2.2.1 x.2.2.2.1,())⟩
theorem F369_ok:Meets Tryz.prog 369 F369:=by
 refine mZ (C:=mkC 42 [8] [0,1,2,3,7,8,9,11,12,18,19,20,21,30] [⟨153,_,F153_ok⟩,⟨226,_,F226_ok⟩,⟨148,_,F148_ok⟩]) (mO _ _ _ _) (fO _) Tryz.func369 rfl rfl rfl (by decide) rfl ?_
 rintro⟨a0,a1,a2,a3,_⟩ hwf hpre ⟨⟩ hG rfl rfl
 show Vc _ _ [(0,⟨0,0,.c Z36 a0⟩),(1,⟨0,0,.c Z21 a1⟩),(2,⟨0,0,.c Z30 a2⟩),(3,⟨0,0,.c Z57 a3⟩)] _
 have hb:List.length a3.2.2.2.2≤bigLen:=hwf.2.2.2.1.2.2.2.2.1
 refine Vm hG rfl (Vm hG rfl (Vq (Vm hG rfl ?_)))
 refine Vb ?_
 refine Vc.loopF [(9,false,.pure (.int .i64)),(20,false,.pure (.int .i64))] [0,1,2,3,7,18,19] (fun v=>efInv (rbBad a0 a1) (rbG a0 a1 a2) 0 (breakF a2 a3.2.1) a3.2.2.2.2 v.1 v.2.1) (fun v=>((List.length a3.2.2.2.2:Int)-v.2.1).toNat) rfl ?_ ?_
 · exact efStart
 rintro⟨(m:Int),(i:Int),_⟩ hI
 have hI:efInv (rbBad a0 a1) (rbG a0 a1 a2) 0 (breakF a2 a3.2.1) a3.2.2.2.2 m i:=hI
 refine Vm hG rfl (Vq ?_)
 refine Vk rfl ?_ ?_<;>intro h0
 · have hl:i<(List.length a3.2.2.2.2:Int):=oTr h0
   refine Vs (Vq (Vb (Vq ?_)))
   refine Vr hG rfl ?_ ?_
   · exact efRange hI hl
   refine Vm hG rfl (Vq (Vm hG rfl ?_))
   refine Vk rfl ?_ ?_<;>intro h1
   · have g1:rbBad a0 a1 (List.getD a3.2.2.2.2 i.toNat (dflt Y32))=true:=h1
     refine Vm hG rfl (Vt ?_)
     refine⟨?_,trivial⟩
     exact efStop (d:=dflt Y32) hI hl g1
   · have g1:rbBad a0 a1 (List.getD a3.2.2.2.2 i.toNat (dflt Y32))=false:=h1
     have n1:¬keyI a0 (stampKeyF a1 (List.getD a3.2.2.2.2 i.toNat (dflt Y32)))<0:=oFa h1
     refine Vs ?_
     refine Vr hG rfl ?_ ?_
     · exact⟨findRange n1,trivial⟩
     refine Vn hG rfl ?_
     refine⟨rfl,?_⟩
     exact efStep (d:=dflt Y32) hI hl hb g1
 · have hl:¬i<(List.length a3.2.2.2.2:Int):=oFa h0
   refine Vx (Vm hG rfl (Vt ?_))
   refine⟨?_,trivial⟩
   exact efEnd hI hl
noncomputable def F357:Fun:=⟨[.pair Y34 Y55,.pair Y23 Y59,.int .i64],[.pure (.bool)],fun x=>(fun(_:Frame) (s:Strand) (_:Int)=>Sm big20 (.slice TPiece) s.1∧∀ r∈s.2,Sm big20 TRen r) x.1 x.2.1 x.2.2.1,fun x=>(linkF x.1 x.2.1 x.2.2.1,())⟩
theorem F357_ok:Meets Tryz.prog 357 F357:=by
 refine mZ (C:=mkC 57 [6] [0,1,2,3,4,6,7,8,9,16,34] [⟨72,_,F72_ok⟩,⟨369,_,F369_ok⟩,⟨333,_,F333_ok⟩]) (mO _ _ _ _) (fO _) Tryz.func357 rfl rfl rfl (by decide) rfl ?_
 rintro⟨a0,a1,(a2:Int),_⟩ hwf hpre ⟨⟩ hG rfl rfl
 show Vc _ _ [(0,⟨0,0,.c Z67 a0⟩),(1,⟨0,0,.c Z65 a1⟩),(2,⟨0,0,.c (.pure (.int .i64)) a2⟩)] _
 have hP:Sm big20 (.slice TPiece) a1.1:=hpre.1
 have hR:∀ r∈a1.2,Sm big20 TRen r:=hpre.2
 have hb:List.length a1.2≤bigLen:=hwf.2.1.2.1
 have hSt:∀ k:Int,inRange k (List.length a1.2)→List.length (chAt a1 k).2.2.2.2≤1048576:=fun k hk=>(hR _ (getD_mem hk (dflt TRen))).2.2.2.2.1
 refine Vm hG rfl (Vq (Vm hG rfl ?_))
 refine Vk rfl ?_ ?_<;>intro h0
 · have g0:=h0
   refine Vm hG rfl (Vt ?_)
   refine⟨?_,trivial⟩
   exact lk0 g0
 · have g0:=h0
   have k0:=laIdx g0 hb
   refine Vs (Vq ?_)
   refine VrD mixed hG rfl (by kernel_rfl) ?_ ?_
   · exact⟨k0,trivial⟩
   refine Vq (Vm hG rfl ?_)
   refine Vk rfl ?_ ?_<;>intro h1
   · have g1:=h1
     refine Vm hG rfl (Vt ?_)
     refine⟨?_,trivial⟩
     exact lk1 g0 g1
   · have g1:=h1
     have k1:=lkNext g0 g1 hb
     refine Vs (Vq ?_)
     refine VrD mixed hG rfl (by kernel_rfl) ?_ ?_
     · exact⟨k1,hSt _ k1⟩
     refine Vm hG rfl (Vt ?_)
     refine⟨?_,trivial⟩
     exact lk2 g0 g1
noncomputable def F332:Fun:=⟨[.pair Y34 Y55,.pair Y23 Y59,.slice (.int .i64)],[.pure (.int .i64)],fun x=>(fun(_:Frame) (s:Strand) (_:List Int)=>Sm big20 (.slice TPiece) s.1∧∀ r∈s.2,Sm big20 TRen r) x.1 x.2.1 x.2.2.1,fun x=>(firstKeptF x.1 x.2.1 x.2.2.1,())⟩
theorem F332_ok:Meets Tryz.prog 332 F332:=by
 refine mZ (C:=mkC 58 [6] [0,1,2,3,4,6,7,9,14,54] [⟨333,_,F333_ok⟩,⟨356,_,F356_ok⟩,⟨355,_,F355_ok⟩,⟨357,_,F357_ok⟩]) (mO _ _ _ _) (fO _) Tryz.func332 rfl rfl rfl (by decide) rfl ?_
 rintro⟨a0,a1,a2,_⟩ hwf hpre ⟨⟩ hG rfl rfl
 show Vc _ _ [(0,⟨0,0,.c Z67 a0⟩),(1,⟨0,0,.c Z65 a1⟩),(2,⟨0,0,.c Z2 a2⟩)] _
 have hP:Sm big20 (.slice TPiece) a1.1:=hpre.1
 have hR:∀ r∈a1.2,Sm big20 TRen r:=hpre.2
 have hb:List.length a1.2≤bigLen:=hwf.2.1.2.1
 have hSt:∀ k:Int,inRange k (List.length a1.2)→List.length (chAt a1 k).2.2.2.2≤1048576:=fun k hk=>(hR _ (getD_mem hk (dflt TRen))).2.2.2.2.1
 refine Vm hG rfl (Vm hG rfl (Vq (Vb ?_)))
 refine Vc.loopF [(7,false,.pure (.int .i64))] [0,1,2,3,4,6] (fun v=>fkInv a0 a1 a2 v.1) (fun v=>v.1.toNat) rfl ?_ ?_
 · exact fkStart
 rintro⟨(j:Int),_⟩ hI
 have hI:fkInv a0 a1 a2 j:=hI
 refine Vq (Vm hG rfl ?_)
 refine Vk rfl ?_ ?_<;>intro h0
 · have g0:j>0:=oTr h0
   have k0:=fkIdx hI g0 hb
   refine Vs (Vb (Vq ?_))
   refine VrD mixed hG rfl (by kernel_rfl) ?_ ?_
   · exact⟨k0,hSt _ k0⟩
   refine Vq (Vq ?_)
   refine VrD mixed hG rfl (by kernel_rfl) ?_ ?_
   · repeat' (first | exact trivial | exact k0 | exact⟨hP,hR⟩ | refine And.intro ?_ ?_ | intro _)
   refine Vk rfl ?_ ?_<;>intro h1
   · have g1:keptF a0 a1 a2 (IntKind.i64.wrap (j-1))=false:=by have q:=keptI.symm.trans h1;simpa using q
     refine Vx (Vm hG rfl (Vt ?_))
     refine⟨?_,trivial⟩
     exact fkStop hI g0 hb g1
   · have g1:keptF a0 a1 a2 (IntKind.i64.wrap (j-1))=true:=by have q:=keptI.symm.trans h1;simpa using q
     refine Vs (Vn hG rfl ?_)
     refine⟨rfl,?_⟩
     exact fkStep hI g0 hb g1
 · have g0:¬j>0:=oFa h0
   refine Vx (Vm hG rfl (Vt ?_))
   refine⟨?_,trivial⟩
   exact fkZero hI g0
noncomputable def F285:Fun:=⟨[.pair Y34 Y55,.pair Y23 Y59,.slice (.int .i64),.int .i64],[.pure (.int .i64)],fun x=>(fun(_:Frame) (s:Strand) (_:List Int) (_:Int)=>Sm big20 (.slice TPiece) s.1∧∀ r∈s.2,Sm big20 TRen r) x.1 x.2.1 x.2.2.1 x.2.2.2.1,fun x=>(boundOfF x.1 x.2.1 x.2.2.1 x.2.2.2.1,())⟩
theorem F285_ok:Meets Tryz.prog 285 F285:=by
 refine mZ (C:=mkC 49 [8] [0,1,2,3,4,5,8,9,10,11,23,43] [⟨332,_,F332_ok⟩,⟨333,_,F333_ok⟩]) (mO _ _ _ _) (fO _) Tryz.func285 rfl rfl rfl (by decide) rfl ?_
 rintro⟨a0,a1,a2,(a3:Int),_⟩ hwf hpre ⟨⟩ hG rfl rfl
 show Vc _ _ [(0,⟨0,0,.c Z67 a0⟩),(1,⟨0,0,.c Z65 a1⟩),(2,⟨0,0,.c Z2 a2⟩),(3,⟨0,0,.c (.pure (.int .i64)) a3⟩)] _
 have hP:Sm big20 (.slice TPiece) a1.1:=hpre.1
 have hR:∀ r∈a1.2,Sm big20 TRen r:=hpre.2
 have hb:List.length a1.2≤bigLen:=hwf.2.1.2.1
 have hSt:∀ k:Int,inRange k (List.length a1.2)→List.length (chAt a1 k).2.2.2.2≤1048576:=fun k hk=>(hR _ (getD_mem hk (dflt TRen))).2.2.2.2.1
 refine Vm hG rfl (Vm hG rfl (Vq (Vq ?_)))
 refine Vr hG rfl ?_ ?_
 · exact⟨hP,hR⟩
 refine Vb ?_
 refine Vc.loopF [(9,false,.pure (.int .i64)),(10,false,.pure (.int .i64))] [0,1,2,3,4,5,8] (fun v=>boInv a0 a1 a2 a3 v.1 v.2.1) (fun v=>((List.length a1.2:Int)-v.2.1).toNat) rfl ?_ ?_
 · exact boStart
 rintro⟨(t:Int),(j:Int),_⟩ hI
 have hI:boInv a0 a1 a2 a3 t j:=hI
 refine Vq (Vm hG rfl ?_)
 refine Vk rfl ?_ ?_<;>intro h0
 · have hl:j<(List.length a1.2:Int):=oTr h0
   have k0:=boRange hI hl
   refine Vs (Vq (Vb (Vq ?_)))
   refine VrD mixed hG rfl (by kernel_rfl) ?_ ?_
   · exact⟨k0,hSt _ k0⟩
   refine Vq ?_
   refine Vr hG rfl ?_ ?_
   · exact k0
   refine Vk rfl ?_ ?_<;>intro h1
   · have st:=boStep hI hl hb (boY (f:=a0) (t:=t) (r:=chAt a1 j) h1).symm
     refine Vn hG rfl (Vn hG rfl ?_)
     refine⟨rfl,?_⟩
     exact st
   · have st:=boStep hI hl hb (boN (f:=a0) (t:=t) (r:=chAt a1 j) h1).symm
     refine Vs (Vn hG rfl ?_)
     refine⟨rfl,?_⟩
     exact st
 · have hl:¬j<(List.length a1.2:Int):=oFa h0
   refine Vx (Vm hG rfl (Vt ?_))
   refine⟨?_,trivial⟩
   exact boEnd hI hl
noncomputable def F216:Fun:=⟨[.pair Y34 Y55,.pair Y23 Y59,.slice (.int .i64),.pair (.int .i64) Y9],[.pure (.int .i64)],fun x=>(fun(_:Frame) (s:Strand) (_:List Int) (_:Piece)=>Sm big20 (.slice TPiece) s.1∧∀ r∈s.2,Sm big20 TRen r) x.1 x.2.1 x.2.2.1 x.2.2.2.1,fun x=>(pieceBoundF x.1 x.2.1 x.2.2.1 x.2.2.2.1,())⟩
theorem F216_ok:Meets Tryz.prog 216 F216:=by
 refine mZ (C:=mkC 22 [8] [0,1,2,3,4,5,7,8,9,14] [⟨284,_,F284_ok⟩,⟨285,_,F285_ok⟩]) (mO _ _ _ _) (fO _) Tryz.func216 rfl rfl rfl (by decide) rfl ?_
 rintro⟨a0,a1,a2,a3,_⟩ hwf hpre ⟨⟩ hG rfl rfl
 show Vc _ _ [(0,⟨0,0,.c Z67 a0⟩),(1,⟨0,0,.c Z65 a1⟩),(2,⟨0,0,.c Z2 a2⟩),(3,⟨0,0,.c Z22 a3⟩)] _
 have hp:=hpre
 refine Vm hG rfl (Vm hG rfl (Vq (Vm hG rfl ?_)))
 refine Vk rfl ?_ ?_<;>intro h0
 · have g0:findPieceF a1 a3<0:=oTr h0
   refine Vm hG rfl (Vt ?_)
   refine⟨?_,trivial⟩
   exact pb0 g0
 · have g0:¬findPieceF a1 a3<0:=oFa h0
   refine Vs (Vq ?_)
   refine Vr hG rfl ?_ ?_
   · exact hp
   refine Vt ?_
   refine⟨?_,trivial⟩
   exact pb1 g0
noncomputable def F150:Fun:=⟨[.pair Y34 Y55,.pair Y66 Y37,.slice (.slice (.int .i64)),.pair (.int .i64) Y9],[.pure (.int .i64)],fun x=>(fun(_:Frame) (e:Evidence) (_:List (List Int)) (_:Piece)=>Sm big20 Y66 e.1) x.1 x.2.1 x.2.2.1 x.2.2.2.1,fun x=>(evBoundF x.1 x.2.1 x.2.2.1 x.2.2.2.1,())⟩
theorem F150_ok:Meets Tryz.prog 150 F150:=by
 refine mZ (C:=mkC 38 [8] [0,1,2,3,4,5,7,8,9,10,11,15,16,17,18,25] [⟨216,_,F216_ok⟩]) (mO _ _ _ _) (fO _) Tryz.func150 rfl rfl rfl (by decide) rfl ?_
 rintro⟨a0,a1,a2,a3,_⟩ hwf hpre ⟨⟩ hG rfl rfl
 show Vc _ _ [(0,⟨0,0,.c Z67 a0⟩),(1,⟨0,0,.c Z72 a1⟩),(2,⟨0,0,.c Z7 a2⟩),(3,⟨0,0,.c Z22 a3⟩)] _
 have hS:Sm big20 Y66 a1.1:=hpre
 have hb:List.length a1.1≤bigLen:=hwf.2.1.1.1
 refine Vm hG rfl (Vm hG rfl (Vq (Vm hG rfl ?_)))
 refine Vb ?_
 refine Vc.loopF [(9,false,.pure (.int .i64)),(17,false,.pure (.int .i64))] [0,1,2,3,4,5,7,8,15,16] (fun v=>ebInv a0 a1 a2 a3 v.1 v.2.1) (fun v=>((List.length a1.1:Int)-v.2.1).toNat) rfl ?_ ?_
 · exact ebStart
 rintro⟨(t:Int),(i:Int),_⟩ hI
 have hI:ebInv a0 a1 a2 a3 t i:=hI
 refine Vm hG rfl (Vq ?_)
 refine Vk rfl ?_ ?_<;>intro h0
 · have hl:i<(List.length a1.1:Int):=oTr h0
   refine Vs (Vq (Vb (Vq ?_)))
   refine Vr hG rfl ?_ ?_
   · exact ebRange hI hl
   refine Vm hG rfl ?_
   refine Vk rfl ?_ ?_<;>intro h1
   · have hd:i<(List.length a2:Int):=oTr h1
     have st:=ebYes (dflt Y63) (dflt (.slice TI)) hI hl hd hb rfl
     have r1:=ebRange hI hl
     have r2:=ebRangeD hI hd
     have r3:=usStrand hS r1
     refine VrD mixed hG rfl (by kernel_rfl) ?_ ?_
     · exact⟨r2,r3⟩
     refine Vn hG rfl ?_
     refine⟨rfl,?_⟩
     exact st
   · have hd:¬i<(List.length a2:Int):=oFa h1
     have st:=ebNo hI hl hd hb
     refine Vs (Vn hG rfl ?_)
     refine⟨rfl,?_⟩
     exact st
 · have hl:¬i<(List.length a1.1:Int):=oFa h0
   refine Vx (Vm hG rfl (Vt ?_))
   refine⟨?_,trivial⟩
   exact ebEnd hI (fun q=>hl q.1)
noncomputable def F152:Fun:=⟨[.pair Y34 Y55,.int .i64],[.pure (.int .i64)],fun _=>True,fun x=>(brkKeyF x.1 x.2.1,())⟩
theorem F152_ok:Meets Tryz.prog 152 F152:=by
 refine mZ (C:=mkC 21 [4] [0,1,2,4,5,11] [⟨148,_,F148_ok⟩,⟨153,_,F153_ok⟩]) (mO _ _ _ _) (fO _) Tryz.func152 rfl rfl rfl (by decide) rfl ?_
 rintro⟨a0,(a1:Int),_⟩ hwf hpre ⟨⟩ hG rfl rfl
 show Vc _ _ [(0,⟨0,0,.c Z67 a0⟩),(1,⟨0,0,.c (.pure (.int .i64)) a1⟩)] _
 refine Vm hG rfl (Vm hG rfl (Vq (Vm hG rfl ?_)))
 refine Vk rfl ?_ ?_<;>intro h0
 · have g0:keyI a0.1 a1<0:=oTr h0
   refine Vm hG rfl (Vt ?_)
   refine⟨?_,trivial⟩
   exact bk0 g0
 · have g0:¬keyI a0.1 a1<0:=oFa h0
   refine Vs (Vq ?_)
   refine VrD mixed hG rfl (by kernel_rfl) ?_ ?_
   · exact⟨findRange g0,trivial⟩
   refine Vt ?_
   refine⟨?_,trivial⟩
   exact bk1 g0
noncomputable def F218:Fun:=⟨[.slice Y19,.pair (.int .i64) Y9],[.pure (.bool)],fun _=>True,fun x=>(hasF x.1 x.2.1,())⟩
theorem F218_ok:Meets Tryz.prog 218 F218:=by
 refine mZ (C:=mkC 17 [4] [0,1,3,4,6,7,8,9,10,15] [⟨286,_,F286_ok⟩]) (mO _ _ _ _) (fO _) Tryz.func218 rfl rfl rfl (by decide) rfl ?_
 rintro⟨a0,a1,_⟩ hwf hpre ⟨⟩ hG rfl rfl
 show Vc _ _ [(0,⟨0,0,.c Z26 a0⟩),(1,⟨0,0,.c Z22 a1⟩)] _
 have hb:List.length a0≤bigLen:=hwf.1.1
 refine Vm hG rfl (Vq (Vm hG rfl (Vb ?_)))
 refine Vc.loopF [(9,false,.pure (.int .i64))] [0,1,3,7,8] (fun v=>fInv (fun x=>eqC x a1) a0 v.1) (fun v=>((List.length a0:Int)-v.1).toNat) rfl ?_ ?_
 · exact fStart
 rintro⟨(i:Int),_⟩ hI
 have hI:fInv (fun x=>eqC x a1) a0 i:=hI
 refine Vm hG rfl (Vq ?_)
 refine Vk rfl ?_ ?_<;>intro h0
 · have hl:i<(List.length a0:Int):=oTr h0
   refine Vs (Vq (Vb (Vq ?_)))
   refine Vr hG rfl ?_ ?_
   · exact fRange hI hl
   refine Vm hG rfl ?_
   refine Vk rfl ?_ ?_<;>intro h1
   · have g1:(fun x=>eqC x a1) (List.getD a0 i.toNat (dflt Y19))=true:=h1
     refine Vm hG rfl (Vt ?_)
     refine⟨?_,trivial⟩
     exact hasYes hI hl g1
   · have g1:(fun x=>eqC x a1) (List.getD a0 i.toNat (dflt Y19))=false:=h1
     refine Vs (Vn hG rfl ?_)
     refine⟨rfl,?_⟩
     exact fStep hI hl hb g1
 · have hl:¬i<(List.length a0:Int):=oFa h0
   refine Vx (Vm hG rfl (Vt ?_))
   refine⟨?_,trivial⟩
   exact hasNo hI hl
noncomputable def F287:Fun:=⟨[.pair (.int .i64) Y9],[.pure (.int .i64)],fun _=>True,fun x=>(kindF x.1,())⟩
theorem F287_ok:Meets Tryz.prog 287 F287:=by
 refine mZ (C:=mkC 32 [2] [0,1,2,27] [⟨72,_,F72_ok⟩]) (mO _ _ _ _) (fO _) Tryz.func287 rfl rfl rfl (by decide) rfl ?_
 rintro⟨a0,_⟩ hwf hpre ⟨⟩ hG rfl rfl
 show Vc _ _ [(0,⟨0,0,.c Z22 a0⟩)] _
 refine Vm hG rfl (Vq (Vq ?_))
 refine VrD mixed hG rfl (by kernel_rfl) ?_ ?_
 · exact⟨fun h=>kLen h,fun _=>trivial,fun h=>kLen1 h,fun h=>kIdx h⟩
 refine Vk rfl ?_ ?_<;>intro h0
 · have g0:pick2 (kb1 a0) true (kb2 a0)=true:=h0
   refine Vm hG rfl (Vt ?_)
   refine⟨?_,trivial⟩
   exact kindI g0
 · have g0:pick2 (kb1 a0) true (kb2 a0)=false:=h0
   refine Vs (Vq ?_)
   refine Vr hG rfl ?_ ?_
   · exact kLen1 (orF g0).1
   refine Vt ?_
   refine⟨?_,trivial⟩
   exact kind2 (orF g0).1 (orF g0).2
noncomputable def F221:Fun:=⟨[.pair (.int .i64) Y9],[.pure Y45,.pure (.bool)],fun _=>True,fun x=>((pieceCertF x.1).1,(pieceCertF x.1).2,())⟩
theorem F221_ok:Meets Tryz.prog 221 F221:=by
 refine mZ (C:=mkC 41 [2,3] [0,1,2,3,4,16] [⟨287,_,F287_ok⟩]) (mO _ _ _ _) (fO _) Tryz.func221 rfl rfl rfl (by decide) rfl ?_
 rintro⟨a0,_⟩ hwf hpre ⟨⟩ hG rfl rfl
 show Vc _ _ [(0,⟨0,0,.c Z22 a0⟩)] _
 refine Vm hG rfl (Vq (Vq ?_))
 refine VrD mixed hG rfl (by kernel_rfl) ?_ ?_
 · exact⟨trivial,fun h=>seven (kind7 h) 6 (by decide)⟩
 refine Vk rfl ?_ ?_<;>intro h0
 · have g0:pcBad a0=true:=h0
   refine Vm hG rfl (Vt ?_)
   have e:=pc0 g0
   refine⟨?_,?_,trivial⟩
   · exact(congrArg Prod.fst e).symm
   · exact(congrArg Prod.snd e).symm
 · have g0:pcBad a0=false:=h0
   refine Vs (Vm hG rfl (Vq ?_))
   refine VrD mixed hG rfl (by kernel_rfl) ?_ ?_
   · exact⟨seven (pc7 g0) 1 (by decide),seven (pc7 g0) 2 (by decide),seven (pc7 g0) 3 (by decide),seven (pc7 g0) 4 (by decide),seven (pc7 g0) 5 (by decide),seven (pc7 g0) 6 (by decide)⟩
   refine Vt ?_
   have e:=pc1 g0
   refine⟨?_,?_,trivial⟩
   · exact(congrArg Prod.fst e).symm
   · exact(congrArg Prod.snd e).symm
noncomputable def F228:Fun:=⟨[.pair (.int .i64) Y9],[.pure Y32,.pure (.bool)],fun _=>True,fun x=>((pieceStatF x.1).1,(pieceStatF x.1).2,())⟩
theorem F228_ok:Meets Tryz.prog 228 F228:=by
 refine mZ (C:=mkC 35 [2,3] [0,1,2,3,4,16] [⟨287,_,F287_ok⟩]) (mO _ _ _ _) (fO _) Tryz.func228 rfl rfl rfl (by decide) rfl ?_
 rintro⟨a0,_⟩ hwf hpre ⟨⟩ hG rfl rfl
 show Vc _ _ [(0,⟨0,0,.c Z22 a0⟩)] _
 refine Vm hG rfl (Vq (Vq ?_))
 refine VrD mixed hG rfl (by kernel_rfl) ?_ ?_
 · exact⟨trivial,fun h=>nIdx (psN h) 4 (by decide)⟩
 refine Vk rfl ?_ ?_<;>intro h0
 · have g0:psBad a0=true:=h0
   refine Vm hG rfl (Vt ?_)
   have e:=ps0 g0
   refine⟨?_,?_,trivial⟩
   · exact(congrArg Prod.fst e).symm
   · exact(congrArg Prod.snd e).symm
 · have g0:psBad a0=false:=h0
   refine Vs (Vm hG rfl (Vq ?_))
   refine VrD mixed hG rfl (by kernel_rfl) ?_ ?_
   · exact⟨nIdx (psN (orF g0).1) 1 (by decide),nIdx (psN (orF g0).1) 2 (by decide),nIdx (psN (orF g0).1) 3 (by decide),nIdx (psN (orF g0).1) 4 (by decide)⟩
   refine Vt ?_
   have e:=ps1 g0
   refine⟨?_,?_,trivial⟩
   · exact(congrArg Prod.fst e).symm
   · exact(congrArg Prod.snd e).symm
noncomputable def F288:Fun:=⟨[.pair (.int .i64) Y9],[.pure Y32,.pure (.bool)],fun _=>True,fun x=>((pieceStampF x.1).1,(pieceStampF x.1).2,())⟩
theorem F288_ok:Meets Tryz.prog 288 F288:=by
 refine mZ (C:=mkC 26 [2,3] [0,1,2,3,4,7] [⟨287,_,F287_ok⟩]) (mO _ _ _ _) (fO _) Tryz.func288 rfl rfl rfl (by decide) rfl ?_
 rintro⟨a0,_⟩ hwf hpre ⟨⟩ hG rfl rfl
 show Vc _ _ [(0,⟨0,0,.c Z22 a0⟩)] _
 refine Vm hG rfl (Vq (Vm hG rfl ?_))
 refine Vk rfl ?_ ?_<;>intro h0
 · have g0:pstBad a0=true:=h0
   refine Vm hG rfl (Vt ?_)
   have e:=pst0 g0
   refine⟨?_,?_,trivial⟩
   · exact(congrArg Prod.fst e).symm
   · exact(congrArg Prod.snd e).symm
 · have g0:pstBad a0=false:=h0
   refine Vs (Vm hG rfl (Vq ?_))
   refine VrD mixed hG rfl (by kernel_rfl) ?_ ?_
   · exact⟨nIdx (pstN g0) 1 (by decide),nIdx (pstN g0) 2 (by decide),nIdx (pstN g0) 3 (by decide),nIdx (pstN g0) 4 (by decide)⟩
   refine Vt ?_
   have e:=pst1 g0
   refine⟨?_,?_,trivial⟩
   · exact(congrArg Prod.fst e).symm
   · exact(congrArg Prod.snd e).symm
noncomputable def F289:Fun:=⟨[.pair (.int .i64) Y9],[.pure Y51,.pure (.bool)],fun _=>True,fun x=>((pieceSignF x.1).1,(pieceSignF x.1).2,())⟩
theorem F289_ok:Meets Tryz.prog 289 F289:=by
 refine mZ (C:=mkC 47 [2,3] [0,1,2,3,4,16] [⟨287,_,F287_ok⟩]) (mO _ _ _ _) (fO _) Tryz.func289 rfl rfl rfl (by decide) rfl ?_
 rintro⟨a0,_⟩ hwf hpre ⟨⟩ hG rfl rfl
 show Vc _ _ [(0,⟨0,0,.c Z22 a0⟩)] _
 refine Vm hG rfl (Vq (Vq ?_))
 refine VrD mixed hG rfl (by kernel_rfl) ?_ ?_
 · exact⟨trivial,fun h=>nIdx (psgN h) 1 (by decide)⟩
 refine Vk rfl ?_ ?_<;>intro h0
 · have g0:psgBad a0=true:=h0
   refine Vm hG rfl (Vt ?_)
   have e:=psg0 g0
   refine⟨?_,?_,trivial⟩
   · exact(congrArg Prod.fst e).symm
   · exact(congrArg Prod.snd e).symm
 · have g0:psgBad a0=false:=h0
   refine Vs (Vm hG rfl (Vq ?_))
   refine VrD mixed hG rfl (by kernel_rfl) ?_ ?_
   · exact⟨nIdx (psgN (orF g0).1) 1 (by decide),nIdx (psgN (orF g0).1) 2 (by decide),nIdx (psgN (orF g0).1) 3 (by decide),nIdx (psgN (orF g0).1) 4 (by decide),nIdx (psgN (orF g0).1) 5 (by decide),nIdx (psgN (orF g0).1) 6 (by decide),nIdx (psgN (orF g0).1) 7 (by decide),nIdx (psgN (orF g0).1) 8 (by decide)⟩
   refine Vt ?_
   have e:=psg1 g0
   refine⟨?_,?_,trivial⟩
   · exact(congrArg Prod.fst e).symm
   · exact(congrArg Prod.snd e).symm
noncomputable def F234:Fun:=⟨[.pair (.int .i64) Y9],[.pure Y38,.pure (.bool)],fun _=>True,fun x=>((pieceMandF x.1).1,(pieceMandF x.1).2,())⟩
theorem F234_ok:Meets Tryz.prog 234 F234:=by
 refine mZ (C:=mkC 38 [2,3] [0,1,2,3,4,16] [⟨287,_,F287_ok⟩]) (mO _ _ _ _) (fO _) Tryz.func234 rfl rfl rfl (by decide) rfl ?_
 rintro⟨a0,_⟩ hwf hpre ⟨⟩ hG rfl rfl
 show Vc _ _ [(0,⟨0,0,.c Z22 a0⟩)] _
 refine Vm hG rfl (Vq (Vq ?_))
 refine VrD mixed hG rfl (by kernel_rfl) ?_ ?_
 · exact⟨trivial,fun h=>nIdx (pmN h) 5 (by decide)⟩
 refine Vk rfl ?_ ?_<;>intro h0
 · have g0:pmBad a0=true:=h0
   refine Vm hG rfl (Vt ?_)
   have e:=pm0 g0
   refine⟨?_,?_,trivial⟩
   · exact(congrArg Prod.fst e).symm
   · exact(congrArg Prod.snd e).symm
 · have g0:pmBad a0=false:=h0
   refine Vs (Vm hG rfl (Vq ?_))
   refine VrD mixed hG rfl (by kernel_rfl) ?_ ?_
   · exact⟨nIdx (pmN (orF g0).1) 1 (by decide),nIdx (pmN (orF g0).1) 2 (by decide),nIdx (pmN (orF g0).1) 3 (by decide),nIdx (pmN (orF g0).1) 4 (by decide),nIdx (pmN (orF g0).1) 5 (by decide)⟩
   refine Vt ?_
   have e:=pm1 g0
   refine⟨?_,?_,trivial⟩
   · exact(congrArg Prod.fst e).symm
   · exact(congrArg Prod.snd e).symm
noncomputable def F219:Fun:=⟨[.slice Y32,.pair (.int .i64) Y9],[.pure (.bool)],fun _=>True,fun x=>(checkPieceF x.1 x.2.1,())⟩
theorem F219_ok:Meets Tryz.prog 219 F219:=by
 refine mZ (C:=mkC 54 [4] [0,1,3,4,5,7,8,15,22,29,36] [⟨287,_,F287_ok⟩,⟨221,_,F221_ok⟩,⟨228,_,F228_ok⟩,⟨288,_,F288_ok⟩,⟨289,_,F289_ok⟩,⟨234,_,F234_ok⟩,⟨214,_,F214_ok⟩]) (mO _ _ _ _) (fO _) Tryz.func219 rfl rfl rfl (by decide) rfl ?_
 rintro⟨a0,a1,_⟩ hwf hpre ⟨⟩ hG rfl rfl
 show Vc _ _ [(0,⟨0,0,.c Z36 a0⟩),(1,⟨0,0,.c Z22 a1⟩)] _
 refine Vm hG rfl (Vm hG rfl (Vq (Vm hG rfl ?_)))
 refine Vb (Vm hG rfl ?_)
 refine Vk rfl ?_ ?_<;>intro h0
 · have g0:kindF a1=101:=beqI2 h0
   refine Vn hG rfl (Vq ?_)
   refine Vr hG rfl ?_ ?_
   · first
       | exact fun h=>shapeSmall ((sh101 g0).trans h)
       | exact fun h=>shapeSmall ((sh102 g1).trans h)
       | exact fun h=>shapeSmall ((sh103 g2).trans h)
       | exact fun h=>shapeSmall ((sh104 g3).trans h)
       | exact fun h=>shapeSmall ((sh105 g4).trans h)
       | (intro h;cases h)
   refine Vt ?_
   refine⟨?_,trivial⟩
   show pick2 (pieceCertF a1).2 (checkMarkF a0 a1.1 a1.2.1 a1.2.2) false=checkPieceF a0 a1
   unfold checkPieceF
   rw[sh101 g0]
 · have n0:kindF a1≠101:=bneI' h0
   refine Vm hG rfl ?_
   refine Vk rfl ?_ ?_<;>intro h1
   · have g1:kindF a1=102:=beqI2 h1
     refine Vn hG rfl (Vq ?_)
     refine Vr hG rfl ?_ ?_
     · first
         | exact fun h=>shapeSmall ((sh101 g0).trans h)
         | exact fun h=>shapeSmall ((sh102 g1).trans h)
         | exact fun h=>shapeSmall ((sh103 g2).trans h)
         | exact fun h=>shapeSmall ((sh104 g3).trans h)
         | exact fun h=>shapeSmall ((sh105 g4).trans h)
         | (intro h;cases h)
     refine Vt ?_
     refine⟨?_,trivial⟩
     show pick2 (pieceStatF a1).2 (checkMarkF a0 a1.1 a1.2.1 a1.2.2) false=checkPieceF a0 a1
     unfold checkPieceF
     rw[sh102 g1]
   · have n1:kindF a1≠102:=bneI' h1
     refine Vm hG rfl ?_
     refine Vk rfl ?_ ?_<;>intro h2
     · have g2:kindF a1=103:=beqI2 h2
       refine Vn hG rfl (Vq ?_)
       refine Vr hG rfl ?_ ?_
       · first
           | exact fun h=>shapeSmall ((sh101 g0).trans h)
           | exact fun h=>shapeSmall ((sh102 g1).trans h)
           | exact fun h=>shapeSmall ((sh103 g2).trans h)
           | exact fun h=>shapeSmall ((sh104 g3).trans h)
           | exact fun h=>shapeSmall ((sh105 g4).trans h)
           | (intro h;cases h)
       refine Vt ?_
       refine⟨?_,trivial⟩
       show pick2 (pieceStampF a1).2 (checkMarkF a0 a1.1 a1.2.1 a1.2.2) false=checkPieceF a0 a1
       unfold checkPieceF
       rw[sh103 g2]
     · have n2:kindF a1≠103:=bneI' h2
       refine Vm hG rfl ?_
       refine Vk rfl ?_ ?_<;>intro h3
       · have g3:kindF a1=104:=beqI2 h3
         refine Vn hG rfl (Vq ?_)
         refine Vr hG rfl ?_ ?_
         · first
             | exact fun h=>shapeSmall ((sh101 g0).trans h)
             | exact fun h=>shapeSmall ((sh102 g1).trans h)
             | exact fun h=>shapeSmall ((sh103 g2).trans h)
             | exact fun h=>shapeSmall ((sh104 g3).trans h)
             | exact fun h=>shapeSmall ((sh105 g4).trans h)
             | (intro h;cases h)
         refine Vt ?_
         refine⟨?_,trivial⟩
         show pick2 (pieceSignF a1).2 (checkMarkF a0 a1.1 a1.2.1 a1.2.2) false=checkPieceF a0 a1
         unfold checkPieceF
         rw[sh104 g3]
       · have n3:kindF a1≠104:=bneI' h3
         refine Vm hG rfl ?_
         refine Vk rfl ?_ ?_<;>intro h4
         · have g4:kindF a1=105:=beqI2 h4
           refine Vn hG rfl (Vq ?_)
           refine Vr hG rfl ?_ ?_
           · first
               | exact fun h=>shapeSmall ((sh101 g0).trans h)
               | exact fun h=>shapeSmall ((sh102 g1).trans h)
               | exact fun h=>shapeSmall ((sh103 g2).trans h)
               | exact fun h=>shapeSmall ((sh104 g3).trans h)
               | exact fun h=>shapeSmall ((sh105 g4).trans h)
               | (intro h;cases h)
           refine Vt ?_
           refine⟨?_,trivial⟩
           show pick2 (pieceMandF a1).2 (checkMarkF a0 a1.1 a1.2.1 a1.2.2) false=checkPieceF a0 a1
           unfold checkPieceF
           rw[sh105 g4]
         · have n4:kindF a1≠105:=bneI' h4
           refine Vs (Vq ?_)
           refine Vr hG rfl ?_ ?_
           · first
               | exact fun h=>shapeSmall ((sh101 g0).trans h)
               | exact fun h=>shapeSmall ((sh102 g1).trans h)
               | exact fun h=>shapeSmall ((sh103 g2).trans h)
               | exact fun h=>shapeSmall ((sh104 g3).trans h)
               | exact fun h=>shapeSmall ((sh105 g4).trans h)
               | (intro h;cases h)
           refine Vt ?_
           refine⟨?_,trivial⟩
           show pick2 false (checkMarkF a0 a1.1 a1.2.1 a1.2.2) false=checkPieceF a0 a1
           unfold checkPieceF
           rw[shNo n0 n1 n2 n3 n4]
noncomputable def F220:Fun:=⟨[.pair (.int .i64) Y9,.pair (.int .i64) Y9],[.pure (.bool)],fun _=>True,fun x=>(pbF x.1 x.2.1,())⟩
theorem F220_ok:Meets Tryz.prog 220 F220:=by
 refine mZ (C:=mkC 73 [4] [0,1,2,3,4,5,17,30,42,57] []) (mO _ _ _ _) (fO _) Tryz.func220 rfl rfl rfl (by decide) rfl ?_
 rintro⟨a0,a1,_⟩ hwf hpre ⟨⟩ hG rfl rfl
 show Vc _ _ [(0,⟨0,0,.c Z22 a0⟩),(1,⟨0,0,.c Z22 a1⟩)] _
 have hb:List.length a0.2.1≤bigLen:=hwf.1.2.1.1
 refine Vm hG rfl (Vq (Vm hG rfl (Vb ?_)))
 refine Vc.loopF [(5,false,.pure (.int .i64))] [0,1,2,3,42,57] (fun v=>pbInv a0 a1 v.1) (fun v=>((List.length a0.2.1:Int)-v.1).toNat) rfl ?_ ?_
 · exact pbStart
 rintro⟨(i:Int),_⟩ hI
 have hI:pbInv a0 a1 i:=hI
 refine Vq (Vm hG rfl ?_)
 refine Vk rfl ?_ ?_<;>intro h0
 · have hh:=andLt h0
   have hl:=hh.1
   have hm:=hh.2
   refine Vs (Vq (Vb (Vq ?_)))
   refine VrD mixed hG rfl (by kernel_rfl) ?_ ?_
   · exact⟨pbRangeA hI hl,pbRangeB hI hm⟩
   refine Vk rfl ?_ ?_<;>intro h1
   · have g1:=bneT h1
     refine Vq ?_
     refine VrD mixed hG rfl (by kernel_rfl) ?_ ?_
     · exact⟨pbRangeA hI hl,pbRangeB hI hm⟩
     refine Vt ?_
     refine⟨?_,trivial⟩
     exact pbHit hI hl hm g1
   · have g1:=bneI h1
     refine Vs (Vn hG rfl ?_)
     refine⟨rfl,?_⟩
     exact pbStep hI hl hm hb g1
 · have hx:=andGe h0
   refine Vx (Vq (Vb (Vm hG rfl ?_)))
   refine Vk rfl ?_ ?_<;>intro h2
   · refine Vm hG rfl (Vt ?_)
     refine⟨?_,trivial⟩
     exact pbLen hI hx h2
   · refine Vm hG rfl ?_
     refine Vk rfl ?_ ?_<;>intro h3
     · refine Vm hG rfl (Vt ?_)
       refine⟨?_,trivial⟩
       exact pbKey hI hx h2 h3
     · refine Vs (Vm hG rfl (Vt ?_))
       refine⟨?_,trivial⟩
       exact pbMark hI hx h2 h3
noncomputable def F154:Fun:=⟨[.pair Y34 Y55,.pair Y66 Y37,.slice (.slice (.int .i64))],[.own Z29],fun x=>(fun(_:Frame) (e:Evidence) (_:List (List Int))=>Sm big20 Y66 e.1∧((cellsC Y66 e.1:Nat):Int)≤2000000000) x.1 x.2.1 x.2.2.1,fun x=>(usablePiecesF x.1 x.2.1 x.2.2.1,())⟩
theorem F154_ok:Meets Tryz.prog 154 F154:=by
 refine mZ (C:=mkC 79 [6] [0,1,2,3,4,6,7,9,11,12,14,15,16,17,21,22,23,24,48,60] [⟨218,_,F218_ok⟩,⟨219,_,F219_ok⟩,⟨150,_,F150_ok⟩,⟨152,_,F152_ok⟩,⟨220,_,F220_ok⟩,⟨210,_,F210_ok⟩]) (mO _ _ _ _) (fO _) Tryz.func154 rfl rfl rfl (by decide) rfl ?_
 rintro⟨a0,a1,a2,_⟩ hwf hpre ⟨⟩ hG rfl rfl
 show Vc _ _ [(0,⟨0,0,.c Z67 a0⟩),(1,⟨0,0,.c Z72 a1⟩),(2,⟨0,0,.c Z7 a2⟩)] _
 have hS:Sm big20 Y66 a1.1:=hpre.1
 have hc:((cellsC Y66 a1.1:Nat):Int)≤2000000000:=hpre.2
 have hb:List.length a1.1≤bigLen:=hwf.2.1.1.1
 refine Vm hG rfl (Vm hG rfl (Vq (Vm hG rfl ?_)))
 refine Vb ?_
 refine Vc.loopF [(7,false,.own Z29),(16,false,.pure (.int .i64))] [0,1,2,3,4,6,14,15] (fun v=>uoInv a0 a1 a2 v.1 v.2.1) (fun v=>((List.length a1.1:Int)-v.2.1).toNat) rfl ?_ ?_
 · exact uoStart
 rintro⟨out,(i:Int),_⟩ hI
 have hI:uoInv a0 a1 a2 out i:=hI
 refine Vm hG rfl (Vq ?_)
 refine Vk rfl ?_ ?_<;>intro h0
 · have hl:i<(List.length a1.1:Int):=oTr h0
   have ri:=uoRange hI hl
   have sS:=usStrand hS ri
   have hbk:List.length (List.getD a1.1 i.toNat (dflt Y63)).1≤bigLen:=Nat.le_trans sS.1.1 (by decide)
   refine Vs (Vq (Vb (Vq ?_)))
   refine Vr hG rfl ?_ ?_
   · exact ri
   refine Vm hG rfl (Vb ?_)
   refine Vc.loopF [(7,false,.own Z29),(23,false,.pure (.int .i64))] [0,1,2,3,4,6,9,14,15,16,17,21,22] (fun v=>uiInv a0 a1 a2 i v.1 v.2.1) (fun v=>((List.length (List.getD a1.1 i.toNat (dflt Y63)).1:Int)-v.2.1).toNat) rfl ?_ ?_
   · exact uiStart hI
   rintro⟨out2,(k:Int),_⟩ hK
   have hK:uiInv a0 a1 a2 i out2 k:=hK
   refine Vm hG rfl (Vq ?_)
   refine Vk rfl ?_ ?_<;>intro h1
   · have hm:k<(List.length (List.getD a1.1 i.toNat (dflt Y63)).1:Int):=oTr h1
     have rk:=uiRange hK hm
     have ho:=uiLen ri hK hc
     have hE:Sm big20 Y19 (List.getD (List.getD a1.1 i.toNat (dflt Y63)).1 k.toNat (dflt Y19)):=sS.1.2 _ (getD_mem rk _)
     refine Vs (Vq (Vb (Vq ?_)))
     refine Vr hG rfl ?_ ?_
     · exact rk
     refine Vq (Vq ?_)
     refine VrD mixed hG rfl (by kernel_rfl) ?_ ?_
     · repeat' (first | exact trivial | exact hS | refine And.intro ?_ ?_ | intro _)
     refine Vk rfl ?_ ?_<;>intro h2
     · have g2:pick2 (pick2 (hasF out2 (List.getD (List.getD a1.1 i.toNat (dflt Y63)).1 k.toNat (dflt Y19))) true (!(checkPieceF a0.1 (List.getD (List.getD a1.1 i.toNat (dflt Y63)).1 k.toNat (dflt Y19))))) true (decide (evBoundF a0 a1 a2 (List.getD (List.getD a1.1 i.toNat (dflt Y63)).1 k.toNat (dflt Y19))≥brkKeyF a0 (List.getD (List.getD a1.1 i.toNat (dflt Y63)).1 k.toNat (dflt Y19)).1))=true:=h2
       have st:=uiStep hK hm hbk (usSkip g2)
       refine Vx (Vn hG rfl ?_)
       refine⟨rfl,?_⟩
       exact st
     · have g2:pick2 (pick2 (hasF out2 (List.getD (List.getD a1.1 i.toNat (dflt Y63)).1 k.toNat (dflt Y19))) true (!(checkPieceF a0.1 (List.getD (List.getD a1.1 i.toNat (dflt Y63)).1 k.toNat (dflt Y19))))) true (decide (evBoundF a0 a1 a2 (List.getD (List.getD a1.1 i.toNat (dflt Y63)).1 k.toNat (dflt Y19))≥brkKeyF a0 (List.getD (List.getD a1.1 i.toNat (dflt Y63)).1 k.toNat (dflt Y19)).1))=false:=h2
       refine Vs (Vm hG rfl (Vq (Vb ?_)))
       refine Vc.loopF [(12,false,.pure (.int .i64))] [0,1,2,3,4,6,7,9,11,14,15,16,17,21,22,23,24,48] (fun v=>tkInv (fun(y:Piece)=>pbF y (List.getD (List.getD a1.1 i.toNat (dflt Y63)).1 k.toNat (dflt Y19))) out2 v.1) (fun v=>((List.length out2:Int)-v.1).toNat) rfl ?_ ?_
       · exact tkStart
       rintro⟨(q:Int),_⟩ hQ
       have hQ:tkInv (fun(y:Piece)=>pbF y (List.getD (List.getD a1.1 i.toNat (dflt Y63)).1 k.toNat (dflt Y19))) out2 q:=hQ
       refine Vq (Vq ?_)
       refine VrD mixed hG rfl (by kernel_rfl) ?_ ?_
       · exact⟨fun h=>tkRange hQ (oTr h),fun _=>trivial⟩
       refine Vk rfl ?_ ?_<;>intro h3
       · have g3:pick2 (decide (q<(List.length out2:Int))) (pbF (List.getD out2 q.toNat (dflt Y19)) (List.getD (List.getD a1.1 i.toNat (dflt Y63)).1 k.toNat (dflt Y19))) false=true:=h3
         refine Vs (Vb (Vn hG rfl ?_))
         refine⟨rfl,?_⟩
         exact tkStepW (p:=(fun(y:Piece)=>pbF y (List.getD (List.getD a1.1 i.toNat (dflt Y63)).1 k.toNat (dflt Y19)))) hQ ho g3
       · have g3:pick2 (decide (q<(List.length out2:Int))) (pbF (List.getD out2 q.toNat (dflt Y19)) (List.getD (List.getD a1.1 i.toNat (dflt Y63)).1 k.toNat (dflt Y19))) false=false:=h3
         have hk:=tkEnd (p:=(fun(y:Piece)=>pbF y (List.getD (List.getD a1.1 i.toNat (dflt Y63)).1 k.toNat (dflt Y19)))) hQ g3
         have st:=uiStep hK hm hbk ((putEq hQ hk).trans (usTake g2))
         refine Vx ?_
         refine VrD mixed hG rfl (by kernel_rfl) ?_ ?_
         · exact insConds2W hQ ho hE
         refine Vn hG rfl ?_
         refine⟨rfl,?_⟩
         exact st
   · have hm:¬k<(List.length (List.getD a1.1 i.toNat (dflt Y63)).1:Int):=oFa h1
     refine Vx (Vn hG rfl ?_)
     refine⟨rfl,?_⟩
     exact uoStep hI hl hb hK hm
 · have hl:¬i<(List.length a1.1:Int):=oFa h0
   refine Vx (Vm hG rfl (Vt ?_))
   refine⟨?_,trivial⟩
   exact uoEnd hI hl
noncomputable def F302:Fun:=⟨[.pair (.int .i64) Y38],[.pure Y4],fun _=>True,fun x=>(certSpanF x.1,())⟩
theorem F302_ok:Meets Tryz.prog 302 F302:=by
 refine mZ (C:=mkC 8 [2] [0,1,2] []) (mO _ _ _ _) (fO _) Tryz.func302 rfl rfl rfl (by decide) rfl ?_
 rintro⟨a0,_⟩ hwf hpre ⟨⟩ hG rfl rfl
 show Vc _ _ [(0,⟨0,0,.c Z46 a0⟩)] _
 refine Vm hG rfl (Vm hG rfl (Vt ?_))
 refine⟨?_,trivial⟩
 all_goals exact rfl
noncomputable def F290:Fun:=⟨[.pair (.int .i64) Y38],[.pure (.bool)],fun _=>True,fun x=>(isCertF x.1,())⟩
theorem F290_ok:Meets Tryz.prog 290 F290:=by
 refine mZ (C:=mkC 33 [2] [0,1,2] [⟨72,_,F72_ok⟩,⟨302,_,F302_ok⟩,⟨232,_,F232_ok⟩]) (mO _ _ _ _) (fO _) Tryz.func290 rfl rfl rfl (by decide) rfl ?_
 rintro⟨a0,_⟩ hwf hpre ⟨⟩ hG rfl rfl
 show Vc _ _ [(0,⟨0,0,.c Z46 a0⟩)] _
 refine Vm hG rfl (Vq ?_)
 refine Vr hG rfl ?_ ?_
 · repeat' (first | exact trivial | refine And.intro ?_ ?_ | intro _)
 refine Vt ?_
 refine⟨?_,trivial⟩
 all_goals exact rfl
noncomputable def F291:Fun:=⟨[.pair (.int .i64) Y38],[.own (.pure (.int .i64))],fun _=>True,fun x=>(certIntsF x.1,())⟩
theorem F291_ok:Meets Tryz.prog 291 F291:=by
 refine mZ (C:=mkC 16 [2] [0,1,2] []) (mO _ _ _ _) (fO _) Tryz.func291 rfl rfl rfl (by decide) rfl ?_
 rintro⟨a0,_⟩ hwf hpre ⟨⟩ hG rfl rfl
 show Vc _ _ [(0,⟨0,0,.c Z46 a0⟩)] _
 refine Vm hG rfl (Vm hG rfl (Vt ?_))
 refine⟨?_,trivial⟩
 all_goals exact rfl
noncomputable def F292:Fun:=⟨[.slice Y32,.int .i64],[.pure (.int .i64)],fun _=>True,fun x=>(ownerF x.1 x.2.1,())⟩
theorem F292_ok:Meets Tryz.prog 292 F292:=by
 refine mZ (C:=mkC 16 [4] [0,1,4,5,10] [⟨148,_,F148_ok⟩]) (mO _ _ _ _) (fO _) Tryz.func292 rfl rfl rfl (by decide) rfl ?_
 rintro⟨a0,(a1:Int),_⟩ hwf hpre ⟨⟩ hG rfl rfl
 show Vc _ _ [(0,⟨0,0,.c Z36 a0⟩),(1,⟨0,0,.c (.pure (.int .i64)) a1⟩)] _
 refine Vm hG rfl (Vq (Vm hG rfl (Vm hG rfl ?_)))
 refine Vk rfl ?_ ?_<;>intro h0
 · have g0:¬keyI a0 a1<0:=Int.not_lt.2 (oTr h0)
   refine Vq ?_
   refine Vr hG rfl ?_ ?_
   · exact findRange g0
   refine Vt ?_
   refine⟨?_,trivial⟩
   exact owner1 g0
 · have g0:keyI a0 a1<0:=Int.not_le.1 (oFa h0)
   refine Vs (Vm hG rfl (Vt ?_))
   refine⟨?_,trivial⟩
   exact owner0 g0
noncomputable def F222:Fun:=⟨[.slice Y32,.pair (.int .i64) Y38],[.pure (.bool)],fun _=>True,fun x=>(checkCertF x.1 x.2.1,())⟩
theorem F222_ok:Meets Tryz.prog 222 F222:=by
 refine mZ (C:=mkC 26 [4] [0,1,3,4] [⟨290,_,F290_ok⟩,⟨291,_,F291_ok⟩,⟨214,_,F214_ok⟩,⟨292,_,F292_ok⟩]) (mO _ _ _ _) (fO _) Tryz.func222 rfl rfl rfl (by decide) rfl ?_
 rintro⟨a0,a1,_⟩ hwf hpre ⟨⟩ hG rfl rfl
 show Vc _ _ [(0,⟨0,0,.c Z36 a0⟩),(1,⟨0,0,.c Z46 a1⟩)] _
 refine Vm hG rfl (Vq ?_)
 refine VrD mixed hG rfl (by kernel_rfl) ?_ ?_
 · exact⟨trivial,fun _=>trivial,fun _=>smallLit (n:=7) rfl (by decide),fun _=>trivial⟩
 refine Vt ?_
 refine⟨?_,trivial⟩
 exact checkCertI a0 a1
noncomputable def F155:Fun:=⟨[.pair Y34 Y55,.slice Y19,.pair (.int .i64) Y48],[.pure Y45,.pure (.bool)],fun _=>True,fun x=>(((fun a0 a1 a2=>certForF a0.1 a1 a2) x.1 x.2.1 x.2.2.1).1,((fun a0 a1 a2=>certForF a0.1 a1 a2) x.1 x.2.1 x.2.2.1).2,())⟩
theorem F155_ok:Meets Tryz.prog 155 F155:=by
 refine mZ (C:=mkC 54 [6,7] [0,1,2,3,5,6,7,8,9,11,12,13,14,15,16,17,45,51] [⟨221,_,F221_ok⟩,⟨222,_,F222_ok⟩]) (mO _ _ _ _) (fO _) Tryz.func155 rfl rfl rfl (by decide) rfl ?_
 rintro⟨a0,a1,a2,_⟩ hwf hpre ⟨⟩ hG rfl rfl
 show Vc _ _ [(0,⟨0,0,.c Z67 a0⟩),(1,⟨0,0,.c Z26 a1⟩),(2,⟨0,0,.c Z52 a2⟩)] _
 have hb:List.length a1≤bigLen:=hwf.2.1.1
 refine Vm hG rfl (Vm hG rfl (Vm hG rfl (Vq ?_)))
 refine Vm hG rfl (Vb ?_)
 refine Vc.loopF [(8,true,.pure Y45),(9,false,.pure (.int .i64)),(16,false,.pure (.int .i64))] [0,1,2,3,5,6,7,14,15,51] (fun v=>cfInv a0.1 a2 a1 v.1 v.2.1 v.2.2.1) (fun v=>((List.length a1:Int)-v.2.2.1).toNat) rfl ?_ ?_
 · exact cfStart
 rintro⟨c,(n:Int),(i:Int),_⟩ hI
 have hI:cfInv a0.1 a2 a1 c n i:=hI
 refine Vm hG rfl (Vq ?_)
 refine Vk rfl ?_ ?_<;>intro h0
 · have hl:i<(List.length a1:Int):=oTr h0
   refine Vs (Vq (Vb (Vq ?_)))
   refine Vr hG rfl ?_ ?_
   · exact cfRange hI hl
   refine Vm hG rfl (Vq ?_)
   refine Vr hG rfl ?_ ?_
   · repeat' (first | exact trivial | refine And.intro ?_ ?_ | intro _)
   refine Vk rfl ?_ ?_<;>intro h1
   · have g1:cfTest a0.1 a2 (List.getD a1 i.toNat (dflt Y19))=true:=h1
     refine Vm hG rfl (Vn hG rfl (Vn hG rfl ?_))
     refine⟨rfl,?_⟩
     first | exact cfGo1 hI hl hb g1 | exact cfGo0 hI hl hb g1
   · have g1:cfTest a0.1 a2 (List.getD a1 i.toNat (dflt Y19))=false:=h1
     refine Vs (Vn hG rfl ?_)
     refine⟨rfl,?_⟩
     first | exact cfGo1 hI hl hb g1 | exact cfGo0 hI hl hb g1
 · have hl:¬i<(List.length a1:Int):=oFa h0
   refine Vx (Vq (Vm hG rfl ?_))
   refine Vk rfl ?_ ?_<;>intro h2
   · have g2:(n != 1)=true:=h2
     refine Vm hG rfl (Vt ?_)
     have e:=cfEnd0 hI hl g2
     refine⟨?_,?_,trivial⟩
     · exact(congrArg Prod.fst e).symm
     · exact(congrArg Prod.snd e).symm
   · have g2:(n != 1)=false:=h2
     refine Vs (Vm hG rfl (Vt ?_))
     have e:=cfEnd1 hI hl g2
     refine⟨?_,?_,trivial⟩
     · exact(congrArg Prod.fst e).symm
     · exact(congrArg Prod.snd e).symm
noncomputable def F293:Fun:=⟨[.int .i64,.int .i64],[.pure (.int .i64)],fun _=>True,fun x=>((fun(a b:Int)=>max a b) x.1 x.2.1,())⟩
theorem F293_ok:Meets Tryz.prog 293 F293:=by
 refine mZ (C:=mkC 8 [4] [0,1,4] []) (mO _ _ _ _) (fO _) Tryz.func293 rfl rfl rfl (by decide) rfl ?_
 rintro⟨(a0:Int),(a1:Int),_⟩ hwf hpre ⟨⟩ hG rfl rfl
 show Vc _ _ [(0,⟨0,0,.c (.pure (.int .i64)) a0⟩),(1,⟨0,0,.c (.pure (.int .i64)) a1⟩)] _
 refine Vm hG rfl (Vm hG rfl (Vt ?_))
 refine⟨?_,trivial⟩
 all_goals exact rfl
noncomputable def F224:Fun:=⟨[.int .i64,.slice Y32],[.pure (.int .i64)],fun x=>(fun(_:Int) (l:List Stamp)=>List.length l≤1048576) x.1 x.2.1,fun x=>(stampsDgF x.1 x.2.1,())⟩
theorem F224_ok:Meets Tryz.prog 224 F224:=by
 refine mZ (C:=mkC 27 [4] [0,1,4,5,7,10,11,12,13,14] [⟨165,_,F165_ok⟩,⟨293,_,F293_ok⟩]) (mO _ _ _ _) (fO _) Tryz.func224 rfl rfl rfl (by decide) rfl ?_
 rintro⟨(a0:Int),a1,_⟩ hwf hpre ⟨⟩ hG rfl rfl
 show Vc _ _ [(0,⟨0,0,.c (.pure (.int .i64)) a0⟩),(1,⟨0,0,.c Z36 a1⟩)] _
 have hs:List.length a1≤1048576:=hpre
 have hb:List.length a1≤bigLen:=hwf.2.1.1
 refine Vm hG rfl (Vq (Vm hG rfl ?_))
 refine Vk rfl ?_ ?_<;>intro h0
 · have g0:(List.length a1:Int)=0:=beqI2 h0
   refine Vm hG rfl (Vt ?_)
   refine⟨?_,trivial⟩
   exact sd0 g0
 · have g0:¬(List.length a1:Int)=0:=bneI' h0
   refine Vs (Vm hG rfl (Vq (Vm hG rfl ?_)))
   refine Vb ?_
   refine Vc.loopF [(5,false,.own (.pure (.int .i64))),(13,false,.pure (.int .i64))] [0,1,4,10,11,12] (fun v=>gsInv (mkG a1) [] a1 v.1 v.2.1) (fun v=>((List.length a1:Int)-v.2.1).toNat) rfl ?_ ?_
   · exact gsStart
   rintro⟨acc,(i:Int),_⟩ hI
   have hI:gsInv (mkG a1) [] a1 acc i:=hI
   have hA:List.length acc≤1048576:=gsLen (c:=1) (m:=1048576) hI (fun _=>Nat.le_refl _) hs (by simp)
   refine Vm hG rfl (Vq ?_)
   refine Vk rfl ?_ ?_<;>intro h1
   · have hl:i<(List.length a1:Int):=oTr h1
     refine Vs (Vq (Vb (Vq ?_)))
     refine Vr hG rfl ?_ ?_
     · exact gsRange hI hl
     refine Vr hG rfl ?_ ?_
     · exact(show List.length acc+1≤maxApp from by unfold maxApp;omega)
     refine Vn hG rfl ?_
     refine⟨rfl,?_⟩
     exact gsStep hI hl hb rfl
   · have hl:¬i<(List.length a1:Int):=oFa h1
     refine Vx (Vq ?_)
     refine Vr hG rfl ?_ ?_
     · exact⟨(show List.length acc≤1000000000 from by omega),trivial⟩
     refine Vt ?_
     refine⟨?_,trivial⟩
     exact(congrArg (fun l=>max 1 (digestF a0 l)) (gsEnd hI hl)).trans (sd1 g0)
noncomputable def F225:Fun:=⟨[.int .i64,.pair (.int .i64) Y24],[.pair (.pure (.int .i64)) Z16],fun _=>True,fun x=>(stampPieceF x.1 x.2.1,())⟩
theorem F225_ok:Meets Tryz.prog 225 F225:=by
 refine mZ (C:=mkC 11 [4] [0,1,3,4] [⟨177,_,F177_ok⟩]) (mO _ _ _ _) (fO _) Tryz.func225 rfl rfl rfl (by decide) rfl ?_
 rintro⟨(a0:Int),a1,_⟩ hwf hpre ⟨⟩ hG rfl rfl
 show Vc _ _ [(0,⟨0,0,.c (.pure (.int .i64)) a0⟩),(1,⟨0,0,.c Z33 a1⟩)] _
 refine Vm hG rfl (Vq (VrD mixed hG rfl (by kernel_rfl) (by trivial) (Vt ?_)))
 refine⟨?_,trivial⟩
 all_goals exact rfl
end Fw
