/- Walks of functions of the program: what each computes. Conditions: those that each contract names. -/
import Derived.Test.YtacmkmcclbpolaaGreatW23T
import Derived.Test.YtacmkmcclbpolaaGreatW23s0
set_option linter.unusedVariables false
namespace Fw
open Go Go.Proofs
set_option linter.unusedSimpArgs false
set_option maxRecDepth 100000
noncomputable def F316:Fun:=⟨[.pair Y23 Y59,.slice (.int .i64),.int .i64],[.pure (.int .i64)],fun x=>(fun(s:Strand) (_:List Int) (_:Int)=>Sm big20 (.slice TPiece) s.1∧∀ r∈s.2,Sm big20 TRen r) x.1 x.2.1 x.2.2.1,fun x=>(leafAtF x.1 x.2.1 x.2.2.1,())⟩
theorem F316_ok:Meets Tryz.prog 316 F316:=by
 refine mZ (C:=mkC 69 [6] [0,1,2,3,6,7,8,36,44] [⟨172,_,F172_ok⟩,⟨346,_,F346_ok⟩,⟨347,_,F347_ok⟩]) (mO _ _ _ _) (fO _) Tryz.func316 rfl rfl rfl (by decide) rfl ?_
 rintro⟨a0,a1,(a2:Int),_⟩ hwf hpre ⟨⟩ hG rfl rfl
 show Vc _ _ [(0,⟨0,0,.c Z65 a0⟩),(1,⟨0,0,.c Z2 a1⟩),(2,⟨0,0,.c (.pure (.int .i64)) a2⟩)] _
 have hP:Sm big20 (.slice TPiece) a0.1:=hpre.1
 have hR:∀ r∈a0.2,Sm big20 TRen r:=hpre.2
 have hb:List.length a0.2≤bigLen:=hwf.1.2.1
 refine Vm hG rfl (Vq (Vq ?_))
 refine VrD mixed hG rfl (by kernel_rfl) ?_ ?_
 · exact⟨trivial,fun h=>laIdx (orF h).1 hb,fun _=>trivial⟩
 refine Vk rfl ?_ ?_<;>intro h0
 · have g0:leafAtBad a0 a1 a2=true:=h0
   refine Vm hG rfl (Vt ?_)
   refine⟨?_,trivial⟩
   exact la0 g0
 · have g0:leafAtBad a0 a1 a2=false:=h0
   have k1:=laIdx (orF (orF g0).1).1 hb
   have k2:(List.length a1:Int)=(List.length a0.2:Int):=bneI (orF (orF g0).1).2
   have k3:=rg (orF g0).2
   have k4:inRange a2 (List.length a1):=⟨k1.1,by have:=k1.2;omega⟩
   refine Vs (Vq ?_)
   refine Vr hG rfl ?_ ?_
   · exact k1
   refine Vm hG rfl (Vq (Vm hG rfl ?_))
   refine Vk rfl ?_ ?_<;>intro h1
   · have g1:a2>0:=oTr h1
     refine Vr hG rfl ?_ ?_
     · exact⟨prevIdx k1 g1 hb,hR _ (getD_mem (prevIdx k1 g1 hb) (dflt TRen))⟩
     refine Vq ?_
     refine VrD mixed hG rfl (by kernel_rfl) ?_ ?_
     · exact⟨k4,k1,Int.le_refl _,k3.1,k3.2,subL_sm hP⟩
     refine Vt ?_
     refine⟨?_,trivial⟩
     exact la1 g0 g1
   · have g1:¬a2>0:=oFa h1
     refine Vs (Vq ?_)
     refine VrD mixed hG rfl (by kernel_rfl) ?_ ?_
     · exact⟨k4,k1,Int.le_refl _,k3.1,k3.2,subL_sm hP⟩
     refine Vt ?_
     refine⟨?_,trivial⟩
     exact la2 g0 g1
noncomputable def F371:Fun:=⟨[.int .i64,.int .i64,.int .i64],[.pure (.int .i64)],fun _=>True,fun x=>(pairDF x.1 x.2.1 x.2.2.1,())⟩
theorem F371_ok:Meets Tryz.prog 371 F371:=by
 refine mZ (C:=mkC 12 [6] [0,1,2,6] [⟨138,_,F138_ok⟩]) (mO _ _ _ _) (fO _) Tryz.func371 rfl rfl rfl (by decide) rfl ?_
 rintro⟨(a0:Int),(a1:Int),(a2:Int),_⟩ hwf hpre ⟨⟩ hG rfl rfl
 show Vc _ _ [(0,⟨0,0,.c (.pure (.int .i64)) a0⟩),(1,⟨0,0,.c (.pure (.int .i64)) a1⟩),(2,⟨0,0,.c (.pure (.int .i64)) a2⟩)] _
 refine Vm hG rfl (Vq ?_)
 refine Vr hG rfl ?_ ?_
 · exact smallLit (n:=3) rfl (by decide)
 refine Vt ?_
 refine⟨?_,trivial⟩
 all_goals exact rfl
noncomputable def F373:Fun:=⟨[.int .i64,.int .i64,.slice Y1],[.pure (.int .i64)],fun _=>True,fun x=>(followF x.1 x.2.1 x.2.2.1,())⟩
theorem F373_ok:Meets Tryz.prog 373 F373:=by
 refine mZ (C:=mkC 38 [6] [0,1,2,6,7,8,13,20] [⟨371,_,F371_ok⟩]) (mO _ _ _ _) (fO _) Tryz.func373 rfl rfl rfl (by decide) rfl ?_
 rintro⟨(a0:Int),(a1:Int),a2,_⟩ hwf hpre ⟨⟩ hG rfl rfl
 show Vc _ _ [(0,⟨0,0,.c (.pure (.int .i64)) a0⟩),(1,⟨0,0,.c (.pure (.int .i64)) a1⟩),(2,⟨0,0,.c Z12 a2⟩)] _
 have hb:List.length a2≤bigLen:=hwf.2.2.1.1
 refine Vm hG rfl (Vm hG rfl (Vq (Vm hG rfl ?_)))
 refine Vb ?_
 refine Vc.loopF [(7,false,.pure (.int .i64)),(8,false,.pure (.int .i64))] [0,1,2,6] (fun v=>foInv (flStep a0) a1 a2 v.1 v.2.1) (fun v=>((List.length a2:Int)-v.2.1).toNat) rfl ?_ ?_
 · exact foStart
 rintro⟨(acc:Int),(i:Int),_⟩ hI
 have hI:foInv (flStep a0) a1 a2 acc i:=hI
 refine Vq (Vm hG rfl ?_)
 refine Vk rfl ?_ ?_<;>intro h0
 · have hl:i<(List.length a2:Int):=oTr h0
   refine Vs (Vq (Vb (Vq ?_)))
   refine Vr hG rfl ?_ ?_
   · exact foRange hI hl
   refine Vk rfl ?_ ?_<;>intro h1
   · have g1:(List.getD a2 i.toNat (dflt (.pair TI .bool))).2=true:=h1
     have st:=foStepE (d:=dflt (.pair TI .bool)) hI hl hb (flL (m:=a0) (x:=acc) g1).symm
     refine Vr hG rfl ?_ ?_
     · exact⟨foRange hI hl,trivial⟩
     refine Vn hG rfl ?_
     refine⟨rfl,?_⟩
     exact st
   · have g1:(List.getD a2 i.toNat (dflt (.pair TI .bool))).2=false:=h1
     have st:=foStepE (d:=dflt (.pair TI .bool)) hI hl hb (flR (m:=a0) (x:=acc) g1).symm
     refine Vr hG rfl ?_ ?_
     · exact⟨foRange hI hl,trivial⟩
     refine Vn hG rfl ?_
     refine⟨rfl,?_⟩
     exact st
 · have hl:¬i<(List.length a2:Int):=oFa h0
   refine Vx (Vm hG rfl (Vt ?_))
   refine⟨?_,trivial⟩
   exact foEnd hI hl
noncomputable def F74:Fun:=⟨[.slice Y32,.slice Y15,.pair (.int .i64) Y24],[.pure Y32,.pure (.bool)],fun _=>True,fun x=>((makeStampF x.1 x.2.1 x.2.2.1).1,(makeStampF x.1 x.2.1 x.2.2.1).2,())⟩
theorem F74_ok:Meets Tryz.prog 74 F74:=by
 refine mZ (C:=mkC 47 [6,7] [0,1,2,5,6,7,8,9,26,36] [⟨111,_,F111_ok⟩,⟨112,_,F112_ok⟩,⟨113,_,F113_ok⟩,⟨115,_,F115_ok⟩,⟨114,_,F114_ok⟩]) (mO _ _ _ _) (fO _) Tryz.func74 rfl rfl rfl (by decide) rfl ?_
 rintro⟨a0,a1,a2,_⟩ hwf hpre ⟨⟩ hG rfl rfl
 show Vc _ _ [(0,⟨0,0,.c Z36 a0⟩),(1,⟨0,0,.c Z21 a1⟩),(2,⟨0,0,.c Z33 a2⟩)] _
 refine Vm hG rfl (Vm hG rfl (Vq (Vq ?_)))
 refine Vr hG rfl ?_ ?_
 · intro _;exact trivial
 refine Vk rfl ?_ ?_<;>intro h0
 · have g0:stampBad a1 a2=true:=h0
   refine Vm hG rfl (Vt ?_)
   have e:=ms_1 (keys:=a0) g0
   refine⟨?_,?_,trivial⟩
   · exact(congrArg Prod.fst e).symm
   · exact(congrArg Prod.snd e).symm
 · have g0:stampBad a1 a2=false:=h0
   refine Vs (Vq ?_)
   refine Vr hG rfl ?_ ?_
   · exact⟨bad_idx g0,trivial⟩
   refine Vq (Vm hG rfl ?_)
   refine Vk rfl ?_ ?_<;>intro h1
   · have g1:keyI a0 (authAt a1 a2.1).2.1<0:=oTr h1
     refine Vm hG rfl (Vt ?_)
     have e:=ms_2 (keys:=a0) g0 g1
     refine⟨?_,?_,trivial⟩
     · exact(congrArg Prod.fst e).symm
     · exact(congrArg Prod.snd e).symm
   · have g1:¬keyI a0 (authAt a1 a2.1).2.1<0:=oFa h1
     refine Vs (Vq ?_)
     refine VrD mixed hG rfl (by kernel_rfl) ?_ ?_
     · exact⟨findRange g1,trivial,smallLit (n:=5) rfl (by decide)⟩
     refine Vm hG rfl (Vt ?_)
     have e:=ms_3 (keys:=a0) g0 g1
     refine⟨?_,?_,trivial⟩
     · exact(congrArg Prod.fst e).symm
     · exact(congrArg Prod.snd e).symm
noncomputable def F110:Fun:=⟨[.slice Y32,.slice Y15,.pair (.int .i64) Y24],[.pure (.bool)],fun _=>True,fun x=>(checkStampF x.1 x.2.1 x.2.2.1,())⟩
theorem F110_ok:Meets Tryz.prog 110 F110:=by
 refine mZ (C:=mkC 22 [6] [0,1,2,5,6,7,8] [⟨74,_,F74_ok⟩]) (mO _ _ _ _) (fO _) Tryz.func110 rfl rfl rfl (by decide) rfl ?_
 rintro⟨a0,a1,a2,_⟩ hwf hpre ⟨⟩ hG rfl rfl
 show Vc _ _ [(0,⟨0,0,.c Z36 a0⟩),(1,⟨0,0,.c Z21 a1⟩),(2,⟨0,0,.c Z33 a2⟩)] _
 refine Vm hG rfl (Vm hG rfl (Vm hG rfl (Vt ?_)))
 refine⟨?_,trivial⟩
 all_goals exact rfl
noncomputable def F365:Fun:=⟨[.slice Y32,.slice Y15,.pair (.int .i64) Y53,.int .i64],[.pure (.bool)],fun _=>True,fun x=>(checkRenF x.1 x.2.1 x.2.2.1 x.2.2.2.1,())⟩
theorem F365_ok:Meets Tryz.prog 365 F365:=by
 refine mZ (C:=mkC 73 [8] [0,1,2,3,6,8,9,10,32,37,72] [⟨373,_,F373_ok⟩,⟨172,_,F172_ok⟩,⟨110,_,F110_ok⟩]) (mO _ _ _ _) (fO _) Tryz.func365 rfl rfl rfl (by decide) rfl ?_
 rintro⟨a0,a1,a2,(a3:Int),_⟩ hwf hpre ⟨⟩ hG rfl rfl
 show Vc _ _ [(0,⟨0,0,.c Z36 a0⟩),(1,⟨0,0,.c Z21 a1⟩),(2,⟨0,0,.c Z57 a2⟩),(3,⟨0,0,.c (.pure (.int .i64)) a3⟩)] _
 have hb:List.length a2.2.2.2.2≤bigLen:=hwf.2.2.1.2.2.2.2.1
 refine Vm hG rfl (Vq (Vq ?_))
 refine VrD mixed hG rfl (by kernel_rfl) ?_ ?_
 · repeat' (first | exact trivial | refine And.intro ?_ ?_ | intro _)
 refine Vk rfl ?_ ?_<;>intro h0
 · have g0:=cr0S (keys:=a0) (l:=a1) (r:=a2) (leaf:=a3) h0
   refine Vm hG rfl (Vt ?_)
   refine⟨?_,trivial⟩
   exact g0
 · have g0:=crPreS.1 h0
   refine Vs (Vq (Vm hG rfl (Vb ?_)))
   refine Vc.loopF [(9,false,.pure (.int .i64))] [0,1,2,3,6,32] (fun v=>kInv (crS a0 a1 a2) a2.2.2.2.2 v.1) (fun v=>((List.length a2.2.2.2.2:Int)-v.1).toNat) rfl ?_ ?_
   · exact kStart
   rintro⟨(i:Int),_⟩ hI
   have hI:kInv (crS a0 a1 a2) a2.2.2.2.2 i:=hI
   refine Vq (Vm hG rfl ?_)
   refine Vk rfl ?_ ?_<;>intro h1
   · have hl:i<(List.length a2.2.2.2.2:Int):=oTr h1
     refine Vs (Vq (Vb (Vq ?_)))
     refine Vr hG rfl ?_ ?_
     · exact kRange hI hl
     refine Vq ?_
     refine VrD mixed hG rfl (by kernel_rfl) ?_ ?_
     · repeat' (first | exact trivial | (intro h2;exact backRange hI hl hb (oTr h2)) | refine And.intro ?_ ?_ | intro _)
     refine Vk rfl ?_ ?_<;>intro h2
     · have g2:crTestS a0 a1 a2 i=true:=h2
       refine Vm hG rfl (Vt ?_)
       refine⟨?_,trivial⟩
       exact crBadS hI hl hb g2
     · have g2:crTestS a0 a1 a2 i=false:=h2
       refine Vs (Vn hG rfl ?_)
       refine⟨rfl,?_⟩
       exact kStep hI hl hb (crGoodS hI hl hb g2)
   · have hl:¬i<(List.length a2.2.2.2.2:Int):=oFa h1
     refine Vx (Vm hG rfl (Vt ?_))
     refine⟨?_,trivial⟩
     exact crEndS g0 hI hl
noncomputable def F351:Fun:=⟨[.pair Y34 Y55,.pair Y23 Y59,.slice (.int .i64),.int .i64],[.pure (.bool)],fun x=>(fun(_:Frame) (s:Strand) (_:List Int) (k:Int)=>(Sm big20 (.slice TPiece) s.1∧∀ r∈s.2,Sm big20 TRen r)∧inRange k (List.length s.2)) x.1 x.2.1 x.2.2.1 x.2.2.2.1,fun x=>(keptF x.1 x.2.1 x.2.2.1 x.2.2.2.1,())⟩
theorem F351_ok:Meets Tryz.prog 351 F351:=by
 refine mZ (C:=mkC 47 [8] [0,1,2,3,4,5,8,10] [⟨324,_,F324_ok⟩,⟨364,_,F364_ok⟩,⟨316,_,F316_ok⟩,⟨365,_,F365_ok⟩]) (mO _ _ _ _) (fO _) Tryz.func351 rfl rfl rfl (by decide) rfl ?_
 rintro⟨a0,a1,a2,(a3:Int),_⟩ hwf hpre ⟨⟩ hG rfl rfl
 show Vc _ _ [(0,⟨0,0,.c Z67 a0⟩),(1,⟨0,0,.c Z65 a1⟩),(2,⟨0,0,.c Z2 a2⟩),(3,⟨0,0,.c (.pure (.int .i64)) a3⟩)] _
 have hP:Sm big20 (.slice TPiece) a1.1:=hpre.1.1
 have hR:∀ r∈a1.2,Sm big20 TRen r:=hpre.1.2
 have hb:List.length a1.2≤bigLen:=hwf.2.1.2.1
 have hSt:∀ k:Int,inRange k (List.length a1.2)→List.length (chAt a1 k).2.2.2.2≤1048576:=fun k hk=>(hR _ (getD_mem hk (dflt TRen))).2.2.2.2.1
 have hk:inRange a3 (List.length a1.2):=hpre.2
 refine Vm hG rfl (Vq ?_)
 refine VrD mixed hG rfl (by kernel_rfl) ?_ ?_
 · exact⟨hk,hSt _ hk⟩
 refine Vq ?_
 refine VrD mixed hG rfl (by kernel_rfl) ?_ ?_
 · repeat' (first | exact trivial | exact hk | exact⟨hP,hR⟩ | refine And.intro ?_ ?_ | intro _)
 refine Vt ?_
 refine⟨?_,trivial⟩
 all_goals exact rfl
noncomputable def F323:Fun:=⟨[.pair Y34 Y55,.pair Y23 Y59,.slice (.int .i64)],[.pure (.int .i64)],fun x=>(fun(_:Frame) (s:Strand) (_:List Int)=>Sm big20 (.slice TPiece) s.1∧∀ r∈s.2,Sm big20 TRen r) x.1 x.2.1 x.2.2.1,fun x=>(firstKeptF x.1 x.2.1 x.2.2.1,())⟩
theorem F323_ok:Meets Tryz.prog 323 F323:=by
 refine mZ (C:=mkC 24 [6] [0,1,2,3,4,6,7,20] [⟨351,_,F351_ok⟩]) (mO _ _ _ _) (fO _) Tryz.func323 rfl rfl rfl (by decide) rfl ?_
 rintro⟨a0,a1,a2,_⟩ hwf hpre ⟨⟩ hG rfl rfl
 show Vc _ _ [(0,⟨0,0,.c Z67 a0⟩),(1,⟨0,0,.c Z65 a1⟩),(2,⟨0,0,.c Z2 a2⟩)] _
 have hP:Sm big20 (.slice TPiece) a1.1:=hpre.1
 have hR:∀ r∈a1.2,Sm big20 TRen r:=hpre.2
 have hb:List.length a1.2≤bigLen:=hwf.2.1.2.1
 have hSt:∀ k:Int,inRange k (List.length a1.2)→List.length (chAt a1 k).2.2.2.2≤1048576:=fun k hk=>(hR _ (getD_mem hk (dflt TRen))).2.2.2.2.1
 refine Vm hG rfl (Vm hG rfl (Vq (Vb ?_)))
 refine Vc.loopF [(7,false,.pure (.int .i64))] [0,1,2,3,4,6] (fun v=>fkInv a0 a1 a2 v.1) (fun v=>v.1.toNat) rfl ?_ ?_
 · exact fkStart
 rintro⟨(j:Int),_⟩ hI
 have hI:fkInv a0 a1 a2 j:=hI
 refine Vq (Vq ?_)
 refine Vr hG rfl ?_ ?_
 · exact fun h=>⟨⟨hP,hR⟩,fkIdx hI (oTr h) hb⟩
 refine Vk rfl ?_ ?_<;>intro h0
 · have g0:j>0:=oTr (andT h0).1
   have g1:keptF a0 a1 a2 (IntKind.i64.wrap (j-1))=true:=(andT h0).2
   refine Vs (Vb (Vn hG rfl ?_))
   refine⟨rfl,?_⟩
   exact fkStep hI g0 hb g1
 · have g1:=fkEndS hI hb h0
   refine Vx (Vm hG rfl (Vt ?_))
   refine⟨?_,trivial⟩
   exact g1
noncomputable def F259:Fun:=⟨[.pair Y34 Y55,.pair Y23 Y59,.slice (.int .i64),.int .i64],[.pure (.int .i64)],fun x=>(fun(_:Frame) (s:Strand) (_:List Int) (_:Int)=>Sm big20 (.slice TPiece) s.1∧∀ r∈s.2,Sm big20 TRen r) x.1 x.2.1 x.2.2.1 x.2.2.2.1,fun x=>(boundOfF x.1 x.2.1 x.2.2.1 x.2.2.2.1,())⟩
theorem F259_ok:Meets Tryz.prog 259 F259:=by
 refine mZ (C:=mkC 52 [8] [0,1,2,3,4,5,8,9,10,11,23,33] [⟨323,_,F323_ok⟩,⟨324,_,F324_ok⟩,⟨189,_,F189_ok⟩]) (mO _ _ _ _) (fO _) Tryz.func259 rfl rfl rfl (by decide) rfl ?_
 rintro⟨a0,a1,a2,(a3:Int),_⟩ hwf hpre ⟨⟩ hG rfl rfl
 show Vc _ _ [(0,⟨0,0,.c Z67 a0⟩),(1,⟨0,0,.c Z65 a1⟩),(2,⟨0,0,.c Z2 a2⟩),(3,⟨0,0,.c (.pure (.int .i64)) a3⟩)] _
 have hP:Sm big20 (.slice TPiece) a1.1:=hpre.1
 have hR:∀ r∈a1.2,Sm big20 TRen r:=hpre.2
 have hb:List.length a1.2≤bigLen:=hwf.2.1.2.1
 have hSt:∀ k:Int,inRange k (List.length a1.2)→List.length (chAt a1 k).2.2.2.2≤1048576:=fun k hk=>(hR _ (getD_mem hk (dflt TRen))).2.2.2.2.1
 refine Vm hG rfl (Vm hG rfl (Vq (Vq ?_)))
 refine Vr hG rfl ?_ ?_
 · exact⟨hP,hR⟩
 refine Vb ?_
 refine Vc.loopF [(9,false,.pure (.int .i64)),(10,false,.pure (.int .i64))] [0,1,2,3,4,5,8] (fun v=>boInv a0 a1 a2 a3 v.1 v.2.1) (fun v=>((List.length a1.2:Int)-v.2.1).toNat) rfl ?_ ?_
 · exact boStart
 rintro⟨(t:Int),(j:Int),_⟩ hI
 have hI:boInv a0 a1 a2 a3 t j:=hI
 refine Vq (Vm hG rfl ?_)
 refine Vk rfl ?_ ?_<;>intro h0
 · have hl:j<(List.length a1.2:Int):=oTr h0
   have k0:=boRange hI hl
   refine Vs (Vq (Vb (Vq ?_)))
   refine Vr hG rfl ?_ ?_
   · exact k0
   refine Vk rfl ?_ ?_<;>intro h1
   · have st:=boStep hI hl hb (boY (f:=a0) (t:=t) (r:=chAt a1 j) h1).symm
     refine Vq ?_
     refine VrD mixed hG rfl (by kernel_rfl) ?_ ?_
     · exact⟨k0,hSt _ k0⟩
     refine Vn hG rfl (Vn hG rfl ?_)
     refine⟨rfl,?_⟩
     exact st
   · have st:=boStep hI hl hb (boN (f:=a0) (t:=t) (r:=chAt a1 j) h1).symm
     refine Vs (Vn hG rfl ?_)
     refine⟨rfl,?_⟩
     exact st
 · have hl:¬j<(List.length a1.2:Int):=oFa h0
   refine Vx (Vm hG rfl (Vt ?_))
   refine⟨?_,trivial⟩
   exact boEnd hI hl
noncomputable def F190:Fun:=⟨[.pair Y34 Y55,.pair Y23 Y59,.slice (.int .i64),.pair (.int .i64) Y9],[.pure (.int .i64)],fun x=>(fun(_:Frame) (s:Strand) (_:List Int) (_:Piece)=>Sm big20 (.slice TPiece) s.1∧∀ r∈s.2,Sm big20 TRen r) x.1 x.2.1 x.2.2.1 x.2.2.2.1,fun x=>(pieceBoundF x.1 x.2.1 x.2.2.1 x.2.2.2.1,())⟩
theorem F190_ok:Meets Tryz.prog 190 F190:=by
 refine mZ (C:=mkC 22 [8] [0,1,2,3,4,5,7,8,9,14] [⟨258,_,F258_ok⟩,⟨259,_,F259_ok⟩]) (mO _ _ _ _) (fO _) Tryz.func190 rfl rfl rfl (by decide) rfl ?_
 rintro⟨a0,a1,a2,a3,_⟩ hwf hpre ⟨⟩ hG rfl rfl
 show Vc _ _ [(0,⟨0,0,.c Z67 a0⟩),(1,⟨0,0,.c Z65 a1⟩),(2,⟨0,0,.c Z2 a2⟩),(3,⟨0,0,.c Z22 a3⟩)] _
 have hp:=hpre
 refine Vm hG rfl (Vm hG rfl (Vq (Vm hG rfl ?_)))
 refine Vk rfl ?_ ?_<;>intro h0
 · have g0:findPieceF a1 a3<0:=oTr h0
   refine Vm hG rfl (Vt ?_)
   refine⟨?_,trivial⟩
   exact pb0 g0
 · have g0:¬findPieceF a1 a3<0:=oFa h0
   refine Vs (Vq ?_)
   refine Vr hG rfl ?_ ?_
   · exact hp
   refine Vt ?_
   refine⟨?_,trivial⟩
   exact pb1 g0
noncomputable def F123:Fun:=⟨[.pair Y34 Y55,.pair Y66 Y37,.slice (.slice (.int .i64)),.pair (.int .i64) Y9],[.pure (.int .i64)],fun x=>(fun(_:Frame) (e:Evidence) (_:List (List Int)) (_:Piece)=>Sm big20 Y66 e.1) x.1 x.2.1 x.2.2.1 x.2.2.2.1,fun x=>(evBoundF x.1 x.2.1 x.2.2.1 x.2.2.2.1,())⟩
theorem F123_ok:Meets Tryz.prog 123 F123:=by
 refine mZ (C:=mkC 41 [8] [0,1,2,3,4,5,7,8,9,10,23] [⟨190,_,F190_ok⟩,⟨189,_,F189_ok⟩]) (mO _ _ _ _) (fO _) Tryz.func123 rfl rfl rfl (by decide) rfl ?_
 rintro⟨a0,a1,a2,a3,_⟩ hwf hpre ⟨⟩ hG rfl rfl
 show Vc _ _ [(0,⟨0,0,.c Z67 a0⟩),(1,⟨0,0,.c Z72 a1⟩),(2,⟨0,0,.c Z7 a2⟩),(3,⟨0,0,.c Z22 a3⟩)] _
 have hS:Sm big20 Y66 a1.1:=hpre
 have hb:List.length a1.1≤bigLen:=hwf.2.1.1.1
 refine Vm hG rfl (Vm hG rfl (Vq (Vm hG rfl ?_)))
 refine Vb ?_
 refine Vc.loopF [(9,false,.pure (.int .i64)),(10,false,.pure (.int .i64))] [0,1,2,3,4,5,7,8] (fun v=>ebInv a0 a1 a2 a3 v.1 v.2.1) (fun v=>((List.length a1.1:Int)-v.2.1).toNat) rfl ?_ ?_
 · exact ebStart
 rintro⟨(t:Int),(i:Int),_⟩ hI
 have hI:ebInv a0 a1 a2 a3 t i:=hI
 refine Vq (Vm hG rfl ?_)
 refine Vk rfl ?_ ?_<;>intro h0
 · have hh:=andLt h0
   have hl:=hh.1
   have hd:=hh.2
   have st:=ebYes (dflt Y63) (dflt (.slice TI)) hI hl hd hb rfl
   have r1:=ebRange hI hl
   have r2:=ebRangeD hI hd
   have r3:=usStrand hS r1
   refine Vs (Vq (Vb ?_))
   refine VrD mixed hG rfl (by kernel_rfl) ?_ ?_
   · exact⟨r1,r2,r3,trivial⟩
   refine Vn hG rfl ?_
   refine⟨rfl,?_⟩
   exact st
 · have hx:=andGe h0
   refine Vx (Vm hG rfl (Vt ?_))
   refine⟨?_,trivial⟩
   exact ebEnd hI hx
noncomputable def F263:Fun:=⟨[.pair (.int .i64) Y9],[.pure (.int .i64)],fun _=>True,fun x=>(kindF x.1,())⟩
theorem F263_ok:Meets Tryz.prog 263 F263:=by
 refine mZ (C:=mkC 31 [2] [0,1,2,14,26] [⟨172,_,F172_ok⟩]) (mO _ _ _ _) (fO _) Tryz.func263 rfl rfl rfl (by decide) rfl ?_
 rintro⟨a0,_⟩ hwf hpre ⟨⟩ hG rfl rfl
 show Vc _ _ [(0,⟨0,0,.c Z22 a0⟩)] _
 refine Vm hG rfl (Vq (Vq ?_))
 refine Vr hG rfl ?_ ?_
 · exact⟨fun h=>kLen h,fun _=>trivial⟩
 refine Vk rfl ?_ ?_<;>intro h0
 · have g0:kb1 a0=true:=h0
   refine Vm hG rfl (Vt ?_)
   refine⟨?_,trivial⟩
   exact kind0 g0
 · have g0:kb1 a0=false:=h0
   refine Vs (Vq (Vq ?_))
   refine VrD mixed hG rfl (by kernel_rfl) ?_ ?_
   · exact⟨kLen1 g0,kIdx g0⟩
   refine Vk rfl ?_ ?_<;>intro h1
   · have g1:kb2 a0=true:=h1
     refine Vm hG rfl (Vt ?_)
     refine⟨?_,trivial⟩
     exact kind1 g1
   · have g1:kb2 a0=false:=h1
     refine Vs (Vq ?_)
     refine Vr hG rfl ?_ ?_
     · exact kLen1 g0
     refine Vt ?_
     refine⟨?_,trivial⟩
     exact kind2 g0 g1
noncomputable def F195:Fun:=⟨[.pair (.int .i64) Y9],[.pure Y45,.pure (.bool)],fun _=>True,fun x=>((pieceCertF x.1).1,(pieceCertF x.1).2,())⟩
theorem F195_ok:Meets Tryz.prog 195 F195:=by
 refine mZ (C:=mkC 44 [2,3] [0,1,2,3,15] [⟨263,_,F263_ok⟩]) (mO _ _ _ _) (fO _) Tryz.func195 rfl rfl rfl (by decide) rfl ?_
 rintro⟨a0,_⟩ hwf hpre ⟨⟩ hG rfl rfl
 show Vc _ _ [(0,⟨0,0,.c Z22 a0⟩)] _
 refine Vm hG rfl (Vq (Vq ?_))
 refine VrD mixed hG rfl (by kernel_rfl) ?_ ?_
 · exact⟨trivial,fun h=>seven (kind7 h) 6 (by decide)⟩
 refine Vk rfl ?_ ?_<;>intro h0
 · have g0:pcBad a0=true:=h0
   refine Vm hG rfl (Vt ?_)
   have e:=pc0 g0
   refine⟨?_,?_,trivial⟩
   · exact(congrArg Prod.fst e).symm
   · exact(congrArg Prod.snd e).symm
 · have g0:pcBad a0=false:=h0
   refine Vs (Vq ?_)
   refine VrD mixed hG rfl (by kernel_rfl) ?_ ?_
   · exact⟨seven (pc7 g0) 1 (by decide),seven (pc7 g0) 2 (by decide),seven (pc7 g0) 3 (by decide),seven (pc7 g0) 4 (by decide),seven (pc7 g0) 5 (by decide),seven (pc7 g0) 6 (by decide)⟩
   refine Vt ?_
   have e:=pc1 g0
   refine⟨?_,?_,trivial⟩
   · exact(congrArg Prod.fst e).symm
   · exact(congrArg Prod.snd e).symm
noncomputable def F200:Fun:=⟨[.pair (.int .i64) Y9],[.pure Y32,.pure (.bool)],fun _=>True,fun x=>((pieceStatF x.1).1,(pieceStatF x.1).2,())⟩
theorem F200_ok:Meets Tryz.prog 200 F200:=by
 refine mZ (C:=mkC 36 [2,3] [0,1,2,3,15] [⟨263,_,F263_ok⟩]) (mO _ _ _ _) (fO _) Tryz.func200 rfl rfl rfl (by decide) rfl ?_
 rintro⟨a0,_⟩ hwf hpre ⟨⟩ hG rfl rfl
 show Vc _ _ [(0,⟨0,0,.c Z22 a0⟩)] _
 refine Vm hG rfl (Vq (Vq ?_))
 refine VrD mixed hG rfl (by kernel_rfl) ?_ ?_
 · exact⟨trivial,fun h=>nIdx (psN h) 4 (by decide)⟩
 refine Vk rfl ?_ ?_<;>intro h0
 · have g0:psBad a0=true:=h0
   refine Vm hG rfl (Vt ?_)
   have e:=ps0 g0
   refine⟨?_,?_,trivial⟩
   · exact(congrArg Prod.fst e).symm
   · exact(congrArg Prod.snd e).symm
 · have g0:psBad a0=false:=h0
   refine Vs (Vq ?_)
   refine VrD mixed hG rfl (by kernel_rfl) ?_ ?_
   · exact⟨nIdx (psN (orF g0).1) 1 (by decide),nIdx (psN (orF g0).1) 2 (by decide),nIdx (psN (orF g0).1) 3 (by decide),nIdx (psN (orF g0).1) 4 (by decide)⟩
   refine Vt ?_
   have e:=ps1 g0
   refine⟨?_,?_,trivial⟩
   · exact(congrArg Prod.fst e).symm
   · exact(congrArg Prod.snd e).symm
noncomputable def F352:Fun:=⟨[.pair (.int .i64) Y9],[.pure Y32,.pure (.bool)],fun _=>True,fun x=>((pieceStampF x.1).1,(pieceStampF x.1).2,())⟩
theorem F352_ok:Meets Tryz.prog 352 F352:=by
 refine mZ (C:=mkC 27 [2,3] [0,1,2,3,6] [⟨263,_,F263_ok⟩]) (mO _ _ _ _) (fO _) Tryz.func352 rfl rfl rfl (by decide) rfl ?_
 rintro⟨a0,_⟩ hwf hpre ⟨⟩ hG rfl rfl
 show Vc _ _ [(0,⟨0,0,.c Z22 a0⟩)] _
 refine Vm hG rfl (Vq (Vm hG rfl ?_))
 refine Vk rfl ?_ ?_<;>intro h0
 · have g0:pstBad a0=true:=h0
   refine Vm hG rfl (Vt ?_)
   have e:=pst0 g0
   refine⟨?_,?_,trivial⟩
   · exact(congrArg Prod.fst e).symm
   · exact(congrArg Prod.snd e).symm
 · have g0:pstBad a0=false:=h0
   refine Vs (Vq ?_)
   refine VrD mixed hG rfl (by kernel_rfl) ?_ ?_
   · exact⟨nIdx (pstN g0) 1 (by decide),nIdx (pstN g0) 2 (by decide),nIdx (pstN g0) 3 (by decide),nIdx (pstN g0) 4 (by decide)⟩
   refine Vt ?_
   have e:=pst1 g0
   refine⟨?_,?_,trivial⟩
   · exact(congrArg Prod.fst e).symm
   · exact(congrArg Prod.snd e).symm
noncomputable def F353:Fun:=⟨[.pair (.int .i64) Y9],[.pure Y51,.pure (.bool)],fun _=>True,fun x=>((pieceSignF x.1).1,(pieceSignF x.1).2,())⟩
theorem F353_ok:Meets Tryz.prog 353 F353:=by
 refine mZ (C:=mkC 52 [2,3] [0,1,2,3,15] [⟨263,_,F263_ok⟩]) (mO _ _ _ _) (fO _) Tryz.func353 rfl rfl rfl (by decide) rfl ?_
 rintro⟨a0,_⟩ hwf hpre ⟨⟩ hG rfl rfl
 show Vc _ _ [(0,⟨0,0,.c Z22 a0⟩)] _
 refine Vm hG rfl (Vq (Vq ?_))
 refine VrD mixed hG rfl (by kernel_rfl) ?_ ?_
 · exact⟨trivial,fun h=>nIdx (psgN h) 1 (by decide)⟩
 refine Vk rfl ?_ ?_<;>intro h0
 · have g0:psgBad a0=true:=h0
   refine Vm hG rfl (Vt ?_)
   have e:=psg0 g0
   refine⟨?_,?_,trivial⟩
   · exact(congrArg Prod.fst e).symm
   · exact(congrArg Prod.snd e).symm
 · have g0:psgBad a0=false:=h0
   refine Vs (Vq ?_)
   refine VrD mixed hG rfl (by kernel_rfl) ?_ ?_
   · exact⟨nIdx (psgN (orF g0).1) 1 (by decide),nIdx (psgN (orF g0).1) 2 (by decide),nIdx (psgN (orF g0).1) 3 (by decide),nIdx (psgN (orF g0).1) 4 (by decide),nIdx (psgN (orF g0).1) 5 (by decide),nIdx (psgN (orF g0).1) 6 (by decide),nIdx (psgN (orF g0).1) 7 (by decide),nIdx (psgN (orF g0).1) 8 (by decide)⟩
   refine Vt ?_
   have e:=psg1 g0
   refine⟨?_,?_,trivial⟩
   · exact(congrArg Prod.fst e).symm
   · exact(congrArg Prod.snd e).symm
noncomputable def F206:Fun:=⟨[.pair (.int .i64) Y9],[.pure Y38,.pure (.bool)],fun _=>True,fun x=>((pieceMandF x.1).1,(pieceMandF x.1).2,())⟩
theorem F206_ok:Meets Tryz.prog 206 F206:=by
 refine mZ (C:=mkC 40 [2,3] [0,1,2,3,15] [⟨263,_,F263_ok⟩]) (mO _ _ _ _) (fO _) Tryz.func206 rfl rfl rfl (by decide) rfl ?_
 rintro⟨a0,_⟩ hwf hpre ⟨⟩ hG rfl rfl
 show Vc _ _ [(0,⟨0,0,.c Z22 a0⟩)] _
 refine Vm hG rfl (Vq (Vq ?_))
 refine VrD mixed hG rfl (by kernel_rfl) ?_ ?_
 · exact⟨trivial,fun h=>nIdx (pmN h) 5 (by decide)⟩
 refine Vk rfl ?_ ?_<;>intro h0
 · have g0:pmBad a0=true:=h0
   refine Vm hG rfl (Vt ?_)
   have e:=pm0 g0
   refine⟨?_,?_,trivial⟩
   · exact(congrArg Prod.fst e).symm
   · exact(congrArg Prod.snd e).symm
 · have g0:pmBad a0=false:=h0
   refine Vs (Vq ?_)
   refine VrD mixed hG rfl (by kernel_rfl) ?_ ?_
   · exact⟨nIdx (pmN (orF g0).1) 1 (by decide),nIdx (pmN (orF g0).1) 2 (by decide),nIdx (pmN (orF g0).1) 3 (by decide),nIdx (pmN (orF g0).1) 4 (by decide),nIdx (pmN (orF g0).1) 5 (by decide)⟩
   refine Vt ?_
   have e:=pm1 g0
   refine⟨?_,?_,trivial⟩
   · exact(congrArg Prod.fst e).symm
   · exact(congrArg Prod.snd e).symm
noncomputable def F325:Fun:=⟨[.pair (.int .i64) Y9],[.pure (.bool)],fun _=>True,fun x=>(shapeF x.1,())⟩
theorem F325_ok:Meets Tryz.prog 325 F325:=by
 refine mZ (C:=mkC 51 [2] [0,1,2,4,6,8,10,12] [⟨195,_,F195_ok⟩,⟨200,_,F200_ok⟩,⟨352,_,F352_ok⟩,⟨353,_,F353_ok⟩,⟨206,_,F206_ok⟩]) (mO _ _ _ _) (fO _) Tryz.func325 rfl rfl rfl (by decide) rfl ?_
 rintro⟨a0,_⟩ hwf hpre ⟨⟩ hG rfl rfl
 show Vc _ _ [(0,⟨0,0,.c Z22 a0⟩)] _
 refine Vm hG rfl (Vm hG rfl (Vm hG rfl (Vm hG rfl ?_)))
 refine Vm hG rfl (Vm hG rfl (Vm hG rfl (Vt ?_)))
 refine⟨?_,trivial⟩
 all_goals exact rfl
noncomputable def F260:Fun:=⟨[.slice Y32,.pair (.int .i64) Y9],[.pure (.bool)],fun _=>True,fun x=>(checkPieceF x.1 x.2.1,())⟩
theorem F260_ok:Meets Tryz.prog 260 F260:=by
 refine mZ (C:=mkC 17 [4] [0,1,3,4] [⟨325,_,F325_ok⟩,⟨257,_,F257_ok⟩]) (mO _ _ _ _) (fO _) Tryz.func260 rfl rfl rfl (by decide) rfl ?_
 rintro⟨a0,a1,_⟩ hwf hpre ⟨⟩ hG rfl rfl
 show Vc _ _ [(0,⟨0,0,.c Z36 a0⟩),(1,⟨0,0,.c Z22 a1⟩)] _
 refine Vm hG rfl (Vq ?_)
 refine Vr hG rfl ?_ ?_
 · exact⟨trivial,fun h=>shapeSmall h⟩
 refine Vt ?_
 refine⟨?_,trivial⟩
 all_goals exact rfl
noncomputable def F193:Fun:=⟨[.pair Y34 Y55,.pair Y66 Y37,.slice (.slice (.int .i64)),.pair (.int .i64) Y9],[.pure (.bool)],fun x=>(fun(_:Frame) (e:Evidence) (_:List (List Int)) (_:Piece)=>Sm big20 Y66 e.1) x.1 x.2.1 x.2.2.1 x.2.2.2.1,fun x=>(usableF x.1 x.2.1 x.2.2.1 x.2.2.2.1,())⟩
theorem F193_ok:Meets Tryz.prog 193 F193:=by
 refine mZ (C:=mkC 40 [8] [0,1,2,3,4,5,7,8,9] [⟨113,_,F113_ok⟩,⟨260,_,F260_ok⟩,⟨123,_,F123_ok⟩,⟨125,_,F125_ok⟩]) (mO _ _ _ _) (fO _) Tryz.func193 rfl rfl rfl (by decide) rfl ?_
 rintro⟨a0,a1,a2,a3,_⟩ hwf hpre ⟨⟩ hG rfl rfl
 show Vc _ _ [(0,⟨0,0,.c Z67 a0⟩),(1,⟨0,0,.c Z72 a1⟩),(2,⟨0,0,.c Z7 a2⟩),(3,⟨0,0,.c Z22 a3⟩)] _
 have hS:Sm big20 Y66 a1.1:=hpre
 refine Vm hG rfl (Vm hG rfl (Vq ?_))
 refine VrD mixed hG rfl (by kernel_rfl) ?_ ?_
 · exact⟨fun _=>trivial,fun _=>hS,fun h=>findRange (geNot (andT h).1),fun _=>trivial⟩
 refine Vt ?_
 refine⟨?_,trivial⟩
 exact usS
noncomputable def F261:Fun:=⟨[.pair (.int .i64) Y9,.pair (.int .i64) Y9],[.pure (.bool)],fun _=>True,fun x=>(pbF x.1 x.2.1,())⟩
theorem F261_ok:Meets Tryz.prog 261 F261:=by
 refine mZ (C:=mkC 71 [4] [0,1,2,3,4,5,17,30,48,60] []) (mO _ _ _ _) (fO _) Tryz.func261 rfl rfl rfl (by decide) rfl ?_
 rintro⟨a0,a1,_⟩ hwf hpre ⟨⟩ hG rfl rfl
 show Vc _ _ [(0,⟨0,0,.c Z22 a0⟩),(1,⟨0,0,.c Z22 a1⟩)] _
 have hb:List.length a0.2.1≤bigLen:=hwf.1.2.1.1
 refine Vm hG rfl (Vq (Vm hG rfl (Vb ?_)))
 refine Vc.loopF [(5,false,.pure (.int .i64))] [0,1,2,3,48,60] (fun v=>pbInv a0 a1 v.1) (fun v=>((List.length a0.2.1:Int)-v.1).toNat) rfl ?_ ?_
 · exact pbStart
 rintro⟨(i:Int),_⟩ hI
 have hI:pbInv a0 a1 i:=hI
 refine Vq (Vm hG rfl ?_)
 refine Vk rfl ?_ ?_<;>intro h0
 · have hh:=andLt h0
   have hl:=hh.1
   have hm:=hh.2
   refine Vs (Vq (Vb (Vq ?_)))
   refine VrD mixed hG rfl (by kernel_rfl) ?_ ?_
   · exact⟨pbRangeA hI hl,pbRangeB hI hm⟩
   refine Vk rfl ?_ ?_<;>intro h1
   · have g1:=bneT h1
     refine Vq ?_
     refine VrD mixed hG rfl (by kernel_rfl) ?_ ?_
     · exact⟨pbRangeA hI hl,pbRangeB hI hm⟩
     refine Vt ?_
     refine⟨?_,trivial⟩
     exact pbHit hI hl hm g1
   · have g1:=bneI h1
     refine Vs (Vn hG rfl ?_)
     refine⟨rfl,?_⟩
     exact pbStep hI hl hm hb g1
 · have hx:=andGe h0
   refine Vx (Vq (Vm hG rfl ?_))
   refine Vk rfl ?_ ?_<;>intro h2
   · refine Vm hG rfl (Vt ?_)
     refine⟨?_,trivial⟩
     exact pbLen hI hx h2
   · refine Vs (Vq (Vm hG rfl ?_))
     refine Vk rfl ?_ ?_<;>intro h3
     · refine Vm hG rfl (Vt ?_)
       refine⟨?_,trivial⟩
       exact pbKey hI hx h2 h3
     · refine Vs (Vm hG rfl (Vt ?_))
       refine⟨?_,trivial⟩
       exact pbMark hI hx h2 h3
noncomputable def T194:TFun:=⟨.own Z29,[.pair (.int .i64) Y9],.own Z29,fun x xs=>(fun(l:List Piece) (p:Piece)=>List.length l≤2000000000∧AscP l∧Sm big20 Y19 p) x xs.1,fun x xs=>(fun l p=>usPut p l) x xs.1⟩
theorem T194_ok:MeetsT Tryz.prog 194 T194:=by
 refine meetsT_of_vc (C:=mkCM 46 [4] [0,1,3,4,5,17,31] [⟨261,_,F261_ok⟩,⟨262,_,F262_ok⟩,⟨184,_,F184_ok⟩] [] [] []) (mkCM_ok _ _ _ _ _ _ _) (fO _) Tryz.func194 rfl rfl rfl (by decide) rfl rfl rfl rfl ?_ rfl
 rintro a0 ⟨a1,_⟩ hwf0 hwf hpre ⟨⟩ hG rfl rfl
 show Vc _ _ [(0,⟨0,0,.c Z31 a0⟩),(1,⟨0,0,.c Z22 a1⟩)] _
 have hs:List.length a0≤2000000000:=hpre.1
 have ha:AscP a0:=hpre.2.1
 have hp:Sm big20 Y19 a1:=hpre.2.2
 refine Vm hG rfl (Vm hG rfl (Vq (Vb ?_)))
 refine Vc.loopF [(5,false,.pure (.int .i64))] [0,1,3,4,31] (fun v=>tkInv (fun(y:Piece)=>pbF y a1) a0 v.1) (fun v=>((List.length a0:Int)-v.1).toNat) rfl ?_ ?_
 · exact tkStart
 rintro⟨(i:Int),_⟩ hI
 have hI:tkInv (fun(y:Piece)=>pbF y a1) a0 i:=hI
 refine Vq (Vq ?_)
 refine VrD mixed hG rfl (by kernel_rfl) ?_ ?_
 · exact⟨fun h=>tkRange hI (oTr h),fun _=>trivial⟩
 refine Vk rfl ?_ ?_<;>intro h0
 · have g0:pick2 (decide (i<(List.length a0:Int))) (pbF (List.getD a0 i.toNat (dflt Y19)) a1) false=true:=h0
   refine Vs (Vb (Vn hG rfl ?_))
   refine⟨rfl,?_⟩
   exact tkStepW (p:=(fun(y:Piece)=>pbF y a1)) hI hs g0
 · have g0:pick2 (decide (i<(List.length a0:Int))) (pbF (List.getD a0 i.toNat (dflt Y19)) a1) false=false:=h0
   have hk:=tkEnd (p:=(fun(y:Piece)=>pbF y a1)) hI g0
   refine Vx (Vq (Vq ?_))
   refine VrD mixed hG rfl (by kernel_rfl) ?_ ?_
   · exact⟨fun h=>tkRange hI (oTr h),fun _=>trivial⟩
   refine Vk rfl ?_ ?_<;>intro h1
   · have g1:pick2 (decide (i<(List.length a0:Int))) (eqC (List.getD a0 i.toNat (dflt Y19)) a1) false=true:=h1
     refine Vm hG rfl (Vt ?_)
     refine⟨?_,trivial⟩
     exact putYes hI.1 g1
   · have g1:pick2 (decide (i<(List.length a0:Int))) (eqC (List.getD a0 i.toNat (dflt Y19)) a1) false=false:=h1
     refine Vs (Vq ?_)
     refine VrD mixed hG rfl (by kernel_rfl) ?_ ?_
     · exact insConds2W hI hs hp
     refine Vt ?_
     refine⟨?_,trivial⟩
     exact(putEq hI hk).trans (putNo ha hk hI.1 g1).symm
noncomputable def F127:Fun:=⟨[.pair Y34 Y55,.pair Y66 Y37,.slice (.slice (.int .i64))],[.own Z29],fun x=>(fun(_:Frame) (e:Evidence) (_:List (List Int))=>Sm big20 Y66 e.1∧((cellsC Y66 e.1:Nat):Int)≤2000000000) x.1 x.2.1 x.2.2.1,fun x=>(usablePiecesF x.1 x.2.1 x.2.2.1,())⟩
theorem F127_ok:Meets Tryz.prog 127 F127:=by
 refine mZ (C:=mkCM 48 [6] [0,1,2,3,4,6,7,8,9,10,16,27,43] [⟨193,_,F193_ok⟩] [] [⟨194,_,T194_ok⟩] []) (mkCM_ok _ _ _ _ _ _ _) (fO _) Tryz.func127 rfl rfl rfl (by decide) rfl ?_
 rintro⟨a0,a1,a2,_⟩ hwf hpre ⟨⟩ hG rfl rfl
 show Vc _ _ [(0,⟨0,0,.c Z67 a0⟩),(1,⟨0,0,.c Z72 a1⟩),(2,⟨0,0,.c Z7 a2⟩)] _
 have hS:Sm big20 Y66 a1.1:=hpre.1
 have hc:((cellsC Y66 a1.1:Nat):Int)≤2000000000:=hpre.2
 have hb:List.length a1.1≤bigLen:=hwf.2.1.1.1
 refine Vm hG rfl (Vm hG rfl (Vq (Vm hG rfl ?_)))
 refine Vb ?_
 refine Vc.loopF [(7,false,.own Z29),(8,false,.pure (.int .i64))] [0,1,2,3,4,6] (fun v=>uoInv a0 a1 a2 v.1 v.2.1) (fun v=>((List.length a1.1:Int)-v.2.1).toNat) rfl ?_ ?_
 · exact uoStart
 rintro⟨out,(i:Int),_⟩ hI
 have hI:uoInv a0 a1 a2 out i:=hI
 refine Vq (Vm hG rfl ?_)
 refine Vk rfl ?_ ?_<;>intro h0
 · have hl:i<(List.length a1.1:Int):=oTr h0
   have ri:=uoRange hI hl
   have sS:=usStrand hS ri
   have hbk:List.length (List.getD a1.1 i.toNat (dflt Y63)).1≤bigLen:=Nat.le_trans sS.1.1 (by decide)
   refine Vs (Vq (Vb (Vm hG rfl ?_)))
   refine Vb ?_
   refine Vc.loopF [(7,false,.own Z29),(9,false,.pure (.int .i64))] [0,1,2,3,4,6,8,16] (fun v=>uiInv a0 a1 a2 i v.1 v.2.1) (fun v=>((List.length (List.getD a1.1 i.toNat (dflt Y63)).1:Int)-v.2.1).toNat) rfl ?_ ?_
   · exact uiStart hI
   rintro⟨out2,(k:Int),_⟩ hK
   have hK:uiInv a0 a1 a2 i out2 k:=hK
   refine Vq (Vq ?_)
   refine Vr hG rfl ?_ ?_
   · exact ri
   refine Vk rfl ?_ ?_<;>intro h1
   · have hm:k<(List.length (List.getD a1.1 i.toNat (dflt Y63)).1:Int):=oTr h1
     have rk:=uiRange hK hm
     have ho:=uiLen ri hK hc
     have hE:Sm big20 Y19 (List.getD (List.getD a1.1 i.toNat (dflt Y63)).1 k.toNat (dflt Y19)):=sS.1.2 _ (getD_mem rk _)
     refine Vs (Vq (Vb (Vq ?_)))
     refine Vr hG rfl ?_ ?_
     · exact⟨ri,rk⟩
     refine Vq ?_
     refine Vr hG rfl ?_ ?_
     · exact hS
     refine Vk rfl ?_ ?_<;>intro h2
     · have g2:usableF a0 a1 a2 (List.getD (List.getD a1.1 i.toNat (dflt Y63)).1 k.toNat (dflt Y19))=true:=h2
       have st:=uiStep hK hm hbk (usYes g2)
       refine Vr hG rfl ?_ ?_
       · exact⟨ho,uiAsc hK,hE⟩
       refine Vn hG rfl ?_
       refine⟨rfl,?_⟩
       exact st
     · have g2:usableF a0 a1 a2 (List.getD (List.getD a1.1 i.toNat (dflt Y63)).1 k.toNat (dflt Y19))=false:=h2
       have st:=uiStep hK hm hbk (usNo (out:=out2) g2)
       refine Vs (Vn hG rfl ?_)
       refine⟨rfl,?_⟩
       exact st
   · have hm:¬k<(List.length (List.getD a1.1 i.toNat (dflt Y63)).1:Int):=oFa h1
     refine Vx (Vn hG rfl ?_)
     refine⟨rfl,?_⟩
     exact uoStep hI hl hb hK hm
 · have hl:¬i<(List.length a1.1:Int):=oFa h0
   refine Vx (Vm hG rfl (Vt ?_))
   refine⟨?_,trivial⟩
   exact uoEnd hI hl
noncomputable def F277:Fun:=⟨[.pair (.int .i64) Y38],[.pure Y4],fun _=>True,fun x=>(certSpanF x.1,())⟩
theorem F277_ok:Meets Tryz.prog 277 F277:=by
 refine mZ (C:=mkC 8 [2] [0,1,2] []) (mO _ _ _ _) (fO _) Tryz.func277 rfl rfl rfl (by decide) rfl ?_
 rintro⟨a0,_⟩ hwf hpre ⟨⟩ hG rfl rfl
 show Vc _ _ [(0,⟨0,0,.c Z46 a0⟩)] _
 refine Vm hG rfl (Vm hG rfl (Vt ?_))
 refine⟨?_,trivial⟩
 all_goals exact rfl
noncomputable def F264:Fun:=⟨[.pair (.int .i64) Y38],[.pure (.bool)],fun _=>True,fun x=>(isCertF x.1,())⟩
theorem F264_ok:Meets Tryz.prog 264 F264:=by
 refine mZ (C:=mkC 33 [2] [0,1,2] [⟨172,_,F172_ok⟩,⟨277,_,F277_ok⟩,⟨204,_,F204_ok⟩]) (mO _ _ _ _) (fO _) Tryz.func264 rfl rfl rfl (by decide) rfl ?_
 rintro⟨a0,_⟩ hwf hpre ⟨⟩ hG rfl rfl
 show Vc _ _ [(0,⟨0,0,.c Z46 a0⟩)] _
 refine Vm hG rfl (Vq ?_)
 refine Vr hG rfl ?_ ?_
 · repeat' (first | exact trivial | refine And.intro ?_ ?_ | intro _)
 refine Vt ?_
 refine⟨?_,trivial⟩
 all_goals exact rfl
noncomputable def F265:Fun:=⟨[.pair (.int .i64) Y38],[.own (.pure (.int .i64))],fun _=>True,fun x=>(certIntsF x.1,())⟩
theorem F265_ok:Meets Tryz.prog 265 F265:=by
 refine mZ (C:=mkC 16 [2] [0,1,2] []) (mO _ _ _ _) (fO _) Tryz.func265 rfl rfl rfl (by decide) rfl ?_
 rintro⟨a0,_⟩ hwf hpre ⟨⟩ hG rfl rfl
 show Vc _ _ [(0,⟨0,0,.c Z46 a0⟩)] _
 refine Vm hG rfl (Vm hG rfl (Vt ?_))
 refine⟨?_,trivial⟩
 all_goals exact rfl
noncomputable def F245:Fun:=⟨[.slice Y32,.int .i64],[.pure (.int .i64)],fun _=>True,fun x=>(ownerF x.1 x.2.1,())⟩
theorem F245_ok:Meets Tryz.prog 245 F245:=by
 refine mZ (C:=mkC 16 [4] [0,1,4,5,10] [⟨113,_,F113_ok⟩]) (mO _ _ _ _) (fO _) Tryz.func245 rfl rfl rfl (by decide) rfl ?_
 rintro⟨a0,(a1:Int),_⟩ hwf hpre ⟨⟩ hG rfl rfl
 show Vc _ _ [(0,⟨0,0,.c Z36 a0⟩),(1,⟨0,0,.c (.pure (.int .i64)) a1⟩)] _
 refine Vm hG rfl (Vm hG rfl (Vq (Vm hG rfl ?_)))
 refine Vk rfl ?_ ?_<;>intro h0
 · have g0:keyI a0 a1<0:=oTr h0
   refine Vm hG rfl (Vt ?_)
   refine⟨?_,trivial⟩
   exact owner0 g0
 · have g0:¬keyI a0 a1<0:=oFa h0
   refine Vs (Vq ?_)
   refine Vr hG rfl ?_ ?_
   · exact findRange g0
   refine Vt ?_
   refine⟨?_,trivial⟩
   exact owner1 g0
noncomputable def F196:Fun:=⟨[.slice Y32,.pair (.int .i64) Y38],[.pure (.bool)],fun _=>True,fun x=>(checkCertF x.1 x.2.1,())⟩
theorem F196_ok:Meets Tryz.prog 196 F196:=by
 refine mZ (C:=mkC 26 [4] [0,1,3,4] [⟨264,_,F264_ok⟩,⟨265,_,F265_ok⟩,⟨257,_,F257_ok⟩,⟨245,_,F245_ok⟩]) (mO _ _ _ _) (fO _) Tryz.func196 rfl rfl rfl (by decide) rfl ?_
 rintro⟨a0,a1,_⟩ hwf hpre ⟨⟩ hG rfl rfl
 show Vc _ _ [(0,⟨0,0,.c Z36 a0⟩),(1,⟨0,0,.c Z46 a1⟩)] _
 refine Vm hG rfl (Vq ?_)
 refine VrD mixed hG rfl (by kernel_rfl) ?_ ?_
 · exact⟨trivial,fun _=>trivial,fun _=>smallLit (n:=7) rfl (by decide),fun _=>trivial⟩
 refine Vt ?_
 refine⟨?_,trivial⟩
 all_goals exact rfl
noncomputable def F128:Fun:=⟨[.pair Y34 Y55,.slice Y19,.pair (.int .i64) Y48],[.pure Y45,.pure (.bool)],fun _=>True,fun x=>(((fun a0 a1 a2=>certForF a0.1 a1 a2) x.1 x.2.1 x.2.2.1).1,((fun a0 a1 a2=>certForF a0.1 a1 a2) x.1 x.2.1 x.2.2.1).2,())⟩
theorem F128_ok:Meets Tryz.prog 128 F128:=by
 refine mZ (C:=mkC 56 [6,7] [0,1,2,3,5,6,7,8,9,10,11,12,17,48,53] [⟨195,_,F195_ok⟩,⟨196,_,F196_ok⟩]) (mO _ _ _ _) (fO _) Tryz.func128 rfl rfl rfl (by decide) rfl ?_
 rintro⟨a0,a1,a2,_⟩ hwf hpre ⟨⟩ hG rfl rfl
 show Vc _ _ [(0,⟨0,0,.c Z67 a0⟩),(1,⟨0,0,.c Z26 a1⟩),(2,⟨0,0,.c Z52 a2⟩)] _
 have hb:List.length a1≤bigLen:=hwf.2.1.1
 refine Vm hG rfl (Vm hG rfl (Vm hG rfl (Vq ?_)))
 refine Vm hG rfl (Vb ?_)
 refine Vc.loopF [(8,true,.pure Y45),(9,false,.pure (.int .i64)),(10,false,.pure (.int .i64))] [0,1,2,3,5,6,7,53] (fun v=>cfInv a0.1 a2 a1 v.1 v.2.1 v.2.2.1) (fun v=>((List.length a1:Int)-v.2.2.1).toNat) rfl ?_ ?_
 · exact cfStart
 rintro⟨c,(n:Int),(i:Int),_⟩ hI
 have hI:cfInv a0.1 a2 a1 c n i:=hI
 refine Vq (Vm hG rfl ?_)
 refine Vk rfl ?_ ?_<;>intro h0
 · have hl:i<(List.length a1:Int):=oTr h0
   refine Vs (Vq (Vb (Vq ?_)))
   refine Vr hG rfl ?_ ?_
   · exact⟨cfRange hI hl,trivial⟩
   refine Vq ?_
   refine Vr hG rfl ?_ ?_
   · repeat' (first | exact trivial | refine And.intro ?_ ?_ | intro _)
   refine Vk rfl ?_ ?_<;>intro h1
   · have g1:cfTest a0.1 a2 (List.getD a1 i.toNat (dflt Y19))=true:=h1
     refine Vm hG rfl (Vn hG rfl (Vn hG rfl ?_))
     refine⟨rfl,?_⟩
     first | exact cfGo1 hI hl hb g1 | exact cfGo0 hI hl hb g1
   · have g1:cfTest a0.1 a2 (List.getD a1 i.toNat (dflt Y19))=false:=h1
     refine Vs (Vn hG rfl ?_)
     refine⟨rfl,?_⟩
     first | exact cfGo1 hI hl hb g1 | exact cfGo0 hI hl hb g1
 · have hl:¬i<(List.length a1:Int):=oFa h0
   refine Vx (Vq (Vm hG rfl ?_))
   refine Vk rfl ?_ ?_<;>intro h2
   · have g2:(n != 1)=true:=h2
     refine Vm hG rfl (Vt ?_)
     have e:=cfEnd0 hI hl g2
     refine⟨?_,?_,trivial⟩
     · exact(congrArg Prod.fst e).symm
     · exact(congrArg Prod.snd e).symm
   · have g2:(n != 1)=false:=h2
     refine Vs (Vm hG rfl (Vt ?_))
     have e:=cfEnd1 hI hl g2
     refine⟨?_,?_,trivial⟩
     · exact(congrArg Prod.fst e).symm
     · exact(congrArg Prod.snd e).symm
noncomputable def F197:Fun:=⟨[.int .i64,.slice Y32],[.pure (.int .i64)],fun x=>(fun(_:Int) (l:List Stamp)=>List.length l≤1048576) x.1 x.2.1,fun x=>(stampsDgF x.1 x.2.1,())⟩
theorem F197_ok:Meets Tryz.prog 197 F197:=by
 refine mZ (C:=mkC 29 [4] [0,1,4,5,6,9,14] [⟨138,_,F138_ok⟩,⟨199,_,F199_ok⟩]) (mO _ _ _ _) (fO _) Tryz.func197 rfl rfl rfl (by decide) rfl ?_
 rintro⟨(a0:Int),a1,_⟩ hwf hpre ⟨⟩ hG rfl rfl
 show Vc _ _ [(0,⟨0,0,.c (.pure (.int .i64)) a0⟩),(1,⟨0,0,.c Z36 a1⟩)] _
 have hs:List.length a1≤1048576:=hpre
 have hb:List.length a1≤bigLen:=hwf.2.1.1
 refine Vm hG rfl (Vq (Vm hG rfl ?_))
 refine Vk rfl ?_ ?_<;>intro h0
 · have g0:(List.length a1:Int)=0:=beqI2 h0
   refine Vm hG rfl (Vt ?_)
   refine⟨?_,trivial⟩
   exact sd0 g0
 · have g0:¬(List.length a1:Int)=0:=bneI' h0
   refine Vs (Vm hG rfl (Vq (Vm hG rfl ?_)))
   refine Vb ?_
   refine Vc.loopF [(5,false,.own (.pure (.int .i64))),(6,false,.pure (.int .i64))] [0,1,4,9] (fun v=>gsInv (mkG a1) [] a1 v.1 v.2.1) (fun v=>((List.length a1:Int)-v.2.1).toNat) rfl ?_ ?_
   · exact gsStart
   rintro⟨acc,(i:Int),_⟩ hI
   have hI:gsInv (mkG a1) [] a1 acc i:=hI
   have hA:List.length acc≤1048576:=gsLen (c:=1) (m:=1048576) hI (fun _=>Nat.le_refl _) hs (by simp)
   refine Vq (Vm hG rfl ?_)
   refine Vk rfl ?_ ?_<;>intro h1
   · have hl:i<(List.length a1:Int):=oTr h1
     refine Vs (Vq (Vb ?_))
     refine Vr hG rfl ?_ ?_
     · exact⟨gsRange hI hl,(show List.length acc+1≤maxApp from by unfold maxApp;omega)⟩
     refine Vn hG rfl ?_
     refine⟨rfl,?_⟩
     exact gsStep hI hl hb rfl
   · have hl:¬i<(List.length a1:Int):=oFa h1
     refine Vx (Vq ?_)
     refine Vr hG rfl ?_ ?_
     · exact⟨(show List.length acc≤1000000000 from by omega),trivial⟩
     refine Vt ?_
     refine⟨?_,trivial⟩
     exact(congrArg (fun l=>max 1 (digestF a0 l)) (gsEnd hI hl)).trans (sd1 g0)
noncomputable def F243:Fun:=⟨[.int .i64,.pair (.int .i64) Y24],[.pair (.pure (.int .i64)) Z16],fun _=>True,fun x=>(stampPieceF x.1 x.2.1,())⟩
theorem F243_ok:Meets Tryz.prog 243 F243:=by
 refine mZ (C:=mkC 11 [4] [0,1,3,4] [⟨115,_,F115_ok⟩]) (mO _ _ _ _) (fO _) Tryz.func243 rfl rfl rfl (by decide) rfl ?_
 rintro⟨(a0:Int),a1,_⟩ hwf hpre ⟨⟩ hG rfl rfl
 show Vc _ _ [(0,⟨0,0,.c (.pure (.int .i64)) a0⟩),(1,⟨0,0,.c Z33 a1⟩)] _
 refine Vm hG rfl (Vq (VrD mixed hG rfl (by kernel_rfl) (by trivial) (Vt ?_)))
 refine⟨?_,trivial⟩
 all_goals exact rfl
noncomputable def F267:Fun:=⟨[.slice Y19,.pair (.int .i64) Y9],[.pure (.bool)],fun _=>True,fun x=>(hasF x.1 x.2.1,())⟩
theorem F267_ok:Meets Tryz.prog 267 F267:=by
 refine mZ (C:=mkC 18 [4] [0,1,3,4,5,9,17] [⟨262,_,F262_ok⟩]) (mO _ _ _ _) (fO _) Tryz.func267 rfl rfl rfl (by decide) rfl ?_
 rintro⟨a0,a1,_⟩ hwf hpre ⟨⟩ hG rfl rfl
 show Vc _ _ [(0,⟨0,0,.c Z26 a0⟩),(1,⟨0,0,.c Z22 a1⟩)] _
 have hb:List.length a0≤bigLen:=hwf.1.1
 refine Vm hG rfl (Vq (Vm hG rfl (Vb ?_)))
 refine Vc.loopF [(5,false,.pure (.int .i64))] [0,1,3] (fun v=>fInv (fun x=>eqC x a1) a0 v.1) (fun v=>((List.length a0:Int)-v.1).toNat) rfl ?_ ?_
 · exact fStart
 rintro⟨(i:Int),_⟩ hI
 have hI:fInv (fun x=>eqC x a1) a0 i:=hI
 refine Vq (Vm hG rfl ?_)
 refine Vk rfl ?_ ?_<;>intro h0
 · have hl:i<(List.length a0:Int):=oTr h0
   refine Vs (Vq (Vb (Vq ?_)))
   refine VrD mixed hG rfl (by kernel_rfl) ?_ ?_
   · exact⟨fRange hI hl,trivial⟩
   refine Vk rfl ?_ ?_<;>intro h1
   · have g1:(fun x=>eqC x a1) (List.getD a0 i.toNat (dflt Y19))=true:=h1
     refine Vm hG rfl (Vt ?_)
     refine⟨?_,trivial⟩
     exact hasYes hI hl g1
   · have g1:(fun x=>eqC x a1) (List.getD a0 i.toNat (dflt Y19))=false:=h1
     refine Vs (Vn hG rfl ?_)
     refine⟨rfl,?_⟩
     exact fStep hI hl hb g1
 · have hl:¬i<(List.length a0:Int):=oFa h0
   refine Vx (Vm hG rfl (Vt ?_))
   refine⟨?_,trivial⟩
   exact hasNo hI hl
noncomputable def F198:Fun:=⟨[.pair Y34 Y55,.slice Y19,.slice Y32],[.pure (.int .i64),.pure (.bool)],fun x=>(fun(_:Frame) (_:List Piece) (l:List Stamp)=>List.length l≤1048576) x.1 x.2.1 x.2.2.1,fun x=>((l23F x.1 x.2.1 x.2.2.1).1,(l23F x.1 x.2.1 x.2.2.1).2,())⟩
theorem F198_ok:Meets Tryz.prog 198 F198:=by
 refine mZ (C:=mkC 82 [6,7] [0,1,2,3,6,7,8,9,10,11,12,13,18,67] [⟨266,_,F266_ok⟩,⟨268,_,F268_ok⟩,⟨243,_,F243_ok⟩,⟨267,_,F267_ok⟩,⟨269,_,F269_ok⟩]) (mO _ _ _ _) (fO _) Tryz.func198 rfl rfl rfl (by decide) rfl ?_
 rintro⟨a0,a1,a2,_⟩ hwf hpre ⟨⟩ hG rfl rfl
 show Vc _ _ [(0,⟨0,0,.c Z67 a0⟩),(1,⟨0,0,.c Z26 a1⟩),(2,⟨0,0,.c Z36 a2⟩)] _
 have hs:List.length a2≤1048576:=hpre
 have hb:List.length a2≤bigLen:=hwf.2.2.1.1
 refine Vm hG rfl (Vm hG rfl (Vq (Vm hG rfl ?_)))
 refine Vb ?_
 refine Vc.loopF [(8,false,.own Z8),(9,false,.pure (.int .i64))] [0,1,2,3,12,13] (fun v=>l23Inv a0 a1 a2 v.1 v.2.1) (fun v=>((List.length a2:Int)-v.2.1).toNat) rfl ?_ ?_
 · exact l23Start
 rintro⟨acc,(i:Int),_⟩ hI
 have hI:l23Inv a0 a1 a2 acc i:=hI
 have hA:List.length acc≤1048576:=Nat.le_trans (rsLen hI.1) hs
 have h0i:0≤i:=by obtain⟨n,_,e⟩:=hI.1.1;omega
 refine Vq (Vm hG rfl ?_)
 refine Vk rfl ?_ ?_<;>intro h0
 · have hl:i<(List.length a2:Int):=oTr h0
   refine Vs (Vq (Vb (Vq ?_)))
   refine VrD mixed hG rfl (by kernel_rfl) ?_ ?_
   · exact⟨rsRange hI.1 hl,trivial⟩
   refine Vq (Vq ?_)
   refine VrD mixed hG rfl (by kernel_rfl) ?_ ?_
   · repeat' (first | exact trivial | exact rsRange hI.1 hl | (intro h2;exact prevIdx (rsRange hI.1 hl) (oTr h2) hb) | refine And.intro ?_ ?_ | intro _)
   refine Vk rfl ?_ ?_<;>intro h1
   · have g1:l23Bad a0 a1 a2 i=true:=h1
     refine Vm hG rfl (Vt ?_)
     have e:=l23Stop hI hl hb g1
     refine⟨?_,?_,trivial⟩
     · exact congrArg (fun(q:Int×Bool)=>q.1) e
     · exact congrArg (fun(q:Int×Bool)=>q.2) e
   · have g1:l23Bad a0 a1 a2 i=false:=h1
     refine Vs ?_
     refine Vr hG rfl ?_ ?_
     · exact(show List.length acc+1≤maxApp from by unfold maxApp;omega)
     refine Vn hG rfl ?_
     refine⟨rfl,?_⟩
     exact l23Step hI hl hb ((l23_iff h0i hl hb).1 g1)
 · have hl:¬i<(List.length a2:Int):=oFa h0
   refine Vx (Vm hG rfl (Vm hG rfl (Vt ?_)))
   have e:=l23End hI hl
   refine⟨?_,?_,trivial⟩
   · exact congrArg (fun(q:Int×Bool)=>q.1) e
   · exact congrArg (fun(q:Int×Bool)=>q.2) e
noncomputable def F129:Fun:=⟨[.pair Y34 Y55,.pair Y66 Y37,.slice Y19,.pair (.int .i64) Y48],[.pure (.int .i64)],fun x=>(fun(_:Frame) (e:Evidence) (_:List Piece) (_:Sig)=>Sm big20 (.slice (.slice TStamp)) e.2) x.1 x.2.1 x.2.2.1 x.2.2.2.1,fun x=>(freshG x.1 x.2.1 x.2.2.1 x.2.2.2.1,())⟩
set_option maxHeartbeats 2000000 in
theorem F129_ok:Meets Tryz.prog 129 F129:=by
 refine mZ (C:=mkC 66 [8] [0,1,2,3,4,5,7,8,9,10,11,12,13,20,36,49,61] [⟨113,_,F113_ok⟩,⟨197,_,F197_ok⟩,⟨198,_,F198_ok⟩,⟨199,_,F199_ok⟩]) (mO _ _ _ _) (fO _) Tryz.func129 rfl rfl rfl (by decide) rfl ?_
 rintro⟨a0,a1,a2,a3,_⟩ hwf hpre ⟨⟩ hG rfl rfl
 show Vc _ _ [(0,⟨0,0,.c Z67 a0⟩),(1,⟨0,0,.c Z72 a1⟩),(2,⟨0,0,.c Z26 a2⟩),(3,⟨0,0,.c Z52 a3⟩)] _
 have hp:List.length a1.2≤big20∧∀ l∈a1.2,Sm big20 (.slice TStamp) l:=hpre
 have hb:List.length a1.2≤bigLen:=hwf.2.1.2.1
 refine Vm hG rfl (Vm hG rfl (Vm hG rfl (Vq ?_)))
 refine Vm hG rfl ?_
 refine Vk rfl ?_ ?_<;>intro h0
 · have g0:keyI a0.1 a3.1≥0:=oTr h0
   have eb:=born1 g0
   refine Vr hG rfl ?_ ?_
   · exact findRange (show ¬keyI a0.1 a3.1<0 from by omega)
   refine Vq (Vm hG rfl (Vb ?_))
   refine Vc.loopF [(9,false,.pure (.int .i64)),(11,false,.pure (.int .i64))] [0,1,2,3,4,5,7,8,10,20] (fun v=>foInv (frG a0 a2 a3) (bornF a0 a3) a1.2 v.1 v.2.1) (fun v=>((List.length a1.2:Int)-v.2.1).toNat) rfl ?_ ?_
   · exact frStart eb
   rintro⟨(t:Int),(i:Int),_⟩ hI
   have hI:foInv (frG a0 a2 a3) (bornF a0 a3) a1.2 t i:=hI
   refine Vq (Vm hG rfl ?_)
   refine Vk rfl ?_ ?_<;>intro h1
   · have hl:i<(List.length a1.2:Int):=oTr (andT h1).1
     have ga:(a3.2.2.2.2.2.2.2.1 != 0)=true:=(andT h1).2
     have r1:=foRange hI hl
     have hE:List.length (List.getD a1.2 i.toNat (dflt (.slice TStamp)))≤1048576:=(hp.2 _ (getD_mem r1 _)).1
     have hbk:List.length (List.getD a1.2 i.toNat (dflt (.slice TStamp)))≤bigLen:=Nat.le_trans hE (by decide)
     refine Vs (Vq (Vb (Vq ?_)))
     refine Vq ?_
     refine VrD mixed hG rfl (by kernel_rfl) ?_ ?_
     · exact⟨r1,hE⟩
     refine Vk rfl ?_ ?_<;>intro h2
     · have g1:(stampsDgF a3.2.2.1 (List.getD a1.2 i.toNat (dflt (.slice TStamp))) != a3.2.2.2.2.2.2.2.1)=true:=h2
       have st:=foStepE (d:=dflt (.slice TStamp)) hI hl hb (frNo1 g1)
       refine Vx (Vn hG rfl ?_)
       refine⟨rfl,?_⟩
       exact st
     · have g1:(stampsDgF a3.2.2.1 (List.getD a1.2 i.toNat (dflt (.slice TStamp))) != a3.2.2.2.2.2.2.2.1)=false:=h2
       refine Vs (Vq ?_)
       refine VrD mixed hG rfl (by kernel_rfl) ?_ ?_
       · exact⟨r1,hE⟩
       refine Vm hG rfl ?_
       refine Vk rfl ?_ ?_<;>intro h3
       · have g2:(l23F a0 a2 (List.getD a1.2 i.toNat (dflt (.slice TStamp)))).2=true:=h3
         have st:=foStepE (d:=dflt (.slice TStamp)) hI hl hb (frYes ga g1 g2)
         refine Vn hG rfl (Vn hG rfl ?_)
         refine⟨rfl,?_⟩
         exact st
       · have g2:(l23F a0 a2 (List.getD a1.2 i.toNat (dflt (.slice TStamp)))).2=false:=h3
         have st:=foStepE (d:=dflt (.slice TStamp)) hI hl hb (frNo2 (t:=t) g2)
         refine Vs (Vn hG rfl ?_)
         refine⟨rfl,?_⟩
         exact st
   · have gz:=h1
     refine Vx (Vm hG rfl (Vt ?_))
     refine⟨?_,trivial⟩
     exact frEnd hI gz
 · have g0:¬keyI a0.1 a3.1≥0:=oFa h0
   have eb:=born0 g0
   refine Vs (Vq (Vm hG rfl (Vb ?_)))
   refine Vc.loopF [(9,false,.pure (.int .i64)),(11,false,.pure (.int .i64))] [0,1,2,3,4,5,7,8,10,20] (fun v=>foInv (frG a0 a2 a3) (bornF a0 a3) a1.2 v.1 v.2.1) (fun v=>((List.length a1.2:Int)-v.2.1).toNat) rfl ?_ ?_
   · exact frStart eb
   rintro⟨(t:Int),(i:Int),_⟩ hI
   have hI:foInv (frG a0 a2 a3) (bornF a0 a3) a1.2 t i:=hI
   refine Vq (Vm hG rfl ?_)
   refine Vk rfl ?_ ?_<;>intro h4
   · have hl:i<(List.length a1.2:Int):=oTr (andT h4).1
     have ga:(a3.2.2.2.2.2.2.2.1 != 0)=true:=(andT h4).2
     have r1:=foRange hI hl
     have hE:List.length (List.getD a1.2 i.toNat (dflt (.slice TStamp)))≤1048576:=(hp.2 _ (getD_mem r1 _)).1
     have hbk:List.length (List.getD a1.2 i.toNat (dflt (.slice TStamp)))≤bigLen:=Nat.le_trans hE (by decide)
     refine Vs (Vq (Vb (Vq ?_)))
     refine Vq ?_
     refine VrD mixed hG rfl (by kernel_rfl) ?_ ?_
     · exact⟨r1,hE⟩
     refine Vk rfl ?_ ?_<;>intro h5
     · have g1:(stampsDgF a3.2.2.1 (List.getD a1.2 i.toNat (dflt (.slice TStamp))) != a3.2.2.2.2.2.2.2.1)=true:=h5
       have st:=foStepE (d:=dflt (.slice TStamp)) hI hl hb (frNo1 g1)
       refine Vx (Vn hG rfl ?_)
       refine⟨rfl,?_⟩
       exact st
     · have g1:(stampsDgF a3.2.2.1 (List.getD a1.2 i.toNat (dflt (.slice TStamp))) != a3.2.2.2.2.2.2.2.1)=false:=h5
       refine Vs (Vq ?_)
       refine VrD mixed hG rfl (by kernel_rfl) ?_ ?_
       · exact⟨r1,hE⟩
       refine Vm hG rfl ?_
       refine Vk rfl ?_ ?_<;>intro h6
       · have g2:(l23F a0 a2 (List.getD a1.2 i.toNat (dflt (.slice TStamp)))).2=true:=h6
         have st:=foStepE (d:=dflt (.slice TStamp)) hI hl hb (frYes ga g1 g2)
         refine Vn hG rfl (Vn hG rfl ?_)
         refine⟨rfl,?_⟩
         exact st
       · have g2:(l23F a0 a2 (List.getD a1.2 i.toNat (dflt (.slice TStamp)))).2=false:=h6
         have st:=foStepE (d:=dflt (.slice TStamp)) hI hl hb (frNo2 (t:=t) g2)
         refine Vs (Vn hG rfl ?_)
         refine⟨rfl,?_⟩
         exact st
   · have gz:=h4
     refine Vx (Vm hG rfl (Vt ?_))
     refine⟨?_,trivial⟩
     exact frEnd hI gz
noncomputable def F130:Fun:=⟨[.slice Y19,.pair (.int .i64) Y38],[.own Z33],fun x=>(fun a0 _=>List.length a0≤2000000000) x.1 x.2.1,fun x=>(statusesF x.1 x.2.1,())⟩
theorem F130_ok:Meets Tryz.prog 130 F130:=by
 refine mZ (C:=mkC 44 [4] [0,1,3,4,5,6,7,8,13,38] [⟨200,_,F200_ok⟩]) (mO _ _ _ _) (fO _) Tryz.func130 rfl rfl rfl (by decide) rfl ?_
 rintro⟨a0,a1,_⟩ hwf hpre ⟨⟩ hG rfl rfl
 show Vc _ _ [(0,⟨0,0,.c Z26 a0⟩),(1,⟨0,0,.c Z46 a1⟩)] _
 have hb:List.length a0≤bigLen:=hwf.1.1
 have hs:List.length a0≤2000000000:=hpre
 refine Vm hG rfl (Vm hG rfl (Vq (Vm hG rfl ?_)))
 refine Vb ?_
 refine Vc.loopF [(5,false,.own Z33),(6,false,.pure (.int .i64))] [0,1,3,4] (fun v=>pkInv (statFor a1) a0 v.1 v.2.1) (fun v=>((List.length a0:Int)-v.2.1).toNat) rfl ?_ ?_
 · exact pkStart
 rintro⟨acc,(i:Int),_⟩ hI
 have hI:pkInv (statFor a1) a0 acc i:=hI
 refine Vq (Vm hG rfl ?_)
 refine Vk rfl ?_ ?_<;>intro h0
 · have hl:i<(List.length a0:Int):=oTr h0
   refine Vs (Vq (Vb (Vq ?_)))
   refine Vr hG rfl ?_ ?_
   · exact⟨pkRange hI hl,trivial⟩
   refine Vm hG rfl ?_
   refine Vk rfl ?_ ?_<;>intro h1
   · have g1:((statFor a1) (List.getD a0 i.toNat (dflt Y19))).2=true:=h1
     refine Vr hG rfl ?_ ?_
     · exact pkLenW hI hs
     refine Vn hG rfl ?_
     refine⟨rfl,?_⟩
     first
       | exact pkYes (d:=dflt Y19) hI hl hb g1
       | exact pkNo (d:=dflt Y19) hI hl hb g1
   · have g1:((statFor a1) (List.getD a0 i.toNat (dflt Y19))).2=false:=h1
     refine Vs (Vn hG rfl ?_)
     refine⟨rfl,?_⟩
     first
       | exact pkYes (d:=dflt Y19) hI hl hb g1
       | exact pkNo (d:=dflt Y19) hI hl hb g1
 · have hl:¬i<(List.length a0:Int):=oFa h0
   refine Vx (Vm hG rfl (Vt ?_))
   refine⟨?_,trivial⟩
   exact pkEnd hI hl
noncomputable def T272:TFun:=⟨.own Z8,[.int .i64,.int .i64],.own Z8,fun x xs=>(fun(l:List Span) (_ _:Int)=>List.length l≤1000) x xs.1 xs.2.1,fun x xs=>bPut x xs.1 xs.2.1⟩
theorem T272_ok:MeetsT Tryz.prog 272 T272:=by
 refine meetsT_of_vc (C:=mkCM 22 [6] [0,1,2,6,7,8,16] [⟨275,_,F275_ok⟩] [] [] []) (mkCM_ok _ _ _ _ _ _ _) (fO _) Tryz.func272 rfl rfl rfl (by decide) rfl rfl rfl rfl ?_ rfl
 rintro a0 ⟨(a1:Int),(a2:Int),_⟩ hwf0 hwf hpre ⟨⟩ hG rfl rfl
 show Vc _ _ [(0,⟨0,0,.c (.own Z8) a0⟩),(1,⟨0,0,.c (.pure (.int .i64)) a1⟩),(2,⟨0,0,.c (.pure (.int .i64)) a2⟩)] _
 have hs:List.length a0≤1000:=hpre
 refine Vm hG rfl (Vm hG rfl (Vq (Vm hG rfl ?_)))
 refine Vk rfl ?_ ?_<;>intro h0
 · refine Vm hG rfl (Vt ?_)
   refine⟨?_,trivial⟩
   exact bpN (notT' h0)
 · refine Vs (Vq ?_)
   refine Vr hG rfl ?_ ?_
   · exact bpApp hs
   refine Vt ?_
   refine⟨?_,trivial⟩
   exact bpY (notF h0)
noncomputable def F273:Fun:=⟨[.slice Y32,.int .i64],[.pure (.int .i64)],fun _=>True,fun x=>(badFromF x.1 x.2.1,())⟩
theorem F273_ok:Meets Tryz.prog 273 F273:=by
 refine mZ (C:=mkC 47 [4] [0,1,4,5,6,7,11,20,26,42] [⟨199,_,F199_ok⟩]) (mO _ _ _ _) (fO _) Tryz.func273 rfl rfl rfl (by decide) rfl ?_
 rintro⟨a0,(a1:Int),_⟩ hwf hpre ⟨⟩ hG rfl rfl
 show Vc _ _ [(0,⟨0,0,.c Z36 a0⟩),(1,⟨0,0,.c (.pure (.int .i64)) a1⟩)] _
 have hb:List.length a0≤bigLen:=hwf.1.1
 refine Vm hG rfl (Vm hG rfl (Vm hG rfl (Vq ?_)))
 refine Vm hG rfl (Vb ?_)
 refine Vc.loopF [(5,false,.pure (.int .i64)),(6,false,.pure (.int .i64)),(7,false,.pure (.int .i64))] [0,1,4,42] (fun v=>foInv (msS a1) (-1) a0 v.1 v.2.2.1∧foInv (gsS a1) (-1) a0 v.2.1 v.2.2.1) (fun v=>((List.length a0:Int)-v.2.2.1).toNat) rfl ?_ ?_
 · exact⟨foStart,foStart⟩
 rintro⟨(x:Int),(y:Int),(i:Int),_⟩ hI
 have hI:foInv (msS a1) (-1) a0 x i∧foInv (gsS a1) (-1) a0 y i:=hI
 refine Vq (Vm hG rfl ?_)
 refine Vk rfl ?_ ?_<;>intro h0
 · have hl:i<(List.length a0:Int):=oTr h0
   refine Vs (Vq (Vb (Vq ?_)))
   refine Vq ?_
   refine Vr hG rfl ?_ ?_
   · exact foRange hI.1 hl
   refine Vk rfl ?_ ?_<;>intro h1
   · have g1:((List.getD a0 i.toNat (dflt Y32)).1 != a1)=true:=h1
     have st:=fo2 (d:=dflt Y32) hI hl hb (msN1 g1) (gsN1 g1)
     refine Vx (Vn hG rfl ?_)
     refine⟨rfl,?_⟩
     exact st
   · have g1:((List.getD a0 i.toNat (dflt Y32)).1 != a1)=false:=h1
     refine Vs (Vq ?_)
     refine Vr hG rfl ?_ ?_
     · exact foRange hI.1 hl
     refine Vk rfl ?_ ?_<;>intro h2
     · have g2:¬(List.getD a0 i.toNat (dflt Y32)).2.2.1<0:=Int.not_lt.2 (oTr h2)
       have st:=fo2 (d:=dflt Y32) hI hl hb (msY g1 g2) (gsN2 g2)
       refine Vr hG rfl ?_ ?_
       · exact⟨foRange hI.1 hl,trivial⟩
       refine Vn hG rfl ?_
       refine⟨rfl,?_⟩
       exact st
     · have g2:(List.getD a0 i.toNat (dflt Y32)).2.2.1<0:=Int.not_le.1 (oFa h2)
       have st:=fo2 (d:=dflt Y32) hI hl hb (msN2 g2) (gsY g1 g2)
       refine Vr hG rfl ?_ ?_
       · exact⟨foRange hI.1 hl,trivial⟩
       refine Vn hG rfl ?_
       refine⟨rfl,?_⟩
       exact st
 · have hl:¬i<(List.length a0:Int):=oFa h0
   refine Vx (Vq (Vm hG rfl ?_))
   refine Vk rfl ?_ ?_<;>intro h3
   · refine Vm hG rfl (Vt ?_)
     refine⟨?_,trivial⟩
     exact bfA (foEnd hI.1 hl) h3
   · refine Vs (Vm hG rfl (Vt ?_))
     refine⟨?_,trivial⟩
     exact bfB (foEnd hI.1 hl) (foEnd hI.2 hl) h3
end Fw
