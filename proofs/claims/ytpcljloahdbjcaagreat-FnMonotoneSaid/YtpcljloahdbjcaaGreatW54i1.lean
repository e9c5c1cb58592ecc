/- Walks of functions of the program: what each computes. Conditions: those that each contract names. -/
import Derived.Test.YtpcljloahdbjcaaGreatW54T
import Derived.Test.YtpcljloahdbjcaaGreatW54i0
set_option linter.unusedVariables false
namespace Fw
open Go Go.Proofs
set_option linter.unusedSimpArgs false
set_option maxRecDepth 100000
noncomputable def F352:Fun:=⟨[.slice Y34,.slice Y15,.slice Y26,.pair (.int .i64) Y55],[.pure (.int .i64)],fun _=>True,fun x=>(rbF x.1 x.2.1 x.2.2.1 x.2.2.2.1,())⟩
theorem F352_ok:Meets Tryz.prog 352 F352:=by
 refine mZ (C:=mkC 42 [8] [0,1,2,3,7,8,9,11,12,18,19,20,21,30] [⟨38,_,F38_ok⟩,⟨111,_,F111_ok⟩,⟨34,_,F34_ok⟩]) (mO _ _ _ _) (fO _) Tryz.func352 rfl rfl rfl (by decide) rfl ?_
 rintro⟨a0,a1,a2,a3,_⟩ hwf hpre ⟨⟩ hG rfl rfl
 show Vc _ _ [(0,⟨0,0,.c Z38 a0⟩),(1,⟨0,0,.c Z23 a1⟩),(2,⟨0,0,.c Z32 a2⟩),(3,⟨0,0,.c Z59 a3⟩)] _
 have hb:List.length a3.2.2.2.2≤bigLen:=hwf.2.2.2.1.2.2.2.2.1
 refine Vm hG rfl (Vm hG rfl (Vq (Vm hG rfl ?_)))
 refine Vb ?_
 refine Vc.loopF [(9,false,.pure (.int .i64)),(20,false,.pure (.int .i64))] [0,1,2,3,7,18,19] (fun v=>efInv (rbBad a0 a1) (rbG a0 a1 a2) 0 (breakF a2 a3.2.1) a3.2.2.2.2 v.1 v.2.1) (fun v=>((List.length a3.2.2.2.2:Int)-v.2.1).toNat) rfl ?_ ?_
 · exact efStart
 rintro⟨(m:Int),(i:Int),_⟩ hI
 have hI:efInv (rbBad a0 a1) (rbG a0 a1 a2) 0 (breakF a2 a3.2.1) a3.2.2.2.2 m i:=hI
 refine Vm hG rfl (Vq ?_)
 refine Vk rfl ?_ ?_<;>intro h0
 · have hl:i<(List.length a3.2.2.2.2:Int):=oTr h0
   refine Vs (Vq (Vb (Vq ?_)))
   refine Vr hG rfl ?_ ?_
   · exact efRange hI hl
   refine Vm hG rfl (Vq (Vm hG rfl ?_))
   refine Vk rfl ?_ ?_<;>intro h1
   · have g1:rbBad a0 a1 (List.getD a3.2.2.2.2 i.toNat (dflt Y34))=true:=h1
     refine Vm hG rfl (Vt ?_)
     refine⟨?_,trivial⟩
     exact efStop (d:=dflt Y34) hI hl g1
   · have g1:rbBad a0 a1 (List.getD a3.2.2.2.2 i.toNat (dflt Y34))=false:=h1
     have n1:¬keyI a0 (stampKeyF a1 (List.getD a3.2.2.2.2 i.toNat (dflt Y34)))<0:=oFa h1
     refine Vs ?_
     refine Vr hG rfl ?_ ?_
     · exact⟨findRange n1,trivial⟩
     refine Vn hG rfl ?_
     refine⟨rfl,?_⟩
     exact efStep (d:=dflt Y34) hI hl hb g1
 · have hl:¬i<(List.length a3.2.2.2.2:Int):=oFa h0
   refine Vx (Vm hG rfl (Vt ?_))
   refine⟨?_,trivial⟩
   exact efEnd hI hl
noncomputable def F314:Fun:=⟨[.pair Y36 Y57,.pair Y25 Y61,.int .i64],[.pure (.bool)],fun x=>(fun(_:Frame) (s:Strand) (_:Int)=>Sm big20 (.slice TPiece) s.1∧∀ r∈s.2,Sm big20 TRen r) x.1 x.2.1 x.2.2.1,fun x=>(linkF x.1 x.2.1 x.2.2.1,())⟩
theorem F314_ok:Meets Tryz.prog 314 F314:=by
 refine mZ (C:=mkC 57 [6] [0,1,2,3,4,6,7,8,9,16,34] [⟨86,_,F86_ok⟩,⟨352,_,F352_ok⟩,⟨254,_,F254_ok⟩]) (mO _ _ _ _) (fO _) Tryz.func314 rfl rfl rfl (by decide) rfl ?_
 rintro⟨a0,a1,(a2:Int),_⟩ hwf hpre ⟨⟩ hG rfl rfl
 show Vc _ _ [(0,⟨0,0,.c Z68 a0⟩),(1,⟨0,0,.c Z66 a1⟩),(2,⟨0,0,.c (.pure (.int .i64)) a2⟩)] _
 have hP:Sm big20 (.slice TPiece) a1.1:=hpre.1
 have hR:∀ r∈a1.2,Sm big20 TRen r:=hpre.2
 have hb:List.length a1.2≤bigLen:=hwf.2.1.2.1
 have hSt:∀ k:Int,inRange k (List.length a1.2)→List.length (chAt a1 k).2.2.2.2≤1048576:=fun k hk=>(hR _ (getD_mem hk (dflt TRen))).2.2.2.2.1
 refine Vm hG rfl (Vq (Vm hG rfl ?_))
 refine Vk rfl ?_ ?_<;>intro h0
 · have g0:=h0
   refine Vm hG rfl (Vt ?_)
   refine⟨?_,trivial⟩
   exact lk0 g0
 · have g0:=h0
   have k0:=laIdx g0 hb
   refine Vs (Vq ?_)
   refine VrD mixed hG rfl (by kernel_rfl) ?_ ?_
   · exact⟨k0,trivial⟩
   refine Vq (Vm hG rfl ?_)
   refine Vk rfl ?_ ?_<;>intro h1
   · have g1:=h1
     refine Vm hG rfl (Vt ?_)
     refine⟨?_,trivial⟩
     exact lk1 g0 g1
   · have g1:=h1
     have k1:=lkNext g0 g1 hb
     refine Vs (Vq ?_)
     refine VrD mixed hG rfl (by kernel_rfl) ?_ ?_
     · exact⟨k1,hSt _ k1⟩
     refine Vm hG rfl (Vt ?_)
     refine⟨?_,trivial⟩
     exact lk2 g0 g1
noncomputable def F253:Fun:=⟨[.pair Y36 Y57,.pair Y25 Y61,.slice (.int .i64)],[.pure (.int .i64)],fun x=>(fun(_:Frame) (s:Strand) (_:List Int)=>Sm big20 (.slice TPiece) s.1∧∀ r∈s.2,Sm big20 TRen r) x.1 x.2.1 x.2.2.1,fun x=>(firstKeptF x.1 x.2.1 x.2.2.1,())⟩
theorem F253_ok:Meets Tryz.prog 253 F253:=by
 refine mZ (C:=mkC 58 [6] [0,1,2,3,4,6,7,9,14,54] [⟨254,_,F254_ok⟩,⟨18,_,F18_ok⟩,⟨313,_,F313_ok⟩,⟨314,_,F314_ok⟩]) (mO _ _ _ _) (fO _) Tryz.func253 rfl rfl rfl (by decide) rfl ?_
 rintro⟨a0,a1,a2,_⟩ hwf hpre ⟨⟩ hG rfl rfl
 show Vc _ _ [(0,⟨0,0,.c Z68 a0⟩),(1,⟨0,0,.c Z66 a1⟩),(2,⟨0,0,.c Z3 a2⟩)] _
 have hP:Sm big20 (.slice TPiece) a1.1:=hpre.1
 have hR:∀ r∈a1.2,Sm big20 TRen r:=hpre.2
 have hb:List.length a1.2≤bigLen:=hwf.2.1.2.1
 have hSt:∀ k:Int,inRange k (List.length a1.2)→List.length (chAt a1 k).2.2.2.2≤1048576:=fun k hk=>(hR _ (getD_mem hk (dflt TRen))).2.2.2.2.1
 refine Vm hG rfl (Vm hG rfl (Vq (Vb ?_)))
 refine Vc.loopF [(7,false,.pure (.int .i64))] [0,1,2,3,4,6] (fun v=>fkInv a0 a1 a2 v.1) (fun v=>v.1.toNat) rfl ?_ ?_
 · exact fkStart
 rintro⟨(j:Int),_⟩ hI
 have hI:fkInv a0 a1 a2 j:=hI
 refine Vq (Vm hG rfl ?_)
 refine Vk rfl ?_ ?_<;>intro h0
 · have g0:j>0:=oTr h0
   have k0:=fkIdx hI g0 hb
   refine Vs (Vb (Vq ?_))
   refine VrD mixed hG rfl (by kernel_rfl) ?_ ?_
   · exact⟨k0,hSt _ k0⟩
   refine Vq (Vq ?_)
   refine VrD mixed hG rfl (by kernel_rfl) ?_ ?_
   · repeat' (first | exact trivial | exact k0 | exact⟨hP,hR⟩ | refine And.intro ?_ ?_ | intro _)
   refine Vk rfl ?_ ?_<;>intro h1
   · have g1:keptF a0 a1 a2 (IntKind.i64.wrap (j-1))=false:=by have q:=keptI.symm.trans h1;simpa using q
     refine Vx (Vm hG rfl (Vt ?_))
     refine⟨?_,trivial⟩
     exact fkStop hI g0 hb g1
   · have g1:keptF a0 a1 a2 (IntKind.i64.wrap (j-1))=true:=by have q:=keptI.symm.trans h1;simpa using q
     refine Vs (Vn hG rfl ?_)
     refine⟨rfl,?_⟩
     exact fkStep hI g0 hb g1
 · have g0:¬j>0:=oFa h0
   refine Vx (Vm hG rfl (Vt ?_))
   refine⟨?_,trivial⟩
   exact fkZero hI g0
noncomputable def F168:Fun:=⟨[.pair Y36 Y57,.pair Y25 Y61,.slice (.int .i64),.int .i64],[.pure (.int .i64)],fun x=>(fun(_:Frame) (s:Strand) (_:List Int) (_:Int)=>Sm big20 (.slice TPiece) s.1∧∀ r∈s.2,Sm big20 TRen r) x.1 x.2.1 x.2.2.1 x.2.2.2.1,fun x=>(boundOfF x.1 x.2.1 x.2.2.1 x.2.2.2.1,())⟩
theorem F168_ok:Meets Tryz.prog 168 F168:=by
 refine mZ (C:=mkC 49 [8] [0,1,2,3,4,5,8,9,10,11,23,43] [⟨253,_,F253_ok⟩,⟨254,_,F254_ok⟩]) (mO _ _ _ _) (fO _) Tryz.func168 rfl rfl rfl (by decide) rfl ?_
 rintro⟨a0,a1,a2,(a3:Int),_⟩ hwf hpre ⟨⟩ hG rfl rfl
 show Vc _ _ [(0,⟨0,0,.c Z68 a0⟩),(1,⟨0,0,.c Z66 a1⟩),(2,⟨0,0,.c Z3 a2⟩),(3,⟨0,0,.c (.pure (.int .i64)) a3⟩)] _
 have hP:Sm big20 (.slice TPiece) a1.1:=hpre.1
 have hR:∀ r∈a1.2,Sm big20 TRen r:=hpre.2
 have hb:List.length a1.2≤bigLen:=hwf.2.1.2.1
 have hSt:∀ k:Int,inRange k (List.length a1.2)→List.length (chAt a1 k).2.2.2.2≤1048576:=fun k hk=>(hR _ (getD_mem hk (dflt TRen))).2.2.2.2.1
 refine Vm hG rfl (Vm hG rfl (Vq (Vq ?_)))
 refine Vr hG rfl ?_ ?_
 · exact⟨hP,hR⟩
 refine Vb ?_
 refine Vc.loopF [(9,false,.pure (.int .i64)),(10,false,.pure (.int .i64))] [0,1,2,3,4,5,8] (fun v=>boInv a0 a1 a2 a3 v.1 v.2.1) (fun v=>((List.length a1.2:Int)-v.2.1).toNat) rfl ?_ ?_
 · exact boStart
 rintro⟨(t:Int),(j:Int),_⟩ hI
 have hI:boInv a0 a1 a2 a3 t j:=hI
 refine Vq (Vm hG rfl ?_)
 refine Vk rfl ?_ ?_<;>intro h0
 · have hl:j<(List.length a1.2:Int):=oTr h0
   have k0:=boRange hI hl
   refine Vs (Vq (Vb (Vq ?_)))
   refine VrD mixed hG rfl (by kernel_rfl) ?_ ?_
   · exact⟨k0,hSt _ k0⟩
   refine Vq ?_
   refine Vr hG rfl ?_ ?_
   · exact k0
   refine Vk rfl ?_ ?_<;>intro h1
   · have st:=boStep hI hl hb (boY (f:=a0) (t:=t) (r:=chAt a1 j) h1).symm
     refine Vn hG rfl (Vn hG rfl ?_)
     refine⟨rfl,?_⟩
     exact st
   · have st:=boStep hI hl hb (boN (f:=a0) (t:=t) (r:=chAt a1 j) h1).symm
     refine Vs (Vn hG rfl ?_)
     refine⟨rfl,?_⟩
     exact st
 · have hl:¬j<(List.length a1.2:Int):=oFa h0
   refine Vx (Vm hG rfl (Vt ?_))
   refine⟨?_,trivial⟩
   exact boEnd hI hl
noncomputable def F96:Fun:=⟨[.pair Y36 Y57,.pair Y25 Y61,.slice (.int .i64),.pair (.int .i64) Y10],[.pure (.int .i64)],fun x=>(fun(_:Frame) (s:Strand) (_:List Int) (_:Piece)=>Sm big20 (.slice TPiece) s.1∧∀ r∈s.2,Sm big20 TRen r) x.1 x.2.1 x.2.2.1 x.2.2.2.1,fun x=>(pieceBoundF x.1 x.2.1 x.2.2.1 x.2.2.2.1,())⟩
theorem F96_ok:Meets Tryz.prog 96 F96:=by
 refine mZ (C:=mkC 22 [8] [0,1,2,3,4,5,7,8,9,14] [⟨167,_,F167_ok⟩,⟨168,_,F168_ok⟩]) (mO _ _ _ _) (fO _) Tryz.func96 rfl rfl rfl (by decide) rfl ?_
 rintro⟨a0,a1,a2,a3,_⟩ hwf hpre ⟨⟩ hG rfl rfl
 show Vc _ _ [(0,⟨0,0,.c Z68 a0⟩),(1,⟨0,0,.c Z66 a1⟩),(2,⟨0,0,.c Z3 a2⟩),(3,⟨0,0,.c Z24 a3⟩)] _
 have hp:=hpre
 refine Vm hG rfl (Vm hG rfl (Vq (Vm hG rfl ?_)))
 refine Vk rfl ?_ ?_<;>intro h0
 · have g0:findPieceF a1 a3<0:=oTr h0
   refine Vm hG rfl (Vt ?_)
   refine⟨?_,trivial⟩
   exact pb0 g0
 · have g0:¬findPieceF a1 a3<0:=oFa h0
   refine Vs (Vq ?_)
   refine Vr hG rfl ?_ ?_
   · exact hp
   refine Vt ?_
   refine⟨?_,trivial⟩
   exact pb1 g0
noncomputable def F25:Fun:=⟨[.pair Y36 Y57,.pair Y67 Y39,.slice (.slice (.int .i64)),.pair (.int .i64) Y10],[.pure (.int .i64)],fun x=>(fun(_:Frame) (e:Evidence) (_:List (List Int)) (_:Piece)=>Sm big20 Y67 e.1) x.1 x.2.1 x.2.2.1 x.2.2.2.1,fun x=>(evBoundF x.1 x.2.1 x.2.2.1 x.2.2.2.1,())⟩
theorem F25_ok:Meets Tryz.prog 25 F25:=by
 refine mZ (C:=mkC 38 [8] [0,1,2,3,4,5,7,8,9,10,11,15,16,17,18,25] [⟨96,_,F96_ok⟩]) (mO _ _ _ _) (fO _) Tryz.func25 rfl rfl rfl (by decide) rfl ?_
 rintro⟨a0,a1,a2,a3,_⟩ hwf hpre ⟨⟩ hG rfl rfl
 show Vc _ _ [(0,⟨0,0,.c Z68 a0⟩),(1,⟨0,0,.c Z73 a1⟩),(2,⟨0,0,.c Z8 a2⟩),(3,⟨0,0,.c Z24 a3⟩)] _
 have hS:Sm big20 Y67 a1.1:=hpre
 have hb:List.length a1.1≤bigLen:=hwf.2.1.1.1
 refine Vm hG rfl (Vm hG rfl (Vq (Vm hG rfl ?_)))
 refine Vb ?_
 refine Vc.loopF [(9,false,.pure (.int .i64)),(17,false,.pure (.int .i64))] [0,1,2,3,4,5,7,8,15,16] (fun v=>ebInv a0 a1 a2 a3 v.1 v.2.1) (fun v=>((List.length a1.1:Int)-v.2.1).toNat) rfl ?_ ?_
 · exact ebStart
 rintro⟨(t:Int),(i:Int),_⟩ hI
 have hI:ebInv a0 a1 a2 a3 t i:=hI
 refine Vm hG rfl (Vq ?_)
 refine Vk rfl ?_ ?_<;>intro h0
 · have hl:i<(List.length a1.1:Int):=oTr h0
   refine Vs (Vq (Vb (Vq ?_)))
   refine Vr hG rfl ?_ ?_
   · exact ebRange hI hl
   refine Vm hG rfl ?_
   refine Vk rfl ?_ ?_<;>intro h1
   · have hd:i<(List.length a2:Int):=oTr h1
     have st:=ebYes (dflt Y64) (dflt (.slice TI)) hI hl hd hb rfl
     have r1:=ebRange hI hl
     have r2:=ebRangeD hI hd
     have r3:=usStrand hS r1
     refine VrD mixed hG rfl (by kernel_rfl) ?_ ?_
     · exact⟨r2,r3⟩
     refine Vn hG rfl ?_
     refine⟨rfl,?_⟩
     exact st
   · have hd:¬i<(List.length a2:Int):=oFa h1
     have st:=ebNo hI hl hd hb
     refine Vs (Vn hG rfl ?_)
     refine⟨rfl,?_⟩
     exact st
 · have hl:¬i<(List.length a1.1:Int):=oFa h0
   refine Vx (Vm hG rfl (Vt ?_))
   refine⟨?_,trivial⟩
   exact ebEnd hI (fun q=>hl q.1)
noncomputable def F98:Fun:=⟨[.pair Y36 Y57,.int .i64],[.pure (.int .i64)],fun _=>True,fun x=>(brkKeyF x.1 x.2.1,())⟩
theorem F98_ok:Meets Tryz.prog 98 F98:=by
 refine mZ (C:=mkC 21 [4] [0,1,2,4,5,11] [⟨34,_,F34_ok⟩,⟨38,_,F38_ok⟩]) (mO _ _ _ _) (fO _) Tryz.func98 rfl rfl rfl (by decide) rfl ?_
 rintro⟨a0,(a1:Int),_⟩ hwf hpre ⟨⟩ hG rfl rfl
 show Vc _ _ [(0,⟨0,0,.c Z68 a0⟩),(1,⟨0,0,.c (.pure (.int .i64)) a1⟩)] _
 refine Vm hG rfl (Vm hG rfl (Vq (Vm hG rfl ?_)))
 refine Vk rfl ?_ ?_<;>intro h0
 · have g0:keyI a0.1 a1<0:=oTr h0
   refine Vm hG rfl (Vt ?_)
   refine⟨?_,trivial⟩
   exact bk0 g0
 · have g0:¬keyI a0.1 a1<0:=oFa h0
   refine Vs (Vq ?_)
   refine VrD mixed hG rfl (by kernel_rfl) ?_ ?_
   · exact⟨findRange g0,trivial⟩
   refine Vt ?_
   refine⟨?_,trivial⟩
   exact bk1 g0
noncomputable def F97:Fun:=⟨[.slice Y19,.pair (.int .i64) Y10],[.pure (.bool)],fun _=>True,fun x=>(hasF x.1 x.2.1,())⟩
theorem F97_ok:Meets Tryz.prog 97 F97:=by
 refine mZ (C:=mkC 17 [4] [0,1,3,4,6,7,8,9,10,15] [⟨29,_,F29_ok⟩]) (mO _ _ _ _) (fO _) Tryz.func97 rfl rfl rfl (by decide) rfl ?_
 rintro⟨a0,a1,_⟩ hwf hpre ⟨⟩ hG rfl rfl
 show Vc _ _ [(0,⟨0,0,.c Z28 a0⟩),(1,⟨0,0,.c Z24 a1⟩)] _
 have hb:List.length a0≤bigLen:=hwf.1.1
 refine Vm hG rfl (Vq (Vm hG rfl (Vb ?_)))
 refine Vc.loopF [(9,false,.pure (.int .i64))] [0,1,3,7,8] (fun v=>fInv (fun x=>eqC x a1) a0 v.1) (fun v=>((List.length a0:Int)-v.1).toNat) rfl ?_ ?_
 · exact fStart
 rintro⟨(i:Int),_⟩ hI
 have hI:fInv (fun x=>eqC x a1) a0 i:=hI
 refine Vm hG rfl (Vq ?_)
 refine Vk rfl ?_ ?_<;>intro h0
 · have hl:i<(List.length a0:Int):=oTr h0
   refine Vs (Vq (Vb (Vq ?_)))
   refine Vr hG rfl ?_ ?_
   · exact fRange hI hl
   refine Vm hG rfl ?_
   refine Vk rfl ?_ ?_<;>intro h1
   · have g1:(fun x=>eqC x a1) (List.getD a0 i.toNat (dflt Y19))=true:=h1
     refine Vm hG rfl (Vt ?_)
     refine⟨?_,trivial⟩
     exact hasYes hI hl g1
   · have g1:(fun x=>eqC x a1) (List.getD a0 i.toNat (dflt Y19))=false:=h1
     refine Vs (Vn hG rfl ?_)
     refine⟨rfl,?_⟩
     exact fStep hI hl hb g1
 · have hl:¬i<(List.length a0:Int):=oFa h0
   refine Vx (Vm hG rfl (Vt ?_))
   refine⟨?_,trivial⟩
   exact hasNo hI hl
noncomputable def F100:Fun:=⟨[.pair (.int .i64) Y10],[.pure (.int .i64)],fun _=>True,fun x=>(kindF x.1,())⟩
theorem F100_ok:Meets Tryz.prog 100 F100:=by
 refine mZ (C:=mkC 32 [2] [0,1,2,27] [⟨86,_,F86_ok⟩]) (mO _ _ _ _) (fO _) Tryz.func100 rfl rfl rfl (by decide) rfl ?_
 rintro⟨a0,_⟩ hwf hpre ⟨⟩ hG rfl rfl
 show Vc _ _ [(0,⟨0,0,.c Z24 a0⟩)] _
 refine Vm hG rfl (Vq (Vq ?_))
 refine VrD mixed hG rfl (by kernel_rfl) ?_ ?_
 · exact⟨fun h=>kLen h,fun _=>trivial,fun h=>kLen1 h,fun h=>kIdx h⟩
 refine Vk rfl ?_ ?_<;>intro h0
 · have g0:pick2 (kb1 a0) true (kb2 a0)=true:=h0
   refine Vm hG rfl (Vt ?_)
   refine⟨?_,trivial⟩
   exact kindI g0
 · have g0:pick2 (kb1 a0) true (kb2 a0)=false:=h0
   refine Vs (Vq ?_)
   refine Vr hG rfl ?_ ?_
   · exact kLen1 (orF g0).1
   refine Vt ?_
   refine⟨?_,trivial⟩
   exact kind2 (orF g0).1 (orF g0).2
noncomputable def F101:Fun:=⟨[.pair (.int .i64) Y10],[.pure Y47,.pure (.bool)],fun _=>True,fun x=>((pieceCertF x.1).1,(pieceCertF x.1).2,())⟩
theorem F101_ok:Meets Tryz.prog 101 F101:=by
 refine mZ (C:=mkC 41 [2,3] [0,1,2,3,4,16] [⟨100,_,F100_ok⟩]) (mO _ _ _ _) (fO _) Tryz.func101 rfl rfl rfl (by decide) rfl ?_
 rintro⟨a0,_⟩ hwf hpre ⟨⟩ hG rfl rfl
 show Vc _ _ [(0,⟨0,0,.c Z24 a0⟩)] _
 refine Vm hG rfl (Vq (Vq ?_))
 refine VrD mixed hG rfl (by kernel_rfl) ?_ ?_
 · exact⟨trivial,fun h=>seven (kind7 h) 6 (by decide)⟩
 refine Vk rfl ?_ ?_<;>intro h0
 · have g0:pcBad a0=true:=h0
   refine Vm hG rfl (Vt ?_)
   have e:=pc0 g0
   refine⟨?_,?_,trivial⟩
   · exact(congrArg Prod.fst e).symm
   · exact(congrArg Prod.snd e).symm
 · have g0:pcBad a0=false:=h0
   refine Vs (Vm hG rfl (Vq ?_))
   refine VrD mixed hG rfl (by kernel_rfl) ?_ ?_
   · exact⟨seven (pc7 g0) 1 (by decide),seven (pc7 g0) 2 (by decide),seven (pc7 g0) 3 (by decide),seven (pc7 g0) 4 (by decide),seven (pc7 g0) 5 (by decide),seven (pc7 g0) 6 (by decide)⟩
   refine Vt ?_
   have e:=pc1 g0
   refine⟨?_,?_,trivial⟩
   · exact(congrArg Prod.fst e).symm
   · exact(congrArg Prod.snd e).symm
noncomputable def F102:Fun:=⟨[.pair (.int .i64) Y10],[.pure Y34,.pure (.bool)],fun _=>True,fun x=>((pieceStatF x.1).1,(pieceStatF x.1).2,())⟩
theorem F102_ok:Meets Tryz.prog 102 F102:=by
 refine mZ (C:=mkC 35 [2,3] [0,1,2,3,4,16] [⟨100,_,F100_ok⟩]) (mO _ _ _ _) (fO _) Tryz.func102 rfl rfl rfl (by decide) rfl ?_
 rintro⟨a0,_⟩ hwf hpre ⟨⟩ hG rfl rfl
 show Vc _ _ [(0,⟨0,0,.c Z24 a0⟩)] _
 refine Vm hG rfl (Vq (Vq ?_))
 refine VrD mixed hG rfl (by kernel_rfl) ?_ ?_
 · exact⟨trivial,fun h=>nIdx (psN h) 4 (by decide)⟩
 refine Vk rfl ?_ ?_<;>intro h0
 · have g0:psBad a0=true:=h0
   refine Vm hG rfl (Vt ?_)
   have e:=ps0 g0
   refine⟨?_,?_,trivial⟩
   · exact(congrArg Prod.fst e).symm
   · exact(congrArg Prod.snd e).symm
 · have g0:psBad a0=false:=h0
   refine Vs (Vm hG rfl (Vq ?_))
   refine VrD mixed hG rfl (by kernel_rfl) ?_ ?_
   · exact⟨nIdx (psN (orF g0).1) 1 (by decide),nIdx (psN (orF g0).1) 2 (by decide),nIdx (psN (orF g0).1) 3 (by decide),nIdx (psN (orF g0).1) 4 (by decide)⟩
   refine Vt ?_
   have e:=ps1 g0
   refine⟨?_,?_,trivial⟩
   · exact(congrArg Prod.fst e).symm
   · exact(congrArg Prod.snd e).symm
noncomputable def F103:Fun:=⟨[.pair (.int .i64) Y10],[.pure Y34,.pure (.bool)],fun _=>True,fun x=>((pieceStampF x.1).1,(pieceStampF x.1).2,())⟩
theorem F103_ok:Meets Tryz.prog 103 F103:=by
 refine mZ (C:=mkC 26 [2,3] [0,1,2,3,4,7] [⟨100,_,F100_ok⟩]) (mO _ _ _ _) (fO _) Tryz.func103 rfl rfl rfl (by decide) rfl ?_
 rintro⟨a0,_⟩ hwf hpre ⟨⟩ hG rfl rfl
 show Vc _ _ [(0,⟨0,0,.c Z24 a0⟩)] _
 refine Vm hG rfl (Vq (Vm hG rfl ?_))
 refine Vk rfl ?_ ?_<;>intro h0
 · have g0:pstBad a0=true:=h0
   refine Vm hG rfl (Vt ?_)
   have e:=pst0 g0
   refine⟨?_,?_,trivial⟩
   · exact(congrArg Prod.fst e).symm
   · exact(congrArg Prod.snd e).symm
 · have g0:pstBad a0=false:=h0
   refine Vs (Vm hG rfl (Vq ?_))
   refine VrD mixed hG rfl (by kernel_rfl) ?_ ?_
   · exact⟨nIdx (pstN g0) 1 (by decide),nIdx (pstN g0) 2 (by decide),nIdx (pstN g0) 3 (by decide),nIdx (pstN g0) 4 (by decide)⟩
   refine Vt ?_
   have e:=pst1 g0
   refine⟨?_,?_,trivial⟩
   · exact(congrArg Prod.fst e).symm
   · exact(congrArg Prod.snd e).symm
noncomputable def F104:Fun:=⟨[.pair (.int .i64) Y10],[.pure Y53,.pure (.bool)],fun _=>True,fun x=>((pieceSignF x.1).1,(pieceSignF x.1).2,())⟩
theorem F104_ok:Meets Tryz.prog 104 F104:=by
 refine mZ (C:=mkC 47 [2,3] [0,1,2,3,4,16] [⟨100,_,F100_ok⟩]) (mO _ _ _ _) (fO _) Tryz.func104 rfl rfl rfl (by decide) rfl ?_
 rintro⟨a0,_⟩ hwf hpre ⟨⟩ hG rfl rfl
 show Vc _ _ [(0,⟨0,0,.c Z24 a0⟩)] _
 refine Vm hG rfl (Vq (Vq ?_))
 refine VrD mixed hG rfl (by kernel_rfl) ?_ ?_
 · exact⟨trivial,fun h=>nIdx (psgN h) 1 (by decide)⟩
 refine Vk rfl ?_ ?_<;>intro h0
 · have g0:psgBad a0=true:=h0
   refine Vm hG rfl (Vt ?_)
   have e:=psg0 g0
   refine⟨?_,?_,trivial⟩
   · exact(congrArg Prod.fst e).symm
   · exact(congrArg Prod.snd e).symm
 · have g0:psgBad a0=false:=h0
   refine Vs (Vm hG rfl (Vq ?_))
   refine VrD mixed hG rfl (by kernel_rfl) ?_ ?_
   · exact⟨nIdx (psgN (orF g0).1) 1 (by decide),nIdx (psgN (orF g0).1) 2 (by decide),nIdx (psgN (orF g0).1) 3 (by decide),nIdx (psgN (orF g0).1) 4 (by decide),nIdx (psgN (orF g0).1) 5 (by decide),nIdx (psgN (orF g0).1) 6 (by decide),nIdx (psgN (orF g0).1) 7 (by decide),nIdx (psgN (orF g0).1) 8 (by decide)⟩
   refine Vt ?_
   have e:=psg1 g0
   refine⟨?_,?_,trivial⟩
   · exact(congrArg Prod.fst e).symm
   · exact(congrArg Prod.snd e).symm
noncomputable def F105:Fun:=⟨[.pair (.int .i64) Y10],[.pure Y40,.pure (.bool)],fun _=>True,fun x=>((pieceMandF x.1).1,(pieceMandF x.1).2,())⟩
theorem F105_ok:Meets Tryz.prog 105 F105:=by
 refine mZ (C:=mkC 38 [2,3] [0,1,2,3,4,16] [⟨100,_,F100_ok⟩]) (mO _ _ _ _) (fO _) Tryz.func105 rfl rfl rfl (by decide) rfl ?_
 rintro⟨a0,_⟩ hwf hpre ⟨⟩ hG rfl rfl
 show Vc _ _ [(0,⟨0,0,.c Z24 a0⟩)] _
 refine Vm hG rfl (Vq (Vq ?_))
 refine VrD mixed hG rfl (by kernel_rfl) ?_ ?_
 · exact⟨trivial,fun h=>nIdx (pmN h) 5 (by decide)⟩
 refine Vk rfl ?_ ?_<;>intro h0
 · have g0:pmBad a0=true:=h0
   refine Vm hG rfl (Vt ?_)
   have e:=pm0 g0
   refine⟨?_,?_,trivial⟩
   · exact(congrArg Prod.fst e).symm
   · exact(congrArg Prod.snd e).symm
 · have g0:pmBad a0=false:=h0
   refine Vs (Vm hG rfl (Vq ?_))
   refine VrD mixed hG rfl (by kernel_rfl) ?_ ?_
   · exact⟨nIdx (pmN (orF g0).1) 1 (by decide),nIdx (pmN (orF g0).1) 2 (by decide),nIdx (pmN (orF g0).1) 3 (by decide),nIdx (pmN (orF g0).1) 4 (by decide),nIdx (pmN (orF g0).1) 5 (by decide)⟩
   refine Vt ?_
   have e:=pm1 g0
   refine⟨?_,?_,trivial⟩
   · exact(congrArg Prod.fst e).symm
   · exact(congrArg Prod.snd e).symm
noncomputable def F28:Fun:=⟨[.slice Y34,.pair (.int .i64) Y10],[.pure (.bool)],fun _=>True,fun x=>(checkPieceF x.1 x.2.1,())⟩
theorem F28_ok:Meets Tryz.prog 28 F28:=by
 refine mZ (C:=mkC 54 [4] [0,1,3,4,5,7,8,15,22,29,36] [⟨100,_,F100_ok⟩,⟨101,_,F101_ok⟩,⟨102,_,F102_ok⟩,⟨103,_,F103_ok⟩,⟨104,_,F104_ok⟩,⟨105,_,F105_ok⟩,⟨106,_,F106_ok⟩]) (mO _ _ _ _) (fO _) Tryz.func28 rfl rfl rfl (by decide) rfl ?_
 rintro⟨a0,a1,_⟩ hwf hpre ⟨⟩ hG rfl rfl
 show Vc _ _ [(0,⟨0,0,.c Z38 a0⟩),(1,⟨0,0,.c Z24 a1⟩)] _
 refine Vm hG rfl (Vm hG rfl (Vq (Vm hG rfl ?_)))
 refine Vb (Vm hG rfl ?_)
 refine Vk rfl ?_ ?_<;>intro h0
 · have g0:kindF a1=101:=beqI2 h0
   refine Vn hG rfl (Vq ?_)
   refine Vr hG rfl ?_ ?_
   · first
       | exact fun h=>shapeSmall ((sh101 g0).trans h)
       | exact fun h=>shapeSmall ((sh102 g1).trans h)
       | exact fun h=>shapeSmall ((sh103 g2).trans h)
       | exact fun h=>shapeSmall ((sh104 g3).trans h)
       | exact fun h=>shapeSmall ((sh105 g4).trans h)
       | (intro h;cases h)
   refine Vt ?_
   refine⟨?_,trivial⟩
   show pick2 (pieceCertF a1).2 (checkMarkF a0 a1.1 a1.2.1 a1.2.2) false=checkPieceF a0 a1
   unfold checkPieceF
   rw[sh101 g0]
 · have n0:kindF a1≠101:=bneI' h0
   refine Vm hG rfl ?_
   refine Vk rfl ?_ ?_<;>intro h1
   · have g1:kindF a1=102:=beqI2 h1
     refine Vn hG rfl (Vq ?_)
     refine Vr hG rfl ?_ ?_
     · first
         | exact fun h=>shapeSmall ((sh101 g0).trans h)
         | exact fun h=>shapeSmall ((sh102 g1).trans h)
         | exact fun h=>shapeSmall ((sh103 g2).trans h)
         | exact fun h=>shapeSmall ((sh104 g3).trans h)
         | exact fun h=>shapeSmall ((sh105 g4).trans h)
         | (intro h;cases h)
     refine Vt ?_
     refine⟨?_,trivial⟩
     show pick2 (pieceStatF a1).2 (checkMarkF a0 a1.1 a1.2.1 a1.2.2) false=checkPieceF a0 a1
     unfold checkPieceF
     rw[sh102 g1]
   · have n1:kindF a1≠102:=bneI' h1
     refine Vm hG rfl ?_
     refine Vk rfl ?_ ?_<;>intro h2
     · have g2:kindF a1=103:=beqI2 h2
       refine Vn hG rfl (Vq ?_)
       refine Vr hG rfl ?_ ?_
       · first
           | exact fun h=>shapeSmall ((sh101 g0).trans h)
           | exact fun h=>shapeSmall ((sh102 g1).trans h)
           | exact fun h=>shapeSmall ((sh103 g2).trans h)
           | exact fun h=>shapeSmall ((sh104 g3).trans h)
           | exact fun h=>shapeSmall ((sh105 g4).trans h)
           | (intro h;cases h)
       refine Vt ?_
       refine⟨?_,trivial⟩
       show pick2 (pieceStampF a1).2 (checkMarkF a0 a1.1 a1.2.1 a1.2.2) false=checkPieceF a0 a1
       unfold checkPieceF
       rw[sh103 g2]
     · have n2:kindF a1≠103:=bneI' h2
       refine Vm hG rfl ?_
       refine Vk rfl ?_ ?_<;>intro h3
       · have g3:kindF a1=104:=beqI2 h3
         refine Vn hG rfl (Vq ?_)
         refine Vr hG rfl ?_ ?_
         · first
             | exact fun h=>shapeSmall ((sh101 g0).trans h)
             | exact fun h=>shapeSmall ((sh102 g1).trans h)
             | exact fun h=>shapeSmall ((sh103 g2).trans h)
             | exact fun h=>shapeSmall ((sh104 g3).trans h)
             | exact fun h=>shapeSmall ((sh105 g4).trans h)
             | (intro h;cases h)
         refine Vt ?_
         refine⟨?_,trivial⟩
         show pick2 (pieceSignF a1).2 (checkMarkF a0 a1.1 a1.2.1 a1.2.2) false=checkPieceF a0 a1
         unfold checkPieceF
         rw[sh104 g3]
       · have n3:kindF a1≠104:=bneI' h3
         refine Vm hG rfl ?_
         refine Vk rfl ?_ ?_<;>intro h4
         · have g4:kindF a1=105:=beqI2 h4
           refine Vn hG rfl (Vq ?_)
           refine Vr hG rfl ?_ ?_
           · first
               | exact fun h=>shapeSmall ((sh101 g0).trans h)
               | exact fun h=>shapeSmall ((sh102 g1).trans h)
               | exact fun h=>shapeSmall ((sh103 g2).trans h)
               | exact fun h=>shapeSmall ((sh104 g3).trans h)
               | exact fun h=>shapeSmall ((sh105 g4).trans h)
               | (intro h;cases h)
           refine Vt ?_
           refine⟨?_,trivial⟩
           show pick2 (pieceMandF a1).2 (checkMarkF a0 a1.1 a1.2.1 a1.2.2) false=checkPieceF a0 a1
           unfold checkPieceF
           rw[sh105 g4]
         · have n4:kindF a1≠105:=bneI' h4
           refine Vs (Vq ?_)
           refine Vr hG rfl ?_ ?_
           · first
               | exact fun h=>shapeSmall ((sh101 g0).trans h)
               | exact fun h=>shapeSmall ((sh102 g1).trans h)
               | exact fun h=>shapeSmall ((sh103 g2).trans h)
               | exact fun h=>shapeSmall ((sh104 g3).trans h)
               | exact fun h=>shapeSmall ((sh105 g4).trans h)
               | (intro h;cases h)
           refine Vt ?_
           refine⟨?_,trivial⟩
           show pick2 false (checkMarkF a0 a1.1 a1.2.1 a1.2.2) false=checkPieceF a0 a1
           unfold checkPieceF
           rw[shNo n0 n1 n2 n3 n4]
noncomputable def F27:Fun:=⟨[.pair (.int .i64) Y10,.pair (.int .i64) Y10],[.pure (.bool)],fun _=>True,fun x=>(pbF x.1 x.2.1,())⟩
theorem F27_ok:Meets Tryz.prog 27 F27:=by
 refine mZ (C:=mkC 73 [4] [0,1,2,3,4,5,17,30,42,57] []) (mO _ _ _ _) (fO _) Tryz.func27 rfl rfl rfl (by decide) rfl ?_
 rintro⟨a0,a1,_⟩ hwf hpre ⟨⟩ hG rfl rfl
 show Vc _ _ [(0,⟨0,0,.c Z24 a0⟩),(1,⟨0,0,.c Z24 a1⟩)] _
 have hb:List.length a0.2.1≤bigLen:=hwf.1.2.1.1
 refine Vm hG rfl (Vq (Vm hG rfl (Vb ?_)))
 refine Vc.loopF [(5,false,.pure (.int .i64))] [0,1,2,3,42,57] (fun v=>pbInv a0 a1 v.1) (fun v=>((List.length a0.2.1:Int)-v.1).toNat) rfl ?_ ?_
 · exact pbStart
 rintro⟨(i:Int),_⟩ hI
 have hI:pbInv a0 a1 i:=hI
 refine Vq (Vm hG rfl ?_)
 refine Vk rfl ?_ ?_<;>intro h0
 · have hh:=andLt h0
   have hl:=hh.1
   have hm:=hh.2
   refine Vs (Vq (Vb (Vq ?_)))
   refine VrD mixed hG rfl (by kernel_rfl) ?_ ?_
   · exact⟨pbRangeA hI hl,pbRangeB hI hm⟩
   refine Vk rfl ?_ ?_<;>intro h1
   · have g1:=bneT h1
     refine Vq ?_
     refine VrD mixed hG rfl (by kernel_rfl) ?_ ?_
     · exact⟨pbRangeA hI hl,pbRangeB hI hm⟩
     refine Vt ?_
     refine⟨?_,trivial⟩
     exact pbHit hI hl hm g1
   · have g1:=bneI h1
     refine Vs (Vn hG rfl ?_)
     refine⟨rfl,?_⟩
     exact pbStep hI hl hm hb g1
 · have hx:=andGe h0
   refine Vx (Vq (Vb (Vm hG rfl ?_)))
   refine Vk rfl ?_ ?_<;>intro h2
   · refine Vm hG rfl (Vt ?_)
     refine⟨?_,trivial⟩
     exact pbLen hI hx h2
   · refine Vm hG rfl ?_
     refine Vk rfl ?_ ?_<;>intro h3
     · refine Vm hG rfl (Vt ?_)
       refine⟨?_,trivial⟩
       exact pbKey hI hx h2 h3
     · refine Vs (Vm hG rfl (Vt ?_))
       refine⟨?_,trivial⟩
       exact pbMark hI hx h2 h3
noncomputable def F169:Fun:=⟨[.slice (.int .i64)],[.own (.pure (.int .i64))],fun x=>(fun l=>List.length l≤4000000) x.1,fun x=>(id x.1,())⟩
theorem F169_ok:Meets Tryz.prog 169 F169:=by
 refine mZ (C:=mkC 6 [2] [0,2] []) (mO _ _ _ _) (fO _) Tryz.func169 rfl rfl rfl (by decide) rfl ?_
 rintro⟨a0,_⟩ hwf hpre ⟨⟩ hG rfl rfl
 show Vc _ _ [(0,⟨0,0,.c Z3 a0⟩)] _
 have hp:List.length a0≤4000000:=hpre
 refine Vm hG rfl (Vq ?_)
 refine Vr hG rfl ?_ ?_
 · exact appMore hp
 refine Vt ?_
 refine⟨?_,trivial⟩
 all_goals exact rfl
noncomputable def F99:Fun:=⟨[.pair (.int .i64) Y10],[.pair (.pure (.int .i64)) Z16],fun x=>Sm big20 Y19 x.1,fun x=>(id x.1,())⟩
theorem F99_ok:Meets Tryz.prog 99 F99:=by
 refine mZ (C:=mkC 8 [2] [0,1,2] [⟨169,_,F169_ok⟩]) (mO _ _ _ _) (fO _) Tryz.func99 rfl rfl rfl (by decide) rfl ?_
 rintro⟨a0,_⟩ hwf hpre ⟨⟩ hG rfl rfl
 show Vc _ _ [(0,⟨0,0,.c Z24 a0⟩)] _
 have hp:List.length a0.2.1≤4000000:=Nat.le_trans hpre.2.1.1 (by decide)
 refine Vm hG rfl (Vq ?_)
 refine Vr hG rfl ?_ ?_
 · exact hp
 refine Vm hG rfl (Vt ?_)
 refine⟨?_,trivial⟩
 all_goals exact rfl
noncomputable def F26:Fun:=⟨[.pair Y36 Y57,.pair Y67 Y39,.slice (.slice (.int .i64))],[.own Z31],fun x=>(fun(_:Frame) (e:Evidence) (_:List (List Int))=>Sm big20 Y67 e.1∧((cellsC Y67 e.1:Nat):Int)≤2000000000) x.1 x.2.1 x.2.2.1,fun x=>(usablePiecesF x.1 x.2.1 x.2.2.1,())⟩
theorem F26_ok:Meets Tryz.prog 26 F26:=by
 refine mZ (C:=mkC 79 [6] [0,1,2,3,4,6,7,9,11,12,14,15,16,17,21,22,23,24,48,60] [⟨97,_,F97_ok⟩,⟨28,_,F28_ok⟩,⟨25,_,F25_ok⟩,⟨98,_,F98_ok⟩,⟨27,_,F27_ok⟩,⟨99,_,F99_ok⟩]) (mO _ _ _ _) (fO _) Tryz.func26 rfl rfl rfl (by decide) rfl ?_
 rintro⟨a0,a1,a2,_⟩ hwf hpre ⟨⟩ hG rfl rfl
 show Vc _ _ [(0,⟨0,0,.c Z68 a0⟩),(1,⟨0,0,.c Z73 a1⟩),(2,⟨0,0,.c Z8 a2⟩)] _
 have hS:Sm big20 Y67 a1.1:=hpre.1
 have hc:((cellsC Y67 a1.1:Nat):Int)≤2000000000:=hpre.2
 have hb:List.length a1.1≤bigLen:=hwf.2.1.1.1
 refine Vm hG rfl (Vm hG rfl (Vq (Vm hG rfl ?_)))
 refine Vb ?_
 refine Vc.loopF [(7,false,.own Z31),(16,false,.pure (.int .i64))] [0,1,2,3,4,6,14,15] (fun v=>uoInv a0 a1 a2 v.1 v.2.1) (fun v=>((List.length a1.1:Int)-v.2.1).toNat) rfl ?_ ?_
 · exact uoStart
 rintro⟨out,(i:Int),_⟩ hI
 have hI:uoInv a0 a1 a2 out i:=hI
 refine Vm hG rfl (Vq ?_)
 refine Vk rfl ?_ ?_<;>intro h0
 · have hl:i<(List.length a1.1:Int):=oTr h0
   have ri:=uoRange hI hl
   have sS:=usStrand hS ri
   have hbk:List.length (List.getD a1.1 i.toNat (dflt Y64)).1≤bigLen:=Nat.le_trans sS.1.1 (by decide)
   refine Vs (Vq (Vb (Vq ?_)))
   refine Vr hG rfl ?_ ?_
   · exact ri
   refine Vm hG rfl (Vb ?_)
   refine Vc.loopF [(7,false,.own Z31),(23,false,.pure (.int .i64))] [0,1,2,3,4,6,9,14,15,16,17,21,22] (fun v=>uiInv a0 a1 a2 i v.1 v.2.1) (fun v=>((List.length (List.getD a1.1 i.toNat (dflt Y64)).1:Int)-v.2.1).toNat) rfl ?_ ?_
   · exact uiStart hI
   rintro⟨out2,(k:Int),_⟩ hK
   have hK:uiInv a0 a1 a2 i out2 k:=hK
   refine Vm hG rfl (Vq ?_)
   refine Vk rfl ?_ ?_<;>intro h1
   · have hm:k<(List.length (List.getD a1.1 i.toNat (dflt Y64)).1:Int):=oTr h1
     have rk:=uiRange hK hm
     have ho:=uiLen ri hK hc
     have hE:Sm big20 Y19 (List.getD (List.getD a1.1 i.toNat (dflt Y64)).1 k.toNat (dflt Y19)):=sS.1.2 _ (getD_mem rk _)
     refine Vs (Vq (Vb (Vq ?_)))
     refine Vr hG rfl ?_ ?_
     · exact rk
     refine Vq (Vq ?_)
     refine VrD mixed hG rfl (by kernel_rfl) ?_ ?_
     · repeat' (first | exact trivial | exact hS | refine And.intro ?_ ?_ | intro _)
     refine Vk rfl ?_ ?_<;>intro h2
     · have g2:pick2 (pick2 (hasF out2 (List.getD (List.getD a1.1 i.toNat (dflt Y64)).1 k.toNat (dflt Y19))) true (!(checkPieceF a0.1 (List.getD (List.getD a1.1 i.toNat (dflt Y64)).1 k.toNat (dflt Y19))))) true (decide (evBoundF a0 a1 a2 (List.getD (List.getD a1.1 i.toNat (dflt Y64)).1 k.toNat (dflt Y19))≥brkKeyF a0 (List.getD (List.getD a1.1 i.toNat (dflt Y64)).1 k.toNat (dflt Y19)).1))=true:=h2
       have st:=uiStep hK hm hbk (usSkip g2)
       refine Vx (Vn hG rfl ?_)
       refine⟨rfl,?_⟩
       exact st
     · have g2:pick2 (pick2 (hasF out2 (List.getD (List.getD a1.1 i.toNat (dflt Y64)).1 k.toNat (dflt Y19))) true (!(checkPieceF a0.1 (List.getD (List.getD a1.1 i.toNat (dflt Y64)).1 k.toNat (dflt Y19))))) true (decide (evBoundF a0 a1 a2 (List.getD (List.getD a1.1 i.toNat (dflt Y64)).1 k.toNat (dflt Y19))≥brkKeyF a0 (List.getD (List.getD a1.1 i.toNat (dflt Y64)).1 k.toNat (dflt Y19)).1))=false:=h2
       refine Vs (Vm hG rfl (Vq (Vb ?_)))
       refine Vc.loopF [(12,false,.pure (.int .i64))] [0,1,2,3,4,6,7,9,11,14,15,16,17,21,22,23,24,48] (fun v=>tkInv (fun(y:Piece)=>pbF y (List.getD (List.getD a1.1 i.toNat (dflt Y64)).1 k.toNat (dflt Y19))) out2 v.1) (fun v=>((List.length out2:Int)-v.1).toNat) rfl ?_ ?_
       · exact tkStart
       rintro⟨(q:Int),_⟩ hQ
       have hQ:tkInv (fun(y:Piece)=>pbF y (List.getD (List.getD a1.1 i.toNat (dflt Y64)).1 k.toNat (dflt Y19))) out2 q:=hQ
       refine Vq (Vq ?_)
       refine VrD mixed hG rfl (by kernel_rfl) ?_ ?_
       · exact⟨fun h=>tkRange hQ (oTr h),fun _=>trivial⟩
       refine Vk rfl ?_ ?_<;>intro h3
       · have g3:pick2 (decide (q<(List.length out2:Int))) (pbF (List.getD out2 q.toNat (dflt Y19)) (List.getD (List.getD a1.1 i.toNat (dflt Y64)).1 k.toNat (dflt Y19))) false=true:=h3
         refine Vs (Vb (Vn hG rfl ?_))
         refine⟨rfl,?_⟩
         exact tkStepW (p:=(fun(y:Piece)=>pbF y (List.getD (List.getD a1.1 i.toNat (dflt Y64)).1 k.toNat (dflt Y19)))) hQ ho g3
       · have g3:pick2 (decide (q<(List.length out2:Int))) (pbF (List.getD out2 q.toNat (dflt Y19)) (List.getD (List.getD a1.1 i.toNat (dflt Y64)).1 k.toNat (dflt Y19))) false=false:=h3
         have hk:=tkEnd (p:=(fun(y:Piece)=>pbF y (List.getD (List.getD a1.1 i.toNat (dflt Y64)).1 k.toNat (dflt Y19)))) hQ g3
         have st:=uiStep hK hm hbk ((putEq hQ hk).trans (usTake g2))
         refine Vx ?_
         refine VrD mixed hG rfl (by kernel_rfl) ?_ ?_
         · exact insConds2W hQ ho hE
         refine Vn hG rfl ?_
         refine⟨rfl,?_⟩
         exact st
   · have hm:¬k<(List.length (List.getD a1.1 i.toNat (dflt Y64)).1:Int):=oFa h1
     refine Vx (Vn hG rfl ?_)
     refine⟨rfl,?_⟩
     exact uoStep hI hl hb hK hm
 · have hl:¬i<(List.length a1.1:Int):=oFa h0
   refine Vx (Vm hG rfl (Vt ?_))
   refine⟨?_,trivial⟩
   exact uoEnd hI hl
noncomputable def F40:Fun:=⟨[.pair (.int .i64) Y40],[.pure Y5],fun _=>True,fun x=>(certSpanF x.1,())⟩
theorem F40_ok:Meets Tryz.prog 40 F40:=by
 refine mZ (C:=mkC 8 [2] [0,1,2] []) (mO _ _ _ _) (fO _) Tryz.func40 rfl rfl rfl (by decide) rfl ?_
 rintro⟨a0,_⟩ hwf hpre ⟨⟩ hG rfl rfl
 show Vc _ _ [(0,⟨0,0,.c Z48 a0⟩)] _
 refine Vm hG rfl (Vm hG rfl (Vt ?_))
 refine⟨?_,trivial⟩
 all_goals exact rfl
noncomputable def F187:Fun:=⟨[.pair (.int .i64) Y40],[.pure (.bool)],fun _=>True,fun x=>(isCertF x.1,())⟩
theorem F187_ok:Meets Tryz.prog 187 F187:=by
 refine mZ (C:=mkC 33 [2] [0,1,2] [⟨86,_,F86_ok⟩,⟨40,_,F40_ok⟩,⟨123,_,F123_ok⟩]) (mO _ _ _ _) (fO _) Tryz.func187 rfl rfl rfl (by decide) rfl ?_
 rintro⟨a0,_⟩ hwf hpre ⟨⟩ hG rfl rfl
 show Vc _ _ [(0,⟨0,0,.c Z48 a0⟩)] _
 refine Vm hG rfl (Vq ?_)
 refine Vr hG rfl ?_ ?_
 · repeat' (first | exact trivial | refine And.intro ?_ ?_ | intro _)
 refine Vt ?_
 refine⟨?_,trivial⟩
 all_goals exact rfl
noncomputable def F188:Fun:=⟨[.pair (.int .i64) Y40],[.own (.pure (.int .i64))],fun _=>True,fun x=>(certIntsF x.1,())⟩
theorem F188_ok:Meets Tryz.prog 188 F188:=by
 refine mZ (C:=mkC 16 [2] [0,1,2] []) (mO _ _ _ _) (fO _) Tryz.func188 rfl rfl rfl (by decide) rfl ?_
 rintro⟨a0,_⟩ hwf hpre ⟨⟩ hG rfl rfl
 show Vc _ _ [(0,⟨0,0,.c Z48 a0⟩)] _
 refine Vm hG rfl (Vm hG rfl (Vt ?_))
 refine⟨?_,trivial⟩
 all_goals exact rfl
noncomputable def F189:Fun:=⟨[.slice Y34,.int .i64],[.pure (.int .i64)],fun _=>True,fun x=>(ownerF x.1 x.2.1,())⟩
theorem F189_ok:Meets Tryz.prog 189 F189:=by
 refine mZ (C:=mkC 16 [4] [0,1,4,5,10] [⟨34,_,F34_ok⟩]) (mO _ _ _ _) (fO _) Tryz.func189 rfl rfl rfl (by decide) rfl ?_
 rintro⟨a0,(a1:Int),_⟩ hwf hpre ⟨⟩ hG rfl rfl
 show Vc _ _ [(0,⟨0,0,.c Z38 a0⟩),(1,⟨0,0,.c (.pure (.int .i64)) a1⟩)] _
 refine Vm hG rfl (Vq (Vm hG rfl (Vm hG rfl ?_)))
 refine Vk rfl ?_ ?_<;>intro h0
 · have g0:¬keyI a0 a1<0:=Int.not_lt.2 (oTr h0)
   refine Vq ?_
   refine Vr hG rfl ?_ ?_
   · exact findRange g0
   refine Vt ?_
   refine⟨?_,trivial⟩
   exact owner1 g0
 · have g0:keyI a0 a1<0:=Int.not_le.1 (oFa h0)
   refine Vs (Vm hG rfl (Vt ?_))
   refine⟨?_,trivial⟩
   exact owner0 g0
noncomputable def F117:Fun:=⟨[.slice Y34,.pair (.int .i64) Y40],[.pure (.bool)],fun _=>True,fun x=>(checkCertF x.1 x.2.1,())⟩
theorem F117_ok:Meets Tryz.prog 117 F117:=by
 refine mZ (C:=mkC 26 [4] [0,1,3,4] [⟨187,_,F187_ok⟩,⟨188,_,F188_ok⟩,⟨106,_,F106_ok⟩,⟨189,_,F189_ok⟩]) (mO _ _ _ _) (fO _) Tryz.func117 rfl rfl rfl (by decide) rfl ?_
 rintro⟨a0,a1,_⟩ hwf hpre ⟨⟩ hG rfl rfl
 show Vc _ _ [(0,⟨0,0,.c Z38 a0⟩),(1,⟨0,0,.c Z48 a1⟩)] _
 refine Vm hG rfl (Vq ?_)
 refine VrD mixed hG rfl (by kernel_rfl) ?_ ?_
 · exact⟨trivial,fun _=>trivial,fun _=>smallLit (n:=7) rfl (by decide),fun _=>trivial⟩
 refine Vt ?_
 refine⟨?_,trivial⟩
 exact checkCertI a0 a1
noncomputable def F35:Fun:=⟨[.pair Y36 Y57,.slice Y19,.pair (.int .i64) Y50],[.pure Y47,.pure (.bool)],fun _=>True,fun x=>(((fun a0 a1 a2=>certForF a0.1 a1 a2) x.1 x.2.1 x.2.2.1).1,((fun a0 a1 a2=>certForF a0.1 a1 a2) x.1 x.2.1 x.2.2.1).2,())⟩
theorem F35_ok:Meets Tryz.prog 35 F35:=by
 refine mZ (C:=mkC 54 [6,7] [0,1,2,3,5,6,7,8,9,11,12,13,14,15,16,17,45,51] [⟨101,_,F101_ok⟩,⟨117,_,F117_ok⟩]) (mO _ _ _ _) (fO _) Tryz.func35 rfl rfl rfl (by decide) rfl ?_
 rintro⟨a0,a1,a2,_⟩ hwf hpre ⟨⟩ hG rfl rfl
 show Vc _ _ [(0,⟨0,0,.c Z68 a0⟩),(1,⟨0,0,.c Z28 a1⟩),(2,⟨0,0,.c Z54 a2⟩)] _
 have hb:List.length a1≤bigLen:=hwf.2.1.1
 refine Vm hG rfl (Vm hG rfl (Vm hG rfl (Vq ?_)))
 refine Vm hG rfl (Vb ?_)
 refine Vc.loopF [(8,true,.pure Y47),(9,false,.pure (.int .i64)),(16,false,.pure (.int .i64))] [0,1,2,3,5,6,7,14,15,51] (fun v=>cfInv a0.1 a2 a1 v.1 v.2.1 v.2.2.1) (fun v=>((List.length a1:Int)-v.2.2.1).toNat) rfl ?_ ?_
 · exact cfStart
 rintro⟨c,(n:Int),(i:Int),_⟩ hI
 have hI:cfInv a0.1 a2 a1 c n i:=hI
 refine Vm hG rfl (Vq ?_)
 refine Vk rfl ?_ ?_<;>intro h0
 · have hl:i<(List.length a1:Int):=oTr h0
   refine Vs (Vq (Vb (Vq ?_)))
   refine Vr hG rfl ?_ ?_
   · exact cfRange hI hl
   refine Vm hG rfl (Vq ?_)
   refine Vr hG rfl ?_ ?_
   · repeat' (first | exact trivial | refine And.intro ?_ ?_ | intro _)
   refine Vk rfl ?_ ?_<;>intro h1
   · have g1:cfTest a0.1 a2 (List.getD a1 i.toNat (dflt Y19))=true:=h1
     refine Vm hG rfl (Vn hG rfl (Vn hG rfl ?_))
     refine⟨rfl,?_⟩
     first | exact cfGo1 hI hl hb g1 | exact cfGo0 hI hl hb g1
   · have g1:cfTest a0.1 a2 (List.getD a1 i.toNat (dflt Y19))=false:=h1
     refine Vs (Vn hG rfl ?_)
     refine⟨rfl,?_⟩
     first | exact cfGo1 hI hl hb g1 | exact cfGo0 hI hl hb g1
 · have hl:¬i<(List.length a1:Int):=oFa h0
   refine Vx (Vq (Vm hG rfl ?_))
   refine Vk rfl ?_ ?_<;>intro h2
   · have g2:(n != 1)=true:=h2
     refine Vm hG rfl (Vt ?_)
     have e:=cfEnd0 hI hl g2
     refine⟨?_,?_,trivial⟩
     · exact(congrArg Prod.fst e).symm
     · exact(congrArg Prod.snd e).symm
   · have g2:(n != 1)=false:=h2
     refine Vs (Vm hG rfl (Vt ?_))
     have e:=cfEnd1 hI hl g2
     refine⟨?_,?_,trivial⟩
     · exact(congrArg Prod.fst e).symm
     · exact(congrArg Prod.snd e).symm
noncomputable def F171:Fun:=⟨[.int .i64,.int .i64],[.pure (.int .i64)],fun _=>True,fun x=>((fun(a b:Int)=>max a b) x.1 x.2.1,())⟩
theorem F171_ok:Meets Tryz.prog 171 F171:=by
 refine mZ (C:=mkC 8 [4] [0,1,4] []) (mO _ _ _ _) (fO _) Tryz.func171 rfl rfl rfl (by decide) rfl ?_
 rintro⟨(a0:Int),(a1:Int),_⟩ hwf hpre ⟨⟩ hG rfl rfl
 show Vc _ _ [(0,⟨0,0,.c (.pure (.int .i64)) a0⟩),(1,⟨0,0,.c (.pure (.int .i64)) a1⟩)] _
 refine Vm hG rfl (Vm hG rfl (Vt ?_))
 refine⟨?_,trivial⟩
 all_goals exact rfl
noncomputable def F109:Fun:=⟨[.int .i64,.slice Y34],[.pure (.int .i64)],fun x=>(fun(_:Int) (l:List Stamp)=>List.length l≤1048576) x.1 x.2.1,fun x=>(stampsDgF x.1 x.2.1,())⟩
theorem F109_ok:Meets Tryz.prog 109 F109:=by
 refine mZ (C:=mkC 27 [4] [0,1,4,5,7,10,11,12,13,14] [⟨120,_,F120_ok⟩,⟨171,_,F171_ok⟩]) (mO _ _ _ _) (fO _) Tryz.func109 rfl rfl rfl (by decide) rfl ?_
 rintro⟨(a0:Int),a1,_⟩ hwf hpre ⟨⟩ hG rfl rfl
 show Vc _ _ [(0,⟨0,0,.c (.pure (.int .i64)) a0⟩),(1,⟨0,0,.c Z38 a1⟩)] _
 have hs:List.length a1≤1048576:=hpre
 have hb:List.length a1≤bigLen:=hwf.2.1.1
 refine Vm hG rfl (Vq (Vm hG rfl ?_))
 refine Vk rfl ?_ ?_<;>intro h0
 · have g0:(List.length a1:Int)=0:=beqI2 h0
   refine Vm hG rfl (Vt ?_)
   refine⟨?_,trivial⟩
   exact sd0 g0
 · have g0:¬(List.length a1:Int)=0:=bneI' h0
   refine Vs (Vm hG rfl (Vq (Vm hG rfl ?_)))
   refine Vb ?_
   refine Vc.loopF [(5,false,.own (.pure (.int .i64))),(13,false,.pure (.int .i64))] [0,1,4,10,11,12] (fun v=>gsInv (mkG a1) [] a1 v.1 v.2.1) (fun v=>((List.length a1:Int)-v.2.1).toNat) rfl ?_ ?_
   · exact gsStart
   rintro⟨acc,(i:Int),_⟩ hI
   have hI:gsInv (mkG a1) [] a1 acc i:=hI
   have hA:List.length acc≤1048576:=gsLen (c:=1) (m:=1048576) hI (fun _=>Nat.le_refl _) hs (by simp)
   refine Vm hG rfl (Vq ?_)
   refine Vk rfl ?_ ?_<;>intro h1
   · have hl:i<(List.length a1:Int):=oTr h1
     refine Vs (Vq (Vb (Vq ?_)))
     refine Vr hG rfl ?_ ?_
     · exact gsRange hI hl
     refine Vr hG rfl ?_ ?_
     · exact(show List.length acc+1≤maxApp from by unfold maxApp;omega)
     refine Vn hG rfl ?_
     refine⟨rfl,?_⟩
     exact gsStep hI hl hb rfl
   · have hl:¬i<(List.length a1:Int):=oFa h1
     refine Vx (Vq ?_)
     refine Vr hG rfl ?_ ?_
     · exact⟨(show List.length acc≤1000000000 from by omega),trivial⟩
     refine Vt ?_
     refine⟨?_,trivial⟩
     exact(congrArg (fun l=>max 1 (digestF a0 l)) (gsEnd hI hl)).trans (sd1 g0)
noncomputable def F110:Fun:=⟨[.int .i64,.pair (.int .i64) Y26],[.pair (.pure (.int .i64)) Z16],fun _=>True,fun x=>(stampPieceF x.1 x.2.1,())⟩
theorem F110_ok:Meets Tryz.prog 110 F110:=by
 refine mZ (C:=mkC 11 [4] [0,1,3,4] [⟨156,_,F156_ok⟩]) (mO _ _ _ _) (fO _) Tryz.func110 rfl rfl rfl (by decide) rfl ?_
 rintro⟨(a0:Int),a1,_⟩ hwf hpre ⟨⟩ hG rfl rfl
 show Vc _ _ [(0,⟨0,0,.c (.pure (.int .i64)) a0⟩),(1,⟨0,0,.c Z35 a1⟩)] _
 refine Vm hG rfl (Vq (VrD mixed hG rfl (by kernel_rfl) (by trivial) (Vt ?_)))
 refine⟨?_,trivial⟩
 all_goals exact rfl
end Fw
