/- Walks of functions of the program: what each computes. Conditions: those that each contract names. -/
import Derived.Test.YtpcljloahdbjcaaGreatW54T
import Derived.Test.YtpcljloahdbjcaaGreatW54s0
import Derived.Test.YtpcljloahdbjcaaGreatW54s3
set_option linter.unusedVariables false
namespace Fw
open Go Go.Proofs
set_option linter.unusedSimpArgs false
set_option maxRecDepth 100000
noncomputable def F331:Fun:=⟨[.pair Y36 Y57,.pair Y25 Y61,.slice (.int .i64),.int .i64],[.pure (.int .i64)],fun x=>(fun(_:Frame) (s:Strand) (_:List Int) (_:Int)=>Sm big20 (.slice TPiece) s.1∧∀ r∈s.2,Sm big20 TRen r) x.1 x.2.1 x.2.2.1 x.2.2.2.1,fun x=>(boundOfF x.1 x.2.1 x.2.2.1 x.2.2.2.1,())⟩
theorem F331_ok:Meets Tryz.prog 331 F331:=by
 refine mZ (C:=mkC 52 [8] [0,1,2,3,4,5,8,9,10,11,23,33] [⟨359,_,F359_ok⟩,⟨360,_,F360_ok⟩,⟨285,_,F285_ok⟩]) (mO _ _ _ _) (fO _) Tryz.func331 rfl rfl rfl (by decide) rfl ?_
 rintro⟨a0,a1,a2,(a3:Int),_⟩ hwf hpre ⟨⟩ hG rfl rfl
 show Vc _ _ [(0,⟨0,0,.c Z68 a0⟩),(1,⟨0,0,.c Z66 a1⟩),(2,⟨0,0,.c Z3 a2⟩),(3,⟨0,0,.c (.pure (.int .i64)) a3⟩)] _
 have hP:Sm big20 (.slice TPiece) a1.1:=hpre.1
 have hR:∀ r∈a1.2,Sm big20 TRen r:=hpre.2
 have hb:List.length a1.2≤bigLen:=hwf.2.1.2.1
 have hSt:∀ k:Int,inRange k (List.length a1.2)→List.length (chAt a1 k).2.2.2.2≤1048576:=fun k hk=>(hR _ (getD_mem hk (dflt TRen))).2.2.2.2.1
 refine Vm hG rfl (Vm hG rfl (Vq (Vq ?_)))
 refine Vr hG rfl ?_ ?_
 · exact⟨hP,hR⟩
 refine Vb ?_
 refine Vc.loopF [(9,false,.pure (.int .i64)),(10,false,.pure (.int .i64))] [0,1,2,3,4,5,8] (fun v=>boInv a0 a1 a2 a3 v.1 v.2.1) (fun v=>((List.length a1.2:Int)-v.2.1).toNat) rfl ?_ ?_
 · exact boStart
 rintro⟨(t:Int),(j:Int),_⟩ hI
 have hI:boInv a0 a1 a2 a3 t j:=hI
 refine Vq (Vm hG rfl ?_)
 refine Vk rfl ?_ ?_<;>intro h0
 · have hl:j<(List.length a1.2:Int):=oTr h0
   have k0:=boRange hI hl
   refine Vs (Vq (Vb (Vq ?_)))
   refine Vr hG rfl ?_ ?_
   · exact k0
   refine Vk rfl ?_ ?_<;>intro h1
   · have st:=boStep hI hl hb (boY (f:=a0) (t:=t) (r:=chAt a1 j) h1).symm
     refine Vq ?_
     refine VrD mixed hG rfl (by kernel_rfl) ?_ ?_
     · exact⟨k0,hSt _ k0⟩
     refine Vn hG rfl (Vn hG rfl ?_)
     refine⟨rfl,?_⟩
     exact st
   · have st:=boStep hI hl hb (boN (f:=a0) (t:=t) (r:=chAt a1 j) h1).symm
     refine Vs (Vn hG rfl ?_)
     refine⟨rfl,?_⟩
     exact st
 · have hl:¬j<(List.length a1.2:Int):=oFa h0
   refine Vx (Vm hG rfl (Vt ?_))
   refine⟨?_,trivial⟩
   exact boEnd hI hl
noncomputable def F286:Fun:=⟨[.pair Y36 Y57,.pair Y25 Y61,.slice (.int .i64),.pair (.int .i64) Y10],[.pure (.int .i64)],fun x=>(fun(_:Frame) (s:Strand) (_:List Int) (_:Piece)=>Sm big20 (.slice TPiece) s.1∧∀ r∈s.2,Sm big20 TRen r) x.1 x.2.1 x.2.2.1 x.2.2.2.1,fun x=>(pieceBoundF x.1 x.2.1 x.2.2.1 x.2.2.2.1,())⟩
theorem F286_ok:Meets Tryz.prog 286 F286:=by
 refine mZ (C:=mkC 22 [8] [0,1,2,3,4,5,7,8,9,14] [⟨311,_,F311_ok⟩,⟨331,_,F331_ok⟩]) (mO _ _ _ _) (fO _) Tryz.func286 rfl rfl rfl (by decide) rfl ?_
 rintro⟨a0,a1,a2,a3,_⟩ hwf hpre ⟨⟩ hG rfl rfl
 show Vc _ _ [(0,⟨0,0,.c Z68 a0⟩),(1,⟨0,0,.c Z66 a1⟩),(2,⟨0,0,.c Z3 a2⟩),(3,⟨0,0,.c Z24 a3⟩)] _
 have hp:=hpre
 refine Vm hG rfl (Vm hG rfl (Vq (Vm hG rfl ?_)))
 refine Vk rfl ?_ ?_<;>intro h0
 · have g0:findPieceF a1 a3<0:=oTr h0
   refine Vm hG rfl (Vt ?_)
   refine⟨?_,trivial⟩
   exact pb0 g0
 · have g0:¬findPieceF a1 a3<0:=oFa h0
   refine Vs (Vq ?_)
   refine Vr hG rfl ?_ ?_
   · exact hp
   refine Vt ?_
   refine⟨?_,trivial⟩
   exact pb1 g0
noncomputable def F207:Fun:=⟨[.pair Y36 Y57,.pair Y67 Y39,.slice (.slice (.int .i64)),.pair (.int .i64) Y10],[.pure (.int .i64)],fun x=>(fun(_:Frame) (e:Evidence) (_:List (List Int)) (_:Piece)=>Sm big20 Y67 e.1) x.1 x.2.1 x.2.2.1 x.2.2.2.1,fun x=>(evBoundF x.1 x.2.1 x.2.2.1 x.2.2.2.1,())⟩
theorem F207_ok:Meets Tryz.prog 207 F207:=by
 refine mZ (C:=mkC 41 [8] [0,1,2,3,4,5,7,8,9,10,23] [⟨286,_,F286_ok⟩,⟨285,_,F285_ok⟩]) (mO _ _ _ _) (fO _) Tryz.func207 rfl rfl rfl (by decide) rfl ?_
 rintro⟨a0,a1,a2,a3,_⟩ hwf hpre ⟨⟩ hG rfl rfl
 show Vc _ _ [(0,⟨0,0,.c Z68 a0⟩),(1,⟨0,0,.c Z73 a1⟩),(2,⟨0,0,.c Z8 a2⟩),(3,⟨0,0,.c Z24 a3⟩)] _
 have hS:Sm big20 Y67 a1.1:=hpre
 have hb:List.length a1.1≤bigLen:=hwf.2.1.1.1
 refine Vm hG rfl (Vm hG rfl (Vq (Vm hG rfl ?_)))
 refine Vb ?_
 refine Vc.loopF [(9,false,.pure (.int .i64)),(10,false,.pure (.int .i64))] [0,1,2,3,4,5,7,8] (fun v=>ebInv a0 a1 a2 a3 v.1 v.2.1) (fun v=>((List.length a1.1:Int)-v.2.1).toNat) rfl ?_ ?_
 · exact ebStart
 rintro⟨(t:Int),(i:Int),_⟩ hI
 have hI:ebInv a0 a1 a2 a3 t i:=hI
 refine Vq (Vm hG rfl ?_)
 refine Vk rfl ?_ ?_<;>intro h0
 · have hh:=andLt h0
   have hl:=hh.1
   have hd:=hh.2
   have st:=ebYes (dflt Y64) (dflt (.slice TI)) hI hl hd hb rfl
   have r1:=ebRange hI hl
   have r2:=ebRangeD hI hd
   have r3:=usStrand hS r1
   refine Vs (Vq (Vb ?_))
   refine VrD mixed hG rfl (by kernel_rfl) ?_ ?_
   · exact⟨r1,r2,r3,trivial⟩
   refine Vn hG rfl ?_
   refine⟨rfl,?_⟩
   exact st
 · have hx:=andGe h0
   refine Vx (Vm hG rfl (Vt ?_))
   refine⟨?_,trivial⟩
   exact ebEnd hI hx
noncomputable def F334:Fun:=⟨[.pair (.int .i64) Y10],[.pure (.int .i64)],fun _=>True,fun x=>(kindF x.1,())⟩
theorem F334_ok:Meets Tryz.prog 334 F334:=by
 refine mZ (C:=mkC 31 [2] [0,1,2,14,26] [⟨232,_,F232_ok⟩]) (mO _ _ _ _) (fO _) Tryz.func334 rfl rfl rfl (by decide) rfl ?_
 rintro⟨a0,_⟩ hwf hpre ⟨⟩ hG rfl rfl
 show Vc _ _ [(0,⟨0,0,.c Z24 a0⟩)] _
 refine Vm hG rfl (Vq (Vq ?_))
 refine Vr hG rfl ?_ ?_
 · exact⟨fun h=>kLen h,fun _=>trivial⟩
 refine Vk rfl ?_ ?_<;>intro h0
 · have g0:kb1 a0=true:=h0
   refine Vm hG rfl (Vt ?_)
   refine⟨?_,trivial⟩
   exact kind0 g0
 · have g0:kb1 a0=false:=h0
   refine Vs (Vq (Vq ?_))
   refine VrD mixed hG rfl (by kernel_rfl) ?_ ?_
   · exact⟨kLen1 g0,kIdx g0⟩
   refine Vk rfl ?_ ?_<;>intro h1
   · have g1:kb2 a0=true:=h1
     refine Vm hG rfl (Vt ?_)
     refine⟨?_,trivial⟩
     exact kind1 g1
   · have g1:kb2 a0=false:=h1
     refine Vs (Vq ?_)
     refine Vr hG rfl ?_ ?_
     · exact kLen1 g0
     refine Vt ?_
     refine⟨?_,trivial⟩
     exact kind2 g0 g1
noncomputable def F291:Fun:=⟨[.pair (.int .i64) Y10],[.pure Y47,.pure (.bool)],fun _=>True,fun x=>((pieceCertF x.1).1,(pieceCertF x.1).2,())⟩
theorem F291_ok:Meets Tryz.prog 291 F291:=by
 refine mZ (C:=mkC 44 [2,3] [0,1,2,3,15] [⟨334,_,F334_ok⟩]) (mO _ _ _ _) (fO _) Tryz.func291 rfl rfl rfl (by decide) rfl ?_
 rintro⟨a0,_⟩ hwf hpre ⟨⟩ hG rfl rfl
 show Vc _ _ [(0,⟨0,0,.c Z24 a0⟩)] _
 refine Vm hG rfl (Vq (Vq ?_))
 refine VrD mixed hG rfl (by kernel_rfl) ?_ ?_
 · exact⟨trivial,fun h=>seven (kind7 h) 6 (by decide)⟩
 refine Vk rfl ?_ ?_<;>intro h0
 · have g0:pcBad a0=true:=h0
   refine Vm hG rfl (Vt ?_)
   have e:=pc0 g0
   refine⟨?_,?_,trivial⟩
   · exact(congrArg Prod.fst e).symm
   · exact(congrArg Prod.snd e).symm
 · have g0:pcBad a0=false:=h0
   refine Vs (Vq ?_)
   refine VrD mixed hG rfl (by kernel_rfl) ?_ ?_
   · exact⟨seven (pc7 g0) 1 (by decide),seven (pc7 g0) 2 (by decide),seven (pc7 g0) 3 (by decide),seven (pc7 g0) 4 (by decide),seven (pc7 g0) 5 (by decide),seven (pc7 g0) 6 (by decide)⟩
   refine Vt ?_
   have e:=pc1 g0
   refine⟨?_,?_,trivial⟩
   · exact(congrArg Prod.fst e).symm
   · exact(congrArg Prod.snd e).symm
noncomputable def F295:Fun:=⟨[.pair (.int .i64) Y10],[.pure Y34,.pure (.bool)],fun _=>True,fun x=>((pieceStatF x.1).1,(pieceStatF x.1).2,())⟩
theorem F295_ok:Meets Tryz.prog 295 F295:=by
 refine mZ (C:=mkC 36 [2,3] [0,1,2,3,15] [⟨334,_,F334_ok⟩]) (mO _ _ _ _) (fO _) Tryz.func295 rfl rfl rfl (by decide) rfl ?_
 rintro⟨a0,_⟩ hwf hpre ⟨⟩ hG rfl rfl
 show Vc _ _ [(0,⟨0,0,.c Z24 a0⟩)] _
 refine Vm hG rfl (Vq (Vq ?_))
 refine VrD mixed hG rfl (by kernel_rfl) ?_ ?_
 · exact⟨trivial,fun h=>nIdx (psN h) 4 (by decide)⟩
 refine Vk rfl ?_ ?_<;>intro h0
 · have g0:psBad a0=true:=h0
   refine Vm hG rfl (Vt ?_)
   have e:=ps0 g0
   refine⟨?_,?_,trivial⟩
   · exact(congrArg Prod.fst e).symm
   · exact(congrArg Prod.snd e).symm
 · have g0:psBad a0=false:=h0
   refine Vs (Vq ?_)
   refine VrD mixed hG rfl (by kernel_rfl) ?_ ?_
   · exact⟨nIdx (psN (orF g0).1) 1 (by decide),nIdx (psN (orF g0).1) 2 (by decide),nIdx (psN (orF g0).1) 3 (by decide),nIdx (psN (orF g0).1) 4 (by decide)⟩
   refine Vt ?_
   have e:=ps1 g0
   refine⟨?_,?_,trivial⟩
   · exact(congrArg Prod.fst e).symm
   · exact(congrArg Prod.snd e).symm
noncomputable def F367:Fun:=⟨[.pair (.int .i64) Y10],[.pure Y34,.pure (.bool)],fun _=>True,fun x=>((pieceStampF x.1).1,(pieceStampF x.1).2,())⟩
theorem F367_ok:Meets Tryz.prog 367 F367:=by
 refine mZ (C:=mkC 27 [2,3] [0,1,2,3,6] [⟨334,_,F334_ok⟩]) (mO _ _ _ _) (fO _) Tryz.func367 rfl rfl rfl (by decide) rfl ?_
 rintro⟨a0,_⟩ hwf hpre ⟨⟩ hG rfl rfl
 show Vc _ _ [(0,⟨0,0,.c Z24 a0⟩)] _
 refine Vm hG rfl (Vq (Vm hG rfl ?_))
 refine Vk rfl ?_ ?_<;>intro h0
 · have g0:pstBad a0=true:=h0
   refine Vm hG rfl (Vt ?_)
   have e:=pst0 g0
   refine⟨?_,?_,trivial⟩
   · exact(congrArg Prod.fst e).symm
   · exact(congrArg Prod.snd e).symm
 · have g0:pstBad a0=false:=h0
   refine Vs (Vq ?_)
   refine VrD mixed hG rfl (by kernel_rfl) ?_ ?_
   · exact⟨nIdx (pstN g0) 1 (by decide),nIdx (pstN g0) 2 (by decide),nIdx (pstN g0) 3 (by decide),nIdx (pstN g0) 4 (by decide)⟩
   refine Vt ?_
   have e:=pst1 g0
   refine⟨?_,?_,trivial⟩
   · exact(congrArg Prod.fst e).symm
   · exact(congrArg Prod.snd e).symm
noncomputable def F368:Fun:=⟨[.pair (.int .i64) Y10],[.pure Y53,.pure (.bool)],fun _=>True,fun x=>((pieceSignF x.1).1,(pieceSignF x.1).2,())⟩
theorem F368_ok:Meets Tryz.prog 368 F368:=by
 refine mZ (C:=mkC 52 [2,3] [0,1,2,3,15] [⟨334,_,F334_ok⟩]) (mO _ _ _ _) (fO _) Tryz.func368 rfl rfl rfl (by decide) rfl ?_
 rintro⟨a0,_⟩ hwf hpre ⟨⟩ hG rfl rfl
 show Vc _ _ [(0,⟨0,0,.c Z24 a0⟩)] _
 refine Vm hG rfl (Vq (Vq ?_))
 refine VrD mixed hG rfl (by kernel_rfl) ?_ ?_
 · exact⟨trivial,fun h=>nIdx (psgN h) 1 (by decide)⟩
 refine Vk rfl ?_ ?_<;>intro h0
 · have g0:psgBad a0=true:=h0
   refine Vm hG rfl (Vt ?_)
   have e:=psg0 g0
   refine⟨?_,?_,trivial⟩
   · exact(congrArg Prod.fst e).symm
   · exact(congrArg Prod.snd e).symm
 · have g0:psgBad a0=false:=h0
   refine Vs (Vq ?_)
   refine VrD mixed hG rfl (by kernel_rfl) ?_ ?_
   · exact⟨nIdx (psgN (orF g0).1) 1 (by decide),nIdx (psgN (orF g0).1) 2 (by decide),nIdx (psgN (orF g0).1) 3 (by decide),nIdx (psgN (orF g0).1) 4 (by decide),nIdx (psgN (orF g0).1) 5 (by decide),nIdx (psgN (orF g0).1) 6 (by decide),nIdx (psgN (orF g0).1) 7 (by decide),nIdx (psgN (orF g0).1) 8 (by decide)⟩
   refine Vt ?_
   have e:=psg1 g0
   refine⟨?_,?_,trivial⟩
   · exact(congrArg Prod.fst e).symm
   · exact(congrArg Prod.snd e).symm
noncomputable def F301:Fun:=⟨[.pair (.int .i64) Y10],[.pure Y40,.pure (.bool)],fun _=>True,fun x=>((pieceMandF x.1).1,(pieceMandF x.1).2,())⟩
theorem F301_ok:Meets Tryz.prog 301 F301:=by
 refine mZ (C:=mkC 40 [2,3] [0,1,2,3,15] [⟨334,_,F334_ok⟩]) (mO _ _ _ _) (fO _) Tryz.func301 rfl rfl rfl (by decide) rfl ?_
 rintro⟨a0,_⟩ hwf hpre ⟨⟩ hG rfl rfl
 show Vc _ _ [(0,⟨0,0,.c Z24 a0⟩)] _
 refine Vm hG rfl (Vq (Vq ?_))
 refine VrD mixed hG rfl (by kernel_rfl) ?_ ?_
 · exact⟨trivial,fun h=>nIdx (pmN h) 5 (by decide)⟩
 refine Vk rfl ?_ ?_<;>intro h0
 · have g0:pmBad a0=true:=h0
   refine Vm hG rfl (Vt ?_)
   have e:=pm0 g0
   refine⟨?_,?_,trivial⟩
   · exact(congrArg Prod.fst e).symm
   · exact(congrArg Prod.snd e).symm
 · have g0:pmBad a0=false:=h0
   refine Vs (Vq ?_)
   refine VrD mixed hG rfl (by kernel_rfl) ?_ ?_
   · exact⟨nIdx (pmN (orF g0).1) 1 (by decide),nIdx (pmN (orF g0).1) 2 (by decide),nIdx (pmN (orF g0).1) 3 (by decide),nIdx (pmN (orF g0).1) 4 (by decide),nIdx (pmN (orF g0).1) 5 (by decide)⟩
   refine Vt ?_
   have e:=pm1 g0
   refine⟨?_,?_,trivial⟩
   · exact(congrArg Prod.fst e).symm
   · exact(congrArg Prod.snd e).symm
noncomputable def F361:Fun:=⟨[.pair (.int .i64) Y10],[.pure (.bool)],fun _=>True,fun x=>(shapeF x.1,())⟩
theorem F361_ok:Meets Tryz.prog 361 F361:=by
 refine mZ (C:=mkC 51 [2] [0,1,2,4,6,8,10,12] [⟨291,_,F291_ok⟩,⟨295,_,F295_ok⟩,⟨367,_,F367_ok⟩,⟨368,_,F368_ok⟩,⟨301,_,F301_ok⟩]) (mO _ _ _ _) (fO _) Tryz.func361 rfl rfl rfl (by decide) rfl ?_
 rintro⟨a0,_⟩ hwf hpre ⟨⟩ hG rfl rfl
 show Vc _ _ [(0,⟨0,0,.c Z24 a0⟩)] _
 refine Vm hG rfl (Vm hG rfl (Vm hG rfl (Vm hG rfl ?_)))
 refine Vm hG rfl (Vm hG rfl (Vm hG rfl (Vt ?_)))
 refine⟨?_,trivial⟩
 all_goals exact rfl
noncomputable def F332:Fun:=⟨[.slice Y34,.pair (.int .i64) Y10],[.pure (.bool)],fun _=>True,fun x=>(checkPieceF x.1 x.2.1,())⟩
theorem F332_ok:Meets Tryz.prog 332 F332:=by
 refine mZ (C:=mkC 17 [4] [0,1,3,4] [⟨361,_,F361_ok⟩,⟨330,_,F330_ok⟩]) (mO _ _ _ _) (fO _) Tryz.func332 rfl rfl rfl (by decide) rfl ?_
 rintro⟨a0,a1,_⟩ hwf hpre ⟨⟩ hG rfl rfl
 show Vc _ _ [(0,⟨0,0,.c Z38 a0⟩),(1,⟨0,0,.c Z24 a1⟩)] _
 refine Vm hG rfl (Vq ?_)
 refine Vr hG rfl ?_ ?_
 · exact⟨trivial,fun h=>shapeSmall h⟩
 refine Vt ?_
 refine⟨?_,trivial⟩
 all_goals exact rfl
noncomputable def F289:Fun:=⟨[.pair Y36 Y57,.pair Y67 Y39,.slice (.slice (.int .i64)),.pair (.int .i64) Y10],[.pure (.bool)],fun x=>(fun(_:Frame) (e:Evidence) (_:List (List Int)) (_:Piece)=>Sm big20 Y67 e.1) x.1 x.2.1 x.2.2.1 x.2.2.2.1,fun x=>(usableF x.1 x.2.1 x.2.2.1 x.2.2.2.1,())⟩
theorem F289_ok:Meets Tryz.prog 289 F289:=by
 refine mZ (C:=mkC 40 [8] [0,1,2,3,4,5,7,8,9] [⟨209,_,F209_ok⟩,⟨332,_,F332_ok⟩,⟨207,_,F207_ok⟩,⟨210,_,F210_ok⟩]) (mO _ _ _ _) (fO _) Tryz.func289 rfl rfl rfl (by decide) rfl ?_
 rintro⟨a0,a1,a2,a3,_⟩ hwf hpre ⟨⟩ hG rfl rfl
 show Vc _ _ [(0,⟨0,0,.c Z68 a0⟩),(1,⟨0,0,.c Z73 a1⟩),(2,⟨0,0,.c Z8 a2⟩),(3,⟨0,0,.c Z24 a3⟩)] _
 have hS:Sm big20 Y67 a1.1:=hpre
 refine Vm hG rfl (Vm hG rfl (Vq ?_))
 refine VrD mixed hG rfl (by kernel_rfl) ?_ ?_
 · exact⟨fun _=>trivial,fun _=>hS,fun h=>findRange (geNot (andT h).1),fun _=>trivial⟩
 refine Vt ?_
 refine⟨?_,trivial⟩
 exact usS
noncomputable def F333:Fun:=⟨[.pair (.int .i64) Y10,.pair (.int .i64) Y10],[.pure (.bool)],fun _=>True,fun x=>(pbF x.1 x.2.1,())⟩
theorem F333_ok:Meets Tryz.prog 333 F333:=by
 refine mZ (C:=mkC 71 [4] [0,1,2,3,4,5,17,30,48,60] []) (mO _ _ _ _) (fO _) Tryz.func333 rfl rfl rfl (by decide) rfl ?_
 rintro⟨a0,a1,_⟩ hwf hpre ⟨⟩ hG rfl rfl
 show Vc _ _ [(0,⟨0,0,.c Z24 a0⟩),(1,⟨0,0,.c Z24 a1⟩)] _
 have hb:List.length a0.2.1≤bigLen:=hwf.1.2.1.1
 refine Vm hG rfl (Vq (Vm hG rfl (Vb ?_)))
 refine Vc.loopF [(5,false,.pure (.int .i64))] [0,1,2,3,48,60] (fun v=>pbInv a0 a1 v.1) (fun v=>((List.length a0.2.1:Int)-v.1).toNat) rfl ?_ ?_
 · exact pbStart
 rintro⟨(i:Int),_⟩ hI
 have hI:pbInv a0 a1 i:=hI
 refine Vq (Vm hG rfl ?_)
 refine Vk rfl ?_ ?_<;>intro h0
 · have hh:=andLt h0
   have hl:=hh.1
   have hm:=hh.2
   refine Vs (Vq (Vb (Vq ?_)))
   refine VrD mixed hG rfl (by kernel_rfl) ?_ ?_
   · exact⟨pbRangeA hI hl,pbRangeB hI hm⟩
   refine Vk rfl ?_ ?_<;>intro h1
   · have g1:=bneT h1
     refine Vq ?_
     refine VrD mixed hG rfl (by kernel_rfl) ?_ ?_
     · exact⟨pbRangeA hI hl,pbRangeB hI hm⟩
     refine Vt ?_
     refine⟨?_,trivial⟩
     exact pbHit hI hl hm g1
   · have g1:=bneI h1
     refine Vs (Vn hG rfl ?_)
     refine⟨rfl,?_⟩
     exact pbStep hI hl hm hb g1
 · have hx:=andGe h0
   refine Vx (Vq (Vm hG rfl ?_))
   refine Vk rfl ?_ ?_<;>intro h2
   · refine Vm hG rfl (Vt ?_)
     refine⟨?_,trivial⟩
     exact pbLen hI hx h2
   · refine Vs (Vq (Vm hG rfl ?_))
     refine Vk rfl ?_ ?_<;>intro h3
     · refine Vm hG rfl (Vt ?_)
       refine⟨?_,trivial⟩
       exact pbKey hI hx h2 h3
     · refine Vs (Vm hG rfl (Vt ?_))
       refine⟨?_,trivial⟩
       exact pbMark hI hx h2 h3
noncomputable def T290:TFun:=⟨.own Z31,[.pair (.int .i64) Y10],.own Z31,fun x xs=>(fun(l:List Piece) (p:Piece)=>List.length l≤2000000000∧AscP l∧Sm big20 Y19 p) x xs.1,fun x xs=>(fun l p=>usPut p l) x xs.1⟩
theorem T290_ok:MeetsT Tryz.prog 290 T290:=by
 refine meetsT_of_vc (C:=mkCM 46 [4] [0,1,3,4,5,17,31] [⟨333,_,F333_ok⟩,⟨303,_,F303_ok⟩,⟨248,_,F248_ok⟩] [] [] []) (mkCM_ok _ _ _ _ _ _ _) (fO _) Tryz.func290 rfl rfl rfl (by decide) rfl rfl rfl rfl ?_ rfl
 rintro a0 ⟨a1,_⟩ hwf0 hwf hpre ⟨⟩ hG rfl rfl
 show Vc _ _ [(0,⟨0,0,.c Z33 a0⟩),(1,⟨0,0,.c Z24 a1⟩)] _
 have hs:List.length a0≤2000000000:=hpre.1
 have ha:AscP a0:=hpre.2.1
 have hp:Sm big20 Y19 a1:=hpre.2.2
 refine Vm hG rfl (Vm hG rfl (Vq (Vb ?_)))
 refine Vc.loopF [(5,false,.pure (.int .i64))] [0,1,3,4,31] (fun v=>tkInv (fun(y:Piece)=>pbF y a1) a0 v.1) (fun v=>((List.length a0:Int)-v.1).toNat) rfl ?_ ?_
 · exact tkStart
 rintro⟨(i:Int),_⟩ hI
 have hI:tkInv (fun(y:Piece)=>pbF y a1) a0 i:=hI
 refine Vq (Vq ?_)
 refine VrD mixed hG rfl (by kernel_rfl) ?_ ?_
 · exact⟨fun h=>tkRange hI (oTr h),fun _=>trivial⟩
 refine Vk rfl ?_ ?_<;>intro h0
 · have g0:pick2 (decide (i<(List.length a0:Int))) (pbF (List.getD a0 i.toNat (dflt Y19)) a1) false=true:=h0
   refine Vs (Vb (Vn hG rfl ?_))
   refine⟨rfl,?_⟩
   exact tkStepW (p:=(fun(y:Piece)=>pbF y a1)) hI hs g0
 · have g0:pick2 (decide (i<(List.length a0:Int))) (pbF (List.getD a0 i.toNat (dflt Y19)) a1) false=false:=h0
   have hk:=tkEnd (p:=(fun(y:Piece)=>pbF y a1)) hI g0
   refine Vx (Vq (Vq ?_))
   refine VrD mixed hG rfl (by kernel_rfl) ?_ ?_
   · exact⟨fun h=>tkRange hI (oTr h),fun _=>trivial⟩
   refine Vk rfl ?_ ?_<;>intro h1
   · have g1:pick2 (decide (i<(List.length a0:Int))) (eqC (List.getD a0 i.toNat (dflt Y19)) a1) false=true:=h1
     refine Vm hG rfl (Vt ?_)
     refine⟨?_,trivial⟩
     exact putYes hI.1 g1
   · have g1:pick2 (decide (i<(List.length a0:Int))) (eqC (List.getD a0 i.toNat (dflt Y19)) a1) false=false:=h1
     refine Vs (Vq ?_)
     refine VrD mixed hG rfl (by kernel_rfl) ?_ ?_
     · exact insConds2W hI hs hp
     refine Vt ?_
     refine⟨?_,trivial⟩
     exact(putEq hI hk).trans (putNo ha hk hI.1 g1).symm
noncomputable def F212:Fun:=⟨[.pair Y36 Y57,.pair Y67 Y39,.slice (.slice (.int .i64))],[.own Z31],fun x=>(fun(_:Frame) (e:Evidence) (_:List (List Int))=>Sm big20 Y67 e.1∧((cellsC Y67 e.1:Nat):Int)≤2000000000) x.1 x.2.1 x.2.2.1,fun x=>(usablePiecesF x.1 x.2.1 x.2.2.1,())⟩
theorem F212_ok:Meets Tryz.prog 212 F212:=by
 refine mZ (C:=mkCM 48 [6] [0,1,2,3,4,6,7,8,9,10,16,27,43] [⟨289,_,F289_ok⟩] [] [⟨290,_,T290_ok⟩] []) (mkCM_ok _ _ _ _ _ _ _) (fO _) Tryz.func212 rfl rfl rfl (by decide) rfl ?_
 rintro⟨a0,a1,a2,_⟩ hwf hpre ⟨⟩ hG rfl rfl
 show Vc _ _ [(0,⟨0,0,.c Z68 a0⟩),(1,⟨0,0,.c Z73 a1⟩),(2,⟨0,0,.c Z8 a2⟩)] _
 have hS:Sm big20 Y67 a1.1:=hpre.1
 have hc:((cellsC Y67 a1.1:Nat):Int)≤2000000000:=hpre.2
 have hb:List.length a1.1≤bigLen:=hwf.2.1.1.1
 refine Vm hG rfl (Vm hG rfl (Vq (Vm hG rfl ?_)))
 refine Vb ?_
 refine Vc.loopF [(7,false,.own Z31),(8,false,.pure (.int .i64))] [0,1,2,3,4,6] (fun v=>uoInv a0 a1 a2 v.1 v.2.1) (fun v=>((List.length a1.1:Int)-v.2.1).toNat) rfl ?_ ?_
 · exact uoStart
 rintro⟨out,(i:Int),_⟩ hI
 have hI:uoInv a0 a1 a2 out i:=hI
 refine Vq (Vm hG rfl ?_)
 refine Vk rfl ?_ ?_<;>intro h0
 · have hl:i<(List.length a1.1:Int):=oTr h0
   have ri:=uoRange hI hl
   have sS:=usStrand hS ri
   have hbk:List.length (List.getD a1.1 i.toNat (dflt Y64)).1≤bigLen:=Nat.le_trans sS.1.1 (by decide)
   refine Vs (Vq (Vb (Vm hG rfl ?_)))
   refine Vb ?_
   refine Vc.loopF [(7,false,.own Z31),(9,false,.pure (.int .i64))] [0,1,2,3,4,6,8,16] (fun v=>uiInv a0 a1 a2 i v.1 v.2.1) (fun v=>((List.length (List.getD a1.1 i.toNat (dflt Y64)).1:Int)-v.2.1).toNat) rfl ?_ ?_
   · exact uiStart hI
   rintro⟨out2,(k:Int),_⟩ hK
   have hK:uiInv a0 a1 a2 i out2 k:=hK
   refine Vq (Vq ?_)
   refine Vr hG rfl ?_ ?_
   · exact ri
   refine Vk rfl ?_ ?_<;>intro h1
   · have hm:k<(List.length (List.getD a1.1 i.toNat (dflt Y64)).1:Int):=oTr h1
     have rk:=uiRange hK hm
     have ho:=uiLen ri hK hc
     have hE:Sm big20 Y19 (List.getD (List.getD a1.1 i.toNat (dflt Y64)).1 k.toNat (dflt Y19)):=sS.1.2 _ (getD_mem rk _)
     refine Vs (Vq (Vb (Vq ?_)))
     refine Vr hG rfl ?_ ?_
     · exact⟨ri,rk⟩
     refine Vq ?_
     refine Vr hG rfl ?_ ?_
     · exact hS
     refine Vk rfl ?_ ?_<;>intro h2
     · have g2:usableF a0 a1 a2 (List.getD (List.getD a1.1 i.toNat (dflt Y64)).1 k.toNat (dflt Y19))=true:=h2
       have st:=uiStep hK hm hbk (usYes g2)
       refine Vr hG rfl ?_ ?_
       · exact⟨ho,uiAsc hK,hE⟩
       refine Vn hG rfl ?_
       refine⟨rfl,?_⟩
       exact st
     · have g2:usableF a0 a1 a2 (List.getD (List.getD a1.1 i.toNat (dflt Y64)).1 k.toNat (dflt Y19))=false:=h2
       have st:=uiStep hK hm hbk (usNo (out:=out2) g2)
       refine Vs (Vn hG rfl ?_)
       refine⟨rfl,?_⟩
       exact st
   · have hm:¬k<(List.length (List.getD a1.1 i.toNat (dflt Y64)).1:Int):=oFa h1
     refine Vx (Vn hG rfl ?_)
     refine⟨rfl,?_⟩
     exact uoStep hI hl hb hK hm
 · have hl:¬i<(List.length a1.1:Int):=oFa h0
   refine Vx (Vm hG rfl (Vt ?_))
   refine⟨?_,trivial⟩
   exact uoEnd hI hl
noncomputable def F292:Fun:=⟨[.slice Y34,.pair (.int .i64) Y40],[.pure (.bool)],fun _=>True,fun x=>(checkCertF x.1 x.2.1,())⟩
theorem F292_ok:Meets Tryz.prog 292 F292:=by
 refine mZ (C:=mkC 26 [4] [0,1,3,4] [⟨335,_,F335_ok⟩,⟨324,_,F324_ok⟩,⟨330,_,F330_ok⟩,⟨242,_,F242_ok⟩]) (mO _ _ _ _) (fO _) Tryz.func292 rfl rfl rfl (by decide) rfl ?_
 rintro⟨a0,a1,_⟩ hwf hpre ⟨⟩ hG rfl rfl
 show Vc _ _ [(0,⟨0,0,.c Z38 a0⟩),(1,⟨0,0,.c Z48 a1⟩)] _
 refine Vm hG rfl (Vq ?_)
 refine VrD mixed hG rfl (by kernel_rfl) ?_ ?_
 · exact⟨trivial,fun _=>trivial,fun _=>smallLit (n:=7) rfl (by decide),fun _=>trivial⟩
 refine Vt ?_
 refine⟨?_,trivial⟩
 all_goals exact rfl
noncomputable def F213:Fun:=⟨[.pair Y36 Y57,.slice Y19,.pair (.int .i64) Y50],[.pure Y47,.pure (.bool)],fun _=>True,fun x=>(((fun a0 a1 a2=>certForF a0.1 a1 a2) x.1 x.2.1 x.2.2.1).1,((fun a0 a1 a2=>certForF a0.1 a1 a2) x.1 x.2.1 x.2.2.1).2,())⟩
theorem F213_ok:Meets Tryz.prog 213 F213:=by
 refine mZ (C:=mkC 56 [6,7] [0,1,2,3,5,6,7,8,9,10,11,12,17,48,53] [⟨291,_,F291_ok⟩,⟨292,_,F292_ok⟩]) (mO _ _ _ _) (fO _) Tryz.func213 rfl rfl rfl (by decide) rfl ?_
 rintro⟨a0,a1,a2,_⟩ hwf hpre ⟨⟩ hG rfl rfl
 show Vc _ _ [(0,⟨0,0,.c Z68 a0⟩),(1,⟨0,0,.c Z28 a1⟩),(2,⟨0,0,.c Z54 a2⟩)] _
 have hb:List.length a1≤bigLen:=hwf.2.1.1
 refine Vm hG rfl (Vm hG rfl (Vm hG rfl (Vq ?_)))
 refine Vm hG rfl (Vb ?_)
 refine Vc.loopF [(8,true,.pure Y47),(9,false,.pure (.int .i64)),(10,false,.pure (.int .i64))] [0,1,2,3,5,6,7,53] (fun v=>cfInv a0.1 a2 a1 v.1 v.2.1 v.2.2.1) (fun v=>((List.length a1:Int)-v.2.2.1).toNat) rfl ?_ ?_
 · exact cfStart
 rintro⟨c,(n:Int),(i:Int),_⟩ hI
 have hI:cfInv a0.1 a2 a1 c n i:=hI
 refine Vq (Vm hG rfl ?_)
 refine Vk rfl ?_ ?_<;>intro h0
 · have hl:i<(List.length a1:Int):=oTr h0
   refine Vs (Vq (Vb (Vq ?_)))
   refine Vr hG rfl ?_ ?_
   · exact⟨cfRange hI hl,trivial⟩
   refine Vq ?_
   refine Vr hG rfl ?_ ?_
   · repeat' (first | exact trivial | refine And.intro ?_ ?_ | intro _)
   refine Vk rfl ?_ ?_<;>intro h1
   · have g1:cfTest a0.1 a2 (List.getD a1 i.toNat (dflt Y19))=true:=h1
     refine Vm hG rfl (Vn hG rfl (Vn hG rfl ?_))
     refine⟨rfl,?_⟩
     first | exact cfGo1 hI hl hb g1 | exact cfGo0 hI hl hb g1
   · have g1:cfTest a0.1 a2 (List.getD a1 i.toNat (dflt Y19))=false:=h1
     refine Vs (Vn hG rfl ?_)
     refine⟨rfl,?_⟩
     first | exact cfGo1 hI hl hb g1 | exact cfGo0 hI hl hb g1
 · have hl:¬i<(List.length a1:Int):=oFa h0
   refine Vx (Vq (Vm hG rfl ?_))
   refine Vk rfl ?_ ?_<;>intro h2
   · have g2:(n != 1)=true:=h2
     refine Vm hG rfl (Vt ?_)
     have e:=cfEnd0 hI hl g2
     refine⟨?_,?_,trivial⟩
     · exact(congrArg Prod.fst e).symm
     · exact(congrArg Prod.snd e).symm
   · have g2:(n != 1)=false:=h2
     refine Vs (Vm hG rfl (Vt ?_))
     have e:=cfEnd1 hI hl g2
     refine⟨?_,?_,trivial⟩
     · exact(congrArg Prod.fst e).symm
     · exact(congrArg Prod.snd e).symm
noncomputable def F337:Fun:=⟨[.slice Y19,.pair (.int .i64) Y10],[.pure (.bool)],fun _=>True,fun x=>(hasF x.1 x.2.1,())⟩
theorem F337_ok:Meets Tryz.prog 337 F337:=by
 refine mZ (C:=mkC 18 [4] [0,1,3,4,5,9,17] [⟨303,_,F303_ok⟩]) (mO _ _ _ _) (fO _) Tryz.func337 rfl rfl rfl (by decide) rfl ?_
 rintro⟨a0,a1,_⟩ hwf hpre ⟨⟩ hG rfl rfl
 show Vc _ _ [(0,⟨0,0,.c Z28 a0⟩),(1,⟨0,0,.c Z24 a1⟩)] _
 have hb:List.length a0≤bigLen:=hwf.1.1
 refine Vm hG rfl (Vq (Vm hG rfl (Vb ?_)))
 refine Vc.loopF [(5,false,.pure (.int .i64))] [0,1,3] (fun v=>fInv (fun x=>eqC x a1) a0 v.1) (fun v=>((List.length a0:Int)-v.1).toNat) rfl ?_ ?_
 · exact fStart
 rintro⟨(i:Int),_⟩ hI
 have hI:fInv (fun x=>eqC x a1) a0 i:=hI
 refine Vq (Vm hG rfl ?_)
 refine Vk rfl ?_ ?_<;>intro h0
 · have hl:i<(List.length a0:Int):=oTr h0
   refine Vs (Vq (Vb (Vq ?_)))
   refine VrD mixed hG rfl (by kernel_rfl) ?_ ?_
   · exact⟨fRange hI hl,trivial⟩
   refine Vk rfl ?_ ?_<;>intro h1
   · have g1:(fun x=>eqC x a1) (List.getD a0 i.toNat (dflt Y19))=true:=h1
     refine Vm hG rfl (Vt ?_)
     refine⟨?_,trivial⟩
     exact hasYes hI hl g1
   · have g1:(fun x=>eqC x a1) (List.getD a0 i.toNat (dflt Y19))=false:=h1
     refine Vs (Vn hG rfl ?_)
     refine⟨rfl,?_⟩
     exact fStep hI hl hb g1
 · have hl:¬i<(List.length a0:Int):=oFa h0
   refine Vx (Vm hG rfl (Vt ?_))
   refine⟨?_,trivial⟩
   exact hasNo hI hl
noncomputable def F293:Fun:=⟨[.pair Y36 Y57,.slice Y19,.slice Y34],[.pure (.int .i64),.pure (.bool)],fun x=>(fun(_:Frame) (_:List Piece) (l:List Stamp)=>List.length l≤1048576) x.1 x.2.1 x.2.2.1,fun x=>((l23F x.1 x.2.1 x.2.2.1).1,(l23F x.1 x.2.1 x.2.2.1).2,())⟩
theorem F293_ok:Meets Tryz.prog 293 F293:=by
 refine mZ (C:=mkC 82 [6,7] [0,1,2,3,6,7,8,9,10,11,12,13,18,67] [⟨336,_,F336_ok⟩,⟨274,_,F274_ok⟩,⟨240,_,F240_ok⟩,⟨337,_,F337_ok⟩,⟨338,_,F338_ok⟩]) (mO _ _ _ _) (fO _) Tryz.func293 rfl rfl rfl (by decide) rfl ?_
 rintro⟨a0,a1,a2,_⟩ hwf hpre ⟨⟩ hG rfl rfl
 show Vc _ _ [(0,⟨0,0,.c Z68 a0⟩),(1,⟨0,0,.c Z28 a1⟩),(2,⟨0,0,.c Z38 a2⟩)] _
 have hs:List.length a2≤1048576:=hpre
 have hb:List.length a2≤bigLen:=hwf.2.2.1.1
 refine Vm hG rfl (Vm hG rfl (Vq (Vm hG rfl ?_)))
 refine Vb ?_
 refine Vc.loopF [(8,false,.own Z9),(9,false,.pure (.int .i64))] [0,1,2,3,12,13] (fun v=>l23Inv a0 a1 a2 v.1 v.2.1) (fun v=>((List.length a2:Int)-v.2.1).toNat) rfl ?_ ?_
 · exact l23Start
 rintro⟨acc,(i:Int),_⟩ hI
 have hI:l23Inv a0 a1 a2 acc i:=hI
 have hA:List.length acc≤1048576:=Nat.le_trans (rsLen hI.1) hs
 have h0i:0≤i:=by obtain⟨n,_,e⟩:=hI.1.1;omega
 refine Vq (Vm hG rfl ?_)
 refine Vk rfl ?_ ?_<;>intro h0
 · have hl:i<(List.length a2:Int):=oTr h0
   refine Vs (Vq (Vb (Vq ?_)))
   refine VrD mixed hG rfl (by kernel_rfl) ?_ ?_
   · exact⟨rsRange hI.1 hl,trivial⟩
   refine Vq (Vq ?_)
   refine VrD mixed hG rfl (by kernel_rfl) ?_ ?_
   · repeat' (first | exact trivial | exact rsRange hI.1 hl | (intro h2;exact prevIdx (rsRange hI.1 hl) (oTr h2) hb) | refine And.intro ?_ ?_ | intro _)
   refine Vk rfl ?_ ?_<;>intro h1
   · have g1:l23Bad a0 a1 a2 i=true:=h1
     refine Vm hG rfl (Vt ?_)
     have e:=l23Stop hI hl hb g1
     refine⟨?_,?_,trivial⟩
     · exact congrArg (fun(q:Int×Bool)=>q.1) e
     · exact congrArg (fun(q:Int×Bool)=>q.2) e
   · have g1:l23Bad a0 a1 a2 i=false:=h1
     refine Vs ?_
     refine Vr hG rfl ?_ ?_
     · exact(show List.length acc+1≤maxApp from by unfold maxApp;omega)
     refine Vn hG rfl ?_
     refine⟨rfl,?_⟩
     exact l23Step hI hl hb ((l23_iff h0i hl hb).1 g1)
 · have hl:¬i<(List.length a2:Int):=oFa h0
   refine Vx (Vm hG rfl (Vm hG rfl (Vt ?_)))
   have e:=l23End hI hl
   refine⟨?_,?_,trivial⟩
   · exact congrArg (fun(q:Int×Bool)=>q.1) e
   · exact congrArg (fun(q:Int×Bool)=>q.2) e
noncomputable def F214:Fun:=⟨[.pair Y36 Y57,.pair Y67 Y39,.slice Y19,.pair (.int .i64) Y50],[.pure (.int .i64)],fun x=>(fun(_:Frame) (e:Evidence) (_:List Piece) (_:Sig)=>Sm big20 (.slice (.slice TStamp)) e.2) x.1 x.2.1 x.2.2.1 x.2.2.2.1,fun x=>(freshG x.1 x.2.1 x.2.2.1 x.2.2.2.1,())⟩
set_option maxHeartbeats 2000000 in
theorem F214_ok:Meets Tryz.prog 214 F214:=by
 refine mZ (C:=mkC 66 [8] [0,1,2,3,4,5,7,8,9,10,11,12,13,20,36,49,61] [⟨209,_,F209_ok⟩,⟨238,_,F238_ok⟩,⟨293,_,F293_ok⟩,⟨294,_,F294_ok⟩]) (mO _ _ _ _) (fO _) Tryz.func214 rfl rfl rfl (by decide) rfl ?_
 rintro⟨a0,a1,a2,a3,_⟩ hwf hpre ⟨⟩ hG rfl rfl
 show Vc _ _ [(0,⟨0,0,.c Z68 a0⟩),(1,⟨0,0,.c Z73 a1⟩),(2,⟨0,0,.c Z28 a2⟩),(3,⟨0,0,.c Z54 a3⟩)] _
 have hp:List.length a1.2≤big20∧∀ l∈a1.2,Sm big20 (.slice TStamp) l:=hpre
 have hb:List.length a1.2≤bigLen:=hwf.2.1.2.1
 refine Vm hG rfl (Vm hG rfl (Vm hG rfl (Vq ?_)))
 refine Vm hG rfl ?_
 refine Vk rfl ?_ ?_<;>intro h0
 · have g0:keyI a0.1 a3.1≥0:=oTr h0
   have eb:=born1 g0
   refine Vr hG rfl ?_ ?_
   · exact findRange (show ¬keyI a0.1 a3.1<0 from by omega)
   refine Vq (Vm hG rfl (Vb ?_))
   refine Vc.loopF [(9,false,.pure (.int .i64)),(11,false,.pure (.int .i64))] [0,1,2,3,4,5,7,8,10,20] (fun v=>foInv (frG a0 a2 a3) (bornF a0 a3) a1.2 v.1 v.2.1) (fun v=>((List.length a1.2:Int)-v.2.1).toNat) rfl ?_ ?_
   · exact frStart eb
   rintro⟨(t:Int),(i:Int),_⟩ hI
   have hI:foInv (frG a0 a2 a3) (bornF a0 a3) a1.2 t i:=hI
   refine Vq (Vm hG rfl ?_)
   refine Vk rfl ?_ ?_<;>intro h1
   · have hl:i<(List.length a1.2:Int):=oTr (andT h1).1
     have ga:(a3.2.2.2.2.2.2.2.1 != 0)=true:=(andT h1).2
     have r1:=foRange hI hl
     have hE:List.length (List.getD a1.2 i.toNat (dflt (.slice TStamp)))≤1048576:=(hp.2 _ (getD_mem r1 _)).1
     have hbk:List.length (List.getD a1.2 i.toNat (dflt (.slice TStamp)))≤bigLen:=Nat.le_trans hE (by decide)
     refine Vs (Vq (Vb (Vq ?_)))
     refine Vq ?_
     refine VrD mixed hG rfl (by kernel_rfl) ?_ ?_
     · exact⟨r1,hE⟩
     refine Vk rfl ?_ ?_<;>intro h2
     · have g1:(stampsDgF a3.2.2.1 (List.getD a1.2 i.toNat (dflt (.slice TStamp))) != a3.2.2.2.2.2.2.2.1)=true:=h2
       have st:=foStepE (d:=dflt (.slice TStamp)) hI hl hb (frNo1 g1)
       refine Vx (Vn hG rfl ?_)
       refine⟨rfl,?_⟩
       exact st
     · have g1:(stampsDgF a3.2.2.1 (List.getD a1.2 i.toNat (dflt (.slice TStamp))) != a3.2.2.2.2.2.2.2.1)=false:=h2
       refine Vs (Vq ?_)
       refine VrD mixed hG rfl (by kernel_rfl) ?_ ?_
       · exact⟨r1,hE⟩
       refine Vm hG rfl ?_
       refine Vk rfl ?_ ?_<;>intro h3
       · have g2:(l23F a0 a2 (List.getD a1.2 i.toNat (dflt (.slice TStamp)))).2=true:=h3
         have st:=foStepE (d:=dflt (.slice TStamp)) hI hl hb (frYes ga g1 g2)
         refine Vn hG rfl (Vn hG rfl ?_)
         refine⟨rfl,?_⟩
         exact st
       · have g2:(l23F a0 a2 (List.getD a1.2 i.toNat (dflt (.slice TStamp)))).2=false:=h3
         have st:=foStepE (d:=dflt (.slice TStamp)) hI hl hb (frNo2 (t:=t) g2)
         refine Vs (Vn hG rfl ?_)
         refine⟨rfl,?_⟩
         exact st
   · have gz:=h1
     refine Vx (Vm hG rfl (Vt ?_))
     refine⟨?_,trivial⟩
     exact frEnd hI gz
 · have g0:¬keyI a0.1 a3.1≥0:=oFa h0
   have eb:=born0 g0
   refine Vs (Vq (Vm hG rfl (Vb ?_)))
   refine Vc.loopF [(9,false,.pure (.int .i64)),(11,false,.pure (.int .i64))] [0,1,2,3,4,5,7,8,10,20] (fun v=>foInv (frG a0 a2 a3) (bornF a0 a3) a1.2 v.1 v.2.1) (fun v=>((List.length a1.2:Int)-v.2.1).toNat) rfl ?_ ?_
   · exact frStart eb
   rintro⟨(t:Int),(i:Int),_⟩ hI
   have hI:foInv (frG a0 a2 a3) (bornF a0 a3) a1.2 t i:=hI
   refine Vq (Vm hG rfl ?_)
   refine Vk rfl ?_ ?_<;>intro h4
   · have hl:i<(List.length a1.2:Int):=oTr (andT h4).1
     have ga:(a3.2.2.2.2.2.2.2.1 != 0)=true:=(andT h4).2
     have r1:=foRange hI hl
     have hE:List.length (List.getD a1.2 i.toNat (dflt (.slice TStamp)))≤1048576:=(hp.2 _ (getD_mem r1 _)).1
     have hbk:List.length (List.getD a1.2 i.toNat (dflt (.slice TStamp)))≤bigLen:=Nat.le_trans hE (by decide)
     refine Vs (Vq (Vb (Vq ?_)))
     refine Vq ?_
     refine VrD mixed hG rfl (by kernel_rfl) ?_ ?_
     · exact⟨r1,hE⟩
     refine Vk rfl ?_ ?_<;>intro h5
     · have g1:(stampsDgF a3.2.2.1 (List.getD a1.2 i.toNat (dflt (.slice TStamp))) != a3.2.2.2.2.2.2.2.1)=true:=h5
       have st:=foStepE (d:=dflt (.slice TStamp)) hI hl hb (frNo1 g1)
       refine Vx (Vn hG rfl ?_)
       refine⟨rfl,?_⟩
       exact st
     · have g1:(stampsDgF a3.2.2.1 (List.getD a1.2 i.toNat (dflt (.slice TStamp))) != a3.2.2.2.2.2.2.2.1)=false:=h5
       refine Vs (Vq ?_)
       refine VrD mixed hG rfl (by kernel_rfl) ?_ ?_
       · exact⟨r1,hE⟩
       refine Vm hG rfl ?_
       refine Vk rfl ?_ ?_<;>intro h6
       · have g2:(l23F a0 a2 (List.getD a1.2 i.toNat (dflt (.slice TStamp)))).2=true:=h6
         have st:=foStepE (d:=dflt (.slice TStamp)) hI hl hb (frYes ga g1 g2)
         refine Vn hG rfl (Vn hG rfl ?_)
         refine⟨rfl,?_⟩
         exact st
       · have g2:(l23F a0 a2 (List.getD a1.2 i.toNat (dflt (.slice TStamp)))).2=false:=h6
         have st:=foStepE (d:=dflt (.slice TStamp)) hI hl hb (frNo2 (t:=t) g2)
         refine Vs (Vn hG rfl ?_)
         refine⟨rfl,?_⟩
         exact st
   · have gz:=h4
     refine Vx (Vm hG rfl (Vt ?_))
     refine⟨?_,trivial⟩
     exact frEnd hI gz
noncomputable def F215:Fun:=⟨[.slice Y19,.pair (.int .i64) Y40],[.own Z35],fun x=>(fun a0 _=>List.length a0≤2000000000) x.1 x.2.1,fun x=>(statusesF x.1 x.2.1,())⟩
theorem F215_ok:Meets Tryz.prog 215 F215:=by
 refine mZ (C:=mkC 44 [4] [0,1,3,4,5,6,7,8,13,38] [⟨295,_,F295_ok⟩]) (mO _ _ _ _) (fO _) Tryz.func215 rfl rfl rfl (by decide) rfl ?_
 rintro⟨a0,a1,_⟩ hwf hpre ⟨⟩ hG rfl rfl
 show Vc _ _ [(0,⟨0,0,.c Z28 a0⟩),(1,⟨0,0,.c Z48 a1⟩)] _
 have hb:List.length a0≤bigLen:=hwf.1.1
 have hs:List.length a0≤2000000000:=hpre
 refine Vm hG rfl (Vm hG rfl (Vq (Vm hG rfl ?_)))
 refine Vb ?_
 refine Vc.loopF [(5,false,.own Z35),(6,false,.pure (.int .i64))] [0,1,3,4] (fun v=>pkInv (statFor a1) a0 v.1 v.2.1) (fun v=>((List.length a0:Int)-v.2.1).toNat) rfl ?_ ?_
 · exact pkStart
 rintro⟨acc,(i:Int),_⟩ hI
 have hI:pkInv (statFor a1) a0 acc i:=hI
 refine Vq (Vm hG rfl ?_)
 refine Vk rfl ?_ ?_<;>intro h0
 · have hl:i<(List.length a0:Int):=oTr h0
   refine Vs (Vq (Vb (Vq ?_)))
   refine Vr hG rfl ?_ ?_
   · exact⟨pkRange hI hl,trivial⟩
   refine Vm hG rfl ?_
   refine Vk rfl ?_ ?_<;>intro h1
   · have g1:((statFor a1) (List.getD a0 i.toNat (dflt Y19))).2=true:=h1
     refine Vr hG rfl ?_ ?_
     · exact pkLenW hI hs
     refine Vn hG rfl ?_
     refine⟨rfl,?_⟩
     first
       | exact pkYes (d:=dflt Y19) hI hl hb g1
       | exact pkNo (d:=dflt Y19) hI hl hb g1
   · have g1:((statFor a1) (List.getD a0 i.toNat (dflt Y19))).2=false:=h1
     refine Vs (Vn hG rfl ?_)
     refine⟨rfl,?_⟩
     first
       | exact pkYes (d:=dflt Y19) hI hl hb g1
       | exact pkNo (d:=dflt Y19) hI hl hb g1
 · have hl:¬i<(List.length a0:Int):=oFa h0
   refine Vx (Vm hG rfl (Vt ?_))
   refine⟨?_,trivial⟩
   exact pkEnd hI hl
noncomputable def T341:TFun:=⟨.own Z9,[.int .i64,.int .i64],.own Z9,fun x xs=>(fun(l:List Span) (_ _:Int)=>List.length l≤1000) x xs.1 xs.2.1,fun x xs=>bPut x xs.1 xs.2.1⟩
theorem T341_ok:MeetsT Tryz.prog 341 T341:=by
 refine meetsT_of_vc (C:=mkCM 22 [6] [0,1,2,6,7,8,16] [⟨344,_,F344_ok⟩] [] [] []) (mkCM_ok _ _ _ _ _ _ _) (fO _) Tryz.func341 rfl rfl rfl (by decide) rfl rfl rfl rfl ?_ rfl
 rintro a0 ⟨(a1:Int),(a2:Int),_⟩ hwf0 hwf hpre ⟨⟩ hG rfl rfl
 show Vc _ _ [(0,⟨0,0,.c (.own Z9) a0⟩),(1,⟨0,0,.c (.pure (.int .i64)) a1⟩),(2,⟨0,0,.c (.pure (.int .i64)) a2⟩)] _
 have hs:List.length a0≤1000:=hpre
 refine Vm hG rfl (Vm hG rfl (Vq (Vm hG rfl ?_)))
 refine Vk rfl ?_ ?_<;>intro h0
 · refine Vm hG rfl (Vt ?_)
   refine⟨?_,trivial⟩
   exact bpN (notT' h0)
 · refine Vs (Vq ?_)
   refine Vr hG rfl ?_ ?_
   · exact bpApp hs
   refine Vt ?_
   refine⟨?_,trivial⟩
   exact bpY (notF h0)
noncomputable def F342:Fun:=⟨[.slice Y34,.int .i64],[.pure (.int .i64)],fun _=>True,fun x=>(badFromF x.1 x.2.1,())⟩
theorem F342_ok:Meets Tryz.prog 342 F342:=by
 refine mZ (C:=mkC 47 [4] [0,1,4,5,6,7,11,20,26,42] [⟨294,_,F294_ok⟩]) (mO _ _ _ _) (fO _) Tryz.func342 rfl rfl rfl (by decide) rfl ?_
 rintro⟨a0,(a1:Int),_⟩ hwf hpre ⟨⟩ hG rfl rfl
 show Vc _ _ [(0,⟨0,0,.c Z38 a0⟩),(1,⟨0,0,.c (.pure (.int .i64)) a1⟩)] _
 have hb:List.length a0≤bigLen:=hwf.1.1
 refine Vm hG rfl (Vm hG rfl (Vm hG rfl (Vq ?_)))
 refine Vm hG rfl (Vb ?_)
 refine Vc.loopF [(5,false,.pure (.int .i64)),(6,false,.pure (.int .i64)),(7,false,.pure (.int .i64))] [0,1,4,42] (fun v=>foInv (msS a1) (-1) a0 v.1 v.2.2.1∧foInv (gsS a1) (-1) a0 v.2.1 v.2.2.1) (fun v=>((List.length a0:Int)-v.2.2.1).toNat) rfl ?_ ?_
 · exact⟨foStart,foStart⟩
 rintro⟨(x:Int),(y:Int),(i:Int),_⟩ hI
 have hI:foInv (msS a1) (-1) a0 x i∧foInv (gsS a1) (-1) a0 y i:=hI
 refine Vq (Vm hG rfl ?_)
 refine Vk rfl ?_ ?_<;>intro h0
 · have hl:i<(List.length a0:Int):=oTr h0
   refine Vs (Vq (Vb (Vq ?_)))
   refine Vq ?_
   refine Vr hG rfl ?_ ?_
   · exact foRange hI.1 hl
   refine Vk rfl ?_ ?_<;>intro h1
   · have g1:((List.getD a0 i.toNat (dflt Y34)).1 != a1)=true:=h1
     have st:=fo2 (d:=dflt Y34) hI hl hb (msN1 g1) (gsN1 g1)
     refine Vx (Vn hG rfl ?_)
     refine⟨rfl,?_⟩
     exact st
   · have g1:((List.getD a0 i.toNat (dflt Y34)).1 != a1)=false:=h1
     refine Vs (Vq ?_)
     refine Vr hG rfl ?_ ?_
     · exact foRange hI.1 hl
     refine Vk rfl ?_ ?_<;>intro h2
     · have g2:¬(List.getD a0 i.toNat (dflt Y34)).2.2.1<0:=Int.not_lt.2 (oTr h2)
       have st:=fo2 (d:=dflt Y34) hI hl hb (msY g1 g2) (gsN2 g2)
       refine Vr hG rfl ?_ ?_
       · exact⟨foRange hI.1 hl,trivial⟩
       refine Vn hG rfl ?_
       refine⟨rfl,?_⟩
       exact st
     · have g2:(List.getD a0 i.toNat (dflt Y34)).2.2.1<0:=Int.not_le.1 (oFa h2)
       have st:=fo2 (d:=dflt Y34) hI hl hb (msN2 g2) (gsY g1 g2)
       refine Vr hG rfl ?_ ?_
       · exact⟨foRange hI.1 hl,trivial⟩
       refine Vn hG rfl ?_
       refine⟨rfl,?_⟩
       exact st
 · have hl:¬i<(List.length a0:Int):=oFa h0
   refine Vx (Vq (Vm hG rfl ?_))
   refine Vk rfl ?_ ?_<;>intro h3
   · refine Vm hG rfl (Vt ?_)
     refine⟨?_,trivial⟩
     exact bfA (foEnd hI.1 hl) h3
   · refine Vs (Vm hG rfl (Vt ?_))
     refine⟨?_,trivial⟩
     exact bfB (foEnd hI.1 hl) (foEnd hI.2 hl) h3
noncomputable def F363:Fun:=⟨[.slice Y5,.pair (.int .i64) (.int .i64)],[.own Z9],fun x=>(fun(l:List Span) (_:Span)=>List.length l≤2000000000) x.1 x.2.1,fun x=>(jPut x.1 x.2.1,())⟩
theorem F363_ok:Meets Tryz.prog 363 F363:=by
 refine mZ (C:=mkC 78 [4] [0,1,3,4,5,6,7,8,13,33,63] [⟨285,_,F285_ok⟩,⟨294,_,F294_ok⟩]) (mO _ _ _ _) (fO _) Tryz.func363 rfl rfl rfl (by decide) rfl ?_
 rintro⟨a0,a1,_⟩ hwf hpre ⟨⟩ hG rfl rfl
 show Vc _ _ [(0,⟨0,0,.c Z14 a0⟩),(1,⟨0,0,.c Z9 a1⟩)] _
 have hs:List.length a0≤2000000000:=hpre
 have hb:List.length a0≤bigLen:=hwf.1.1
 refine Vm hG rfl (Vm hG rfl (Vq (Vm hG rfl ?_)))
 refine Vb ?_
 refine Vc.loopF [(3,true,.pure Y5),(5,false,.own Z9),(6,false,.pure (.int .i64))] [0,1,4,8,63] (fun v=>foInv jG ([],a1) a0 (v.2.1,v.1) v.2.2.1) (fun v=>((List.length a0:Int)-v.2.2.1).toNat) rfl ?_ ?_
 · exact foStart
 rintro⟨s,nx,(j:Int),_⟩ hJ
 have hJ:foInv jG ([],a1) a0 (nx,s) j:=hJ
 have hN:List.length nx≤2000000000:=jLenI hJ hs
 refine Vq (Vm hG rfl ?_)
 refine Vk rfl ?_ ?_<;>intro h0
 · have hm:j<(List.length a0:Int):=oTr h0
   refine Vs (Vq (Vb (Vq ?_)))
   refine Vr hG rfl ?_ ?_
   · exact foRange hJ hm
   refine Vq (Vm hG rfl ?_)
   refine Vk rfl ?_ ?_<;>intro h1
   · have g3:jApart (List.getD a0 j.toNat (dflt Y5)) s=true:=h1
     have st2:=foStepE (d:=dflt Y5) hJ hm hb (jY (n:=nx) g3)
     refine Vq ?_
     refine Vr hG rfl ?_ ?_
     · exact jApp hN
     refine Vx (Vn hG rfl ?_)
     refine⟨rfl,?_⟩
     exact st2
   · have g3:jApart (List.getD a0 j.toNat (dflt Y5)) s=false:=h1
     have st2:=foStepE (d:=dflt Y5) hJ hm hb (jN (n:=nx) g3)
     refine Vs (Vm hG rfl (Vn hG rfl (Vn hG rfl ?_)))
     refine⟨rfl,?_⟩
     exact st2
 · have hm:¬j<(List.length a0:Int):=oFa h0
   refine Vx (Vm hG rfl (Vq (Vb ?_)))
   refine Vc.loopF [(8,false,.pure (.int .i64))] [0,1,3,4,5,6,7,13,33] (fun v=>tkInv (jP s) nx v.1) (fun v=>((List.length nx:Int)-v.1).toNat) rfl ?_ ?_
   · exact tkStart
   rintro⟨(k:Int),_⟩ hQ
   have hQ:tkInv (jP s) nx k:=hQ
   refine Vq (Vq ?_)
   refine VrD mixed hG rfl (by kernel_rfl) ?_ ?_
   · exact fun h=>tkRange hQ (oTr h)
   refine Vk rfl ?_ ?_<;>intro h2
   · have g4:pick2 (decide (k<(List.length nx:Int))) (jP s (List.getD nx k.toNat (dflt Y5))) false=true:=h2
     refine Vs (Vb (Vn hG rfl ?_))
     refine⟨rfl,?_⟩
     exact tkStepW (p:=jP s) hQ hN g4
   · have g4:pick2 (decide (k<(List.length nx:Int))) (jP s (List.getD nx k.toNat (dflt Y5))) false=false:=h2
     have hk:=tkEnd (p:=jP s) hQ g4
     refine Vx (Vq ?_)
     refine VrD mixed hG rfl (by kernel_rfl) ?_ ?_
     · exact jConds hQ hN
     refine Vt ?_
     refine⟨?_,trivial⟩
     exact jDone hJ hm hQ hk
noncomputable def F339:Fun:=⟨[.slice Y5],[.own Z9],fun x=>(fun(l:List Span)=>List.length l≤2000000000) x.1,fun x=>(joinF x.1,())⟩
theorem F339_ok:Meets Tryz.prog 339 F339:=by
 refine mZ (C:=mkC 24 [2] [0,2,3,4,9,16] [⟨299,_,F299_ok⟩,⟨363,_,F363_ok⟩]) (mO _ _ _ _) (fO _) Tryz.func339 rfl rfl rfl (by decide) rfl ?_
 rintro⟨a0,_⟩ hwf hpre ⟨⟩ hG rfl rfl
 show Vc _ _ [(0,⟨0,0,.c Z14 a0⟩)] _
 have hs:List.length a0≤2000000000:=hpre
 have hb:List.length a0≤bigLen:=hwf.1.1
 refine Vm hG rfl (Vm hG rfl (Vq (Vm hG rfl ?_)))
 refine Vb ?_
 refine Vc.loopF [(3,false,.own Z9),(4,false,.pure (.int .i64))] [0,2] (fun v=>foInv joinG [] a0 v.1 v.2.1) (fun v=>((List.length a0:Int)-v.2.1).toNat) rfl ?_ ?_
 · exact foStart
 rintro⟨acc,(i:Int),_⟩ hI
 have hI:foInv joinG [] a0 acc i:=hI
 have hA:List.length acc≤2000000000:=joinLenI hI hs
 refine Vq (Vm hG rfl ?_)
 refine Vk rfl ?_ ?_<;>intro h0
 · have hl:i<(List.length a0:Int):=oTr h0
   refine Vs (Vq (Vb (Vq ?_)))
   refine Vr hG rfl ?_ ?_
   · exact⟨foRange hI hl,trivial⟩
   refine Vk rfl ?_ ?_<;>intro h1
   · have g1:isSpanF (List.getD a0 i.toNat (dflt Y5))=true:=h1
     have st:=foStepE (d:=dflt Y5) hI hl hb (joinY g1)
     refine Vr hG rfl ?_ ?_
     · exact⟨foRange hI hl,hA⟩
     refine Vn hG rfl ?_
     refine⟨rfl,?_⟩
     exact st
   · have g1:isSpanF (List.getD a0 i.toNat (dflt Y5))=false:=h1
     have st:=foStepE (d:=dflt Y5) hI hl hb (joinN g1)
     refine Vs (Vn hG rfl ?_)
     refine⟨rfl,?_⟩
     exact st
 · have hl:¬i<(List.length a0:Int):=oFa h0
   refine Vx (Vm hG rfl (Vt ?_))
   refine⟨?_,trivial⟩
   exact foEnd hI hl
noncomputable def F297:Fun:=⟨[.pair (.int .i64) Y40,.slice Y34],[.own Z9],fun _=>True,fun x=>(badSpansF x.1 x.2.1,())⟩
theorem F297_ok:Meets Tryz.prog 297 F297:=by
 refine mZ (C:=mkCM 30 [4] [0,1,2,4,5,9,17] [⟨342,_,F342_ok⟩,⟨339,_,F339_ok⟩] [] [⟨341,_,T341_ok⟩] []) (mkCM_ok _ _ _ _ _ _ _) (fO _) Tryz.func297 rfl rfl rfl (by decide) rfl ?_
 rintro⟨a0,a1,_⟩ hwf hpre ⟨⟩ hG rfl rfl
 show Vc _ _ [(0,⟨0,0,.c Z48 a0⟩),(1,⟨0,0,.c Z38 a1⟩)] _
 refine Vm hG rfl (Vm hG rfl (Vq (Vm hG rfl ?_)))
 refine Vk rfl ?_ ?_<;>intro h0
 · refine Vr hG rfl ?_ ?_
   · exact Nat.zero_le _
   refine Vq (Vm hG rfl ?_)
   refine Vk rfl ?_ ?_<;>intro h1
   · refine Vr hG rfl ?_ ?_
     · first
         | exact bp1
         | exact Nat.zero_le _
     refine Vq ?_
     refine Vr hG rfl ?_ ?_
     · exact⟨trivial,(by first | exact bp2 | exact bp1 | exact Nat.zero_le _),(Nat.le_trans (by first | exact bp3 | exact bp2 | exact bp1) (show 1000≤2000000000 by decide))⟩
     refine Vt ?_
     refine⟨?_,trivial⟩
     exact bdYY h0 h1
   · refine Vs (Vq ?_)
     refine Vr hG rfl ?_ ?_
     · exact⟨trivial,(by first | exact bp2 | exact bp1 | exact Nat.zero_le _),(Nat.le_trans (by first | exact bp3 | exact bp2 | exact bp1) (show 1000≤2000000000 by decide))⟩
     refine Vt ?_
     refine⟨?_,trivial⟩
     exact bdYN h0 h1
 · refine Vs (Vq (Vm hG rfl ?_))
   refine Vk rfl ?_ ?_<;>intro h2
   · refine Vr hG rfl ?_ ?_
     · first
         | exact bp1
         | exact Nat.zero_le _
     refine Vq ?_
     refine Vr hG rfl ?_ ?_
     · exact⟨trivial,(by first | exact bp2 | exact bp1 | exact Nat.zero_le _),(Nat.le_trans (by first | exact bp3 | exact bp2 | exact bp1) (show 1000≤2000000000 by decide))⟩
     refine Vt ?_
     refine⟨?_,trivial⟩
     exact bdNY h0 h2
   · refine Vs (Vq ?_)
     refine Vr hG rfl ?_ ?_
     · exact⟨trivial,(by first | exact bp2 | exact bp1 | exact Nat.zero_le _),(Nat.le_trans (by first | exact bp3 | exact bp2 | exact bp1) (show 1000≤2000000000 by decide))⟩
     refine Vt ?_
     refine⟨?_,trivial⟩
     exact bdNN h0 h2
noncomputable def F340:Fun:=⟨[.pair (.int .i64) (.int .i64),.pair (.int .i64) (.int .i64)],[.pure (.bool)],fun _=>True,fun x=>(isInsideF x.1 x.2.1,())⟩
theorem F340_ok:Meets Tryz.prog 340 F340:=by
 refine mZ (C:=mkC 25 [4] [0,1,2,3,4] [⟨299,_,F299_ok⟩]) (mO _ _ _ _) (fO _) Tryz.func340 rfl rfl rfl (by decide) rfl ?_
 rintro⟨a0,a1,_⟩ hwf hpre ⟨⟩ hG rfl rfl
 show Vc _ _ [(0,⟨0,0,.c Z9 a0⟩),(1,⟨0,0,.c Z9 a1⟩)] _
 refine Vm hG rfl (Vq ?_)
 refine Vr hG rfl ?_ ?_
 · repeat' (first | exact trivial | refine And.intro ?_ ?_ | intro _)
 refine Vt ?_
 refine⟨?_,trivial⟩
 all_goals exact rfl
noncomputable def F296:Fun:=⟨[.slice Y5,.pair (.int .i64) (.int .i64)],[.pure (.bool)],fun x=>(fun(l:List Span) (_:Span)=>List.length l≤2000000000) x.1 x.2.1,fun x=>(coversF x.1 x.2.1,())⟩
theorem F296_ok:Meets Tryz.prog 296 F296:=by
 refine mZ (C:=mkC 21 [4] [0,1,3,4,5,6,12,20] [⟨339,_,F339_ok⟩,⟨340,_,F340_ok⟩]) (mO _ _ _ _) (fO _) Tryz.func296 rfl rfl rfl (by decide) rfl ?_
 rintro⟨a0,a1,_⟩ hwf hpre ⟨⟩ hG rfl rfl
 show Vc _ _ [(0,⟨0,0,.c Z14 a0⟩),(1,⟨0,0,.c Z9 a1⟩)] _
 have hs:List.length a0≤2000000000:=hpre
 have hb:List.length a0≤bigLen:=hwf.1.1
 have hbj:List.length (joinF a0)≤bigLen:=Nat.le_trans (joinLen a0) hb
 refine Vm hG rfl (Vq ?_)
 refine Vr hG rfl ?_ ?_
 · exact hs
 refine Vq (Vm hG rfl (Vb ?_))
 refine Vc.loopF [(6,false,.pure (.int .i64))] [0,1,3,5] (fun v=>fInv (fun x=>isInsideF a1 x) (joinF a0) v.1) (fun v=>((List.length (joinF a0):Int)-v.1).toNat) rfl ?_ ?_
 · exact fStart
 rintro⟨(i:Int),_⟩ hI
 have hI:fInv (fun x=>isInsideF a1 x) (joinF a0) i:=hI
 refine Vq (Vm hG rfl ?_)
 refine Vk rfl ?_ ?_<;>intro h0
 · have hl:i<(List.length (joinF a0):Int):=oTr h0
   refine Vs (Vq (Vb (Vq ?_)))
   refine VrD mixed hG rfl (by kernel_rfl) ?_ ?_
   · exact⟨fRange hI hl,trivial⟩
   refine Vk rfl ?_ ?_<;>intro h1
   · have g1:isInsideF a1 (List.getD (joinF a0) i.toNat (dflt Y5))=true:=h1
     refine Vm hG rfl (Vt ?_)
     refine⟨?_,trivial⟩
     exact cvHit rfl hI hl g1
   · have g1:(fun x=>isInsideF a1 x) (List.getD (joinF a0) i.toNat (dflt Y5))=false:=h1
     refine Vs (Vn hG rfl ?_)
     refine⟨rfl,?_⟩
     exact fStep hI hl hbj g1
 · have hl:¬i<(List.length (joinF a0):Int):=oFa h0
   refine Vx (Vm hG rfl (Vt ?_))
   refine⟨?_,trivial⟩
   exact cvEnd rfl hI hl
noncomputable def F216:Fun:=⟨[.pair (.int .i64) Y40,.slice Y34,.pair (.int .i64) (.int .i64)],[.pure (.bool)],fun _=>True,fun x=>((fun c l s=>coversF (badSpansF c l) s) x.1 x.2.1 x.2.2.1,())⟩
theorem F216_ok:Meets Tryz.prog 216 F216:=by
 refine mZ (C:=mkC 12 [6] [0,1,2,3,5,6] [⟨297,_,F297_ok⟩,⟨296,_,F296_ok⟩]) (mO _ _ _ _) (fO _) Tryz.func216 rfl rfl rfl (by decide) rfl ?_
 rintro⟨a0,a1,a2,_⟩ hwf hpre ⟨⟩ hG rfl rfl
 show Vc _ _ [(0,⟨0,0,.c Z48 a0⟩),(1,⟨0,0,.c Z38 a1⟩),(2,⟨0,0,.c Z9 a2⟩)] _
 refine Vm hG rfl (Vq ?_)
 refine VrD mixed hG rfl (by kernel_rfl) ?_ ?_
 · exact⟨trivial,Nat.le_trans (badLen a0 a1) (by decide)⟩
 refine Vt ?_
 refine⟨?_,trivial⟩
 all_goals exact rfl
end Fw
