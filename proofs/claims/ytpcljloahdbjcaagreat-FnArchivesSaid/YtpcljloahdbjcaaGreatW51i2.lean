/- Walks of functions of the program: what each computes. Conditions: those that each contract names. -/
import Derived.Test.YtpcljloahdbjcaaGreatW51T
import Derived.Test.YtpcljloahdbjcaaGreatW51i0
import Derived.Test.YtpcljloahdbjcaaGreatW51i1
set_option linter.unusedVariables false
namespace Fw
open Go Go.Proofs
set_option linter.unusedSimpArgs false
set_option maxRecDepth 100000
noncomputable def F27:Fun:=⟨[.pair (.int .i64) Y10,.pair (.int .i64) Y10],[.pure (.bool)],fun _=>True,fun x=>(pbF x.1 x.2.1,())⟩
theorem F27_ok:Meets Tryz.prog 27 F27:=by
 refine mZ (C:=mkC 73 [4] [0,1,2,3,4,5,17,30,42,57] []) (mO _ _ _ _) (fO _) Tryz.func27 rfl rfl rfl (by decide) rfl ?_
 rintro⟨a0,a1,_⟩ hwf hpre ⟨⟩ hG rfl rfl
 show Vc _ _ [(0,⟨0,0,.c Z24 a0⟩),(1,⟨0,0,.c Z24 a1⟩)] _
 have hb:List.length a0.2.1≤bigLen:=hwf.1.2.1.1
 refine Vm hG rfl (Vq (Vm hG rfl (Vb ?_)))
 refine Vc.loopF [(5,false,.pure (.int .i64))] [0,1,2,3,42,57] (fun v=>pbInv a0 a1 v.1) (fun v=>((List.length a0.2.1:Int)-v.1).toNat) rfl ?_ ?_
 · exact pbStart
 rintro⟨(i:Int),_⟩ hI
 have hI:pbInv a0 a1 i:=hI
 refine Vq (Vm hG rfl ?_)
 refine Vk rfl ?_ ?_<;>intro h0
 · have hh:=andLt h0
   have hl:=hh.1
   have hm:=hh.2
   refine Vs (Vq (Vb (Vq ?_)))
   refine VrD mixed hG rfl (by kernel_rfl) ?_ ?_
   · exact⟨pbRangeA hI hl,pbRangeB hI hm⟩
   refine Vk rfl ?_ ?_<;>intro h1
   · have g1:=bneT h1
     refine Vq ?_
     refine VrD mixed hG rfl (by kernel_rfl) ?_ ?_
     · exact⟨pbRangeA hI hl,pbRangeB hI hm⟩
     refine Vt ?_
     refine⟨?_,trivial⟩
     exact pbHit hI hl hm g1
   · have g1:=bneI h1
     refine Vs (Vn hG rfl ?_)
     refine⟨rfl,?_⟩
     exact pbStep hI hl hm hb g1
 · have hx:=andGe h0
   refine Vx (Vq (Vb (Vm hG rfl ?_)))
   refine Vk rfl ?_ ?_<;>intro h2
   · refine Vm hG rfl (Vt ?_)
     refine⟨?_,trivial⟩
     exact pbLen hI hx h2
   · refine Vm hG rfl ?_
     refine Vk rfl ?_ ?_<;>intro h3
     · refine Vm hG rfl (Vt ?_)
       refine⟨?_,trivial⟩
       exact pbKey hI hx h2 h3
     · refine Vs (Vm hG rfl (Vt ?_))
       refine⟨?_,trivial⟩
       exact pbMark hI hx h2 h3
noncomputable def F26:Fun:=⟨[.pair Y38 Y55,.pair Y65 Y41,.slice (.slice (.int .i64))],[.own Z32],fun x=>(fun(_:Frame) (e:Evidence) (_:List (List Int))=>Sm big20 Y65 e.1∧((cellsC Y65 e.1:Nat):Int)≤2000000000) x.1 x.2.1 x.2.2.1,fun x=>(usablePiecesF x.1 x.2.1 x.2.2.1,())⟩
theorem F26_ok:Meets Tryz.prog 26 F26:=by
 refine mZ (C:=mkC 79 [6] [0,1,2,3,4,6,7,9,11,12,14,15,16,17,21,22,23,24,48,60] [⟨97,_,F97_ok⟩,⟨28,_,F28_ok⟩,⟨25,_,F25_ok⟩,⟨98,_,F98_ok⟩,⟨27,_,F27_ok⟩,⟨99,_,F99_ok⟩]) (mO _ _ _ _) (fO _) Tryz.func26 rfl rfl rfl (by decide) rfl ?_
 rintro⟨a0,a1,a2,_⟩ hwf hpre ⟨⟩ hG rfl rfl
 show Vc _ _ [(0,⟨0,0,.c Z66 a0⟩),(1,⟨0,0,.c Z69 a1⟩),(2,⟨0,0,.c Z8 a2⟩)] _
 have hS:Sm big20 Y65 a1.1:=hpre.1
 have hc:((cellsC Y65 a1.1:Nat):Int)≤2000000000:=hpre.2
 have hb:List.length a1.1≤bigLen:=hwf.2.1.1.1
 refine Vm hG rfl (Vm hG rfl (Vq (Vm hG rfl ?_)))
 refine Vb ?_
 refine Vc.loopF [(7,false,.own Z32),(16,false,.pure (.int .i64))] [0,1,2,3,4,6,14,15] (fun v=>uoInv a0 a1 a2 v.1 v.2.1) (fun v=>((List.length a1.1:Int)-v.2.1).toNat) rfl ?_ ?_
 · exact uoStart
 rintro⟨out,(i:Int),_⟩ hI
 have hI:uoInv a0 a1 a2 out i:=hI
 refine Vm hG rfl (Vq ?_)
 refine Vk rfl ?_ ?_<;>intro h0
 · have hl:i<(List.length a1.1:Int):=oTr h0
   have ri:=uoRange hI hl
   have sS:=usStrand hS ri
   have hbk:List.length (List.getD a1.1 i.toNat (dflt Y62)).1≤bigLen:=Nat.le_trans sS.1.1 (by decide)
   refine Vs (Vq (Vb (Vq ?_)))
   refine Vr hG rfl ?_ ?_
   · exact ri
   refine Vm hG rfl (Vb ?_)
   refine Vc.loopF [(7,false,.own Z32),(23,false,.pure (.int .i64))] [0,1,2,3,4,6,9,14,15,16,17,21,22] (fun v=>uiInv a0 a1 a2 i v.1 v.2.1) (fun v=>((List.length (List.getD a1.1 i.toNat (dflt Y62)).1:Int)-v.2.1).toNat) rfl ?_ ?_
   · exact uiStart hI
   rintro⟨out2,(k:Int),_⟩ hK
   have hK:uiInv a0 a1 a2 i out2 k:=hK
   refine Vm hG rfl (Vq ?_)
   refine Vk rfl ?_ ?_<;>intro h1
   · have hm:k<(List.length (List.getD a1.1 i.toNat (dflt Y62)).1:Int):=oTr h1
     have rk:=uiRange hK hm
     have ho:=uiLen ri hK hc
     have hE:Sm big20 Y20 (List.getD (List.getD a1.1 i.toNat (dflt Y62)).1 k.toNat (dflt Y20)):=sS.1.2 _ (getD_mem rk _)
     refine Vs (Vq (Vb (Vq ?_)))
     refine Vr hG rfl ?_ ?_
     · exact rk
     refine Vq (Vq ?_)
     refine VrD mixed hG rfl (by kernel_rfl) ?_ ?_
     · repeat' (first | exact trivial | exact hS | refine And.intro ?_ ?_ | intro _)
     refine Vk rfl ?_ ?_<;>intro h2
     · have g2:pick2 (pick2 (hasF out2 (List.getD (List.getD a1.1 i.toNat (dflt Y62)).1 k.toNat (dflt Y20))) true (!(checkPieceF a0.1 (List.getD (List.getD a1.1 i.toNat (dflt Y62)).1 k.toNat (dflt Y20))))) true (decide (evBoundF a0 a1 a2 (List.getD (List.getD a1.1 i.toNat (dflt Y62)).1 k.toNat (dflt Y20))≥brkKeyF a0 (List.getD (List.getD a1.1 i.toNat (dflt Y62)).1 k.toNat (dflt Y20)).1))=true:=h2
       have st:=uiStep hK hm hbk (usSkip g2)
       refine Vx (Vn hG rfl ?_)
       refine⟨rfl,?_⟩
       exact st
     · have g2:pick2 (pick2 (hasF out2 (List.getD (List.getD a1.1 i.toNat (dflt Y62)).1 k.toNat (dflt Y20))) true (!(checkPieceF a0.1 (List.getD (List.getD a1.1 i.toNat (dflt Y62)).1 k.toNat (dflt Y20))))) true (decide (evBoundF a0 a1 a2 (List.getD (List.getD a1.1 i.toNat (dflt Y62)).1 k.toNat (dflt Y20))≥brkKeyF a0 (List.getD (List.getD a1.1 i.toNat (dflt Y62)).1 k.toNat (dflt Y20)).1))=false:=h2
       refine Vs (Vm hG rfl (Vq (Vb ?_)))
       refine Vc.loopF [(12,false,.pure (.int .i64))] [0,1,2,3,4,6,7,9,11,14,15,16,17,21,22,23,24,48] (fun v=>tkInv (fun(y:Piece)=>pbF y (List.getD (List.getD a1.1 i.toNat (dflt Y62)).1 k.toNat (dflt Y20))) out2 v.1) (fun v=>((List.length out2:Int)-v.1).toNat) rfl ?_ ?_
       · exact tkStart
       rintro⟨(q:Int),_⟩ hQ
       have hQ:tkInv (fun(y:Piece)=>pbF y (List.getD (List.getD a1.1 i.toNat (dflt Y62)).1 k.toNat (dflt Y20))) out2 q:=hQ
       refine Vq (Vq ?_)
       refine VrD mixed hG rfl (by kernel_rfl) ?_ ?_
       · exact⟨fun h=>tkRange hQ (oTr h),fun _=>trivial⟩
       refine Vk rfl ?_ ?_<;>intro h3
       · have g3:pick2 (decide (q<(List.length out2:Int))) (pbF (List.getD out2 q.toNat (dflt Y20)) (List.getD (List.getD a1.1 i.toNat (dflt Y62)).1 k.toNat (dflt Y20))) false=true:=h3
         refine Vs (Vb (Vn hG rfl ?_))
         refine⟨rfl,?_⟩
         exact tkStepW (p:=(fun(y:Piece)=>pbF y (List.getD (List.getD a1.1 i.toNat (dflt Y62)).1 k.toNat (dflt Y20)))) hQ ho g3
       · have g3:pick2 (decide (q<(List.length out2:Int))) (pbF (List.getD out2 q.toNat (dflt Y20)) (List.getD (List.getD a1.1 i.toNat (dflt Y62)).1 k.toNat (dflt Y20))) false=false:=h3
         have hk:=tkEnd (p:=(fun(y:Piece)=>pbF y (List.getD (List.getD a1.1 i.toNat (dflt Y62)).1 k.toNat (dflt Y20)))) hQ g3
         have st:=uiStep hK hm hbk ((putEq hQ hk).trans (usTake g2))
         refine Vx ?_
         refine VrD mixed hG rfl (by kernel_rfl) ?_ ?_
         · exact insConds2W hQ ho hE
         refine Vn hG rfl ?_
         refine⟨rfl,?_⟩
         exact st
   · have hm:¬k<(List.length (List.getD a1.1 i.toNat (dflt Y62)).1:Int):=oFa h1
     refine Vx (Vn hG rfl ?_)
     refine⟨rfl,?_⟩
     exact uoStep hI hl hb hK hm
 · have hl:¬i<(List.length a1.1:Int):=oFa h0
   refine Vx (Vm hG rfl (Vt ?_))
   refine⟨?_,trivial⟩
   exact uoEnd hI hl
noncomputable def F40:Fun:=⟨[.pair (.int .i64) Y42],[.pure Y5],fun _=>True,fun x=>(certSpanF x.1,())⟩
theorem F40_ok:Meets Tryz.prog 40 F40:=by
 refine mZ (C:=mkC 8 [2] [0,1,2] []) (mO _ _ _ _) (fO _) Tryz.func40 rfl rfl rfl (by decide) rfl ?_
 rintro⟨a0,_⟩ hwf hpre ⟨⟩ hG rfl rfl
 show Vc _ _ [(0,⟨0,0,.c Z46 a0⟩)] _
 refine Vm hG rfl (Vm hG rfl (Vt ?_))
 refine⟨?_,trivial⟩
 all_goals exact rfl
noncomputable def F187:Fun:=⟨[.pair (.int .i64) Y42],[.pure (.bool)],fun _=>True,fun x=>(isCertF x.1,())⟩
theorem F187_ok:Meets Tryz.prog 187 F187:=by
 refine mZ (C:=mkC 33 [2] [0,1,2] [⟨86,_,F86_ok⟩,⟨40,_,F40_ok⟩,⟨123,_,F123_ok⟩]) (mO _ _ _ _) (fO _) Tryz.func187 rfl rfl rfl (by decide) rfl ?_
 rintro⟨a0,_⟩ hwf hpre ⟨⟩ hG rfl rfl
 show Vc _ _ [(0,⟨0,0,.c Z46 a0⟩)] _
 refine Vm hG rfl (Vq ?_)
 refine Vr hG rfl ?_ ?_
 · repeat' (first | exact trivial | refine And.intro ?_ ?_ | intro _)
 refine Vt ?_
 refine⟨?_,trivial⟩
 all_goals exact rfl
noncomputable def F188:Fun:=⟨[.pair (.int .i64) Y42],[.own (.pure (.int .i64))],fun _=>True,fun x=>(certIntsF x.1,())⟩
theorem F188_ok:Meets Tryz.prog 188 F188:=by
 refine mZ (C:=mkC 16 [2] [0,1,2] []) (mO _ _ _ _) (fO _) Tryz.func188 rfl rfl rfl (by decide) rfl ?_
 rintro⟨a0,_⟩ hwf hpre ⟨⟩ hG rfl rfl
 show Vc _ _ [(0,⟨0,0,.c Z46 a0⟩)] _
 refine Vm hG rfl (Vm hG rfl (Vt ?_))
 refine⟨?_,trivial⟩
 all_goals exact rfl
noncomputable def F189:Fun:=⟨[.slice Y36,.int .i64],[.pure (.int .i64)],fun _=>True,fun x=>(ownerF x.1 x.2.1,())⟩
theorem F189_ok:Meets Tryz.prog 189 F189:=by
 refine mZ (C:=mkC 16 [4] [0,1,4,5,10] [⟨34,_,F34_ok⟩]) (mO _ _ _ _) (fO _) Tryz.func189 rfl rfl rfl (by decide) rfl ?_
 rintro⟨a0,(a1:Int),_⟩ hwf hpre ⟨⟩ hG rfl rfl
 show Vc _ _ [(0,⟨0,0,.c Z40 a0⟩),(1,⟨0,0,.c (.pure (.int .i64)) a1⟩)] _
 refine Vm hG rfl (Vq (Vm hG rfl (Vm hG rfl ?_)))
 refine Vk rfl ?_ ?_<;>intro h0
 · have g0:¬keyI a0 a1<0:=Int.not_lt.2 (oTr h0)
   refine Vq ?_
   refine Vr hG rfl ?_ ?_
   · exact findRange g0
   refine Vt ?_
   refine⟨?_,trivial⟩
   exact owner1 g0
 · have g0:keyI a0 a1<0:=Int.not_le.1 (oFa h0)
   refine Vs (Vm hG rfl (Vt ?_))
   refine⟨?_,trivial⟩
   exact owner0 g0
noncomputable def F117:Fun:=⟨[.slice Y36,.pair (.int .i64) Y42],[.pure (.bool)],fun _=>True,fun x=>(checkCertF x.1 x.2.1,())⟩
theorem F117_ok:Meets Tryz.prog 117 F117:=by
 refine mZ (C:=mkC 26 [4] [0,1,3,4] [⟨187,_,F187_ok⟩,⟨188,_,F188_ok⟩,⟨106,_,F106_ok⟩,⟨189,_,F189_ok⟩]) (mO _ _ _ _) (fO _) Tryz.func117 rfl rfl rfl (by decide) rfl ?_
 rintro⟨a0,a1,_⟩ hwf hpre ⟨⟩ hG rfl rfl
 show Vc _ _ [(0,⟨0,0,.c Z40 a0⟩),(1,⟨0,0,.c Z46 a1⟩)] _
 refine Vm hG rfl (Vq ?_)
 refine VrD mixed hG rfl (by kernel_rfl) ?_ ?_
 · exact⟨trivial,fun _=>trivial,fun _=>smallLit (n:=7) rfl (by decide),fun _=>trivial⟩
 refine Vt ?_
 refine⟨?_,trivial⟩
 exact checkCertI a0 a1
noncomputable def F35:Fun:=⟨[.pair Y38 Y55,.slice Y20,.pair (.int .i64) Y48],[.pure Y45,.pure (.bool)],fun _=>True,fun x=>(((fun a0 a1 a2=>certForF a0.1 a1 a2) x.1 x.2.1 x.2.2.1).1,((fun a0 a1 a2=>certForF a0.1 a1 a2) x.1 x.2.1 x.2.2.1).2,())⟩
theorem F35_ok:Meets Tryz.prog 35 F35:=by
 refine mZ (C:=mkC 54 [6,7] [0,1,2,3,5,6,7,8,9,11,12,13,14,15,16,17,45,51] [⟨101,_,F101_ok⟩,⟨117,_,F117_ok⟩]) (mO _ _ _ _) (fO _) Tryz.func35 rfl rfl rfl (by decide) rfl ?_
 rintro⟨a0,a1,a2,_⟩ hwf hpre ⟨⟩ hG rfl rfl
 show Vc _ _ [(0,⟨0,0,.c Z66 a0⟩),(1,⟨0,0,.c Z29 a1⟩),(2,⟨0,0,.c Z52 a2⟩)] _
 have hb:List.length a1≤bigLen:=hwf.2.1.1
 refine Vm hG rfl (Vm hG rfl (Vm hG rfl (Vq ?_)))
 refine Vm hG rfl (Vb ?_)
 refine Vc.loopF [(8,true,.pure Y45),(9,false,.pure (.int .i64)),(16,false,.pure (.int .i64))] [0,1,2,3,5,6,7,14,15,51] (fun v=>cfInv a0.1 a2 a1 v.1 v.2.1 v.2.2.1) (fun v=>((List.length a1:Int)-v.2.2.1).toNat) rfl ?_ ?_
 · exact cfStart
 rintro⟨c,(n:Int),(i:Int),_⟩ hI
 have hI:cfInv a0.1 a2 a1 c n i:=hI
 refine Vm hG rfl (Vq ?_)
 refine Vk rfl ?_ ?_<;>intro h0
 · have hl:i<(List.length a1:Int):=oTr h0
   refine Vs (Vq (Vb (Vq ?_)))
   refine Vr hG rfl ?_ ?_
   · exact cfRange hI hl
   refine Vm hG rfl (Vq ?_)
   refine Vr hG rfl ?_ ?_
   · repeat' (first | exact trivial | refine And.intro ?_ ?_ | intro _)
   refine Vk rfl ?_ ?_<;>intro h1
   · have g1:cfTest a0.1 a2 (List.getD a1 i.toNat (dflt Y20))=true:=h1
     refine Vm hG rfl (Vn hG rfl (Vn hG rfl ?_))
     refine⟨rfl,?_⟩
     first | exact cfGo1 hI hl hb g1 | exact cfGo0 hI hl hb g1
   · have g1:cfTest a0.1 a2 (List.getD a1 i.toNat (dflt Y20))=false:=h1
     refine Vs (Vn hG rfl ?_)
     refine⟨rfl,?_⟩
     first | exact cfGo1 hI hl hb g1 | exact cfGo0 hI hl hb g1
 · have hl:¬i<(List.length a1:Int):=oFa h0
   refine Vx (Vq (Vm hG rfl ?_))
   refine Vk rfl ?_ ?_<;>intro h2
   · have g2:(n != 1)=true:=h2
     refine Vm hG rfl (Vt ?_)
     have e:=cfEnd0 hI hl g2
     refine⟨?_,?_,trivial⟩
     · exact(congrArg Prod.fst e).symm
     · exact(congrArg Prod.snd e).symm
   · have g2:(n != 1)=false:=h2
     refine Vs (Vm hG rfl (Vt ?_))
     have e:=cfEnd1 hI hl g2
     refine⟨?_,?_,trivial⟩
     · exact(congrArg Prod.fst e).symm
     · exact(congrArg Prod.snd e).symm
noncomputable def F171:Fun:=⟨[.int .i64,.int .i64],[.pure (.int .i64)],fun _=>True,fun x=>((fun(a b:Int)=>max a b) x.1 x.2.1,())⟩
theorem F171_ok:Meets Tryz.prog 171 F171:=by
 refine mZ (C:=mkC 8 [4] [0,1,4] []) (mO _ _ _ _) (fO _) Tryz.func171 rfl rfl rfl (by decide) rfl ?_
 rintro⟨(a0:Int),(a1:Int),_⟩ hwf hpre ⟨⟩ hG rfl rfl
 show Vc _ _ [(0,⟨0,0,.c (.pure (.int .i64)) a0⟩),(1,⟨0,0,.c (.pure (.int .i64)) a1⟩)] _
 refine Vm hG rfl (Vm hG rfl (Vt ?_))
 refine⟨?_,trivial⟩
 all_goals exact rfl
noncomputable def F109:Fun:=⟨[.int .i64,.slice Y36],[.pure (.int .i64)],fun x=>(fun(_:Int) (l:List Stamp)=>List.length l≤1048576) x.1 x.2.1,fun x=>(stampsDgF x.1 x.2.1,())⟩
theorem F109_ok:Meets Tryz.prog 109 F109:=by
 refine mZ (C:=mkC 27 [4] [0,1,4,5,7,10,11,12,13,14] [⟨120,_,F120_ok⟩,⟨171,_,F171_ok⟩]) (mO _ _ _ _) (fO _) Tryz.func109 rfl rfl rfl (by decide) rfl ?_
 rintro⟨(a0:Int),a1,_⟩ hwf hpre ⟨⟩ hG rfl rfl
 show Vc _ _ [(0,⟨0,0,.c (.pure (.int .i64)) a0⟩),(1,⟨0,0,.c Z40 a1⟩)] _
 have hs:List.length a1≤1048576:=hpre
 have hb:List.length a1≤bigLen:=hwf.2.1.1
 refine Vm hG rfl (Vq (Vm hG rfl ?_))
 refine Vk rfl ?_ ?_<;>intro h0
 · have g0:(List.length a1:Int)=0:=beqI2 h0
   refine Vm hG rfl (Vt ?_)
   refine⟨?_,trivial⟩
   exact sd0 g0
 · have g0:¬(List.length a1:Int)=0:=bneI' h0
   refine Vs (Vm hG rfl (Vq (Vm hG rfl ?_)))
   refine Vb ?_
   refine Vc.loopF [(5,false,.own (.pure (.int .i64))),(13,false,.pure (.int .i64))] [0,1,4,10,11,12] (fun v=>gsInv (mkG a1) [] a1 v.1 v.2.1) (fun v=>((List.length a1:Int)-v.2.1).toNat) rfl ?_ ?_
   · exact gsStart
   rintro⟨acc,(i:Int),_⟩ hI
   have hI:gsInv (mkG a1) [] a1 acc i:=hI
   have hA:List.length acc≤1048576:=gsLen (c:=1) (m:=1048576) hI (fun _=>Nat.le_refl _) hs (by simp)
   refine Vm hG rfl (Vq ?_)
   refine Vk rfl ?_ ?_<;>intro h1
   · have hl:i<(List.length a1:Int):=oTr h1
     refine Vs (Vq (Vb (Vq ?_)))
     refine Vr hG rfl ?_ ?_
     · exact gsRange hI hl
     refine Vr hG rfl ?_ ?_
     · exact(show List.length acc+1≤maxApp from by unfold maxApp;omega)
     refine Vn hG rfl ?_
     refine⟨rfl,?_⟩
     exact gsStep hI hl hb rfl
   · have hl:¬i<(List.length a1:Int):=oFa h1
     refine Vx (Vq ?_)
     refine Vr hG rfl ?_ ?_
     · exact⟨(show List.length acc≤1000000000 from by omega),trivial⟩
     refine Vt ?_
     refine⟨?_,trivial⟩
     exact(congrArg (fun l=>max 1 (digestF a0 l)) (gsEnd hI hl)).trans (sd1 g0)
noncomputable def F110:Fun:=⟨[.int .i64,.pair (.int .i64) Y27],[.pair (.pure (.int .i64)) Z16],fun _=>True,fun x=>(stampPieceF x.1 x.2.1,())⟩
theorem F110_ok:Meets Tryz.prog 110 F110:=by
 refine mZ (C:=mkC 11 [4] [0,1,3,4] [⟨156,_,F156_ok⟩]) (mO _ _ _ _) (fO _) Tryz.func110 rfl rfl rfl (by decide) rfl ?_
 rintro⟨(a0:Int),a1,_⟩ hwf hpre ⟨⟩ hG rfl rfl
 show Vc _ _ [(0,⟨0,0,.c (.pure (.int .i64)) a0⟩),(1,⟨0,0,.c Z37 a1⟩)] _
 refine Vm hG rfl (Vq (VrD mixed hG rfl (by kernel_rfl) (by trivial) (Vt ?_)))
 refine⟨?_,trivial⟩
 all_goals exact rfl
noncomputable def F30:Fun:=⟨[.pair Y38 Y55,.pair Y65 Y41,.slice Y20,.pair (.int .i64) Y48],[.pure (.int .i64)],fun x=>(fun(_:Frame) (e:Evidence) (_:List Piece) (_:Sig)=>Sm big20 (.slice (.slice TStamp)) e.2) x.1 x.2.1 x.2.2.1 x.2.2.2.1,fun x=>(freshG x.1 x.2.1 x.2.2.1 x.2.2.2.1,())⟩
set_option maxHeartbeats 2000000 in
theorem F30_ok:Meets Tryz.prog 30 F30:=by
 refine mZ (C:=mkC 92 [8] [0,1,2,3,4,5,7,8,9,10,12,13,15,16,17,24,32,33,34,35,54,55,56,57,58,85] [⟨34,_,F34_ok⟩,⟨108,_,F108_ok⟩,⟨109,_,F109_ok⟩,⟨111,_,F111_ok⟩,⟨110,_,F110_ok⟩,⟨97,_,F97_ok⟩,⟨112,_,F112_ok⟩]) (mO _ _ _ _) (fO _) Tryz.func30 rfl rfl rfl (by decide) rfl ?_
 rintro⟨a0,a1,a2,a3,_⟩ hwf hpre ⟨⟩ hG rfl rfl
 show Vc _ _ [(0,⟨0,0,.c Z66 a0⟩),(1,⟨0,0,.c Z69 a1⟩),(2,⟨0,0,.c Z29 a2⟩),(3,⟨0,0,.c Z52 a3⟩)] _
 have hp:List.length a1.2≤big20∧∀ l∈a1.2,Sm big20 (.slice TStamp) l:=hpre
 have hb:List.length a1.2≤bigLen:=hwf.2.1.2.1
 refine Vm hG rfl (Vm hG rfl (Vq (Vm hG rfl ?_)))
 refine Vm hG rfl ?_
 refine Vk rfl ?_ ?_<;>intro h0
 · have g0:keyI a0.1 a3.1≥0:=oTr h0
   have eb:=born1 g0
   refine Vr hG rfl ?_ ?_
   · exact findRange (show ¬keyI a0.1 a3.1<0 from by omega)
   refine Vq (Vm hG rfl (Vb ?_))
   refine Vc.loopF [(9,false,.pure (.int .i64)),(34,false,.pure (.int .i64))] [0,1,2,3,4,5,7,8,10,24,32,33] (fun v=>foInv (frG a0 a2 a3) (bornF a0 a3) a1.2 v.1 v.2.1) (fun v=>((List.length a1.2:Int)-v.2.1).toNat) rfl ?_ ?_
   · exact frStart eb
   rintro⟨(t:Int),(i:Int),_⟩ hI
   have hI:foInv (frG a0 a2 a3) (bornF a0 a3) a1.2 t i:=hI
   refine Vm hG rfl (Vq ?_)
   refine Vk rfl ?_ ?_<;>intro h1
   · have hl:i<(List.length a1.2:Int):=oTr h1
     have r1:=foRange hI hl
     have hE:List.length (List.getD a1.2 i.toNat (dflt (.slice TStamp)))≤1048576:=(hp.2 _ (getD_mem r1 _)).1
     have hbk:List.length (List.getD a1.2 i.toNat (dflt (.slice TStamp)))≤bigLen:=Nat.le_trans hE (by decide)
     refine Vs (Vq (Vb (Vq ?_)))
     refine Vr hG rfl ?_ ?_
     · exact r1
     refine Vq (Vq ?_)
     refine VrD mixed hG rfl (by kernel_rfl) ?_ ?_
     · exact⟨fun _=>trivial,fun _=>hE⟩
     refine Vk rfl ?_ ?_<;>intro h2
     · have g1:pick2 (pick2 (a3.2.2.2.2.2.2.2.1==0) true (!(riseF (List.getD a1.2 i.toNat (dflt (.slice TStamp)))))) true (stampsDgF a3.2.2.1 (List.getD a1.2 i.toNat (dflt (.slice TStamp))) != a3.2.2.2.2.2.2.2.1)=true:=h2
       have st:=foStepE (d:=dflt (.slice TStamp)) hI hl hb (frSkip (t:=t) g1)
       refine Vx (Vn hG rfl ?_)
       refine⟨rfl,?_⟩
       exact st
     · have g1:pick2 (pick2 (a3.2.2.2.2.2.2.2.1==0) true (!(riseF (List.getD a1.2 i.toNat (dflt (.slice TStamp)))))) true (stampsDgF a3.2.2.1 (List.getD a1.2 i.toNat (dflt (.slice TStamp))) != a3.2.2.2.2.2.2.2.1)=false:=h2
       refine Vs (Vm hG rfl (Vq (Vm hG rfl ?_)))
       refine Vb ?_
       refine Vc.loopF [(13,false,.pure (.bool)),(57,false,.pure (.int .i64))] [0,1,2,3,4,5,7,8,9,10,12,16,17,24,32,33,34,35,54,55,56,85] (fun v=>hbInv a0 a2 (List.getD a1.2 i.toNat (dflt (.slice TStamp))) v.1 v.2.1) (fun v=>((List.length (List.getD a1.2 i.toNat (dflt (.slice TStamp))):Int)-v.2.1).toNat) rfl ?_ ?_
       · exact hbStart
       rintro⟨b,(k:Int),_⟩ hK
       have hK:hbInv a0 a2 (List.getD a1.2 i.toNat (dflt (.slice TStamp))) b k:=hK
       refine Vm hG rfl (Vq ?_)
       refine Vk rfl ?_ ?_<;>intro h3
       · have hm:k<(List.length (List.getD a1.2 i.toNat (dflt (.slice TStamp))):Int):=oTr h3
         refine Vs (Vq (Vb (Vq ?_)))
         refine Vr hG rfl ?_ ?_
         · exact hbRange hK hm
         refine VrD mixed hG rfl (by kernel_rfl) ?_ ?_
         · repeat' (first | exact trivial | refine And.intro ?_ ?_ | intro _)
         refine Vn hG rfl ?_
         refine⟨rfl,?_⟩
         exact hbStep hK hm hbk rfl
       · have hm:¬k<(List.length (List.getD a1.2 i.toNat (dflt (.slice TStamp))):Int):=oFa h3
         have hB:=hbEnd hK hm
         refine Vx (Vq ?_)
         refine Vr hG rfl ?_ ?_
         · exact hE
         refine Vm hG rfl ?_
         refine Vk rfl ?_ ?_<;>intro h4
         · have st:=foStepE (d:=dflt (.slice TStamp)) hI hl hb (frMax g1 hB h4)
           refine Vn hG rfl (Vn hG rfl ?_)
           refine⟨rfl,?_⟩
           exact st
         · have st:=foStepE (d:=dflt (.slice TStamp)) hI hl hb (frKeep (t:=t) (x:=a3) hB h4)
           refine Vs (Vn hG rfl ?_)
           refine⟨rfl,?_⟩
           exact st
   · have hl:¬i<(List.length a1.2:Int):=oFa h1
     refine Vx (Vm hG rfl (Vt ?_))
     refine⟨?_,trivial⟩
     exact foEnd hI hl
 · have g0:¬keyI a0.1 a3.1≥0:=oFa h0
   have eb:=born0 g0
   refine Vs (Vq (Vm hG rfl (Vb ?_)))
   refine Vc.loopF [(9,false,.pure (.int .i64)),(34,false,.pure (.int .i64))] [0,1,2,3,4,5,7,8,10,24,32,33] (fun v=>foInv (frG a0 a2 a3) (bornF a0 a3) a1.2 v.1 v.2.1) (fun v=>((List.length a1.2:Int)-v.2.1).toNat) rfl ?_ ?_
   · exact frStart eb
   rintro⟨(t:Int),(i:Int),_⟩ hI
   have hI:foInv (frG a0 a2 a3) (bornF a0 a3) a1.2 t i:=hI
   refine Vm hG rfl (Vq ?_)
   refine Vk rfl ?_ ?_<;>intro h5
   · have hl:i<(List.length a1.2:Int):=oTr h5
     have r1:=foRange hI hl
     have hE:List.length (List.getD a1.2 i.toNat (dflt (.slice TStamp)))≤1048576:=(hp.2 _ (getD_mem r1 _)).1
     have hbk:List.length (List.getD a1.2 i.toNat (dflt (.slice TStamp)))≤bigLen:=Nat.le_trans hE (by decide)
     refine Vs (Vq (Vb (Vq ?_)))
     refine Vr hG rfl ?_ ?_
     · exact r1
     refine Vq (Vq ?_)
     refine VrD mixed hG rfl (by kernel_rfl) ?_ ?_
     · exact⟨fun _=>trivial,fun _=>hE⟩
     refine Vk rfl ?_ ?_<;>intro h6
     · have g1:pick2 (pick2 (a3.2.2.2.2.2.2.2.1==0) true (!(riseF (List.getD a1.2 i.toNat (dflt (.slice TStamp)))))) true (stampsDgF a3.2.2.1 (List.getD a1.2 i.toNat (dflt (.slice TStamp))) != a3.2.2.2.2.2.2.2.1)=true:=h6
       have st:=foStepE (d:=dflt (.slice TStamp)) hI hl hb (frSkip (t:=t) g1)
       refine Vx (Vn hG rfl ?_)
       refine⟨rfl,?_⟩
       exact st
     · have g1:pick2 (pick2 (a3.2.2.2.2.2.2.2.1==0) true (!(riseF (List.getD a1.2 i.toNat (dflt (.slice TStamp)))))) true (stampsDgF a3.2.2.1 (List.getD a1.2 i.toNat (dflt (.slice TStamp))) != a3.2.2.2.2.2.2.2.1)=false:=h6
       refine Vs (Vm hG rfl (Vq (Vm hG rfl ?_)))
       refine Vb ?_
       refine Vc.loopF [(13,false,.pure (.bool)),(57,false,.pure (.int .i64))] [0,1,2,3,4,5,7,8,9,10,12,16,17,24,32,33,34,35,54,55,56,85] (fun v=>hbInv a0 a2 (List.getD a1.2 i.toNat (dflt (.slice TStamp))) v.1 v.2.1) (fun v=>((List.length (List.getD a1.2 i.toNat (dflt (.slice TStamp))):Int)-v.2.1).toNat) rfl ?_ ?_
       · exact hbStart
       rintro⟨b,(k:Int),_⟩ hK
       have hK:hbInv a0 a2 (List.getD a1.2 i.toNat (dflt (.slice TStamp))) b k:=hK
       refine Vm hG rfl (Vq ?_)
       refine Vk rfl ?_ ?_<;>intro h7
       · have hm:k<(List.length (List.getD a1.2 i.toNat (dflt (.slice TStamp))):Int):=oTr h7
         refine Vs (Vq (Vb (Vq ?_)))
         refine Vr hG rfl ?_ ?_
         · exact hbRange hK hm
         refine VrD mixed hG rfl (by kernel_rfl) ?_ ?_
         · repeat' (first | exact trivial | refine And.intro ?_ ?_ | intro _)
         refine Vn hG rfl ?_
         refine⟨rfl,?_⟩
         exact hbStep hK hm hbk rfl
       · have hm:¬k<(List.length (List.getD a1.2 i.toNat (dflt (.slice TStamp))):Int):=oFa h7
         have hB:=hbEnd hK hm
         refine Vx (Vq ?_)
         refine Vr hG rfl ?_ ?_
         · exact hE
         refine Vm hG rfl ?_
         refine Vk rfl ?_ ?_<;>intro h8
         · have st:=foStepE (d:=dflt (.slice TStamp)) hI hl hb (frMax g1 hB h8)
           refine Vn hG rfl (Vn hG rfl ?_)
           refine⟨rfl,?_⟩
           exact st
         · have st:=foStepE (d:=dflt (.slice TStamp)) hI hl hb (frKeep (t:=t) (x:=a3) hB h8)
           refine Vs (Vn hG rfl ?_)
           refine⟨rfl,?_⟩
           exact st
   · have hl:¬i<(List.length a1.2:Int):=oFa h5
     refine Vx (Vm hG rfl (Vt ?_))
     refine⟨?_,trivial⟩
     exact foEnd hI hl
noncomputable def F42:Fun:=⟨[.slice Y20,.pair (.int .i64) Y42],[.own Z37],fun x=>(fun a0 _=>List.length a0≤2000000000) x.1 x.2.1,fun x=>(statusesF x.1 x.2.1,())⟩
theorem F42_ok:Meets Tryz.prog 42 F42:=by
 refine mZ (C:=mkC 42 [4] [0,1,3,4,5,7,8,9,10,11,12,13,35] [⟨102,_,F102_ok⟩]) (mO _ _ _ _) (fO _) Tryz.func42 rfl rfl rfl (by decide) rfl ?_
 rintro⟨a0,a1,_⟩ hwf hpre ⟨⟩ hG rfl rfl
 show Vc _ _ [(0,⟨0,0,.c Z29 a0⟩),(1,⟨0,0,.c Z46 a1⟩)] _
 have hb:List.length a0≤bigLen:=hwf.1.1
 have hs:List.length a0≤2000000000:=hpre
 refine Vm hG rfl (Vm hG rfl (Vq (Vm hG rfl ?_)))
 refine Vb ?_
 refine Vc.loopF [(5,false,.own Z37),(12,false,.pure (.int .i64))] [0,1,3,4,10,11] (fun v=>pkInv (statFor a1) a0 v.1 v.2.1) (fun v=>((List.length a0:Int)-v.2.1).toNat) rfl ?_ ?_
 · exact pkStart
 rintro⟨acc,(i:Int),_⟩ hI
 have hI:pkInv (statFor a1) a0 acc i:=hI
 refine Vm hG rfl (Vq ?_)
 refine Vk rfl ?_ ?_<;>intro h0
 · have hl:i<(List.length a0:Int):=oTr h0
   refine Vs (Vq (Vb (Vq ?_)))
   refine Vr hG rfl ?_ ?_
   · exact pkRange hI hl
   refine Vm hG rfl (Vm hG rfl ?_)
   refine Vk rfl ?_ ?_<;>intro h1
   · have g1:((statFor a1) (List.getD a0 i.toNat (dflt Y20))).2=true:=h1
     refine Vr hG rfl ?_ ?_
     · exact pkLenW hI hs
     refine Vn hG rfl ?_
     refine⟨rfl,?_⟩
     first
       | exact pkYes (d:=dflt Y20) hI hl hb g1
       | exact pkNo (d:=dflt Y20) hI hl hb g1
   · have g1:((statFor a1) (List.getD a0 i.toNat (dflt Y20))).2=false:=h1
     refine Vs (Vn hG rfl ?_)
     refine⟨rfl,?_⟩
     first
       | exact pkYes (d:=dflt Y20) hI hl hb g1
       | exact pkNo (d:=dflt Y20) hI hl hb g1
 · have hl:¬i<(List.length a0:Int):=oFa h0
   refine Vx (Vm hG rfl (Vt ?_))
   refine⟨?_,trivial⟩
   exact pkEnd hI hl
noncomputable def K320:KFun:=⟨.own Z9,[.int .i64,.int .i64],fun x xs=>(fun(l:List Span) (_ _:Int)=>List.length l≤1000) x xs.1 xs.2.1,fun x xs=>bPut x xs.1 xs.2.1⟩
theorem K320_ok:MeetsK Tryz.prog 320 K320:=by
 refine meetsK_of_vc (C:=mkCM 18 [] [0,1,2,5,6,13] [⟨256,_,F256_ok⟩] [] [] [2]) (mkCM_ok _ _ _ _ _ _ _) (fO _) Tryz.func320 rfl rfl rfl (by decide) rfl rfl rfl ?_ rfl
 rintro x ⟨(a0:Int),(a1:Int),_⟩ hwx hwf hpre ⟨⟩ hG rfl rfl
 show Vc _ _ [(2,⟨0,0,.c (.ref (.own Z9)) x⟩),(0,⟨0,0,.c (.pure (.int .i64)) a0⟩),(1,⟨0,0,.c (.pure (.int .i64)) a1⟩)] _
 have hs:List.length x≤1000:=hpre
 refine Vm hG rfl (Vm hG rfl ?_)
 refine Vk rfl ?_ ?_<;>intro h0
 · refine Vr hG rfl ?_ ?_
   · exact bpApp hs
   refine⟨?_,trivial⟩
   exact bpY h0
 · refine Vs ?_
   refine⟨?_,trivial⟩
   exact bpN h0
end Fw
