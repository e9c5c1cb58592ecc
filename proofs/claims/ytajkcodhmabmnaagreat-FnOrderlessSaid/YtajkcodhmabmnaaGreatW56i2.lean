/- Walks of functions of the program: what each computes. Conditions: those that each contract names. -/
import Derived.Test.YtajkcodhmabmnaaGreatW56T
import Derived.Test.YtajkcodhmabmnaaGreatW56i0
import Derived.Test.YtajkcodhmabmnaaGreatW56i1
namespace Fw
open Go Go.Proofs
set_option linter.unusedSimpArgs false
set_option maxRecDepth 100000
noncomputable def F211:Fun:=⟨[.slice Y34,.pair (.int .i64) Y10],[.pure (.bool)],fun _=>True,fun x=>(checkPieceF x.1 x.2.1,())⟩
theorem F211_ok:Meets Tryz.prog 211 F211:=by
 refine mZ (C:=mkC 54 [4] [0,1,3,4,5,7,8,15,22,29,36] [⟨273,_,F273_ok⟩,⟨213,_,F213_ok⟩,⟨220,_,F220_ok⟩,⟨274,_,F274_ok⟩,⟨275,_,F275_ok⟩,⟨226,_,F226_ok⟩,⟨208,_,F208_ok⟩]) (mO _ _ _ _) (fO _) Tryz.func211 rfl rfl rfl (by decide) rfl ?_
 rintro⟨a0,a1,_⟩ hwf hpre ⟨⟩ hG rfl rfl
 show Vc _ _ [(0,⟨0,0,.c Z38 a0⟩),(1,⟨0,0,.c Z23 a1⟩)] _
 refine Vm hG rfl (Vm hG rfl (Vq (Vm hG rfl ?_)))
 refine Vb (Vm hG rfl ?_)
 refine Vk rfl ?_ ?_<;>intro h0
 · have g0:kindF a1=101:=beqI2 h0
   refine Vn hG rfl (Vq ?_)
   refine Vr hG rfl ?_ ?_
   · first
       | exact fun h=>shapeSmall ((sh101 g0).trans h)
       | exact fun h=>shapeSmall ((sh102 g1).trans h)
       | exact fun h=>shapeSmall ((sh103 g2).trans h)
       | exact fun h=>shapeSmall ((sh104 g3).trans h)
       | exact fun h=>shapeSmall ((sh105 g4).trans h)
       | (intro h;cases h)
   refine Vt ?_
   refine⟨?_,trivial⟩
   show pick2 (pieceCertF a1).2 (checkMarkF a0 a1.1 a1.2.1 a1.2.2) false=checkPieceF a0 a1
   unfold checkPieceF
   rw[sh101 g0]
 · have n0:kindF a1≠101:=bneI' h0
   refine Vm hG rfl ?_
   refine Vk rfl ?_ ?_<;>intro h1
   · have g1:kindF a1=102:=beqI2 h1
     refine Vn hG rfl (Vq ?_)
     refine Vr hG rfl ?_ ?_
     · first
         | exact fun h=>shapeSmall ((sh101 g0).trans h)
         | exact fun h=>shapeSmall ((sh102 g1).trans h)
         | exact fun h=>shapeSmall ((sh103 g2).trans h)
         | exact fun h=>shapeSmall ((sh104 g3).trans h)
         | exact fun h=>shapeSmall ((sh105 g4).trans h)
         | (intro h;cases h)
     refine Vt ?_
     refine⟨?_,trivial⟩
     show pick2 (pieceStatF a1).2 (checkMarkF a0 a1.1 a1.2.1 a1.2.2) false=checkPieceF a0 a1
     unfold checkPieceF
     rw[sh102 g1]
   · have n1:kindF a1≠102:=bneI' h1
     refine Vm hG rfl ?_
     refine Vk rfl ?_ ?_<;>intro h2
     · have g2:kindF a1=103:=beqI2 h2
       refine Vn hG rfl (Vq ?_)
       refine Vr hG rfl ?_ ?_
       · first
           | exact fun h=>shapeSmall ((sh101 g0).trans h)
           | exact fun h=>shapeSmall ((sh102 g1).trans h)
           | exact fun h=>shapeSmall ((sh103 g2).trans h)
           | exact fun h=>shapeSmall ((sh104 g3).trans h)
           | exact fun h=>shapeSmall ((sh105 g4).trans h)
           | (intro h;cases h)
       refine Vt ?_
       refine⟨?_,trivial⟩
       show pick2 (pieceStampF a1).2 (checkMarkF a0 a1.1 a1.2.1 a1.2.2) false=checkPieceF a0 a1
       unfold checkPieceF
       rw[sh103 g2]
     · have n2:kindF a1≠103:=bneI' h2
       refine Vm hG rfl ?_
       refine Vk rfl ?_ ?_<;>intro h3
       · have g3:kindF a1=104:=beqI2 h3
         refine Vn hG rfl (Vq ?_)
         refine Vr hG rfl ?_ ?_
         · first
             | exact fun h=>shapeSmall ((sh101 g0).trans h)
             | exact fun h=>shapeSmall ((sh102 g1).trans h)
             | exact fun h=>shapeSmall ((sh103 g2).trans h)
             | exact fun h=>shapeSmall ((sh104 g3).trans h)
             | exact fun h=>shapeSmall ((sh105 g4).trans h)
             | (intro h;cases h)
         refine Vt ?_
         refine⟨?_,trivial⟩
         show pick2 (pieceSignF a1).2 (checkMarkF a0 a1.1 a1.2.1 a1.2.2) false=checkPieceF a0 a1
         unfold checkPieceF
         rw[sh104 g3]
       · have n3:kindF a1≠104:=bneI' h3
         refine Vm hG rfl ?_
         refine Vk rfl ?_ ?_<;>intro h4
         · have g4:kindF a1=105:=beqI2 h4
           refine Vn hG rfl (Vq ?_)
           refine Vr hG rfl ?_ ?_
           · first
               | exact fun h=>shapeSmall ((sh101 g0).trans h)
               | exact fun h=>shapeSmall ((sh102 g1).trans h)
               | exact fun h=>shapeSmall ((sh103 g2).trans h)
               | exact fun h=>shapeSmall ((sh104 g3).trans h)
               | exact fun h=>shapeSmall ((sh105 g4).trans h)
               | (intro h;cases h)
           refine Vt ?_
           refine⟨?_,trivial⟩
           show pick2 (pieceMandF a1).2 (checkMarkF a0 a1.1 a1.2.1 a1.2.2) false=checkPieceF a0 a1
           unfold checkPieceF
           rw[sh105 g4]
         · have n4:kindF a1≠105:=bneI' h4
           refine Vs (Vq ?_)
           refine Vr hG rfl ?_ ?_
           · first
               | exact fun h=>shapeSmall ((sh101 g0).trans h)
               | exact fun h=>shapeSmall ((sh102 g1).trans h)
               | exact fun h=>shapeSmall ((sh103 g2).trans h)
               | exact fun h=>shapeSmall ((sh104 g3).trans h)
               | exact fun h=>shapeSmall ((sh105 g4).trans h)
               | (intro h;cases h)
           refine Vt ?_
           refine⟨?_,trivial⟩
           show pick2 false (checkMarkF a0 a1.1 a1.2.1 a1.2.2) false=checkPieceF a0 a1
           unfold checkPieceF
           rw[shNo n0 n1 n2 n3 n4]
noncomputable def F212:Fun:=⟨[.pair (.int .i64) Y10,.pair (.int .i64) Y10],[.pure (.bool)],fun _=>True,fun x=>(pbF x.1 x.2.1,())⟩
theorem F212_ok:Meets Tryz.prog 212 F212:=by
 refine mZ (C:=mkC 73 [4] [0,1,2,3,4,5,17,30,42,57] []) (mO _ _ _ _) (fO _) Tryz.func212 rfl rfl rfl (by decide) rfl ?_
 rintro⟨a0,a1,_⟩ hwf hpre ⟨⟩ hG rfl rfl
 show Vc _ _ [(0,⟨0,0,.c Z23 a0⟩),(1,⟨0,0,.c Z23 a1⟩)] _
 have hb:List.length a0.2.1≤bigLen:=hwf.1.2.1.1
 refine Vm hG rfl (Vq (Vm hG rfl (Vb ?_)))
 refine Vc.loopF [(5,false,.pure (.int .i64))] [0,1,2,3,42,57] (fun v=>pbInv a0 a1 v.1) (fun v=>((List.length a0.2.1:Int)-v.1).toNat) rfl ?_ ?_
 · exact pbStart
 rintro⟨(i:Int),_⟩ hI
 have hI:pbInv a0 a1 i:=hI
 refine Vq (Vm hG rfl ?_)
 refine Vk rfl ?_ ?_<;>intro h0
 · have hh:=andLt h0
   have hl:=hh.1
   have hm:=hh.2
   refine Vs (Vq (Vb (Vq ?_)))
   refine VrD mixed hG rfl (by kernel_rfl) ?_ ?_
   · exact⟨pbRangeA hI hl,pbRangeB hI hm⟩
   refine Vk rfl ?_ ?_<;>intro h1
   · have g1:=bneT h1
     refine Vq ?_
     refine VrD mixed hG rfl (by kernel_rfl) ?_ ?_
     · exact⟨pbRangeA hI hl,pbRangeB hI hm⟩
     refine Vt ?_
     refine⟨?_,trivial⟩
     exact pbHit hI hl hm g1
   · have g1:=bneI h1
     refine Vs (Vn hG rfl ?_)
     refine⟨rfl,?_⟩
     exact pbStep hI hl hm hb g1
 · have hx:=andGe h0
   refine Vx (Vq (Vb (Vm hG rfl ?_)))
   refine Vk rfl ?_ ?_<;>intro h2
   · refine Vm hG rfl (Vt ?_)
     refine⟨?_,trivial⟩
     exact pbLen hI hx h2
   · refine Vm hG rfl ?_
     refine Vk rfl ?_ ?_<;>intro h3
     · refine Vm hG rfl (Vt ?_)
       refine⟨?_,trivial⟩
       exact pbKey hI hx h2 h3
     · refine Vs (Vm hG rfl (Vt ?_))
       refine⟨?_,trivial⟩
       exact pbMark hI hx h2 h3
noncomputable def F133:Fun:=⟨[.pair Y36 Y57,.pair Y67 Y39,.slice (.slice (.int .i64))],[.own Z31],fun x=>(fun(_:Frame) (e:Evidence) (_:List (List Int))=>Sm big20 Y67 e.1∧((cellsC Y67 e.1:Nat):Int)≤2000000000) x.1 x.2.1 x.2.2.1,fun x=>(usablePiecesF x.1 x.2.1 x.2.2.1,())⟩
theorem F133_ok:Meets Tryz.prog 133 F133:=by
 refine mZ (C:=mkC 79 [6] [0,1,2,3,4,6,7,9,11,12,14,15,16,17,21,22,23,24,48,60] [⟨150,_,F150_ok⟩,⟨211,_,F211_ok⟩,⟨130,_,F130_ok⟩,⟨131,_,F131_ok⟩,⟨212,_,F212_ok⟩,⟨204,_,F204_ok⟩]) (mO _ _ _ _) (fO _) Tryz.func133 rfl rfl rfl (by decide) rfl ?_
 rintro⟨a0,a1,a2,_⟩ hwf hpre ⟨⟩ hG rfl rfl
 show Vc _ _ [(0,⟨0,0,.c Z68 a0⟩),(1,⟨0,0,.c Z73 a1⟩),(2,⟨0,0,.c Z8 a2⟩)] _
 have hS:Sm big20 Y67 a1.1:=hpre.1
 have hc:((cellsC Y67 a1.1:Nat):Int)≤2000000000:=hpre.2
 have hb:List.length a1.1≤bigLen:=hwf.2.1.1.1
 refine Vm hG rfl (Vm hG rfl (Vq (Vm hG rfl ?_)))
 refine Vb ?_
 refine Vc.loopF [(7,false,.own Z31),(16,false,.pure (.int .i64))] [0,1,2,3,4,6,14,15] (fun v=>uoInv a0 a1 a2 v.1 v.2.1) (fun v=>((List.length a1.1:Int)-v.2.1).toNat) rfl ?_ ?_
 · exact uoStart
 rintro⟨out,(i:Int),_⟩ hI
 have hI:uoInv a0 a1 a2 out i:=hI
 refine Vm hG rfl (Vq ?_)
 refine Vk rfl ?_ ?_<;>intro h0
 · have hl:i<(List.length a1.1:Int):=oTr h0
   have ri:=uoRange hI hl
   have sS:=usStrand hS ri
   have hbk:List.length (List.getD a1.1 i.toNat (dflt Y64)).1≤bigLen:=Nat.le_trans sS.1.1 (by decide)
   refine Vs (Vq (Vb (Vq ?_)))
   refine Vr hG rfl ?_ ?_
   · exact ri
   refine Vm hG rfl (Vb ?_)
   refine Vc.loopF [(7,false,.own Z31),(23,false,.pure (.int .i64))] [0,1,2,3,4,6,9,14,15,16,17,21,22] (fun v=>uiInv a0 a1 a2 i v.1 v.2.1) (fun v=>((List.length (List.getD a1.1 i.toNat (dflt Y64)).1:Int)-v.2.1).toNat) rfl ?_ ?_
   · exact uiStart hI
   rintro⟨out2,(k:Int),_⟩ hK
   have hK:uiInv a0 a1 a2 i out2 k:=hK
   refine Vm hG rfl (Vq ?_)
   refine Vk rfl ?_ ?_<;>intro h1
   · have hm:k<(List.length (List.getD a1.1 i.toNat (dflt Y64)).1:Int):=oTr h1
     have rk:=uiRange hK hm
     have ho:=uiLen ri hK hc
     have hE:Sm big20 Y19 (List.getD (List.getD a1.1 i.toNat (dflt Y64)).1 k.toNat (dflt Y19)):=sS.1.2 _ (getD_mem rk _)
     refine Vs (Vq (Vb (Vq ?_)))
     refine Vr hG rfl ?_ ?_
     · exact rk
     refine Vq (Vq ?_)
     refine VrD mixed hG rfl (by kernel_rfl) ?_ ?_
     · repeat' (first | exact trivial | exact hS | refine And.intro ?_ ?_ | intro _)
     refine Vk rfl ?_ ?_<;>intro h2
     · have g2:pick2 (pick2 (hasF out2 (List.getD (List.getD a1.1 i.toNat (dflt Y64)).1 k.toNat (dflt Y19))) true (!(checkPieceF a0.1 (List.getD (List.getD a1.1 i.toNat (dflt Y64)).1 k.toNat (dflt Y19))))) true (decide (evBoundF a0 a1 a2 (List.getD (List.getD a1.1 i.toNat (dflt Y64)).1 k.toNat (dflt Y19))≥brkKeyF a0 (List.getD (List.getD a1.1 i.toNat (dflt Y64)).1 k.toNat (dflt Y19)).1))=true:=h2
       have st:=uiStep hK hm hbk (usSkip g2)
       refine Vx (Vn hG rfl ?_)
       refine⟨rfl,?_⟩
       exact st
     · have g2:pick2 (pick2 (hasF out2 (List.getD (List.getD a1.1 i.toNat (dflt Y64)).1 k.toNat (dflt Y19))) true (!(checkPieceF a0.1 (List.getD (List.getD a1.1 i.toNat (dflt Y64)).1 k.toNat (dflt Y19))))) true (decide (evBoundF a0 a1 a2 (List.getD (List.getD a1.1 i.toNat (dflt Y64)).1 k.toNat (dflt Y19))≥brkKeyF a0 (List.getD (List.getD a1.1 i.toNat (dflt Y64)).1 k.toNat (dflt Y19)).1))=false:=h2
       refine Vs (Vm hG rfl (Vq (Vb ?_)))
       refine Vc.loopF [(12,false,.pure (.int .i64))] [0,1,2,3,4,6,7,9,11,14,15,16,17,21,22,23,24,48] (fun v=>tkInv (fun(y:Piece)=>pbF y (List.getD (List.getD a1.1 i.toNat (dflt Y64)).1 k.toNat (dflt Y19))) out2 v.1) (fun v=>((List.length out2:Int)-v.1).toNat) rfl ?_ ?_
       · exact tkStart
       rintro⟨(q:Int),_⟩ hQ
       have hQ:tkInv (fun(y:Piece)=>pbF y (List.getD (List.getD a1.1 i.toNat (dflt Y64)).1 k.toNat (dflt Y19))) out2 q:=hQ
       refine Vq (Vq ?_)
       refine VrD mixed hG rfl (by kernel_rfl) ?_ ?_
       · exact⟨fun h=>tkRange hQ (oTr h),fun _=>trivial⟩
       refine Vk rfl ?_ ?_<;>intro h3
       · have g3:pick2 (decide (q<(List.length out2:Int))) (pbF (List.getD out2 q.toNat (dflt Y19)) (List.getD (List.getD a1.1 i.toNat (dflt Y64)).1 k.toNat (dflt Y19))) false=true:=h3
         refine Vs (Vb (Vn hG rfl ?_))
         refine⟨rfl,?_⟩
         exact tkStepW (p:=(fun(y:Piece)=>pbF y (List.getD (List.getD a1.1 i.toNat (dflt Y64)).1 k.toNat (dflt Y19)))) hQ ho g3
       · have g3:pick2 (decide (q<(List.length out2:Int))) (pbF (List.getD out2 q.toNat (dflt Y19)) (List.getD (List.getD a1.1 i.toNat (dflt Y64)).1 k.toNat (dflt Y19))) false=false:=h3
         have hk:=tkEnd (p:=(fun(y:Piece)=>pbF y (List.getD (List.getD a1.1 i.toNat (dflt Y64)).1 k.toNat (dflt Y19)))) hQ g3
         have st:=uiStep hK hm hbk ((putEq hQ hk).trans (usTake g2))
         refine Vx ?_
         refine VrD mixed hG rfl (by kernel_rfl) ?_ ?_
         · exact insConds2W hQ ho hE
         refine Vn hG rfl ?_
         refine⟨rfl,?_⟩
         exact st
   · have hm:¬k<(List.length (List.getD a1.1 i.toNat (dflt Y64)).1:Int):=oFa h1
     refine Vx (Vn hG rfl ?_)
     refine⟨rfl,?_⟩
     exact uoStep hI hl hb hK hm
 · have hl:¬i<(List.length a1.1:Int):=oFa h0
   refine Vx (Vm hG rfl (Vt ?_))
   refine⟨?_,trivial⟩
   exact uoEnd hI hl
noncomputable def F289:Fun:=⟨[.pair (.int .i64) Y40],[.pure Y5],fun _=>True,fun x=>(certSpanF x.1,())⟩
theorem F289_ok:Meets Tryz.prog 289 F289:=by
 refine mZ (C:=mkC 8 [2] [0,1,2] []) (mO _ _ _ _) (fO _) Tryz.func289 rfl rfl rfl (by decide) rfl ?_
 rintro⟨a0,_⟩ hwf hpre ⟨⟩ hG rfl rfl
 show Vc _ _ [(0,⟨0,0,.c Z48 a0⟩)] _
 refine Vm hG rfl (Vm hG rfl (Vt ?_))
 refine⟨?_,trivial⟩
 all_goals exact rfl
noncomputable def F276:Fun:=⟨[.pair (.int .i64) Y40],[.pure (.bool)],fun _=>True,fun x=>(isCertF x.1,())⟩
theorem F276_ok:Meets Tryz.prog 276 F276:=by
 refine mZ (C:=mkC 33 [2] [0,1,2] [⟨51,_,F51_ok⟩,⟨289,_,F289_ok⟩,⟨224,_,F224_ok⟩]) (mO _ _ _ _) (fO _) Tryz.func276 rfl rfl rfl (by decide) rfl ?_
 rintro⟨a0,_⟩ hwf hpre ⟨⟩ hG rfl rfl
 show Vc _ _ [(0,⟨0,0,.c Z48 a0⟩)] _
 refine Vm hG rfl (Vq ?_)
 refine Vr hG rfl ?_ ?_
 · repeat' (first | exact trivial | refine And.intro ?_ ?_ | intro _)
 refine Vt ?_
 refine⟨?_,trivial⟩
 all_goals exact rfl
noncomputable def F277:Fun:=⟨[.pair (.int .i64) Y40],[.own (.pure (.int .i64))],fun _=>True,fun x=>(certIntsF x.1,())⟩
theorem F277_ok:Meets Tryz.prog 277 F277:=by
 refine mZ (C:=mkC 16 [2] [0,1,2] []) (mO _ _ _ _) (fO _) Tryz.func277 rfl rfl rfl (by decide) rfl ?_
 rintro⟨a0,_⟩ hwf hpre ⟨⟩ hG rfl rfl
 show Vc _ _ [(0,⟨0,0,.c Z48 a0⟩)] _
 refine Vm hG rfl (Vm hG rfl (Vt ?_))
 refine⟨?_,trivial⟩
 all_goals exact rfl
noncomputable def F278:Fun:=⟨[.slice Y34,.int .i64],[.pure (.int .i64)],fun _=>True,fun x=>(ownerF x.1 x.2.1,())⟩
theorem F278_ok:Meets Tryz.prog 278 F278:=by
 refine mZ (C:=mkC 16 [4] [0,1,4,5,10] [⟨128,_,F128_ok⟩]) (mO _ _ _ _) (fO _) Tryz.func278 rfl rfl rfl (by decide) rfl ?_
 rintro⟨a0,(a1:Int),_⟩ hwf hpre ⟨⟩ hG rfl rfl
 show Vc _ _ [(0,⟨0,0,.c Z38 a0⟩),(1,⟨0,0,.c (.pure (.int .i64)) a1⟩)] _
 refine Vm hG rfl (Vq (Vm hG rfl (Vm hG rfl ?_)))
 refine Vk rfl ?_ ?_<;>intro h0
 · have g0:¬keyI a0 a1<0:=Int.not_lt.2 (oTr h0)
   refine Vq ?_
   refine Vr hG rfl ?_ ?_
   · exact findRange g0
   refine Vt ?_
   refine⟨?_,trivial⟩
   exact owner1 g0
 · have g0:keyI a0 a1<0:=Int.not_le.1 (oFa h0)
   refine Vs (Vm hG rfl (Vt ?_))
   refine⟨?_,trivial⟩
   exact owner0 g0
noncomputable def F214:Fun:=⟨[.slice Y34,.pair (.int .i64) Y40],[.pure (.bool)],fun _=>True,fun x=>(checkCertF x.1 x.2.1,())⟩
theorem F214_ok:Meets Tryz.prog 214 F214:=by
 refine mZ (C:=mkC 26 [4] [0,1,3,4] [⟨276,_,F276_ok⟩,⟨277,_,F277_ok⟩,⟨208,_,F208_ok⟩,⟨278,_,F278_ok⟩]) (mO _ _ _ _) (fO _) Tryz.func214 rfl rfl rfl (by decide) rfl ?_
 rintro⟨a0,a1,_⟩ hwf hpre ⟨⟩ hG rfl rfl
 show Vc _ _ [(0,⟨0,0,.c Z38 a0⟩),(1,⟨0,0,.c Z48 a1⟩)] _
 refine Vm hG rfl (Vq ?_)
 refine VrD mixed hG rfl (by kernel_rfl) ?_ ?_
 · exact⟨trivial,fun _=>trivial,fun _=>smallLit (n:=7) rfl (by decide),fun _=>trivial⟩
 refine Vt ?_
 refine⟨?_,trivial⟩
 exact checkCertI a0 a1
noncomputable def F134:Fun:=⟨[.pair Y36 Y57,.slice Y19,.pair (.int .i64) Y50],[.pure Y47,.pure (.bool)],fun _=>True,fun x=>(((fun a0 a1 a2=>certForF a0.1 a1 a2) x.1 x.2.1 x.2.2.1).1,((fun a0 a1 a2=>certForF a0.1 a1 a2) x.1 x.2.1 x.2.2.1).2,())⟩
theorem F134_ok:Meets Tryz.prog 134 F134:=by
 refine mZ (C:=mkC 54 [6,7] [0,1,2,3,5,6,7,8,9,11,12,13,14,15,16,17,45,51] [⟨213,_,F213_ok⟩,⟨214,_,F214_ok⟩]) (mO _ _ _ _) (fO _) Tryz.func134 rfl rfl rfl (by decide) rfl ?_
 rintro⟨a0,a1,a2,_⟩ hwf hpre ⟨⟩ hG rfl rfl
 show Vc _ _ [(0,⟨0,0,.c Z68 a0⟩),(1,⟨0,0,.c Z28 a1⟩),(2,⟨0,0,.c Z54 a2⟩)] _
 have hb:List.length a1≤bigLen:=hwf.2.1.1
 refine Vm hG rfl (Vm hG rfl (Vm hG rfl (Vq ?_)))
 refine Vm hG rfl (Vb ?_)
 refine Vc.loopF [(8,true,.pure Y47),(9,false,.pure (.int .i64)),(16,false,.pure (.int .i64))] [0,1,2,3,5,6,7,14,15,51] (fun v=>cfInv a0.1 a2 a1 v.1 v.2.1 v.2.2.1) (fun v=>((List.length a1:Int)-v.2.2.1).toNat) rfl ?_ ?_
 · exact cfStart
 rintro⟨c,(n:Int),(i:Int),_⟩ hI
 have hI:cfInv a0.1 a2 a1 c n i:=hI
 refine Vm hG rfl (Vq ?_)
 refine Vk rfl ?_ ?_<;>intro h0
 · have hl:i<(List.length a1:Int):=oTr h0
   refine Vs (Vq (Vb (Vq ?_)))
   refine Vr hG rfl ?_ ?_
   · exact cfRange hI hl
   refine Vm hG rfl (Vq ?_)
   refine Vr hG rfl ?_ ?_
   · repeat' (first | exact trivial | refine And.intro ?_ ?_ | intro _)
   refine Vk rfl ?_ ?_<;>intro h1
   · have g1:cfTest a0.1 a2 (List.getD a1 i.toNat (dflt Y19))=true:=h1
     refine Vm hG rfl (Vn hG rfl (Vn hG rfl ?_))
     refine⟨rfl,?_⟩
     first | exact cfGo1 hI hl hb g1 | exact cfGo0 hI hl hb g1
   · have g1:cfTest a0.1 a2 (List.getD a1 i.toNat (dflt Y19))=false:=h1
     refine Vs (Vn hG rfl ?_)
     refine⟨rfl,?_⟩
     first | exact cfGo1 hI hl hb g1 | exact cfGo0 hI hl hb g1
 · have hl:¬i<(List.length a1:Int):=oFa h0
   refine Vx (Vq (Vm hG rfl ?_))
   refine Vk rfl ?_ ?_<;>intro h2
   · have g2:(n != 1)=true:=h2
     refine Vm hG rfl (Vt ?_)
     have e:=cfEnd0 hI hl g2
     refine⟨?_,?_,trivial⟩
     · exact(congrArg Prod.fst e).symm
     · exact(congrArg Prod.snd e).symm
   · have g2:(n != 1)=false:=h2
     refine Vs (Vm hG rfl (Vt ?_))
     have e:=cfEnd1 hI hl g2
     refine⟨?_,?_,trivial⟩
     · exact(congrArg Prod.fst e).symm
     · exact(congrArg Prod.snd e).symm
noncomputable def F279:Fun:=⟨[.int .i64,.int .i64],[.pure (.int .i64)],fun _=>True,fun x=>((fun(a b:Int)=>max a b) x.1 x.2.1,())⟩
theorem F279_ok:Meets Tryz.prog 279 F279:=by
 refine mZ (C:=mkC 8 [4] [0,1,4] []) (mO _ _ _ _) (fO _) Tryz.func279 rfl rfl rfl (by decide) rfl ?_
 rintro⟨(a0:Int),(a1:Int),_⟩ hwf hpre ⟨⟩ hG rfl rfl
 show Vc _ _ [(0,⟨0,0,.c (.pure (.int .i64)) a0⟩),(1,⟨0,0,.c (.pure (.int .i64)) a1⟩)] _
 refine Vm hG rfl (Vm hG rfl (Vt ?_))
 refine⟨?_,trivial⟩
 all_goals exact rfl
noncomputable def F216:Fun:=⟨[.int .i64,.slice Y34],[.pure (.int .i64)],fun x=>(fun(_:Int) (l:List Stamp)=>List.length l≤1048576) x.1 x.2.1,fun x=>(stampsDgF x.1 x.2.1,())⟩
theorem F216_ok:Meets Tryz.prog 216 F216:=by
 refine mZ (C:=mkC 27 [4] [0,1,4,5,7,10,11,12,13,14] [⟨89,_,F89_ok⟩,⟨279,_,F279_ok⟩]) (mO _ _ _ _) (fO _) Tryz.func216 rfl rfl rfl (by decide) rfl ?_
 rintro⟨(a0:Int),a1,_⟩ hwf hpre ⟨⟩ hG rfl rfl
 show Vc _ _ [(0,⟨0,0,.c (.pure (.int .i64)) a0⟩),(1,⟨0,0,.c Z38 a1⟩)] _
 have hs:List.length a1≤1048576:=hpre
 have hb:List.length a1≤bigLen:=hwf.2.1.1
 refine Vm hG rfl (Vq (Vm hG rfl ?_))
 refine Vk rfl ?_ ?_<;>intro h0
 · have g0:(List.length a1:Int)=0:=beqI2 h0
   refine Vm hG rfl (Vt ?_)
   refine⟨?_,trivial⟩
   exact sd0 g0
 · have g0:¬(List.length a1:Int)=0:=bneI' h0
   refine Vs (Vm hG rfl (Vq (Vm hG rfl ?_)))
   refine Vb ?_
   refine Vc.loopF [(5,false,.own (.pure (.int .i64))),(13,false,.pure (.int .i64))] [0,1,4,10,11,12] (fun v=>gsInv (mkG a1) [] a1 v.1 v.2.1) (fun v=>((List.length a1:Int)-v.2.1).toNat) rfl ?_ ?_
   · exact gsStart
   rintro⟨acc,(i:Int),_⟩ hI
   have hI:gsInv (mkG a1) [] a1 acc i:=hI
   have hA:List.length acc≤1048576:=gsLen (c:=1) (m:=1048576) hI (fun _=>Nat.le_refl _) hs (by simp)
   refine Vm hG rfl (Vq ?_)
   refine Vk rfl ?_ ?_<;>intro h1
   · have hl:i<(List.length a1:Int):=oTr h1
     refine Vs (Vq (Vb (Vq ?_)))
     refine Vr hG rfl ?_ ?_
     · exact gsRange hI hl
     refine Vr hG rfl ?_ ?_
     · exact(show List.length acc+1≤maxApp from by unfold maxApp;omega)
     refine Vn hG rfl ?_
     refine⟨rfl,?_⟩
     exact gsStep hI hl hb rfl
   · have hl:¬i<(List.length a1:Int):=oFa h1
     refine Vx (Vq ?_)
     refine Vr hG rfl ?_ ?_
     · exact⟨(show List.length acc≤1000000000 from by omega),trivial⟩
     refine Vt ?_
     refine⟨?_,trivial⟩
     exact(congrArg (fun l=>max 1 (digestF a0 l)) (gsEnd hI hl)).trans (sd1 g0)
noncomputable def F217:Fun:=⟨[.int .i64,.pair (.int .i64) Y26],[.pair (.pure (.int .i64)) Z16],fun _=>True,fun x=>(stampPieceF x.1 x.2.1,())⟩
theorem F217_ok:Meets Tryz.prog 217 F217:=by
 refine mZ (C:=mkC 11 [4] [0,1,3,4] [⟨90,_,F90_ok⟩]) (mO _ _ _ _) (fO _) Tryz.func217 rfl rfl rfl (by decide) rfl ?_
 rintro⟨(a0:Int),a1,_⟩ hwf hpre ⟨⟩ hG rfl rfl
 show Vc _ _ [(0,⟨0,0,.c (.pure (.int .i64)) a0⟩),(1,⟨0,0,.c Z35 a1⟩)] _
 refine Vm hG rfl (Vq (VrD mixed hG rfl (by kernel_rfl) (by trivial) (Vt ?_)))
 refine⟨?_,trivial⟩
 all_goals exact rfl
end Fw
