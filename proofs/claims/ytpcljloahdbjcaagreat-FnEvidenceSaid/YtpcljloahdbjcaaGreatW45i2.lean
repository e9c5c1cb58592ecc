/- Walks of functions of the program: what each computes. Conditions: those that each contract names. -/
import Derived.Test.YtpcljloahdbjcaaGreatW45T
import Derived.Test.YtpcljloahdbjcaaGreatW45i0
import Derived.Test.YtpcljloahdbjcaaGreatW45i1
namespace Fw
open Go Go.Proofs
set_option linter.unusedSimpArgs false
set_option maxRecDepth 100000
noncomputable def F27:Fun:=⟨[.pair (.int .i64) Y8,.pair (.int .i64) Y8],[.pure (.bool)],fun _=>True,fun x=>(pbF x.1 x.2.1,())⟩
theorem F27_ok:Meets Tryz.prog 27 F27:=by
 refine mZ (C:=mkC 73 [4] [0,1,2,3,4,5,17,30,42,57] []) (mO _ _ _ _) (fO _) Tryz.func27 rfl rfl rfl (by decide) rfl ?_
 rintro⟨a0,a1,_⟩ hwf hpre ⟨⟩ hG rfl rfl
 show Vc _ _ [(0,⟨0,0,.c Z21 a0⟩),(1,⟨0,0,.c Z21 a1⟩)] _
 have hb:List.length a0.2.1≤bigLen:=hwf.1.2.1.1
 refine Vm hG rfl (Vq (Vm hG rfl (Vb ?_)))
 refine Vc.loopF [(5,false,.pure (.int .i64))] [0,1,2,3,42,57] (fun v=>pbInv a0 a1 v.1) (fun v=>((List.length a0.2.1:Int)-v.1).toNat) rfl ?_ ?_
 · exact pbStart
 rintro⟨(i:Int),_⟩ hI
 have hI:pbInv a0 a1 i:=hI
 refine Vq (Vm hG rfl ?_)
 refine Vk rfl ?_ ?_<;>intro h0
 · have hh:=andLt h0
   have hl:=hh.1
   have hm:=hh.2
   refine Vs (Vq (Vb (Vq ?_)))
   refine VrD mixed hG rfl (by kernel_rfl) ?_ ?_
   · exact⟨pbRangeA hI hl,pbRangeB hI hm⟩
   refine Vk rfl ?_ ?_<;>intro h1
   · have g1:=bneT h1
     refine Vq ?_
     refine VrD mixed hG rfl (by kernel_rfl) ?_ ?_
     · exact⟨pbRangeA hI hl,pbRangeB hI hm⟩
     refine Vt ?_
     refine⟨?_,trivial⟩
     exact pbHit hI hl hm g1
   · have g1:=bneI h1
     refine Vs (Vn hG rfl ?_)
     refine⟨rfl,?_⟩
     exact pbStep hI hl hm hb g1
 · have hx:=andGe h0
   refine Vx (Vq (Vb (Vm hG rfl ?_)))
   refine Vk rfl ?_ ?_<;>intro h2
   · refine Vm hG rfl (Vt ?_)
     refine⟨?_,trivial⟩
     exact pbLen hI hx h2
   · refine Vm hG rfl ?_
     refine Vk rfl ?_ ?_<;>intro h3
     · refine Vm hG rfl (Vt ?_)
       refine⟨?_,trivial⟩
       exact pbKey hI hx h2 h3
     · refine Vs (Vm hG rfl (Vt ?_))
       refine⟨?_,trivial⟩
       exact pbMark hI hx h2 h3
noncomputable def F26:Fun:=⟨[.pair Y33 Y52,.pair Y62 Y36,.slice (.slice (.int .i64))],[.own Z28],fun x=>(fun(_:Frame) (e:Evidence) (_:List (List Int))=>Sm big20 Y62 e.1∧((cellsC Y62 e.1:Nat):Int)≤2000000000) x.1 x.2.1 x.2.2.1,fun x=>(usablePiecesF x.1 x.2.1 x.2.2.1,())⟩
theorem F26_ok:Meets Tryz.prog 26 F26:=by
 refine mZ (C:=mkC 79 [6] [0,1,2,3,4,6,7,9,11,12,14,15,16,17,21,22,23,24,48,60] [⟨97,_,F97_ok⟩,⟨28,_,F28_ok⟩,⟨25,_,F25_ok⟩,⟨98,_,F98_ok⟩,⟨27,_,F27_ok⟩,⟨99,_,F99_ok⟩]) (mO _ _ _ _) (fO _) Tryz.func26 rfl rfl rfl (by decide) rfl ?_
 rintro⟨a0,a1,a2,_⟩ hwf hpre ⟨⟩ hG rfl rfl
 show Vc _ _ [(0,⟨0,0,.c Z63 a0⟩),(1,⟨0,0,.c Z68 a1⟩),(2,⟨0,0,.c (.pure (.slice (.slice (.int .i64)))) a2⟩)] _
 have hS:Sm big20 Y62 a1.1:=hpre.1
 have hc:((cellsC Y62 a1.1:Nat):Int)≤2000000000:=hpre.2
 have hb:List.length a1.1≤bigLen:=hwf.2.1.1.1
 refine Vm hG rfl (Vm hG rfl (Vq (Vm hG rfl ?_)))
 refine Vb ?_
 refine Vc.loopF [(7,false,.own Z28),(16,false,.pure (.int .i64))] [0,1,2,3,4,6,14,15] (fun v=>uoInv a0 a1 a2 v.1 v.2.1) (fun v=>((List.length a1.1:Int)-v.2.1).toNat) rfl ?_ ?_
 · exact uoStart
 rintro⟨out,(i:Int),_⟩ hI
 have hI:uoInv a0 a1 a2 out i:=hI
 refine Vm hG rfl (Vq ?_)
 refine Vk rfl ?_ ?_<;>intro h0
 · have hl:i<(List.length a1.1:Int):=oTr h0
   have ri:=uoRange hI hl
   have sS:=usStrand hS ri
   have hbk:List.length (List.getD a1.1 i.toNat (dflt Y59)).1≤bigLen:=Nat.le_trans sS.1.1 (by decide)
   refine Vs (Vq (Vb (Vq ?_)))
   refine Vr hG rfl ?_ ?_
   · exact ri
   refine Vm hG rfl (Vb ?_)
   refine Vc.loopF [(7,false,.own Z28),(23,false,.pure (.int .i64))] [0,1,2,3,4,6,9,14,15,16,17,21,22] (fun v=>uiInv a0 a1 a2 i v.1 v.2.1) (fun v=>((List.length (List.getD a1.1 i.toNat (dflt Y59)).1:Int)-v.2.1).toNat) rfl ?_ ?_
   · exact uiStart hI
   rintro⟨out2,(k:Int),_⟩ hK
   have hK:uiInv a0 a1 a2 i out2 k:=hK
   refine Vm hG rfl (Vq ?_)
   refine Vk rfl ?_ ?_<;>intro h1
   · have hm:k<(List.length (List.getD a1.1 i.toNat (dflt Y59)).1:Int):=oTr h1
     have rk:=uiRange hK hm
     have ho:=uiLen ri hK hc
     have hE:Sm big20 Y17 (List.getD (List.getD a1.1 i.toNat (dflt Y59)).1 k.toNat (dflt Y17)):=sS.1.2 _ (getD_mem rk _)
     refine Vs (Vq (Vb (Vq ?_)))
     refine Vr hG rfl ?_ ?_
     · exact rk
     refine Vq (Vq ?_)
     refine VrD mixed hG rfl (by kernel_rfl) ?_ ?_
     · repeat' (first | exact trivial | exact hS | refine And.intro ?_ ?_ | intro _)
     refine Vk rfl ?_ ?_<;>intro h2
     · have g2:pick2 (pick2 (hasF out2 (List.getD (List.getD a1.1 i.toNat (dflt Y59)).1 k.toNat (dflt Y17))) true (!(checkPieceF a0.1 (List.getD (List.getD a1.1 i.toNat (dflt Y59)).1 k.toNat (dflt Y17))))) true (decide (evBoundF a0 a1 a2 (List.getD (List.getD a1.1 i.toNat (dflt Y59)).1 k.toNat (dflt Y17))≥brkKeyF a0 (List.getD (List.getD a1.1 i.toNat (dflt Y59)).1 k.toNat (dflt Y17)).1))=true:=h2
       have st:=uiStep hK hm hbk (usSkip g2)
       refine Vx (Vn hG rfl ?_)
       refine⟨rfl,?_⟩
       exact st
     · have g2:pick2 (pick2 (hasF out2 (List.getD (List.getD a1.1 i.toNat (dflt Y59)).1 k.toNat (dflt Y17))) true (!(checkPieceF a0.1 (List.getD (List.getD a1.1 i.toNat (dflt Y59)).1 k.toNat (dflt Y17))))) true (decide (evBoundF a0 a1 a2 (List.getD (List.getD a1.1 i.toNat (dflt Y59)).1 k.toNat (dflt Y17))≥brkKeyF a0 (List.getD (List.getD a1.1 i.toNat (dflt Y59)).1 k.toNat (dflt Y17)).1))=false:=h2
       refine Vs (Vm hG rfl (Vq (Vb ?_)))
       refine Vc.loopF [(12,false,.pure (.int .i64))] [0,1,2,3,4,6,7,9,11,14,15,16,17,21,22,23,24,48] (fun v=>tkInv (fun(y:Piece)=>pbF y (List.getD (List.getD a1.1 i.toNat (dflt Y59)).1 k.toNat (dflt Y17))) out2 v.1) (fun v=>((List.length out2:Int)-v.1).toNat) rfl ?_ ?_
       · exact tkStart
       rintro⟨(q:Int),_⟩ hQ
       have hQ:tkInv (fun(y:Piece)=>pbF y (List.getD (List.getD a1.1 i.toNat (dflt Y59)).1 k.toNat (dflt Y17))) out2 q:=hQ
       refine Vq (Vq ?_)
       refine VrD mixed hG rfl (by kernel_rfl) ?_ ?_
       · exact⟨fun h=>tkRange hQ (oTr h),fun _=>trivial⟩
       refine Vk rfl ?_ ?_<;>intro h3
       · have g3:pick2 (decide (q<(List.length out2:Int))) (pbF (List.getD out2 q.toNat (dflt Y17)) (List.getD (List.getD a1.1 i.toNat (dflt Y59)).1 k.toNat (dflt Y17))) false=true:=h3
         refine Vs (Vb (Vn hG rfl ?_))
         refine⟨rfl,?_⟩
         exact tkStepW (p:=(fun(y:Piece)=>pbF y (List.getD (List.getD a1.1 i.toNat (dflt Y59)).1 k.toNat (dflt Y17)))) hQ ho g3
       · have g3:pick2 (decide (q<(List.length out2:Int))) (pbF (List.getD out2 q.toNat (dflt Y17)) (List.getD (List.getD a1.1 i.toNat (dflt Y59)).1 k.toNat (dflt Y17))) false=false:=h3
         have hk:=tkEnd (p:=(fun(y:Piece)=>pbF y (List.getD (List.getD a1.1 i.toNat (dflt Y59)).1 k.toNat (dflt Y17)))) hQ g3
         have st:=uiStep hK hm hbk ((putEq hQ hk).trans (usTake g2))
         refine Vx ?_
         refine VrD mixed hG rfl (by kernel_rfl) ?_ ?_
         · exact insConds2W hQ ho hE
         refine Vn hG rfl ?_
         refine⟨rfl,?_⟩
         exact st
   · have hm:¬k<(List.length (List.getD a1.1 i.toNat (dflt Y59)).1:Int):=oFa h1
     refine Vx (Vn hG rfl ?_)
     refine⟨rfl,?_⟩
     exact uoStep hI hl hb hK hm
 · have hl:¬i<(List.length a1.1:Int):=oFa h0
   refine Vx (Vm hG rfl (Vt ?_))
   refine⟨?_,trivial⟩
   exact uoEnd hI hl
noncomputable def F171:Fun:=⟨[.int .i64,.int .i64],[.pure (.int .i64)],fun _=>True,fun x=>((fun(a b:Int)=>max a b) x.1 x.2.1,())⟩
theorem F171_ok:Meets Tryz.prog 171 F171:=by
 refine mZ (C:=mkC 8 [4] [0,1,4] []) (mO _ _ _ _) (fO _) Tryz.func171 rfl rfl rfl (by decide) rfl ?_
 rintro⟨(a0:Int),(a1:Int),_⟩ hwf hpre ⟨⟩ hG rfl rfl
 show Vc _ _ [(0,⟨0,0,.c (.pure (.int .i64)) a0⟩),(1,⟨0,0,.c (.pure (.int .i64)) a1⟩)] _
 refine Vm hG rfl (Vm hG rfl (Vt ?_))
 refine⟨?_,trivial⟩
 all_goals exact rfl
noncomputable def F109:Fun:=⟨[.int .i64,.slice Y31],[.pure (.int .i64)],fun x=>(fun(_:Int) (l:List Stamp)=>List.length l≤1048576) x.1 x.2.1,fun x=>(stampsDgF x.1 x.2.1,())⟩
theorem F109_ok:Meets Tryz.prog 109 F109:=by
 refine mZ (C:=mkC 27 [4] [0,1,4,5,7,10,11,12,13,14] [⟨120,_,F120_ok⟩,⟨171,_,F171_ok⟩]) (mO _ _ _ _) (fO _) Tryz.func109 rfl rfl rfl (by decide) rfl ?_
 rintro⟨(a0:Int),a1,_⟩ hwf hpre ⟨⟩ hG rfl rfl
 show Vc _ _ [(0,⟨0,0,.c (.pure (.int .i64)) a0⟩),(1,⟨0,0,.c Z35 a1⟩)] _
 have hs:List.length a1≤1048576:=hpre
 have hb:List.length a1≤bigLen:=hwf.2.1.1
 refine Vm hG rfl (Vq (Vm hG rfl ?_))
 refine Vk rfl ?_ ?_<;>intro h0
 · have g0:(List.length a1:Int)=0:=beqI2 h0
   refine Vm hG rfl (Vt ?_)
   refine⟨?_,trivial⟩
   exact sd0 g0
 · have g0:¬(List.length a1:Int)=0:=bneI' h0
   refine Vs (Vm hG rfl (Vq (Vm hG rfl ?_)))
   refine Vb ?_
   refine Vc.loopF [(5,false,.own (.pure (.int .i64))),(13,false,.pure (.int .i64))] [0,1,4,10,11,12] (fun v=>gsInv (mkG a1) [] a1 v.1 v.2.1) (fun v=>((List.length a1:Int)-v.2.1).toNat) rfl ?_ ?_
   · exact gsStart
   rintro⟨acc,(i:Int),_⟩ hI
   have hI:gsInv (mkG a1) [] a1 acc i:=hI
   have hA:List.length acc≤1048576:=gsLen (c:=1) (m:=1048576) hI (fun _=>Nat.le_refl _) hs (by simp)
   refine Vm hG rfl (Vq ?_)
   refine Vk rfl ?_ ?_<;>intro h1
   · have hl:i<(List.length a1:Int):=oTr h1
     refine Vs (Vq (Vb (Vq ?_)))
     refine Vr hG rfl ?_ ?_
     · exact gsRange hI hl
     refine Vr hG rfl ?_ ?_
     · exact(show List.length acc+1≤maxApp from by unfold maxApp;omega)
     refine Vn hG rfl ?_
     refine⟨rfl,?_⟩
     exact gsStep hI hl hb rfl
   · have hl:¬i<(List.length a1:Int):=oFa h1
     refine Vx (Vq ?_)
     refine Vr hG rfl ?_ ?_
     · exact⟨(show List.length acc≤1000000000 from by omega),trivial⟩
     refine Vt ?_
     refine⟨?_,trivial⟩
     exact(congrArg (fun l=>max 1 (digestF a0 l)) (gsEnd hI hl)).trans (sd1 g0)
noncomputable def F110:Fun:=⟨[.int .i64,.pair (.int .i64) Y24],[.pair (.pure (.int .i64)) Z14],fun _=>True,fun x=>(stampPieceF x.1 x.2.1,())⟩
theorem F110_ok:Meets Tryz.prog 110 F110:=by
 refine mZ (C:=mkC 11 [4] [0,1,3,4] [⟨156,_,F156_ok⟩]) (mO _ _ _ _) (fO _) Tryz.func110 rfl rfl rfl (by decide) rfl ?_
 rintro⟨(a0:Int),a1,_⟩ hwf hpre ⟨⟩ hG rfl rfl
 show Vc _ _ [(0,⟨0,0,.c (.pure (.int .i64)) a0⟩),(1,⟨0,0,.c Z32 a1⟩)] _
 refine Vm hG rfl (Vq (VrD mixed hG rfl (by kernel_rfl) (by trivial) (Vt ?_)))
 refine⟨?_,trivial⟩
 all_goals exact rfl
noncomputable def F30:Fun:=⟨[.pair Y33 Y52,.pair Y62 Y36,.slice Y17,.pair (.int .i64) Y45],[.pure (.int .i64)],fun x=>(fun(_:Frame) (e:Evidence) (_:List Piece) (_:Sig)=>Sm big20 (.slice (.slice TStamp)) e.2) x.1 x.2.1 x.2.2.1 x.2.2.2.1,fun x=>(freshG x.1 x.2.1 x.2.2.1 x.2.2.2.1,())⟩
set_option maxHeartbeats 2000000 in
theorem F30_ok:Meets Tryz.prog 30 F30:=by
 refine mZ (C:=mkC 92 [8] [0,1,2,3,4,5,7,8,9,10,12,13,15,16,17,24,32,33,34,35,54,55,56,57,58,85] [⟨34,_,F34_ok⟩,⟨108,_,F108_ok⟩,⟨109,_,F109_ok⟩,⟨111,_,F111_ok⟩,⟨110,_,F110_ok⟩,⟨97,_,F97_ok⟩,⟨112,_,F112_ok⟩]) (mO _ _ _ _) (fO _) Tryz.func30 rfl rfl rfl (by decide) rfl ?_
 rintro⟨a0,a1,a2,a3,_⟩ hwf hpre ⟨⟩ hG rfl rfl
 show Vc _ _ [(0,⟨0,0,.c Z63 a0⟩),(1,⟨0,0,.c Z68 a1⟩),(2,⟨0,0,.c Z26 a2⟩),(3,⟨0,0,.c Z49 a3⟩)] _
 have hp:List.length a1.2≤big20∧∀ l∈a1.2,Sm big20 (.slice TStamp) l:=hpre
 have hb:List.length a1.2≤bigLen:=hwf.2.1.2.1
 refine Vm hG rfl (Vm hG rfl (Vq (Vm hG rfl ?_)))
 refine Vm hG rfl ?_
 refine Vk rfl ?_ ?_<;>intro h0
 · have g0:keyI a0.1 a3.1≥0:=oTr h0
   have eb:=born1 g0
   refine Vr hG rfl ?_ ?_
   · exact findRange (show ¬keyI a0.1 a3.1<0 from by omega)
   refine Vq (Vm hG rfl (Vb ?_))
   refine Vc.loopF [(9,false,.pure (.int .i64)),(34,false,.pure (.int .i64))] [0,1,2,3,4,5,7,8,10,24,32,33] (fun v=>foInv (frG a0 a2 a3) (bornF a0 a3) a1.2 v.1 v.2.1) (fun v=>((List.length a1.2:Int)-v.2.1).toNat) rfl ?_ ?_
   · exact frStart eb
   rintro⟨(t:Int),(i:Int),_⟩ hI
   have hI:foInv (frG a0 a2 a3) (bornF a0 a3) a1.2 t i:=hI
   refine Vm hG rfl (Vq ?_)
   refine Vk rfl ?_ ?_<;>intro h1
   · have hl:i<(List.length a1.2:Int):=oTr h1
     have r1:=foRange hI hl
     have hE:List.length (List.getD a1.2 i.toNat (dflt (.slice TStamp)))≤1048576:=(hp.2 _ (getD_mem r1 _)).1
     have hbk:List.length (List.getD a1.2 i.toNat (dflt (.slice TStamp)))≤bigLen:=Nat.le_trans hE (by decide)
     refine Vs (Vq (Vb (Vq ?_)))
     refine Vr hG rfl ?_ ?_
     · exact r1
     refine Vq (Vq ?_)
     refine VrD mixed hG rfl (by kernel_rfl) ?_ ?_
     · exact⟨fun _=>trivial,fun _=>hE⟩
     refine Vk rfl ?_ ?_<;>intro h2
     · have g1:pick2 (pick2 (a3.2.2.2.2.2.2.2.1==0) true (!(riseF (List.getD a1.2 i.toNat (dflt (.slice TStamp)))))) true (stampsDgF a3.2.2.1 (List.getD a1.2 i.toNat (dflt (.slice TStamp))) != a3.2.2.2.2.2.2.2.1)=true:=h2
       have st:=foStepE (d:=dflt (.slice TStamp)) hI hl hb (frSkip (t:=t) g1)
       refine Vx (Vn hG rfl ?_)
       refine⟨rfl,?_⟩
       exact st
     · have g1:pick2 (pick2 (a3.2.2.2.2.2.2.2.1==0) true (!(riseF (List.getD a1.2 i.toNat (dflt (.slice TStamp)))))) true (stampsDgF a3.2.2.1 (List.getD a1.2 i.toNat (dflt (.slice TStamp))) != a3.2.2.2.2.2.2.2.1)=false:=h2
       refine Vs (Vm hG rfl (Vq (Vm hG rfl ?_)))
       refine Vb ?_
       refine Vc.loopF [(13,false,.pure (.bool)),(57,false,.pure (.int .i64))] [0,1,2,3,4,5,7,8,9,10,12,16,17,24,32,33,34,35,54,55,56,85] (fun v=>hbInv a0 a2 (List.getD a1.2 i.toNat (dflt (.slice TStamp))) v.1 v.2.1) (fun v=>((List.length (List.getD a1.2 i.toNat (dflt (.slice TStamp))):Int)-v.2.1).toNat) rfl ?_ ?_
       · exact hbStart
       rintro⟨b,(k:Int),_⟩ hK
       have hK:hbInv a0 a2 (List.getD a1.2 i.toNat (dflt (.slice TStamp))) b k:=hK
       refine Vm hG rfl (Vq ?_)
       refine Vk rfl ?_ ?_<;>intro h3
       · have hm:k<(List.length (List.getD a1.2 i.toNat (dflt (.slice TStamp))):Int):=oTr h3
         refine Vs (Vq (Vb (Vq ?_)))
         refine Vr hG rfl ?_ ?_
         · exact hbRange hK hm
         refine VrD mixed hG rfl (by kernel_rfl) ?_ ?_
         · repeat' (first | exact trivial | refine And.intro ?_ ?_ | intro _)
         refine Vn hG rfl ?_
         refine⟨rfl,?_⟩
         exact hbStep hK hm hbk rfl
       · have hm:¬k<(List.length (List.getD a1.2 i.toNat (dflt (.slice TStamp))):Int):=oFa h3
         have hB:=hbEnd hK hm
         refine Vx (Vq ?_)
         refine Vr hG rfl ?_ ?_
         · exact hE
         refine Vm hG rfl ?_
         refine Vk rfl ?_ ?_<;>intro h4
         · have st:=foStepE (d:=dflt (.slice TStamp)) hI hl hb (frMax g1 hB h4)
           refine Vn hG rfl (Vn hG rfl ?_)
           refine⟨rfl,?_⟩
           exact st
         · have st:=foStepE (d:=dflt (.slice TStamp)) hI hl hb (frKeep (t:=t) (x:=a3) hB h4)
           refine Vs (Vn hG rfl ?_)
           refine⟨rfl,?_⟩
           exact st
   · have hl:¬i<(List.length a1.2:Int):=oFa h1
     refine Vx (Vm hG rfl (Vt ?_))
     refine⟨?_,trivial⟩
     exact foEnd hI hl
 · have g0:¬keyI a0.1 a3.1≥0:=oFa h0
   have eb:=born0 g0
   refine Vs (Vq (Vm hG rfl (Vb ?_)))
   refine Vc.loopF [(9,false,.pure (.int .i64)),(34,false,.pure (.int .i64))] [0,1,2,3,4,5,7,8,10,24,32,33] (fun v=>foInv (frG a0 a2 a3) (bornF a0 a3) a1.2 v.1 v.2.1) (fun v=>((List.length a1.2:Int)-v.2.1).toNat) rfl ?_ ?_
   · exact frStart eb
   rintro⟨(t:Int),(i:Int),_⟩ hI
   have hI:foInv (frG a0 a2 a3) (bornF a0 a3) a1.2 t i:=hI
   refine Vm hG rfl (Vq ?_)
   refine Vk rfl ?_ ?_<;>intro h5
   · have hl:i<(List.length a1.2:Int):=oTr h5
     have r1:=foRange hI hl
     have hE:List.length (List.getD a1.2 i.toNat (dflt (.slice TStamp)))≤1048576:=(hp.2 _ (getD_mem r1 _)).1
     have hbk:List.length (List.getD a1.2 i.toNat (dflt (.slice TStamp)))≤bigLen:=Nat.le_trans hE (by decide)
     refine Vs (Vq (Vb (Vq ?_)))
     refine Vr hG rfl ?_ ?_
     · exact r1
     refine Vq (Vq ?_)
     refine VrD mixed hG rfl (by kernel_rfl) ?_ ?_
     · exact⟨fun _=>trivial,fun _=>hE⟩
     refine Vk rfl ?_ ?_<;>intro h6
     · have g1:pick2 (pick2 (a3.2.2.2.2.2.2.2.1==0) true (!(riseF (List.getD a1.2 i.toNat (dflt (.slice TStamp)))))) true (stampsDgF a3.2.2.1 (List.getD a1.2 i.toNat (dflt (.slice TStamp))) != a3.2.2.2.2.2.2.2.1)=true:=h6
       have st:=foStepE (d:=dflt (.slice TStamp)) hI hl hb (frSkip (t:=t) g1)
       refine Vx (Vn hG rfl ?_)
       refine⟨rfl,?_⟩
       exact st
     · have g1:pick2 (pick2 (a3.2.2.2.2.2.2.2.1==0) true (!(riseF (List.getD a1.2 i.toNat (dflt (.slice TStamp)))))) true (stampsDgF a3.2.2.1 (List.getD a1.2 i.toNat (dflt (.slice TStamp))) != a3.2.2.2.2.2.2.2.1)=false:=h6
       refine Vs (Vm hG rfl (Vq (Vm hG rfl ?_)))
       refine Vb ?_
       refine Vc.loopF [(13,false,.pure (.bool)),(57,false,.pure (.int .i64))] [0,1,2,3,4,5,7,8,9,10,12,16,17,24,32,33,34,35,54,55,56,85] (fun v=>hbInv a0 a2 (List.getD a1.2 i.toNat (dflt (.slice TStamp))) v.1 v.2.1) (fun v=>((List.length (List.getD a1.2 i.toNat (dflt (.slice TStamp))):Int)-v.2.1).toNat) rfl ?_ ?_
       · exact hbStart
       rintro⟨b,(k:Int),_⟩ hK
       have hK:hbInv a0 a2 (List.getD a1.2 i.toNat (dflt (.slice TStamp))) b k:=hK
       refine Vm hG rfl (Vq ?_)
       refine Vk rfl ?_ ?_<;>intro h7
       · have hm:k<(List.length (List.getD a1.2 i.toNat (dflt (.slice TStamp))):Int):=oTr h7
         refine Vs (Vq (Vb (Vq ?_)))
         refine Vr hG rfl ?_ ?_
         · exact hbRange hK hm
         refine VrD mixed hG rfl (by kernel_rfl) ?_ ?_
         · repeat' (first | exact trivial | refine And.intro ?_ ?_ | intro _)
         refine Vn hG rfl ?_
         refine⟨rfl,?_⟩
         exact hbStep hK hm hbk rfl
       · have hm:¬k<(List.length (List.getD a1.2 i.toNat (dflt (.slice TStamp))):Int):=oFa h7
         have hB:=hbEnd hK hm
         refine Vx (Vq ?_)
         refine Vr hG rfl ?_ ?_
         · exact hE
         refine Vm hG rfl ?_
         refine Vk rfl ?_ ?_<;>intro h8
         · have st:=foStepE (d:=dflt (.slice TStamp)) hI hl hb (frMax g1 hB h8)
           refine Vn hG rfl (Vn hG rfl ?_)
           refine⟨rfl,?_⟩
           exact st
         · have st:=foStepE (d:=dflt (.slice TStamp)) hI hl hb (frKeep (t:=t) (x:=a3) hB h8)
           refine Vs (Vn hG rfl ?_)
           refine⟨rfl,?_⟩
           exact st
   · have hl:¬i<(List.length a1.2:Int):=oFa h5
     refine Vx (Vm hG rfl (Vt ?_))
     refine⟨?_,trivial⟩
     exact foEnd hI hl
noncomputable def F31:Fun:=⟨[.pair Y62 Y36,.pair Y62 Y36],[.pure (.bool)],fun _=>True,fun x=>(eqC x.1 x.2.1,())⟩
theorem F31_ok:Meets Tryz.prog 31 F31:=by
 refine mZ (C:=mkC 61 [4] [0,1,2,3,4,5,6,22,25,26,27,40,44,45,46,59] [⟨54,_,F54_ok⟩,⟨93,_,F93_ok⟩]) (mO _ _ _ _) (fO _) Tryz.func31 rfl rfl rfl (by decide) rfl ?_
 rintro⟨a0,a1,_⟩ hwf hpre ⟨⟩ hG rfl rfl
 show Vc _ _ [(0,⟨0,0,.c Z68 a0⟩),(1,⟨0,0,.c Z68 a1⟩)] _
 have hb0:List.length a0.1≤bigLen:=hwf.1.1.1
 have hb1:List.length a0.2≤bigLen:=hwf.1.2.1
 refine Vm hG rfl (Vq (Vm hG rfl ?_))
 refine Vk rfl ?_ ?_<;>intro h0
 · refine Vm hG rfl (Vt ?_)
   refine⟨?_,trivial⟩
   refine eqC_no (fun e=>?_)
   have e:a0=a1:=e
   have g:(pick2 ((List.length a0.1:Int) != (List.length a1.1:Int)) true ((List.length a0.2:Int) != (List.length a1.2:Int)))=true:=h0
   subst e
   exact(noOr bself bself) g
 · have g0:(pick2 ((List.length a0.1:Int) != (List.length a1.1:Int)) true ((List.length a0.2:Int) != (List.length a1.2:Int)))=false:=h0
   have f0_0:List.length a0.1=List.length a1.1:=(lenEq (orF g0).1)
   have f0_1:List.length a0.2=List.length a1.2:=(lenEq (orF g0).2)
   refine Vs (Vq (Vm hG rfl (Vb ?_)))
   refine Vc.loopF [(26,false,.pure (.int .i64))] [0,1,2,3,6,22,25,44,45,46,59] (fun v=>eqInv a0.1 a1.1 v.1) (fun v=>((List.length a0.1:Int)-v.1).toNat) rfl ?_ ?_
   · exact eqStart f0_0
   rintro⟨(i0:Int),_⟩ hI0
   have hI0:eqInv a0.1 a1.1 i0:=hI0
   refine Vm hG rfl (Vq ?_)
   refine Vk rfl ?_ ?_<;>intro h1
   · have hl0:i0<(List.length a0.1:Int):=oTr h1
     refine Vs (Vq (Vb (Vm hG rfl ?_)))
     refine Vq ?_
     refine VrD mixed hG rfl (by kernel_rfl) ?_ ?_
     · exact⟨(eqRange hI0 hl0).1,(eqRange hI0 hl0).2,trivial⟩
     refine Vk rfl ?_ ?_<;>intro h2
     · refine Vm hG rfl (Vt ?_)
       refine⟨?_,trivial⟩
       refine eqC_no (fun e=>?_)
       have e:a0=a1:=e
       have g:(!(eqC (List.getD a0.1 i0.toNat (dflt Y59)) (List.getD a1.1 i0.toNat (dflt Y59))))=true:=h2
       subst e
       exact(nself (eqC_self _)) g
     · have g2:(!(eqC (List.getD a0.1 i0.toNat (dflt Y59)) (List.getD a1.1 i0.toNat (dflt Y59))))=false:=h2
       have f2_0:(List.getD a0.1 i0.toNat (dflt Y59))=(List.getD a1.1 i0.toNat (dflt Y59)):=(eqC_iff.1 (notF g2))
       have s0:(List.getD a0.1 i0.toNat (dflt Y59))=(List.getD a1.1 i0.toNat (dflt Y59)):=f2_0
       refine Vs (Vn hG rfl ?_)
       refine⟨rfl,?_⟩
       exact⟨eqStep (d:=dflt Y59) hI0 hl0 hb0 s0,(upStep hI0.1 hl0 hb0).2.2⟩
   · have hl0:¬i0<(List.length a0.1:Int):=oFa h1
     have e0:a0.1=a1.1:=eqEnd hI0 hl0
     refine Vx (Vq (Vm hG rfl (Vb ?_)))
     refine Vc.loopF [(45,false,.pure (.int .i64))] [0,1,2,3,5,22,25,26,27,40,44] (fun v=>eqInv a0.2 a1.2 v.1) (fun v=>((List.length a0.2:Int)-v.1).toNat) rfl ?_ ?_
     · exact eqStart f0_1
     rintro⟨(i1:Int),_⟩ hI1
     have hI1:eqInv a0.2 a1.2 i1:=hI1
     refine Vm hG rfl (Vq ?_)
     refine Vk rfl ?_ ?_<;>intro h3
     · have hl1:i1<(List.length a0.2:Int):=oTr h3
       refine Vs (Vq (Vb (Vm hG rfl ?_)))
       refine Vq ?_
       refine VrD mixed hG rfl (by kernel_rfl) ?_ ?_
       · exact⟨(eqRange hI1 hl1).1,(eqRange hI1 hl1).2,trivial⟩
       refine Vk rfl ?_ ?_<;>intro h4
       · refine Vm hG rfl (Vt ?_)
         refine⟨?_,trivial⟩
         refine eqC_no (fun e=>?_)
         have e:a0=a1:=e
         have g:(!(eqC (List.getD a0.2 i1.toNat (dflt Y33)) (List.getD a1.2 i1.toNat (dflt Y33))))=true:=h4
         subst e
         exact(nself (eqC_self _)) g
       · have g4:(!(eqC (List.getD a0.2 i1.toNat (dflt Y33)) (List.getD a1.2 i1.toNat (dflt Y33))))=false:=h4
         have f4_0:(List.getD a0.2 i1.toNat (dflt Y33))=(List.getD a1.2 i1.toNat (dflt Y33)):=(eqC_iff.1 (notF g4))
         have s1:(List.getD a0.2 i1.toNat (dflt Y33))=(List.getD a1.2 i1.toNat (dflt Y33)):=f4_0
         refine Vs (Vn hG rfl ?_)
         refine⟨rfl,?_⟩
         exact⟨eqStep (d:=dflt Y33) hI1 hl1 hb1 s1,(upStep hI1.1 hl1 hb1).2.2⟩
     · have hl1:¬i1<(List.length a0.2:Int):=oFa h3
       have e1:a0.2=a1.2:=eqEnd hI1 hl1
       refine Vx (Vm hG rfl (Vt ?_))
       refine⟨?_,trivial⟩
       exact eqC_yes (Prod.ext e0 e1)
end Fw
