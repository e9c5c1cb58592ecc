/- Walks of functions of the program: what each computes. Conditions: those that each contract names. -/
import Derived.Test.YtajkcodhmabmnaaGreatW52T
import Derived.Test.YtajkcodhmabmnaaGreatW52i0
import Derived.Test.YtajkcodhmabmnaaGreatW52i1
namespace Fw
open Go Go.Proofs
set_option linter.unusedSimpArgs false
set_option maxRecDepth 100000
noncomputable def F134:Fun:=⟨[.pair Y43 Y66,.slice Y22,.pair (.int .i64) Y56],[.pure Y52,.pure (.bool)],fun _=>True,fun x=>(((fun a0 a1 a2=>certForF a0.1 a1 a2) x.1 x.2.1 x.2.2.1).1,((fun a0 a1 a2=>certForF a0.1 a1 a2) x.1 x.2.1 x.2.2.1).2,())⟩
theorem F134_ok:Meets Tryz.prog 134 F134:=by
 refine mZ (C:=mkC 54 [6,7] [0,1,2,3,5,6,7,8,9,11,12,13,14,15,16,17,45,51] [⟨213,_,F213_ok⟩,⟨214,_,F214_ok⟩]) (mO _ _ _ _) (fO _) Tryz.func134 rfl rfl rfl (by decide) rfl ?_
 rintro⟨a0,a1,a2,_⟩ hwf hpre ⟨⟩ hG rfl rfl
 show Vc _ _ [(0,⟨0,0,.c Z77 a0⟩),(1,⟨0,0,.c Z32 a1⟩),(2,⟨0,0,.c Z63 a2⟩)] _
 have hb:List.length a1≤bigLen:=hwf.2.1.1
 refine Vm hG rfl (Vm hG rfl (Vm hG rfl (Vq ?_)))
 refine Vm hG rfl (Vb ?_)
 refine Vc.loopF [(8,true,.pure Y52),(9,false,.pure (.int .i64)),(16,false,.pure (.int .i64))] [0,1,2,3,5,6,7,14,15,51] (fun v=>cfInv a0.1 a2 a1 v.1 v.2.1 v.2.2.1) (fun v=>((List.length a1:Int)-v.2.2.1).toNat) rfl ?_ ?_
 · exact cfStart
 rintro⟨c,(n:Int),(i:Int),_⟩ hI
 have hI:cfInv a0.1 a2 a1 c n i:=hI
 refine Vm hG rfl (Vq ?_)
 refine Vk rfl ?_ ?_<;>intro h0
 · have hl:i<(List.length a1:Int):=oTr h0
   refine Vs (Vq (Vb (Vq ?_)))
   refine Vr hG rfl ?_ ?_
   · exact cfRange hI hl
   refine Vm hG rfl (Vq ?_)
   refine Vr hG rfl ?_ ?_
   · repeat' (first | exact trivial | refine And.intro ?_ ?_ | intro _)
   refine Vk rfl ?_ ?_<;>intro h1
   · have g1:cfTest a0.1 a2 (List.getD a1 i.toNat (dflt Y22))=true:=h1
     refine Vm hG rfl (Vn hG rfl (Vn hG rfl ?_))
     refine⟨rfl,?_⟩
     first | exact cfGo1 hI hl hb g1 | exact cfGo0 hI hl hb g1
   · have g1:cfTest a0.1 a2 (List.getD a1 i.toNat (dflt Y22))=false:=h1
     refine Vs (Vn hG rfl ?_)
     refine⟨rfl,?_⟩
     first | exact cfGo1 hI hl hb g1 | exact cfGo0 hI hl hb g1
 · have hl:¬i<(List.length a1:Int):=oFa h0
   refine Vx (Vq (Vm hG rfl ?_))
   refine Vk rfl ?_ ?_<;>intro h2
   · have g2:(n != 1)=true:=h2
     refine Vm hG rfl (Vt ?_)
     have e:=cfEnd0 hI hl g2
     refine⟨?_,?_,trivial⟩
     · exact(congrArg Prod.fst e).symm
     · exact(congrArg Prod.snd e).symm
   · have g2:(n != 1)=false:=h2
     refine Vs (Vm hG rfl (Vt ?_))
     have e:=cfEnd1 hI hl g2
     refine⟨?_,?_,trivial⟩
     · exact(congrArg Prod.fst e).symm
     · exact(congrArg Prod.snd e).symm
noncomputable def F279:Fun:=⟨[.int .i64,.int .i64],[.pure (.int .i64)],fun _=>True,fun x=>((fun(a b:Int)=>max a b) x.1 x.2.1,())⟩
theorem F279_ok:Meets Tryz.prog 279 F279:=by
 refine mZ (C:=mkC 8 [4] [0,1,4] []) (mO _ _ _ _) (fO _) Tryz.func279 rfl rfl rfl (by decide) rfl ?_
 rintro⟨(a0:Int),(a1:Int),_⟩ hwf hpre ⟨⟩ hG rfl rfl
 show Vc _ _ [(0,⟨0,0,.c (.pure (.int .i64)) a0⟩),(1,⟨0,0,.c (.pure (.int .i64)) a1⟩)] _
 refine Vm hG rfl (Vm hG rfl (Vt ?_))
 refine⟨?_,trivial⟩
 all_goals exact rfl
noncomputable def F216:Fun:=⟨[.int .i64,.slice Y40],[.pure (.int .i64)],fun x=>(fun(_:Int) (l:List Stamp)=>List.length l≤1048576) x.1 x.2.1,fun x=>(stampsDgF x.1 x.2.1,())⟩
theorem F216_ok:Meets Tryz.prog 216 F216:=by
 refine mZ (C:=mkC 27 [4] [0,1,4,5,7,10,11,12,13,14] [⟨89,_,F89_ok⟩,⟨279,_,F279_ok⟩]) (mO _ _ _ _) (fO _) Tryz.func216 rfl rfl rfl (by decide) rfl ?_
 rintro⟨(a0:Int),a1,_⟩ hwf hpre ⟨⟩ hG rfl rfl
 show Vc _ _ [(0,⟨0,0,.c (.pure (.int .i64)) a0⟩),(1,⟨0,0,.c Z46 a1⟩)] _
 have hs:List.length a1≤1048576:=hpre
 have hb:List.length a1≤bigLen:=hwf.2.1.1
 refine Vm hG rfl (Vq (Vm hG rfl ?_))
 refine Vk rfl ?_ ?_<;>intro h0
 · have g0:(List.length a1:Int)=0:=beqI2 h0
   refine Vm hG rfl (Vt ?_)
   refine⟨?_,trivial⟩
   exact sd0 g0
 · have g0:¬(List.length a1:Int)=0:=bneI' h0
   refine Vs (Vm hG rfl (Vq (Vm hG rfl ?_)))
   refine Vb ?_
   refine Vc.loopF [(5,false,.own (.pure (.int .i64))),(13,false,.pure (.int .i64))] [0,1,4,10,11,12] (fun v=>gsInv (mkG a1) [] a1 v.1 v.2.1) (fun v=>((List.length a1:Int)-v.2.1).toNat) rfl ?_ ?_
   · exact gsStart
   rintro⟨acc,(i:Int),_⟩ hI
   have hI:gsInv (mkG a1) [] a1 acc i:=hI
   have hA:List.length acc≤1048576:=gsLen (c:=1) (m:=1048576) hI (fun _=>Nat.le_refl _) hs (by simp)
   refine Vm hG rfl (Vq ?_)
   refine Vk rfl ?_ ?_<;>intro h1
   · have hl:i<(List.length a1:Int):=oTr h1
     refine Vs (Vq (Vb (Vq ?_)))
     refine Vr hG rfl ?_ ?_
     · exact gsRange hI hl
     refine Vr hG rfl ?_ ?_
     · exact(show List.length acc+1≤maxApp from by unfold maxApp;omega)
     refine Vn hG rfl ?_
     refine⟨rfl,?_⟩
     exact gsStep hI hl hb rfl
   · have hl:¬i<(List.length a1:Int):=oFa h1
     refine Vx (Vq ?_)
     refine Vr hG rfl ?_ ?_
     · exact⟨(show List.length acc≤1000000000 from by omega),trivial⟩
     refine Vt ?_
     refine⟨?_,trivial⟩
     exact(congrArg (fun l=>max 1 (digestF a0 l)) (gsEnd hI hl)).trans (sd1 g0)
noncomputable def F217:Fun:=⟨[.int .i64,.pair (.int .i64) Y30],[.pair (.pure (.int .i64)) Z17],fun _=>True,fun x=>(stampPieceF x.1 x.2.1,())⟩
theorem F217_ok:Meets Tryz.prog 217 F217:=by
 refine mZ (C:=mkC 11 [4] [0,1,3,4] [⟨90,_,F90_ok⟩]) (mO _ _ _ _) (fO _) Tryz.func217 rfl rfl rfl (by decide) rfl ?_
 rintro⟨(a0:Int),a1,_⟩ hwf hpre ⟨⟩ hG rfl rfl
 show Vc _ _ [(0,⟨0,0,.c (.pure (.int .i64)) a0⟩),(1,⟨0,0,.c Z42 a1⟩)] _
 refine Vm hG rfl (Vq (VrD mixed hG rfl (by kernel_rfl) (by trivial) (Vt ?_)))
 refine⟨?_,trivial⟩
 all_goals exact rfl
noncomputable def F135:Fun:=⟨[.pair Y43 Y66,.pair Y76 Y47,.slice Y22,.pair (.int .i64) Y56],[.pure (.int .i64)],fun x=>(fun(_:Frame) (e:Evidence) (_:List Piece) (_:Sig)=>Sm big20 (.slice (.slice TStamp)) e.2) x.1 x.2.1 x.2.2.1 x.2.2.2.1,fun x=>(freshG x.1 x.2.1 x.2.2.1 x.2.2.2.1,())⟩
set_option maxHeartbeats 2000000 in
theorem F135_ok:Meets Tryz.prog 135 F135:=by
 refine mZ (C:=mkC 92 [8] [0,1,2,3,4,5,7,8,9,10,12,13,15,16,17,24,32,33,34,35,54,55,56,57,58,85] [⟨128,_,F128_ok⟩,⟨215,_,F215_ok⟩,⟨216,_,F216_ok⟩,⟨218,_,F218_ok⟩,⟨217,_,F217_ok⟩,⟨150,_,F150_ok⟩,⟨219,_,F219_ok⟩]) (mO _ _ _ _) (fO _) Tryz.func135 rfl rfl rfl (by decide) rfl ?_
 rintro⟨a0,a1,a2,a3,_⟩ hwf hpre ⟨⟩ hG rfl rfl
 show Vc _ _ [(0,⟨0,0,.c Z77 a0⟩),(1,⟨0,0,.c Z80 a1⟩),(2,⟨0,0,.c Z32 a2⟩),(3,⟨0,0,.c Z63 a3⟩)] _
 have hp:List.length a1.2≤big20∧∀ l∈a1.2,Sm big20 (.slice TStamp) l:=hpre
 have hb:List.length a1.2≤bigLen:=hwf.2.1.2.1
 refine Vm hG rfl (Vm hG rfl (Vq (Vm hG rfl ?_)))
 refine Vm hG rfl ?_
 refine Vk rfl ?_ ?_<;>intro h0
 · have g0:keyI a0.1 a3.1≥0:=oTr h0
   have eb:=born1 g0
   refine Vr hG rfl ?_ ?_
   · exact findRange (show ¬keyI a0.1 a3.1<0 from by omega)
   refine Vq (Vm hG rfl (Vb ?_))
   refine Vc.loopF [(9,false,.pure (.int .i64)),(34,false,.pure (.int .i64))] [0,1,2,3,4,5,7,8,10,24,32,33] (fun v=>foInv (frG a0 a2 a3) (bornF a0 a3) a1.2 v.1 v.2.1) (fun v=>((List.length a1.2:Int)-v.2.1).toNat) rfl ?_ ?_
   · exact frStart eb
   rintro⟨(t:Int),(i:Int),_⟩ hI
   have hI:foInv (frG a0 a2 a3) (bornF a0 a3) a1.2 t i:=hI
   refine Vm hG rfl (Vq ?_)
   refine Vk rfl ?_ ?_<;>intro h1
   · have hl:i<(List.length a1.2:Int):=oTr h1
     have r1:=foRange hI hl
     have hE:List.length (List.getD a1.2 i.toNat (dflt (.slice TStamp)))≤1048576:=(hp.2 _ (getD_mem r1 _)).1
     have hbk:List.length (List.getD a1.2 i.toNat (dflt (.slice TStamp)))≤bigLen:=Nat.le_trans hE (by decide)
     refine Vs (Vq (Vb (Vq ?_)))
     refine Vr hG rfl ?_ ?_
     · exact r1
     refine Vq (Vq ?_)
     refine VrD mixed hG rfl (by kernel_rfl) ?_ ?_
     · exact⟨fun _=>trivial,fun _=>hE⟩
     refine Vk rfl ?_ ?_<;>intro h2
     · have g1:pick2 (pick2 (a3.2.2.2.2.2.2.2.1==0) true (!(riseF (List.getD a1.2 i.toNat (dflt (.slice TStamp)))))) true (stampsDgF a3.2.2.1 (List.getD a1.2 i.toNat (dflt (.slice TStamp))) != a3.2.2.2.2.2.2.2.1)=true:=h2
       have st:=foStepE (d:=dflt (.slice TStamp)) hI hl hb (frSkip (t:=t) g1)
       refine Vx (Vn hG rfl ?_)
       refine⟨rfl,?_⟩
       exact st
     · have g1:pick2 (pick2 (a3.2.2.2.2.2.2.2.1==0) true (!(riseF (List.getD a1.2 i.toNat (dflt (.slice TStamp)))))) true (stampsDgF a3.2.2.1 (List.getD a1.2 i.toNat (dflt (.slice TStamp))) != a3.2.2.2.2.2.2.2.1)=false:=h2
       refine Vs (Vm hG rfl (Vq (Vm hG rfl ?_)))
       refine Vb ?_
       refine Vc.loopF [(13,false,.pure (.bool)),(57,false,.pure (.int .i64))] [0,1,2,3,4,5,7,8,9,10,12,16,17,24,32,33,34,35,54,55,56,85] (fun v=>hbInv a0 a2 (List.getD a1.2 i.toNat (dflt (.slice TStamp))) v.1 v.2.1) (fun v=>((List.length (List.getD a1.2 i.toNat (dflt (.slice TStamp))):Int)-v.2.1).toNat) rfl ?_ ?_
       · exact hbStart
       rintro⟨b,(k:Int),_⟩ hK
       have hK:hbInv a0 a2 (List.getD a1.2 i.toNat (dflt (.slice TStamp))) b k:=hK
       refine Vm hG rfl (Vq ?_)
       refine Vk rfl ?_ ?_<;>intro h3
       · have hm:k<(List.length (List.getD a1.2 i.toNat (dflt (.slice TStamp))):Int):=oTr h3
         refine Vs (Vq (Vb (Vq ?_)))
         refine Vr hG rfl ?_ ?_
         · exact hbRange hK hm
         refine VrD mixed hG rfl (by kernel_rfl) ?_ ?_
         · repeat' (first | exact trivial | refine And.intro ?_ ?_ | intro _)
         refine Vn hG rfl ?_
         refine⟨rfl,?_⟩
         exact hbStep hK hm hbk rfl
       · have hm:¬k<(List.length (List.getD a1.2 i.toNat (dflt (.slice TStamp))):Int):=oFa h3
         have hB:=hbEnd hK hm
         refine Vx (Vq ?_)
         refine Vr hG rfl ?_ ?_
         · exact hE
         refine Vm hG rfl ?_
         refine Vk rfl ?_ ?_<;>intro h4
         · have st:=foStepE (d:=dflt (.slice TStamp)) hI hl hb (frMax g1 hB h4)
           refine Vn hG rfl (Vn hG rfl ?_)
           refine⟨rfl,?_⟩
           exact st
         · have st:=foStepE (d:=dflt (.slice TStamp)) hI hl hb (frKeep (t:=t) (x:=a3) hB h4)
           refine Vs (Vn hG rfl ?_)
           refine⟨rfl,?_⟩
           exact st
   · have hl:¬i<(List.length a1.2:Int):=oFa h1
     refine Vx (Vm hG rfl (Vt ?_))
     refine⟨?_,trivial⟩
     exact foEnd hI hl
 · have g0:¬keyI a0.1 a3.1≥0:=oFa h0
   have eb:=born0 g0
   refine Vs (Vq (Vm hG rfl (Vb ?_)))
   refine Vc.loopF [(9,false,.pure (.int .i64)),(34,false,.pure (.int .i64))] [0,1,2,3,4,5,7,8,10,24,32,33] (fun v=>foInv (frG a0 a2 a3) (bornF a0 a3) a1.2 v.1 v.2.1) (fun v=>((List.length a1.2:Int)-v.2.1).toNat) rfl ?_ ?_
   · exact frStart eb
   rintro⟨(t:Int),(i:Int),_⟩ hI
   have hI:foInv (frG a0 a2 a3) (bornF a0 a3) a1.2 t i:=hI
   refine Vm hG rfl (Vq ?_)
   refine Vk rfl ?_ ?_<;>intro h5
   · have hl:i<(List.length a1.2:Int):=oTr h5
     have r1:=foRange hI hl
     have hE:List.length (List.getD a1.2 i.toNat (dflt (.slice TStamp)))≤1048576:=(hp.2 _ (getD_mem r1 _)).1
     have hbk:List.length (List.getD a1.2 i.toNat (dflt (.slice TStamp)))≤bigLen:=Nat.le_trans hE (by decide)
     refine Vs (Vq (Vb (Vq ?_)))
     refine Vr hG rfl ?_ ?_
     · exact r1
     refine Vq (Vq ?_)
     refine VrD mixed hG rfl (by kernel_rfl) ?_ ?_
     · exact⟨fun _=>trivial,fun _=>hE⟩
     refine Vk rfl ?_ ?_<;>intro h6
     · have g1:pick2 (pick2 (a3.2.2.2.2.2.2.2.1==0) true (!(riseF (List.getD a1.2 i.toNat (dflt (.slice TStamp)))))) true (stampsDgF a3.2.2.1 (List.getD a1.2 i.toNat (dflt (.slice TStamp))) != a3.2.2.2.2.2.2.2.1)=true:=h6
       have st:=foStepE (d:=dflt (.slice TStamp)) hI hl hb (frSkip (t:=t) g1)
       refine Vx (Vn hG rfl ?_)
       refine⟨rfl,?_⟩
       exact st
     · have g1:pick2 (pick2 (a3.2.2.2.2.2.2.2.1==0) true (!(riseF (List.getD a1.2 i.toNat (dflt (.slice TStamp)))))) true (stampsDgF a3.2.2.1 (List.getD a1.2 i.toNat (dflt (.slice TStamp))) != a3.2.2.2.2.2.2.2.1)=false:=h6
       refine Vs (Vm hG rfl (Vq (Vm hG rfl ?_)))
       refine Vb ?_
       refine Vc.loopF [(13,false,.pure (.bool)),(57,false,.pure (.int .i64))] [0,1,2,3,4,5,7,8,9,10,12,16,17,24,32,33,34,35,54,55,56,85] (fun v=>hbInv a0 a2 (List.getD a1.2 i.toNat (dflt (.slice TStamp))) v.1 v.2.1) (fun v=>((List.length (List.getD a1.2 i.toNat (dflt (.slice TStamp))):Int)-v.2.1).toNat) rfl ?_ ?_
       · exact hbStart
       rintro⟨b,(k:Int),_⟩ hK
       have hK:hbInv a0 a2 (List.getD a1.2 i.toNat (dflt (.slice TStamp))) b k:=hK
       refine Vm hG rfl (Vq ?_)
       refine Vk rfl ?_ ?_<;>intro h7
       · have hm:k<(List.length (List.getD a1.2 i.toNat (dflt (.slice TStamp))):Int):=oTr h7
         refine Vs (Vq (Vb (Vq ?_)))
         refine Vr hG rfl ?_ ?_
         · exact hbRange hK hm
         refine VrD mixed hG rfl (by kernel_rfl) ?_ ?_
         · repeat' (first | exact trivial | refine And.intro ?_ ?_ | intro _)
         refine Vn hG rfl ?_
         refine⟨rfl,?_⟩
         exact hbStep hK hm hbk rfl
       · have hm:¬k<(List.length (List.getD a1.2 i.toNat (dflt (.slice TStamp))):Int):=oFa h7
         have hB:=hbEnd hK hm
         refine Vx (Vq ?_)
         refine Vr hG rfl ?_ ?_
         · exact hE
         refine Vm hG rfl ?_
         refine Vk rfl ?_ ?_<;>intro h8
         · have st:=foStepE (d:=dflt (.slice TStamp)) hI hl hb (frMax g1 hB h8)
           refine Vn hG rfl (Vn hG rfl ?_)
           refine⟨rfl,?_⟩
           exact st
         · have st:=foStepE (d:=dflt (.slice TStamp)) hI hl hb (frKeep (t:=t) (x:=a3) hB h8)
           refine Vs (Vn hG rfl ?_)
           refine⟨rfl,?_⟩
           exact st
   · have hl:¬i<(List.length a1.2:Int):=oFa h5
     refine Vx (Vm hG rfl (Vt ?_))
     refine⟨?_,trivial⟩
     exact foEnd hI hl
noncomputable def F136:Fun:=⟨[.slice Y22,.pair (.int .i64) Y48],[.own Z42],fun x=>(fun a0 _=>List.length a0≤2000000000) x.1 x.2.1,fun x=>(statusesF x.1 x.2.1,())⟩
theorem F136_ok:Meets Tryz.prog 136 F136:=by
 refine mZ (C:=mkC 42 [4] [0,1,3,4,5,7,8,9,10,11,12,13,35] [⟨220,_,F220_ok⟩]) (mO _ _ _ _) (fO _) Tryz.func136 rfl rfl rfl (by decide) rfl ?_
 rintro⟨a0,a1,_⟩ hwf hpre ⟨⟩ hG rfl rfl
 show Vc _ _ [(0,⟨0,0,.c Z32 a0⟩),(1,⟨0,0,.c Z54 a1⟩)] _
 have hb:List.length a0≤bigLen:=hwf.1.1
 have hs:List.length a0≤2000000000:=hpre
 refine Vm hG rfl (Vm hG rfl (Vq (Vm hG rfl ?_)))
 refine Vb ?_
 refine Vc.loopF [(5,false,.own Z42),(12,false,.pure (.int .i64))] [0,1,3,4,10,11] (fun v=>pkInv (statFor a1) a0 v.1 v.2.1) (fun v=>((List.length a0:Int)-v.2.1).toNat) rfl ?_ ?_
 · exact pkStart
 rintro⟨acc,(i:Int),_⟩ hI
 have hI:pkInv (statFor a1) a0 acc i:=hI
 refine Vm hG rfl (Vq ?_)
 refine Vk rfl ?_ ?_<;>intro h0
 · have hl:i<(List.length a0:Int):=oTr h0
   refine Vs (Vq (Vb (Vq ?_)))
   refine Vr hG rfl ?_ ?_
   · exact pkRange hI hl
   refine Vm hG rfl (Vm hG rfl ?_)
   refine Vk rfl ?_ ?_<;>intro h1
   · have g1:((statFor a1) (List.getD a0 i.toNat (dflt Y22))).2=true:=h1
     refine Vr hG rfl ?_ ?_
     · exact pkLenW hI hs
     refine Vn hG rfl ?_
     refine⟨rfl,?_⟩
     first
       | exact pkYes (d:=dflt Y22) hI hl hb g1
       | exact pkNo (d:=dflt Y22) hI hl hb g1
   · have g1:((statFor a1) (List.getD a0 i.toNat (dflt Y22))).2=false:=h1
     refine Vs (Vn hG rfl ?_)
     refine⟨rfl,?_⟩
     first
       | exact pkYes (d:=dflt Y22) hI hl hb g1
       | exact pkNo (d:=dflt Y22) hI hl hb g1
 · have hl:¬i<(List.length a0:Int):=oFa h0
   refine Vx (Vm hG rfl (Vt ?_))
   refine⟨?_,trivial⟩
   exact pkEnd hI hl
noncomputable def K285:KFun:=⟨.own Z10,[.int .i64,.int .i64],fun x xs=>(fun(l:List Span) (_ _:Int)=>List.length l≤1000) x xs.1 xs.2.1,fun x xs=>bPut x xs.1 xs.2.1⟩
theorem K285_ok:MeetsK Tryz.prog 285 K285:=by
 refine meetsK_of_vc (C:=mkCM 18 [] [0,1,2,5,6,13] [⟨286,_,F286_ok⟩] [] [] [2]) (mkCM_ok _ _ _ _ _ _ _) (fO _) Tryz.func285 rfl rfl rfl (by decide) rfl rfl rfl ?_ rfl
 rintro x ⟨(a0:Int),(a1:Int),_⟩ hwx hwf hpre ⟨⟩ hG rfl rfl
 show Vc _ _ [(2,⟨0,0,.c (.ref (.own Z10)) x⟩),(0,⟨0,0,.c (.pure (.int .i64)) a0⟩),(1,⟨0,0,.c (.pure (.int .i64)) a1⟩)] _
 have hs:List.length x≤1000:=hpre
 refine Vm hG rfl (Vm hG rfl ?_)
 refine Vk rfl ?_ ?_<;>intro h0
 · refine Vr hG rfl ?_ ?_
   · exact bpApp hs
   refine⟨?_,trivial⟩
   exact bpY h0
 · refine Vs ?_
   refine⟨?_,trivial⟩
   exact bpN h0
noncomputable def F329:Fun:=⟨[.slice Y40,.int .i64],[.pure (.int .i64),.pure (.int .i64),.pure (.int .i64)],fun _=>True,fun x=>(((fun a0 a1=>(leastF a0 a1,mostF a0 a1,goodF a0 a1)) x.1 x.2.1).1,((fun a0 a1=>(leastF a0 a1,mostF a0 a1,goodF a0 a1)) x.1 x.2.1).2.1,((fun a0 a1=>(leastF a0 a1,mostF a0 a1,goodF a0 a1)) x.1 x.2.1).2.2,())⟩
theorem F329_ok:Meets Tryz.prog 329 F329:=by
 refine mZ (C:=mkC 49 [4,5,6] [0,1,4,5,6,7,8,9,11,12,13,14,15,25,32,37] []) (mO _ _ _ _) (fO _) Tryz.func329 rfl rfl rfl (by decide) rfl ?_
 rintro⟨a0,(a1:Int),_⟩ hwf hpre ⟨⟩ hG rfl rfl
 show Vc _ _ [(0,⟨0,0,.c Z46 a0⟩),(1,⟨0,0,.c (.pure (.int .i64)) a1⟩)] _
 have hb:List.length a0≤bigLen:=hwf.1.1
 refine Vm hG rfl (Vm hG rfl (Vq (Vm hG rfl ?_)))
 refine Vb ?_
 refine Vc.loopF [(7,false,.pure (.int .i64)),(8,false,.pure (.int .i64)),(9,false,.pure (.int .i64)),(14,false,.pure (.int .i64))] [0,1,4,5,6,12,13] (fun v=>foInv (lsS a1) (-1) a0 v.1 v.2.2.2.1∧foInv (msS a1) (-1) a0 v.2.1 v.2.2.2.1∧foInv (gsS a1) (-1) a0 v.2.2.1 v.2.2.2.1) (fun v=>((List.length a0:Int)-v.2.2.2.1).toNat) rfl ?_ ?_
 · exact⟨foStart,foStart,foStart⟩
 rintro⟨(x:Int),(y:Int),(z:Int),(i:Int),_⟩ hI
 have hI:foInv (lsS a1) (-1) a0 x i∧foInv (msS a1) (-1) a0 y i∧foInv (gsS a1) (-1) a0 z i:=hI
 refine Vm hG rfl (Vq ?_)
 refine Vk rfl ?_ ?_<;>intro h0
 · have hl:i<(List.length a0:Int):=oTr h0
   refine Vs (Vq (Vb (Vq ?_)))
   refine Vr hG rfl ?_ ?_
   · exact foRange hI.1 hl
   refine Vb (Vm hG rfl ?_)
   refine Vk rfl ?_ ?_<;>intro h1
   · have g1:((List.getD a0 i.toNat (dflt Y40)).1 != a1)=true:=h1
     have st:=fo3 (d:=dflt Y40) hI hl hb (lsN1 g1) (msN1 g1) (gsN1 g1)
     refine Vs (Vn hG rfl ?_)
     refine⟨rfl,?_⟩
     exact st
   · have g1:((List.getD a0 i.toNat (dflt Y40)).1 != a1)=false:=h1
     refine Vm hG rfl ?_
     refine Vk rfl ?_ ?_<;>intro h2
     · have g2:(List.getD a0 i.toNat (dflt Y40)).2.2.1<0:=oTr h2
       have st:=fo3 (d:=dflt Y40) hI hl hb (lsN2 g2) (msN2 g2) (gsY g1 g2)
       refine Vn hG rfl (Vn hG rfl ?_)
       refine⟨rfl,?_⟩
       exact st
     · have g2:¬(List.getD a0 i.toNat (dflt Y40)).2.2.1<0:=oFa h2
       refine Vq (Vm hG rfl ?_)
       refine Vk rfl ?_ ?_<;>intro h3
       · have st:=fo3 (d:=dflt Y40) hI hl hb (lsY g1 g2 h3) (msY g1 g2) (gsN2 g2)
         refine Vn hG rfl (Vn hG rfl (Vn hG rfl ?_))
         refine⟨rfl,?_⟩
         exact st
       · have st:=fo3 (d:=dflt Y40) hI hl hb (lsN3 h3) (msY g1 g2) (gsN2 g2)
         refine Vs (Vn hG rfl (Vn hG rfl ?_))
         refine⟨rfl,?_⟩
         exact st
 · have hl:¬i<(List.length a0:Int):=oFa h0
   refine Vx (Vm hG rfl (Vt ?_))
   refine⟨?_,?_,?_,trivial⟩
   · exact foEnd hI.1 hl
   · exact foEnd hI.2.1 hl
   · exact foEnd hI.2.2 hl
noncomputable def F287:Fun:=⟨[.slice Y40,.int .i64],[.pure (.int .i64)],fun _=>True,fun x=>(badFromF x.1 x.2.1,())⟩
theorem F287_ok:Meets Tryz.prog 287 F287:=by
 refine mZ (C:=mkC 21 [4] [0,1,4,6,7,16] [⟨329,_,F329_ok⟩]) (mO _ _ _ _) (fO _) Tryz.func287 rfl rfl rfl (by decide) rfl ?_
 rintro⟨a0,(a1:Int),_⟩ hwf hpre ⟨⟩ hG rfl rfl
 show Vc _ _ [(0,⟨0,0,.c Z46 a0⟩),(1,⟨0,0,.c (.pure (.int .i64)) a1⟩)] _
 refine Vm hG rfl (Vm hG rfl (Vq (Vm hG rfl ?_)))
 refine Vk rfl ?_ ?_<;>intro h0
 · refine Vm hG rfl (Vt ?_)
   refine⟨?_,trivial⟩
   exact bfA rfl h0
 · refine Vs (Vm hG rfl (Vt ?_))
   refine⟨?_,trivial⟩
   exact bfB rfl rfl h0
end Fw
