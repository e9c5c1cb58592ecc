/- Walks of functions of the program: what each computes. Conditions: those that each contract names. -/
import Derived.Test.YtajkcodhmabmnaaGreatW56T
import Derived.Test.YtajkcodhmabmnaaGreatW56s0
import Derived.Test.YtajkcodhmabmnaaGreatW56s3
import Derived.Test.YtajkcodhmabmnaaGreatW56s4
import Derived.Test.YtajkcodhmabmnaaGreatW56s5
namespace Fw
open Go Go.Proofs
set_option linter.unusedSimpArgs false
set_option maxRecDepth 100000
noncomputable def F115:Fun:=⟨[.pair Y36 Y57,.pair Y67 Y39,.slice (.slice (.int .i64)),.int .i64,.pair (.int .i64) Y50],[.pure Y26],fun x=>(fun(_:Frame) (e:Evidence) (_:List (List Int)) (_:Int) (_:Sig)=>Sm big20 Y72 e∧((cellsC Y67 e.1:Nat):Int)≤2000000000) x.1 x.2.1 x.2.2.1 x.2.2.2.1 x.2.2.2.2.1,fun x=>(judgeF x.1 x.2.1 x.2.2.1 x.2.2.2.1 x.2.2.2.2.1,())⟩
set_option maxHeartbeats 2000000 in
theorem F115_ok:Meets Tryz.prog 115 F115:=by
 refine mZ (C:=mkC 120 [10] [0,1,2,3,4,5,6,9,10,11,12,13,14,15,16,17,18,19,26,58,72,81,89,96,104] [⟨187,_,F187_ok⟩,⟨174,_,F174_ok⟩,⟨188,_,F188_ok⟩,⟨143,_,F143_ok⟩,⟨189,_,F189_ok⟩,⟨190,_,F190_ok⟩,⟨191,_,F191_ok⟩,⟨192,_,F192_ok⟩,⟨193,_,F193_ok⟩,⟨194,_,F194_ok⟩,⟨195,_,F195_ok⟩,⟨196,_,F196_ok⟩,⟨198,_,F198_ok⟩,⟨197,_,F197_ok⟩]) (mO _ _ _ _) (fO _) Tryz.func115 rfl rfl rfl (by decide) rfl ?_
 rintro⟨a0,a1,a2,(a3:Int),a4,_⟩ hwf hpre ⟨⟩ hG rfl rfl
 show Vc _ _ [(0,⟨0,0,.c Z68 a0⟩),(1,⟨0,0,.c Z73 a1⟩),(2,⟨0,0,.c Z8 a2⟩),(3,⟨0,0,.c (.pure (.int .i64)) a3⟩),(4,⟨0,0,.c Z54 a4⟩)] _
 have hS:Sm big20 Y67 a1.1:=hpre.1.1
 have hT:Sm big20 (.slice (.slice TStamp)) a1.2:=hpre.1.2
 have hc:((cellsC Y67 a1.1:Nat):Int)≤2000000000:=hpre.2
 refine Vm hG rfl (Vm hG rfl (Vq (Vm hG rfl ?_)))
 refine Vk rfl ?_ ?_<;>intro h0
 · refine Vm hG rfl (Vt ?_)
   refine⟨?_,trivial⟩
   exact juA h0
 · have k0:=foKey (bneI h0)
   refine Vs (Vq ?_)
   refine VrD mixed hG rfl (by kernel_rfl) ?_ ?_
   · exact⟨trivial,hS⟩
   refine Vq ?_
   refine VrD mixed hG rfl (by kernel_rfl) ?_ ?_
   · exact⟨trivial,findRange k0⟩
   refine Vq (Vq ?_)
   refine Vr hG rfl ?_ ?_
   · repeat' (first | exact trivial | refine And.intro ?_ ?_ | intro _)
   refine Vk rfl ?_ ?_<;>intro h1
   · have g1:pick2 (decide (evBoundF a0 a1 a2 (signPieceF a4)≥brkKeyF a0 a4.1)) true (decide (evBoundF a0 a1 a2 (signPieceF a4)≥breakF a0.2.2.1 a4.2.2.1))=true:=by rw[←bk1 k0];exact h1
     refine Vm hG rfl (Vt ?_)
     refine⟨?_,trivial⟩
     exact(boA g1).trans (juC h0)
   · have g1:pick2 (decide (evBoundF a0 a1 a2 (signPieceF a4)≥brkKeyF a0 a4.1)) true (decide (evBoundF a0 a1 a2 (signPieceF a4)≥breakF a0.2.2.1 a4.2.2.1))=false:=by rw[←bk1 k0];exact h1
     refine Vs (Vq ?_)
     refine Vr hG rfl ?_ ?_
     · exact⟨hS,hc⟩
     refine Vm hG rfl (Vq (Vm hG rfl ?_))
     refine Vk rfl ?_ ?_<;>intro h2
     · refine Vm hG rfl (Vt ?_)
       refine⟨?_,trivial⟩
       exact((ceA h2).trans (boB g1)).trans (juC h0)
     · refine Vs (Vq ?_)
       refine Vr hG rfl ?_ ?_
       · exact hT
       refine Vq (Vm hG rfl ?_)
       refine Vk rfl ?_ ?_<;>intro h3
       · refine Vm hG rfl (Vt ?_)
         refine⟨?_,trivial⟩
         exact((ceB h2 h3).trans (boB g1)).trans (juC h0)
       · refine Vs (Vm hG rfl (Vq ?_))
         refine Vr hG rfl ?_ ?_
         · exact usPieceLen hc
         refine Vq (Vb (Vm hG rfl ?_))
         refine Vk rfl ?_ ?_<;>intro h4
         · refine Vm hG rfl (Vt ?_)
           refine⟨?_,trivial⟩
           exact(((enA h4).trans (ceC h2 h3)).trans (boB g1)).trans (juC h0)
         · refine Vm hG rfl ?_
           refine Vk rfl ?_ ?_<;>intro h5
           · refine Vm hG rfl (Vt ?_)
             refine⟨?_,trivial⟩
             exact(((enB h4 h5).trans (ceC h2 h3)).trans (boB g1)).trans (juC h0)
           · refine Vq ?_
             refine VrD mixed hG rfl (by kernel_rfl) ?_ ?_
             · exact⟨usPieceLen hc,mandW (usPieceLen hc)⟩
             refine Vk rfl ?_ ?_<;>intro h6
             · refine Vm hG rfl (Vt ?_)
               refine⟨?_,trivial⟩
               exact(((enC h4 h5 h6).trans (ceC h2 h3)).trans (boB g1)).trans (juC h0)
             · refine Vs (Vm hG rfl (Vt ?_))
               refine⟨?_,trivial⟩
               exact(((enD h4 h5 h6).trans (ceC h2 h3)).trans (boB g1)).trans (juC h0)
noncomputable def F67:Fun:=⟨[.pair Y36 Y57,.pair Y67 Y39,.pair (.int .i64) Y13,.pair (.int .i64) Y50],[.pure Y26],fun x=>(fun(_:Frame) (e:Evidence) (_:Doc) (_:Sig)=>Sm big20 Y72 e∧((cellsC Y67 e.1:Nat):Int)≤2000000000) x.1 x.2.1 x.2.2.1 x.2.2.2.1,fun x=>(judgeDocF x.1 x.2.1 x.2.2.1 x.2.2.2.1,())⟩
theorem F67_ok:Meets Tryz.prog 67 F67:=by
 refine mZ (C:=mkC 20 [8] [0,1,2,3,4,5,6,7,8] [⟨116,_,F116_ok⟩,⟨117,_,F117_ok⟩,⟨115,_,F115_ok⟩]) (mO _ _ _ _) (fO _) Tryz.func67 rfl rfl rfl (by decide) rfl ?_
 rintro⟨a0,a1,a2,a3,_⟩ hwf hpre ⟨⟩ hG rfl rfl
 show Vc _ _ [(0,⟨0,0,.c Z68 a0⟩),(1,⟨0,0,.c Z73 a1⟩),(2,⟨0,0,.c Z27 a2⟩),(3,⟨0,0,.c Z54 a3⟩)] _
 have hS:Sm big20 Y67 a1.1:=hpre.1.1
 have hT:Sm big20 (.slice (.slice TStamp)) a1.2:=hpre.1.2
 have hc:((cellsC Y67 a1.1:Nat):Int)≤2000000000:=hpre.2
 refine Vm hG rfl (Vq ?_)
 refine VrD mixed hG rfl (by kernel_rfl) ?_ ?_
 · exact⟨hS,trivial,hpre⟩
 refine Vt ?_
 refine⟨?_,trivial⟩
 all_goals exact rfl
noncomputable def F30:Fun:=⟨[.pair Y36 Y57,.pair Y67 Y39,.pair Y67 Y39,.pair (.int .i64) Y13,.pair (.int .i64) Y50],[.pure Y26],fun x=>(fun(_:Frame) (a b:Evidence) (_:Doc) (_:Sig)=>Sm big20 Y72 a∧Sm big20 Y72 b∧Sm big20 Y72 (joinEvF a b)∧((cellsC Y67 (joinEvF a b).1:Nat):Int)≤2000000000) x.1 x.2.1 x.2.2.1 x.2.2.2.1 x.2.2.2.2.1,fun x=>(judgeBothF x.1 x.2.1 x.2.2.1 x.2.2.2.1 x.2.2.2.2.1,())⟩
theorem F30_ok:Meets Tryz.prog 30 F30:=by
 refine mZ (C:=mkC 18 [10] [0,1,2,3,4,5,6,7,8,9,10] [⟨68,_,F68_ok⟩,⟨67,_,F67_ok⟩]) (mO _ _ _ _) (fO _) Tryz.func30 rfl rfl rfl (by decide) rfl ?_
 rintro⟨a0,a1,a2,a3,a4,_⟩ hwf hpre ⟨⟩ hG rfl rfl
 show Vc _ _ [(0,⟨0,0,.c Z68 a0⟩),(1,⟨0,0,.c Z73 a1⟩),(2,⟨0,0,.c Z73 a2⟩),(3,⟨0,0,.c Z27 a3⟩),(4,⟨0,0,.c Z54 a4⟩)] _
 have hp:=hpre
 refine Vm hG rfl (Vq ?_)
 refine VrD mixed hG rfl (by kernel_rfl) ?_ ?_
 · exact⟨⟨hp.1,hp.2.1⟩,hp.2.2⟩
 refine Vt ?_
 refine⟨?_,trivial⟩
 all_goals exact rfl
end Fw
