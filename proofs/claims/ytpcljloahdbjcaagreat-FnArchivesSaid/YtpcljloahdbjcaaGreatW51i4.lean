/- Walks of functions of the program: what each computes. Conditions: those that each contract names. -/
import Derived.Test.YtpcljloahdbjcaaGreatW51T
import Derived.Test.YtpcljloahdbjcaaGreatW51i0
import Derived.Test.YtpcljloahdbjcaaGreatW51i1
import Derived.Test.YtpcljloahdbjcaaGreatW51i2
import Derived.Test.YtpcljloahdbjcaaGreatW51i3
set_option linter.unusedVariables false
namespace Fw
open Go Go.Proofs
set_option linter.unusedSimpArgs false
set_option maxRecDepth 100000
noncomputable def F116:Fun:=⟨[.pair Y38 Y55,.pair Y65 Y41,.slice (.slice (.int .i64)),.int .i64,.pair (.int .i64) Y48],[.pure Y27],fun x=>(fun(_:Frame) (e:Evidence) (_:List (List Int)) (_:Int) (_:Sig)=>Sm big20 Y68 e∧((cellsC Y65 e.1:Nat):Int)≤2000000000) x.1 x.2.1 x.2.2.1 x.2.2.2.1 x.2.2.2.2.1,fun x=>(judgeF x.1 x.2.1 x.2.2.1 x.2.2.2.1 x.2.2.2.2.1,())⟩
set_option maxHeartbeats 2000000 in
theorem F116_ok:Meets Tryz.prog 116 F116:=by
 refine mZ (C:=mkC 138 [10] [0,1,2,3,4,5,6,9,10,11,12,13,14,15,16,17,18,23,28,32,38,46,73,87,96,105,113,122] [⟨182,_,F182_ok⟩,⟨183,_,F183_ok⟩,⟨121,_,F121_ok⟩,⟨184,_,F184_ok⟩,⟨34,_,F34_ok⟩,⟨37,_,F37_ok⟩,⟨24,_,F24_ok⟩,⟨25,_,F25_ok⟩,⟨98,_,F98_ok⟩,⟨38,_,F38_ok⟩,⟨26,_,F26_ok⟩,⟨35,_,F35_ok⟩,⟨30,_,F30_ok⟩,⟨42,_,F42_ok⟩,⟨185,_,F185_ok⟩,⟨186,_,F186_ok⟩,⟨44,_,F44_ok⟩,⟨43,_,F43_ok⟩]) (mO _ _ _ _) (fO _) Tryz.func116 rfl rfl rfl (by decide) rfl ?_
 rintro⟨a0,a1,a2,(a3:Int),a4,_⟩ hwf hpre ⟨⟩ hG rfl rfl
 show Vc _ _ [(0,⟨0,0,.c Z66 a0⟩),(1,⟨0,0,.c Z69 a1⟩),(2,⟨0,0,.c Z8 a2⟩),(3,⟨0,0,.c (.pure (.int .i64)) a3⟩),(4,⟨0,0,.c Z52 a4⟩)] _
 have hS:Sm big20 Y65 a1.1:=hpre.1.1
 have hT:Sm big20 (.slice (.slice TStamp)) a1.2:=hpre.1.2
 have hc:((cellsC Y65 a1.1:Nat):Int)≤2000000000:=hpre.2
 refine Vm hG rfl (Vq (Vb (Vm hG rfl ?_)))
 refine Vk rfl ?_ ?_<;>intro h0
 · refine Vm hG rfl (Vt ?_)
   refine⟨?_,trivial⟩
   exact juD (fo1 h0) (by decide)
 · refine Vm hG rfl ?_
   refine Vk rfl ?_ ?_<;>intro h1
   · refine Vm hG rfl (Vt ?_)
     refine⟨?_,trivial⟩
     exact juD (fo2' h0 h1) (by decide)
   · refine Vm hG rfl ?_
     refine Vk rfl ?_ ?_<;>intro h2
     · refine Vm hG rfl (Vt ?_)
       refine⟨?_,trivial⟩
       exact juD (fo3' h0 h1 h2) (by decide)
     · refine Vm hG rfl ?_
       refine Vk rfl ?_ ?_<;>intro h3
       · refine Vm hG rfl (Vt ?_)
         refine⟨?_,trivial⟩
         exact juD (fo4 h0 h1 h2 h3) (by decide)
       · refine Vm hG rfl ?_
         refine Vk rfl ?_ ?_<;>intro h4
         · refine Vm hG rfl (Vt ?_)
           refine⟨?_,trivial⟩
           exact juD (fo5 h0 h1 h2 h3 h4) (by decide)
         · refine Vm hG rfl ?_
           refine Vk rfl ?_ ?_<;>intro h5
           · refine Vm hG rfl (Vt ?_)
             refine⟨?_,trivial⟩
             exact juD (fo6 h0 h1 h2 h3 h4 h5) (by decide)
           · refine Vs (Vq ?_)
             refine VrD mixed hG rfl (by kernel_rfl) ?_ ?_
             · exact⟨trivial,hS⟩
             refine Vq (Vq ?_)
             refine Vr hG rfl ?_ ?_
             · repeat' (first | exact trivial | refine And.intro ?_ ?_ | intro _)
             refine Vk rfl ?_ ?_<;>intro h6
             · refine Vm hG rfl (Vt ?_)
               refine⟨?_,trivial⟩
               exact(boA h6).trans (juB (fo7 h0 h1 h2 h3 h4 h5).symm)
             · refine Vs (Vq ?_)
               refine Vr hG rfl ?_ ?_
               · exact⟨hS,hc⟩
               refine Vm hG rfl (Vq (Vm hG rfl ?_))
               refine Vk rfl ?_ ?_<;>intro h7
               · refine Vm hG rfl (Vt ?_)
                 refine⟨?_,trivial⟩
                 exact((ceA h7).trans (boB h6)).trans (juB (fo7 h0 h1 h2 h3 h4 h5).symm)
               · refine Vs (Vq ?_)
                 refine Vr hG rfl ?_ ?_
                 · exact hT
                 refine Vq (Vm hG rfl ?_)
                 refine Vk rfl ?_ ?_<;>intro h8
                 · refine Vm hG rfl (Vt ?_)
                   refine⟨?_,trivial⟩
                   exact((ceB h7 h8).trans (boB h6)).trans (juB (fo7 h0 h1 h2 h3 h4 h5).symm)
                 · refine Vs (Vm hG rfl (Vq ?_))
                   refine Vr hG rfl ?_ ?_
                   · exact usPieceLen hc
                   refine Vq (Vb (Vm hG rfl ?_))
                   refine Vk rfl ?_ ?_<;>intro h9
                   · refine Vn hG rfl (Vm hG rfl (Vt ?_))
                     refine⟨?_,trivial⟩
                     exact(((enA h9).trans (ceC h7 h8)).trans (boB h6)).trans (juB (fo7 h0 h1 h2 h3 h4 h5).symm)
                   · refine Vm hG rfl ?_
                     refine Vk rfl ?_ ?_<;>intro h10
                     · refine Vn hG rfl (Vm hG rfl (Vt ?_))
                       refine⟨?_,trivial⟩
                       exact(((enB h9 h10).trans (ceC h7 h8)).trans (boB h6)).trans (juB (fo7 h0 h1 h2 h3 h4 h5).symm)
                     · refine Vq ?_
                       refine VrD mixed hG rfl (by kernel_rfl) ?_ ?_
                       · exact⟨usPieceLen hc,mandW (usPieceLen hc)⟩
                       refine Vk rfl ?_ ?_<;>intro h11
                       · refine Vn hG rfl (Vm hG rfl (Vt ?_))
                         refine⟨?_,trivial⟩
                         exact(((enC h9 h10 h11).trans (ceC h7 h8)).trans (boB h6)).trans (juB (fo7 h0 h1 h2 h3 h4 h5).symm)
                       · refine Vs (Vm hG rfl (Vt ?_))
                         refine⟨?_,trivial⟩
                         exact(((enD h9 h10 h11).trans (ceC h7 h8)).trans (boB h6)).trans (juB (fo7 h0 h1 h2 h3 h4 h5).symm)
noncomputable def F33:Fun:=⟨[.pair Y38 Y55,.pair Y65 Y41,.pair (.int .i64) Y13,.pair (.int .i64) Y48],[.pure Y27],fun x=>(fun(_:Frame) (e:Evidence) (_:Doc) (_:Sig)=>Sm big20 Y68 e∧((cellsC Y65 e.1:Nat):Int)≤2000000000) x.1 x.2.1 x.2.2.1 x.2.2.2.1,fun x=>(judgeDocF x.1 x.2.1 x.2.2.1 x.2.2.2.1,())⟩
theorem F33_ok:Meets Tryz.prog 33 F33:=by
 refine mZ (C:=mkC 20 [8] [0,1,2,3,4,5,6,7,8] [⟨23,_,F23_ok⟩,⟨36,_,F36_ok⟩,⟨116,_,F116_ok⟩]) (mO _ _ _ _) (fO _) Tryz.func33 rfl rfl rfl (by decide) rfl ?_
 rintro⟨a0,a1,a2,a3,_⟩ hwf hpre ⟨⟩ hG rfl rfl
 show Vc _ _ [(0,⟨0,0,.c Z66 a0⟩),(1,⟨0,0,.c Z69 a1⟩),(2,⟨0,0,.c Z28 a2⟩),(3,⟨0,0,.c Z52 a3⟩)] _
 have hS:Sm big20 Y65 a1.1:=hpre.1.1
 have hT:Sm big20 (.slice (.slice TStamp)) a1.2:=hpre.1.2
 have hc:((cellsC Y65 a1.1:Nat):Int)≤2000000000:=hpre.2
 refine Vm hG rfl (Vq ?_)
 refine VrD mixed hG rfl (by kernel_rfl) ?_ ?_
 · exact⟨hS,trivial,hpre⟩
 refine Vt ?_
 refine⟨?_,trivial⟩
 all_goals exact rfl
noncomputable def F52:Fun:=⟨[.pair Y38 Y55,.pair (.int .i64) Y73],[.pure Y27],fun x=>(fun(_:Frame) (x:Item)=>Sm big20 Y74 x∧((cellsC Y74 x:Nat):Int)≤2000000000) x.1 x.2.1,fun x=>(judgeItemF x.1 x.2.1,())⟩
theorem F52_ok:Meets Tryz.prog 52 F52:=by
 refine mZ (C:=mkC 13 [4] [0,1,2,3,4] [⟨53,_,F53_ok⟩,⟨33,_,F33_ok⟩]) (mO _ _ _ _) (fO _) Tryz.func52 rfl rfl rfl (by decide) rfl ?_
 rintro⟨a0,a1,_⟩ hwf hpre ⟨⟩ hG rfl rfl
 show Vc _ _ [(0,⟨0,0,.c Z66 a0⟩),(1,⟨0,0,.c Z75 a1⟩)] _
 have hi:Sm big20 Y74 a1:=hpre.1
 have hc:((cellsC Y74 a1:Nat):Int)≤2000000000:=hpre.2
 refine Vm hG rfl (Vq ?_)
 refine VrD mixed hG rfl (by kernel_rfl) ?_ ?_
 · exact⟨hi,itSm hi,itCells hc⟩
 refine Vt ?_
 refine⟨?_,trivial⟩
 all_goals exact rfl
end Fw
