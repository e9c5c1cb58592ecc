/- Walks of functions of the program: what each computes. Conditions: those that each contract names. -/
import Derived.Test.YtpcljloahdbjcaaGreatW54T
import Derived.Test.YtpcljloahdbjcaaGreatW54s0
set_option linter.unusedVariables false
namespace Fw
open Go Go.Proofs
set_option linter.unusedSimpArgs false
set_option maxRecDepth 100000
noncomputable def F307:Fun:=⟨[.int .i64,.pair (.int .i64) Y55],[.pure (.int .i64)],fun x=>(fun(_:Int) (r:Renewal)=>Sm big20 TRen r) x.1 x.2.1,fun x=>(renDigF x.1 x.2.1,())⟩
theorem F307_ok:Meets Tryz.prog 307 F307:=by
 refine mZ (C:=mkC 75 [4] [0,1,3,4,5,6,7,19,36,53] [⟨231,_,F231_ok⟩,⟨223,_,F223_ok⟩]) (mO _ _ _ _) (fO _) Tryz.func307 rfl rfl rfl (by decide) rfl ?_
 rintro⟨(a0:Int),a1,_⟩ hwf hpre ⟨⟩ hG rfl rfl
 show Vc _ _ [(0,⟨0,0,.c (.pure (.int .i64)) a0⟩),(1,⟨0,0,.c Z59 a1⟩)] _
 have hp:Sm big20 TRen a1:=hpre
 have h3:List.length a1.2.2.2.1≤1048576:=hp.2.2.2.1.1
 have h4:List.length a1.2.2.2.2≤1048576:=hp.2.2.2.2.1
 have hb0:List.length a1.2.2.2.1≤bigLen:=hwf.2.1.2.2.2.1.1
 have hb1:List.length a1.2.2.2.2≤bigLen:=hwf.2.1.2.2.2.2.1
 refine Vm hG rfl (Vm hG rfl (Vq (Vm hG rfl ?_)))
 refine Vb ?_
 refine Vc.loopF [(5,false,.own (.pure (.int .i64))),(6,false,.pure (.int .i64))] [0,1,3,4,7,53] (fun v=>gsInv (stepG a1) [4,a1.1,a1.2.1,a1.2.2.1] a1.2.2.2.1 v.1 v.2.1) (fun v=>((List.length a1.2.2.2.1:Int)-v.2.1).toNat) rfl ?_ ?_
 · exact gsStart
 rintro⟨acc,(i:Int),_⟩ hI0
 have hI0:gsInv (stepG a1) [4,a1.1,a1.2.1,a1.2.2.1] a1.2.2.2.1 acc i:=hI0
 have hA:List.length acc≤2097156:=gsLen (c:=2) (m:=1048576) hI0 (fun _=>Nat.le_refl _) h3 (by simp)
 refine Vq (Vm hG rfl ?_)
 refine Vk rfl ?_ ?_<;>intro h0
 · have hl0:i<(List.length a1.2.2.2.1:Int):=oTr h0
   refine Vs (Vq (Vb (Vq ?_)))
   refine Vr hG rfl ?_ ?_
   · exact⟨gsRange hI0 hl0,(show List.length acc+1≤maxApp from by unfold maxApp;omega)⟩
   refine Vq ?_
   refine Vr hG rfl ?_ ?_
   · exact gsRange hI0 hl0
   refine Vk rfl ?_ ?_<;>intro h1
   · have g1:(List.getD a1.2.2.2.1 i.toNat (dflt TStep)).2=true:=h1
     refine Vr hG rfl ?_ ?_
     · exact(by show List.length (acc++[(List.getD a1.2.2.2.1 i.toNat (dflt TStep)).1])+1≤maxApp;rw[List.length_append];show List.length acc+1+1≤maxApp;unfold maxApp;omega)
     refine Vn hG rfl ?_
     refine⟨rfl,?_⟩
     first | exact gsStep hI0 hl0 hb0 (stepYes g1) | exact gsStep hI0 hl0 hb0 (stepNo g1)
   · have g1:(List.getD a1.2.2.2.1 i.toNat (dflt TStep)).2=false:=h1
     refine Vr hG rfl ?_ ?_
     · exact(by show List.length (acc++[(List.getD a1.2.2.2.1 i.toNat (dflt TStep)).1])+1≤maxApp;rw[List.length_append];show List.length acc+1+1≤maxApp;unfold maxApp;omega)
     refine Vn hG rfl ?_
     refine⟨rfl,?_⟩
     first | exact gsStep hI0 hl0 hb0 (stepYes g1) | exact gsStep hI0 hl0 hb0 (stepNo g1)
 · have hl0:¬i<(List.length a1.2.2.2.1:Int):=oFa h0
   refine Vx (Vq ?_)
   refine Vr hG rfl ?_ ?_
   · exact(show List.length acc+1≤maxApp from by unfold maxApp;omega)
   refine Vq (Vm hG rfl (Vb ?_))
   refine Vc.loopF [(5,false,.own (.pure (.int .i64))),(7,false,.pure (.int .i64))] [0,1,3,4,6,19,36] (fun v=>gsInv (stmpG a1) (renMid a1) a1.2.2.2.2 v.1 v.2.1) (fun v=>((List.length a1.2.2.2.2:Int)-v.2.1).toNat) rfl ?_ ?_
   · exact gsStart2 (renMidEq hI0 hl0)
   rintro⟨acc2,(i:Int),_⟩ hI1
   have hI1:gsInv (stmpG a1) (renMid a1) a1.2.2.2.2 acc2 i:=hI1
   have hA2:List.length acc2≤8388613:=gsLen (c:=6) (m:=1048576) hI1 (fun _=>Nat.le_refl _) h4 (by have:=midLen h3;omega)
   refine Vq (Vm hG rfl ?_)
   refine Vk rfl ?_ ?_<;>intro h2
   · have hl1:i<(List.length a1.2.2.2.2:Int):=oTr h2
     refine Vs (Vq (Vb ?_))
     refine VrD mixed hG rfl (by kernel_rfl) ?_ ?_
     · exact⟨gsRange hI1 hl1,trivial,(show List.length acc2+5≤maxApp from by unfold maxApp;omega),gsRange hI1 hl1,(by show List.length (acc2++stampIntsF (List.getD a1.2.2.2.2 i.toNat (dflt TStamp)))+1≤maxApp;rw[List.length_append];show List.length acc2+5+1≤maxApp;unfold maxApp;omega)⟩
     refine Vn hG rfl ?_
     refine⟨rfl,?_⟩
     exact gsStep hI1 hl1 hb1 stmpEq
   · have hl1:¬i<(List.length a1.2.2.2.2:Int):=oFa h2
     refine Vx (Vq ?_)
     refine Vr hG rfl ?_ ?_
     · exact(show List.length acc2≤1000000000 from by omega)
     refine Vt ?_
     refine⟨?_,trivial⟩
     have e:=congrArg (digestF a0) (gsEnd hI1 hl1)
     exact e
noncomputable def F350:Fun:=⟨[.int .i64,.slice Y19],[.pure (.int .i64)],fun x=>(fun(_:Int) (l:List Piece)=>Sm big20 (.slice TPiece) l) x.1 x.2.1,fun x=>(piecesF x.1 x.2.1,())⟩
theorem F350_ok:Meets Tryz.prog 350 F350:=by
 refine mZ (C:=mkC 39 [4] [0,1,4,5,6,11] [⟨223,_,F223_ok⟩]) (mO _ _ _ _) (fO _) Tryz.func350 rfl rfl rfl (by decide) rfl ?_
 rintro⟨(a0:Int),a1,_⟩ hwf hpre ⟨⟩ hG rfl rfl
 show Vc _ _ [(0,⟨0,0,.c (.pure (.int .i64)) a0⟩),(1,⟨0,0,.c Z28 a1⟩)] _
 have hp:List.length a1≤big20∧∀ x∈a1,Sm big20 TPiece x:=hpre
 have hL:List.length a1≤1048576:=hp.1
 have hb:List.length a1≤bigLen:=hwf.2.1.1
 refine Vm hG rfl (Vm hG rfl (Vq (Vm hG rfl ?_)))
 refine Vb ?_
 refine Vc.loopF [(5,false,.own (.pure (.int .i64))),(6,false,.pure (.int .i64))] [0,1,4] (fun v=>gsInv (piecesG a0 a1) [2] a1 v.1 v.2.1) (fun v=>((List.length a1:Int)-v.2.1).toNat) rfl ?_ ?_
 · exact gsStart
 rintro⟨acc,(i:Int),_⟩ hI
 have hI:gsInv (piecesG a0 a1) [2] a1 acc i:=hI
 have hA:List.length acc≤1048577:=gsLen (c:=1) (m:=1048576) hI (fun _=>Nat.le_refl _) hL (by simp)
 refine Vq (Vm hG rfl ?_)
 refine Vk rfl ?_ ?_<;>intro h0
 · have hl:i<(List.length a1:Int):=oTr h0
   have hE:List.length (List.getD a1 i.toNat (dflt TPiece)).2.1≤1048576:=(hp.2 _ (upElem hI.1 hl)).2.1.1
   refine Vs (Vq (Vb ?_))
   refine VrD mixed hG rfl (by kernel_rfl) ?_ ?_
   · exact⟨gsRange hI hl,gsRange hI hl,gsRange hI hl,(show 2+List.length (List.getD a1 i.toNat (dflt TPiece)).2.1≤maxApp from by unfold maxApp;omega),(show List.length (List.getD a1 i.toNat (dflt TPiece)).2.1+2≤1000000000 from by omega),(show List.length acc+1≤maxApp from by unfold maxApp;omega)⟩
   refine Vn hG rfl ?_
   refine⟨rfl,?_⟩
   exact gsStep hI hl hb rfl
 · have hl:¬i<(List.length a1:Int):=oFa h0
   refine Vx (Vq ?_)
   refine Vr hG rfl ?_ ?_
   · exact(show List.length acc≤1000000000 from by omega)
   refine Vt ?_
   refine⟨?_,trivial⟩
   have e:=congrArg (digestF a0) (gsEnd hI hl)
   exact e
noncomputable def F308:Fun:=⟨[.int .i64,.int .i64,.slice Y19,.int .i64],[.pure (.int .i64)],fun x=>(fun(_ _:Int) (l:List Piece) (_:Int)=>Sm big20 (.slice TPiece) l) x.1 x.2.1 x.2.2.1 x.2.2.2.1,fun x=>(leafOfF x.1 x.2.1 x.2.2.1 x.2.2.2.1,())⟩
theorem F308_ok:Meets Tryz.prog 308 F308:=by
 refine mZ (C:=mkC 17 [8] [0,1,2,3,8] [⟨350,_,F350_ok⟩,⟨223,_,F223_ok⟩]) (mO _ _ _ _) (fO _) Tryz.func308 rfl rfl rfl (by decide) rfl ?_
 rintro⟨(a0:Int),(a1:Int),a2,(a3:Int),_⟩ hwf hpre ⟨⟩ hG rfl rfl
 show Vc _ _ [(0,⟨0,0,.c (.pure (.int .i64)) a0⟩),(1,⟨0,0,.c (.pure (.int .i64)) a1⟩),(2,⟨0,0,.c Z28 a2⟩),(3,⟨0,0,.c (.pure (.int .i64)) a3⟩)] _
 have hp:Sm big20 (.slice TPiece) a2:=hpre
 refine Vm hG rfl (Vq ?_)
 refine Vr hG rfl ?_ ?_
 · exact⟨hp,smallLit (n:=4) rfl (by decide)⟩
 refine Vt ?_
 refine⟨?_,trivial⟩
 all_goals exact rfl
noncomputable def F234:Fun:=⟨[.pair Y25 Y61,.slice (.int .i64),.int .i64],[.pure (.int .i64)],fun x=>(fun(s:Strand) (_:List Int) (_:Int)=>Sm big20 (.slice TPiece) s.1∧∀ r∈s.2,Sm big20 TRen r) x.1 x.2.1 x.2.2.1,fun x=>(leafAtF x.1 x.2.1 x.2.2.1,())⟩
theorem F234_ok:Meets Tryz.prog 234 F234:=by
 refine mZ (C:=mkC 69 [6] [0,1,2,3,6,7,8,36,44] [⟨232,_,F232_ok⟩,⟨307,_,F307_ok⟩,⟨308,_,F308_ok⟩]) (mO _ _ _ _) (fO _) Tryz.func234 rfl rfl rfl (by decide) rfl ?_
 rintro⟨a0,a1,(a2:Int),_⟩ hwf hpre ⟨⟩ hG rfl rfl
 show Vc _ _ [(0,⟨0,0,.c Z66 a0⟩),(1,⟨0,0,.c Z3 a1⟩),(2,⟨0,0,.c (.pure (.int .i64)) a2⟩)] _
 have hP:Sm big20 (.slice TPiece) a0.1:=hpre.1
 have hR:∀ r∈a0.2,Sm big20 TRen r:=hpre.2
 have hb:List.length a0.2≤bigLen:=hwf.1.2.1
 refine Vm hG rfl (Vq (Vq ?_))
 refine VrD mixed hG rfl (by kernel_rfl) ?_ ?_
 · exact⟨trivial,fun h=>laIdx (orF h).1 hb,fun _=>trivial⟩
 refine Vk rfl ?_ ?_<;>intro h0
 · have g0:leafAtBad a0 a1 a2=true:=h0
   refine Vm hG rfl (Vt ?_)
   refine⟨?_,trivial⟩
   exact la0 g0
 · have g0:leafAtBad a0 a1 a2=false:=h0
   have k1:=laIdx (orF (orF g0).1).1 hb
   have k2:(List.length a1:Int)=(List.length a0.2:Int):=bneI (orF (orF g0).1).2
   have k3:=rg (orF g0).2
   have k4:inRange a2 (List.length a1):=⟨k1.1,by have:=k1.2;omega⟩
   refine Vs (Vq ?_)
   refine Vr hG rfl ?_ ?_
   · exact k1
   refine Vm hG rfl (Vq (Vm hG rfl ?_))
   refine Vk rfl ?_ ?_<;>intro h1
   · have g1:a2>0:=oTr h1
     refine Vr hG rfl ?_ ?_
     · exact⟨prevIdx k1 g1 hb,hR _ (getD_mem (prevIdx k1 g1 hb) (dflt TRen))⟩
     refine Vq ?_
     refine VrD mixed hG rfl (by kernel_rfl) ?_ ?_
     · exact⟨k4,k1,Int.le_refl _,k3.1,k3.2,subL_sm hP⟩
     refine Vt ?_
     refine⟨?_,trivial⟩
     exact la1 g0 g1
   · have g1:¬a2>0:=oFa h1
     refine Vs (Vq ?_)
     refine VrD mixed hG rfl (by kernel_rfl) ?_ ?_
     · exact⟨k4,k1,Int.le_refl _,k3.1,k3.2,subL_sm hP⟩
     refine Vt ?_
     refine⟨?_,trivial⟩
     exact la2 g0 g1
noncomputable def P252:PFun:=⟨.pure Y18,[.int .i64],[.own (.pure (.int .i64))],fun x xs=>(fun c (m:Int)=>curOk c∧0<m∧m≤1000) x xs.1,fun x xs=>(leavesD x xs.1).2,fun x xs=>((leavesD x xs.1).1,())⟩
theorem P252_ok:MeetsP Tryz.prog 252 P252:=by
 refine meetsP_of_vc (C:=mkCP 21 [4] [0,1,4,5,6,12] [] [] [] [⟨74,_,P74_ok⟩] [0]) (mkCP_ok _ _ _ _ _ _ _ _) (fO _) Tryz.func252 rfl rfl rfl (by decide) rfl rfl rfl ?_ rfl
 rintro c ⟨(a1:Int),_⟩ hwc hwf hpre ⟨⟩ hG rfl rfl
 show Vc _ _ [(0,⟨0,0,.c (.ref Z22) c⟩),(1,⟨0,0,.c (.pure (.int .i64)) a1⟩)] _
 refine Vm hG rfl (Vm hG rfl (Vq (Vq ?_)))
 refine Vr hG rfl ?_ ?_
 · exact hpre.1
 refine Vb ?_
 refine Vc.loopF [(0,true,.pure Y18),(5,false,.own (.pure (.int .i64))),(6,false,.pure (.int .i64))] [1,4] (fun v=>dnInv leafS ((belowF c a1).2,[]) (belowF c a1).1 (v.1,v.2.1) v.2.2.1) (fun v=>(v.2.2.1:Int).toNat) rfl ?_ ?_
 · exact dnStart (belN hpre.2.1 (Int.le_trans hpre.2.2 (by decide)))
 rintro⟨c2,acc,(i:Int),_⟩ hI
 have hI:dnInv leafS ((belowF c a1).2,[]) (belowF c a1).1 (c2,acc) i:=hI
 obtain⟨k,hk,hc2,hlen⟩:=dnP leafP ⟨below_ok hpre.1,rfl⟩ leafS_P hI
 have hlen:List.length acc=k:=hlen
 have hc2:curOk c2:=hc2
 have hn:=(belN (c:=c) hpre.2.1 (Int.le_trans hpre.2.2 (by decide))).2
 refine Vq (Vm hG rfl ?_)
 refine Vk rfl ?_ ?_<;>intro h0
 · have hl:i>0:=oTr h0
   refine Vs (Vq (Vb ?_))
   refine Vr hG rfl ?_ ?_
   · exact⟨hc2,dnApp hlen hk hn⟩
   refine Vn hG rfl ?_
   refine⟨rfl,?_⟩
   exact dnStep hI hl
 · have hl:¬i>0:=oFa h0
   have hE:=dnEnd hI hl
   refine Vx (Vm hG rfl (Vt ?_))
   have e:=leaves_leaf hE
   refine⟨⟨?_,trivial⟩,?_,trivial⟩
   · exact(congrArg Prod.snd e).symm
   · exact(congrArg Prod.fst e).symm
noncomputable def F306:Fun:=⟨[.int .i64,.int .i64,.int .i64],[.pure (.int .i64)],fun _=>True,fun x=>(pairDF x.1 x.2.1 x.2.2.1,())⟩
theorem F306_ok:Meets Tryz.prog 306 F306:=by
 refine mZ (C:=mkC 12 [6] [0,1,2,6] [⟨223,_,F223_ok⟩]) (mO _ _ _ _) (fO _) Tryz.func306 rfl rfl rfl (by decide) rfl ?_
 rintro⟨(a0:Int),(a1:Int),(a2:Int),_⟩ hwf hpre ⟨⟩ hG rfl rfl
 show Vc _ _ [(0,⟨0,0,.c (.pure (.int .i64)) a0⟩),(1,⟨0,0,.c (.pure (.int .i64)) a1⟩),(2,⟨0,0,.c (.pure (.int .i64)) a2⟩)] _
 refine Vm hG rfl (Vq ?_)
 refine Vr hG rfl ?_ ?_
 · exact smallLit (n:=3) rfl (by decide)
 refine Vt ?_
 refine⟨?_,trivial⟩
 all_goals exact rfl
noncomputable def F233:Fun:=⟨[.int .i64,.slice (.int .i64)],[.own (.pure (.int .i64))],fun x=>(fun(_:Int) (l:List Int)=>List.length l≤1048576) x.1 x.2.1,fun x=>(upF x.1 x.2.1,())⟩
theorem F233_ok:Meets Tryz.prog 233 F233:=by
 refine mZ (C:=mkC 41 [4] [0,1,4,5,6,11,18] [⟨306,_,F306_ok⟩]) (mO _ _ _ _) (fO _) Tryz.func233 rfl rfl rfl (by decide) rfl ?_
 rintro⟨(a0:Int),a1,_⟩ hwf hpre ⟨⟩ hG rfl rfl
 show Vc _ _ [(0,⟨0,0,.c (.pure (.int .i64)) a0⟩),(1,⟨0,0,.c Z3 a1⟩)] _
 have hs:List.length a1≤1048576:=hpre
 refine Vm hG rfl (Vm hG rfl (Vq (Vm hG rfl ?_)))
 refine Vb ?_
 refine Vc.loopF [(5,false,.own (.pure (.int .i64))),(6,false,.pure (.int .i64))] [0,1,4] (fun v=>liInv a0 a1 v.1 v.2.1) (fun v=>((List.length a1:Int)-v.2.1).toNat) rfl ?_ ?_
 · exact liStart
 rintro⟨out,(i:Int),_⟩ hI
 have hI:liInv a0 a1 out i:=hI
 refine Vq (Vm hG rfl ?_)
 refine Vk rfl ?_ ?_<;>intro h0
 · have hl:i<(List.length a1:Int):=oTr h0
   refine Vs (Vq (Vb (Vm hG rfl ?_)))
   refine Vk rfl ?_ ?_<;>intro h1
   · have g1:IntKind.i64.wrap (i+1)<(List.length a1:Int):=oTr h1
     refine VrD mixed hG rfl (by kernel_rfl) ?_ ?_
     · exact⟨liRange hI hl,liRange1 hI g1 hs hl,trivial,liLen hI hs hl⟩
     refine Vn hG rfl ?_
     refine⟨rfl,?_⟩
     first
       | exact li2 hI hl hs g1
       | exact li1 hI hl hs g1
   · have g1:¬IntKind.i64.wrap (i+1)<(List.length a1:Int):=oFa h1
     refine Vr hG rfl ?_ ?_
     · exact⟨liRange hI hl,liLen hI hs hl⟩
     refine Vn hG rfl ?_
     refine⟨rfl,?_⟩
     first
       | exact li2 hI hl hs g1
       | exact li1 hI hl hs g1
 · have hl:¬i<(List.length a1:Int):=oFa h0
   refine Vx (Vm hG rfl (Vt ?_))
   refine⟨?_,trivial⟩
   exact liEnd hI hl
noncomputable def F150:Fun:=⟨[.int .i64,.slice (.int .i64)],[.pure (.int .i64)],fun _=>True,fun x=>(treeF x.1 x.2.1,())⟩
theorem F150_ok:Meets Tryz.prog 150 F150:=by
 refine mZ (C:=mkC 22 [4] [0,1,4,5,9,15] [⟨232,_,F232_ok⟩,⟨233,_,F233_ok⟩]) (mO _ _ _ _) (fO _) Tryz.func150 rfl rfl rfl (by decide) rfl ?_
 rintro⟨(a0:Int),a1,_⟩ hwf hpre ⟨⟩ hG rfl rfl
 show Vc _ _ [(0,⟨0,0,.c (.pure (.int .i64)) a0⟩),(1,⟨0,0,.c Z3 a1⟩)] _
 refine Vm hG rfl (Vq (Vm hG rfl ?_))
 refine Vk rfl ?_ ?_<;>intro h0
 · have g0:(!(inRangeF (List.length a1:Int) 1 16))=true:=h0
   refine Vm hG rfl (Vt ?_)
   refine⟨?_,trivial⟩
   exact tree0 g0
 · have g0:(!(inRangeF (List.length a1:Int) 1 16))=false:=h0
   have gr:=rg g0
   refine Vs (Vq ?_)
   refine Vr hG rfl ?_ ?_
   · show 0+List.length a1≤maxApp
     unfold maxApp
     omega
   refine Vq (Vb ?_)
   refine Vc.loopF [(5,false,.own (.pure (.int .i64)))] [0,1,4,9] (fun v=>trInv a0 a1 v.1) (fun v=>List.length v.1) rfl ?_ ?_
   · exact trStart gr
   rintro⟨l,_⟩ hI
   have hI:trInv a0 a1 l:=hI
   refine Vq (Vm hG rfl ?_)
   refine Vk rfl ?_ ?_<;>intro h1
   · have g1:(List.length l:Int)>1:=oTr h1
     refine Vs (Vb ?_)
     refine Vr hG rfl ?_ ?_
     · exact trSmall hI
     refine⟨rfl,?_⟩
     exact trStep hI g1
   · have g1:¬(List.length l:Int)>1:=oFa h1
     refine Vx (Vq ?_)
     refine Vr hG rfl ?_ ?_
     · exact trIdx hI
     refine Vt ?_
     refine⟨?_,trivial⟩
     exact trEnd hI g1 g0
noncomputable def F312:Fun:=⟨[.int .i64,.slice (.int .i64),.int .i64],[.own Z6],fun _=>True,fun x=>(pathF x.1 x.2.1 x.2.2.1,())⟩
theorem F312_ok:Meets Tryz.prog 312 F312:=by
 refine mZ (C:=mkC 60 [6] [0,1,2,6,7,8,20,27,30,44] [⟨232,_,F232_ok⟩,⟨233,_,F233_ok⟩]) (mO _ _ _ _) (fO _) Tryz.func312 rfl rfl rfl (by decide) rfl ?_
 rintro⟨(a0:Int),a1,(a2:Int),_⟩ hwf hpre ⟨⟩ hG rfl rfl
 show Vc _ _ [(0,⟨0,0,.c (.pure (.int .i64)) a0⟩),(1,⟨0,0,.c Z3 a1⟩),(2,⟨0,0,.c (.pure (.int .i64)) a2⟩)] _
 have hb:List.length a1≤bigLen:=hwf.2.1.1
 refine Vm hG rfl (Vm hG rfl (Vq (Vq ?_)))
 refine Vr hG rfl ?_ ?_
 · repeat' (first | exact trivial | refine And.intro ?_ ?_ | intro _)
 refine Vk rfl ?_ ?_<;>intro h0
 · have g0:=pt0s (m:=a0) (i:=a2) (l:=a1) hb h0
   refine Vm hG rfl (Vt ?_)
   refine⟨?_,trivial⟩
   exact g0
 · have g0:=ptGos (i:=a2) (l:=a1) hb h0
   refine Vs (Vq ?_)
   refine Vr hG rfl ?_ ?_
   · show 0+List.length a1≤maxApp
     unfold maxApp
     have:=g0.2.2
     omega
   refine Vq (Vb ?_)
   refine Vc.loopF [(2,false,.pure (.int .i64)),(7,false,.own Z6),(8,false,.own (.pure (.int .i64)))] [0,1,6,20] (fun v=>ptInv a0 a1 a2 v.2.2.1 v.1 v.2.1) (fun v=>List.length v.2.2.1) rfl ?_ ?_
   · exact ptStart g0
   rintro⟨(i:Int),out,l,_⟩ hI
   have hI:ptInv a0 a1 a2 l i out:=hI
   refine Vq (Vm hG rfl ?_)
   refine Vk rfl ?_ ?_<;>intro h1
   · have g1:(List.length l:Int)>1:=oTr h1
     refine Vs (Vb (Vq (Vq ?_)))
     refine Vr hG rfl ?_ ?_
     · show (2:Int)≠0
       decide
     refine Vk rfl ?_ ?_<;>intro h2
     · have g2:(i.tmod 2==1)=true:=h2
       have r1:=(ptOdd hI.2.1 hI.2.2.1 hI.2.2.2.1 g2).2
       have st:=ptA hI g1 g2
       refine Vr hG rfl ?_ ?_
       · exact⟨r1,ptLen hI⟩
       refine Vq ?_
       refine Vr hG rfl ?_ ?_
       · exact ptSm hI
       refine Vr hG rfl ?_ ?_
       · show (2:Int)≠0
         decide
       refine⟨rfl,?_⟩
       exact st
     · have g2:(i.tmod 2==1)=false:=h2
       refine Vm hG rfl ?_
       refine Vk rfl ?_ ?_<;>intro h3
       · have g3:IntKind.i64.wrap (i+1)<(List.length l:Int):=oTr h3
         have r2:=(ptEven hI.2.1 hI.2.2.1 hI.2.2.2.1 g2 g3).2
         have st:=ptB hI g1 g2 g3
         refine Vr hG rfl ?_ ?_
         · exact⟨r2,ptLen hI⟩
         refine Vq ?_
         refine Vr hG rfl ?_ ?_
         · exact ptSm hI
         refine Vr hG rfl ?_ ?_
         · show (2:Int)≠0
           decide
         refine⟨rfl,?_⟩
         exact st
       · have g3:¬IntKind.i64.wrap (i+1)<(List.length l:Int):=oFa h3
         have st:=ptC hI g1 g2 g3
         refine Vs (Vq ?_)
         refine Vr hG rfl ?_ ?_
         · exact ptSm hI
         refine Vr hG rfl ?_ ?_
         · show (2:Int)≠0
           decide
         refine⟨rfl,?_⟩
         exact st
   · have g1:¬(List.length l:Int)>1:=oFa h1
     refine Vx (Vm hG rfl (Vt ?_))
     refine⟨?_,trivial⟩
     exact ptEnd hI g1 g0
noncomputable def F251:Fun:=⟨[.slice Y34,.slice Y15,.int .i64,.int .i64,.slice (.int .i64),.int .i64,.slice (.int .i64),.int .i64,.int .i64],[.pair (.pure (.int .i64)) Z60],fun x=>(fun(_:List Key) (_:List Authority) (_ _:Int) (o:List Int) (_:Int) (ids:List Int) (_ _:Int)=>List.length o≤1000∧List.length ids≤1000) x.1 x.2.1 x.2.2.1 x.2.2.2.1 x.2.2.2.2.1 x.2.2.2.2.2.1 x.2.2.2.2.2.2.1 x.2.2.2.2.2.2.2.1 x.2.2.2.2.2.2.2.2.1,fun x=>(renMakeF x.1 x.2.1 x.2.2.1 x.2.2.2.1 x.2.2.2.2.1 x.2.2.2.2.2.1 x.2.2.2.2.2.2.1 x.2.2.2.2.2.2.2.1 x.2.2.2.2.2.2.2.2.1,())⟩
theorem F251_ok:Meets Tryz.prog 251 F251:=by
 refine mZ (C:=mkC 71 [18] [0,1,2,3,4,5,6,7,8,18,19,20,21,22,23,45,63] [⟨150,_,F150_ok⟩,⟨312,_,F312_ok⟩,⟨149,_,F149_ok⟩]) (mO _ _ _ _) (fO _) Tryz.func251 rfl rfl rfl (by decide) rfl ?_
 rintro⟨a0,a1,(a2:Int),(a3:Int),a4,(a5:Int),a6,(a7:Int),(a8:Int),_⟩ hwf hpre ⟨⟩ hG rfl rfl
 show Vc _ _ [(0,⟨0,0,.c Z38 a0⟩),(1,⟨0,0,.c Z23 a1⟩),(2,⟨0,0,.c (.pure (.int .i64)) a2⟩),(3,⟨0,0,.c (.pure (.int .i64)) a3⟩),(4,⟨0,0,.c Z3 a4⟩),(5,⟨0,0,.c (.pure (.int .i64)) a5⟩),(6,⟨0,0,.c Z3 a6⟩),(7,⟨0,0,.c (.pure (.int .i64)) a7⟩),(8,⟨0,0,.c (.pure (.int .i64)) a8⟩)] _
 have hs:List.length a6≤1048576:=Nat.le_trans hpre.2 (by decide)
 have hb:List.length a6≤bigLen:=Nat.le_trans hpre.2 (by decide)
 have ho:List.length a4≤1000:=hpre.1
 refine Vm hG rfl (Vq ?_)
 refine Vr hG rfl ?_ ?_
 · exact rmApp ho
 refine Vm hG rfl (Vq (Vm hG rfl (Vb ?_)))
 refine Vc.loopF [(20,true,.pair (.pure (.int .i64)) Z60),(21,false,.pure (.int .i64))] [0,1,2,3,4,5,6,7,8,18,19] (fun v=>∃ acc,v.1=rmBase a2 a3 a4 a5 acc∧pkInv (rmG a0 a1 a2 a3 a4 a7 a8) a6 acc v.2.1) (fun v=>((List.length a6:Int)-v.2.1).toNat) rfl ?_ ?_
 · exact⟨[],rfl,pkStart⟩
 rintro⟨r,(i:Int),_⟩ ⟨acc,e0,hI⟩
 have e0:r=rmBase a2 a3 a4 a5 acc:=e0
 subst e0
 have hI:pkInv (rmG a0 a1 a2 a3 a4 a7 a8) a6 acc i:=hI
 refine Vq (Vm hG rfl ?_)
 refine Vk rfl ?_ ?_<;>intro h0
 · have hl:i<(List.length a6:Int):=oTr h0
   refine Vs (Vq (Vb (Vq ?_)))
   refine VrD mixed hG rfl (by kernel_rfl) ?_ ?_
   · repeat' (first | exact trivial | exact pkRange hI hl | refine And.intro ?_ ?_ | intro _)
   refine Vm hG rfl ?_
   refine Vk rfl ?_ ?_<;>intro h1
   · have g1:((rmG a0 a1 a2 a3 a4 a7 a8) (List.getD a6 i.toNat (dflt TI))).2=true:=h1
     have st:=pkYes (d:=dflt TI) hI hl hb g1
     refine Vr hG rfl ?_ ?_
     · exact pkLen hI hs
     refine Vn hG rfl ?_
     refine⟨rfl,?_⟩
     exact⟨⟨_,rfl,st.1⟩,st.2⟩
   · have g1:((rmG a0 a1 a2 a3 a4 a7 a8) (List.getD a6 i.toNat (dflt TI))).2=false:=h1
     have st:=pkNo (d:=dflt TI) hI hl hb g1
     refine Vs (Vn hG rfl ?_)
     refine⟨rfl,?_⟩
     exact⟨⟨_,rfl,st.1⟩,st.2⟩
 · have hl:¬i<(List.length a6:Int):=oFa h0
   refine Vx (Vm hG rfl (Vt ?_))
   refine⟨?_,trivial⟩
   exact congrArg (rmBase a2 a3 a4 a5) (pkEnd hI hl)
noncomputable def P164:PFun:=⟨.pure Y18,[.pair Y25 Y61,.pair (.int .i64) Y13,.int .i64,.int .i64],[.pure Y64],fun x xs=>(fun c (s:Strand) (_:Doc) (_ _:Int)=>curOk c∧Sm big20 Y64 s) x xs.1 xs.2.1 xs.2.2.1 xs.2.2.2.1,fun x xs=>(renewD x xs.1 xs.2.1 xs.2.2.1 xs.2.2.2.1).2,fun x xs=>((renewD x xs.1 xs.2.1 xs.2.2.1 xs.2.2.2.1).1,())⟩
theorem P164_ok:MeetsP Tryz.prog 164 P164:=by
 refine meetsP_of_vc (C:=mkCP 66 [10] [0,1,2,3,4,6,7,10,11,12,13,14,15,16,30,43] [⟨250,_,F250_ok⟩,⟨220,_,F220_ok⟩,⟨234,_,F234_ok⟩,⟨76,_,F76_ok⟩,⟨77,_,F77_ok⟩,⟨251,_,F251_ok⟩] [] [] [⟨79,_,P79_ok⟩,⟨252,_,P252_ok⟩,⟨74,_,P74_ok⟩] [0]) (mkCP_ok _ _ _ _ _ _ _ _) (fO _) Tryz.func164 rfl rfl rfl (by decide) rfl rfl rfl ?_ rfl
 rintro c ⟨a1,a2,(a3:Int),(a4:Int),_⟩ hwc hwf hpre ⟨⟩ hG rfl rfl
 show Vc _ _ [(0,⟨0,0,.c (.ref Z22) c⟩),(1,⟨0,0,.c Z66 a1⟩),(2,⟨0,0,.c Z27 a2⟩),(3,⟨0,0,.c (.pure (.int .i64)) a3⟩),(4,⟨0,0,.c (.pure (.int .i64)) a4⟩)] _
 have hc:curOk c:=hpre.1
 have hs:Sm big20 TStrand a1:=hpre.2
 refine Vm hG rfl (Vm hG rfl (Vq ?_))
 refine Vr hG rfl ?_ ?_
 · repeat' (first | exact trivial | exact hc | exact once_ok hc | exact hs | exact renQ_sm _ _ | exact long_len hs | exact long_sm hs | exact(long_sm hs).1 | exact(long_sm hs).2.2 | exact leaves_ok (once_ok hc) | exact leaves_len (once_ok hc) (by decide) | exact(Nat.le_of_ble_eq_true rfl:(4:Nat)≤1000) | exact(Nat.le_of_ble_eq_true rfl:(3:Nat)≤1000) | exact renNew_sm (Nat.le_of_ble_eq_true rfl) | exact(by decide:(0:Int)<4) | exact(by decide:(4:Int)≤1000) | refine And.intro ?_ ?_ | intro _)
 refine Vq (Vm hG rfl ?_)
 refine Vk rfl ?_ ?_<;>intro h0
 · refine Vm hG rfl ?_
   refine Vc.frz 10 rfl ?_
   refine Vt ?_
   have e:renewD c a1 a2 a3 a4=_:=((renew_eq c a1 a2 a3 a4).trans (cT h0))
   refine⟨⟨?_,trivial⟩,?_,trivial⟩
   · exact(congrArg Prod.snd e).symm
   · exact(congrArg (fun r=>r.1) e).symm
 · refine Vs (Vq ?_)
   refine VrD mixed hG rfl (by kernel_rfl) ?_ ?_
   · repeat' (first | exact trivial | exact hc | exact once_ok hc | exact hs | exact renQ_sm _ _ | exact long_len hs | exact long_sm hs | exact(long_sm hs).1 | exact(long_sm hs).2.2 | exact leaves_ok (once_ok hc) | exact leaves_len (once_ok hc) (by decide) | exact(Nat.le_of_ble_eq_true rfl:(4:Nat)≤1000) | exact(Nat.le_of_ble_eq_true rfl:(3:Nat)≤1000) | exact renNew_sm (Nat.le_of_ble_eq_true rfl) | exact(by decide:(0:Int)<4) | exact(by decide:(4:Int)≤1000) | refine And.intro ?_ ?_ | intro _)
   refine Vm hG rfl (Vq (Vq ?_))
   refine Vr hG rfl ?_ ?_
   · repeat' (first | exact trivial | exact hc | exact once_ok hc | exact hs | exact renQ_sm _ _ | exact long_len hs | exact long_sm hs | exact(long_sm hs).1 | exact(long_sm hs).2.2 | exact leaves_ok (once_ok hc) | exact leaves_len (once_ok hc) (by decide) | exact(Nat.le_of_ble_eq_true rfl:(4:Nat)≤1000) | exact(Nat.le_of_ble_eq_true rfl:(3:Nat)≤1000) | exact renNew_sm (Nat.le_of_ble_eq_true rfl) | exact(by decide:(0:Int)<4) | exact(by decide:(4:Int)≤1000) | refine And.intro ?_ ?_ | intro _)
   refine Vk rfl ?_ ?_<;>intro h1
   · refine Vn hG rfl (Vq ?_)
     refine VrD mixed hG rfl (by kernel_rfl) ?_ ?_
     · repeat' (first | exact trivial | exact hc | exact once_ok hc | exact hs | exact renQ_sm _ _ | exact long_len hs | exact long_sm hs | exact(long_sm hs).1 | exact(long_sm hs).2.2 | exact leaves_ok (once_ok hc) | exact leaves_len (once_ok hc) (by decide) | exact(Nat.le_of_ble_eq_true rfl:(4:Nat)≤1000) | exact(Nat.le_of_ble_eq_true rfl:(3:Nat)≤1000) | exact renNew_sm (Nat.le_of_ble_eq_true rfl) | exact(by decide:(0:Int)<4) | exact(by decide:(4:Int)≤1000) | refine And.intro ?_ ?_ | intro _)
     refine Vq ?_
     refine Vr hG rfl ?_ ?_
     · repeat' (first | exact trivial | exact hc | exact once_ok hc | exact hs | exact renQ_sm _ _ | exact long_len hs | exact long_sm hs | exact(long_sm hs).1 | exact(long_sm hs).2.2 | exact leaves_ok (once_ok hc) | exact leaves_len (once_ok hc) (by decide) | exact(Nat.le_of_ble_eq_true rfl:(4:Nat)≤1000) | exact(Nat.le_of_ble_eq_true rfl:(3:Nat)≤1000) | exact renNew_sm (Nat.le_of_ble_eq_true rfl) | exact(by decide:(0:Int)<4) | exact(by decide:(4:Int)≤1000) | refine And.intro ?_ ?_ | intro _)
     refine Vm hG rfl ?_
     refine Vc.frz 10 rfl ?_
     refine Vt ?_
     have e:renewD c a1 a2 a3 a4=_:=((renew_eq c a1 a2 a3 a4).trans ((cF h0).trans (cT h1)))
     refine⟨⟨?_,trivial⟩,?_,trivial⟩
     · exact(congrArg Prod.snd e).symm
     · exact(congrArg (fun r=>r.1) e).symm
   · refine Vs (Vq ?_)
     refine VrD mixed hG rfl (by kernel_rfl) ?_ ?_
     · repeat' (first | exact trivial | exact hc | exact once_ok hc | exact hs | exact renQ_sm _ _ | exact long_len hs | exact long_sm hs | exact(long_sm hs).1 | exact(long_sm hs).2.2 | exact leaves_ok (once_ok hc) | exact leaves_len (once_ok hc) (by decide) | exact(Nat.le_of_ble_eq_true rfl:(4:Nat)≤1000) | exact(Nat.le_of_ble_eq_true rfl:(3:Nat)≤1000) | exact renNew_sm (Nat.le_of_ble_eq_true rfl) | exact(by decide:(0:Int)<4) | exact(by decide:(4:Int)≤1000) | refine And.intro ?_ ?_ | intro _)
     refine Vq ?_
     refine Vr hG rfl ?_ ?_
     · repeat' (first | exact trivial | exact hc | exact once_ok hc | exact hs | exact renQ_sm _ _ | exact long_len hs | exact long_sm hs | exact(long_sm hs).1 | exact(long_sm hs).2.2 | exact leaves_ok (once_ok hc) | exact leaves_len (once_ok hc) (by decide) | exact(Nat.le_of_ble_eq_true rfl:(4:Nat)≤1000) | exact(Nat.le_of_ble_eq_true rfl:(3:Nat)≤1000) | exact renNew_sm (Nat.le_of_ble_eq_true rfl) | exact(by decide:(0:Int)<4) | exact(by decide:(4:Int)≤1000) | refine And.intro ?_ ?_ | intro _)
     refine Vm hG rfl ?_
     refine Vc.frz 10 rfl ?_
     refine Vt ?_
     have e:renewD c a1 a2 a3 a4=_:=((renew_eq c a1 a2 a3 a4).trans ((cF h0).trans (cF h1)))
     refine⟨⟨?_,trivial⟩,?_,trivial⟩
     · exact(congrArg Prod.snd e).symm
     · exact(congrArg (fun r=>r.1) e).symm
end Fw
