/- Walks of functions of the program: what each computes. Conditions: those that each contract names. -/
import Derived.Test.YtpcljloahdbjcaaGreatW51T
import Derived.Test.YtpcljloahdbjcaaGreatW51s0
set_option linter.unusedVariables false
namespace Fw
open Go Go.Proofs
set_option linter.unusedSimpArgs false
set_option maxRecDepth 100000
noncomputable def P252:PFun:=⟨.pure Y18,[.int .i64],[.own (.pure (.int .i64))],fun x xs=>(fun c (m:Int)=>curOk c∧0<m∧m≤1000) x xs.1,fun x xs=>(leavesD x xs.1).2,fun x xs=>((leavesD x xs.1).1,())⟩
theorem P252_ok:MeetsP Tryz.prog 252 P252:=by
 refine meetsP_of_vc (C:=mkCP 21 [4] [0,1,4,5,6,12] [] [] [] [⟨74,_,P74_ok⟩] [0]) (mkCP_ok _ _ _ _ _ _ _ _) (fO _) Tryz.func252 rfl rfl rfl (by decide) rfl rfl rfl ?_ rfl
 rintro c ⟨(a1:Int),_⟩ hwc hwf hpre ⟨⟩ hG rfl rfl
 show Vc _ _ [(0,⟨0,0,.c (.ref Z23) c⟩),(1,⟨0,0,.c (.pure (.int .i64)) a1⟩)] _
 refine Vm hG rfl (Vm hG rfl (Vq (Vq ?_)))
 refine Vr hG rfl ?_ ?_
 · exact hpre.1
 refine Vb ?_
 refine Vc.loopF [(0,true,.pure Y18),(5,false,.own (.pure (.int .i64))),(6,false,.pure (.int .i64))] [1,4] (fun v=>dnInv leafS ((belowF c a1).2,[]) (belowF c a1).1 (v.1,v.2.1) v.2.2.1) (fun v=>(v.2.2.1:Int).toNat) rfl ?_ ?_
 · exact dnStart (belN hpre.2.1 (Int.le_trans hpre.2.2 (by decide)))
 rintro⟨c2,acc,(i:Int),_⟩ hI
 have hI:dnInv leafS ((belowF c a1).2,[]) (belowF c a1).1 (c2,acc) i:=hI
 obtain⟨k,hk,hc2,hlen⟩:=dnP leafP ⟨below_ok hpre.1,rfl⟩ leafS_P hI
 have hlen:List.length acc=k:=hlen
 have hc2:curOk c2:=hc2
 have hn:=(belN (c:=c) hpre.2.1 (Int.le_trans hpre.2.2 (by decide))).2
 refine Vq (Vm hG rfl ?_)
 refine Vk rfl ?_ ?_<;>intro h0
 · have hl:i>0:=oTr h0
   refine Vs (Vq (Vb ?_))
   refine Vr hG rfl ?_ ?_
   · exact⟨hc2,dnApp hlen hk hn⟩
   refine Vn hG rfl ?_
   refine⟨rfl,?_⟩
   exact dnStep hI hl
 · have hl:¬i>0:=oFa h0
   have hE:=dnEnd hI hl
   refine Vx (Vm hG rfl (Vt ?_))
   have e:=leaves_leaf hE
   refine⟨⟨?_,trivial⟩,?_,trivial⟩
   · exact(congrArg Prod.snd e).symm
   · exact(congrArg Prod.fst e).symm
noncomputable def F306:Fun:=⟨[.int .i64,.int .i64,.int .i64],[.pure (.int .i64)],fun _=>True,fun x=>(pairDF x.1 x.2.1 x.2.2.1,())⟩
theorem F306_ok:Meets Tryz.prog 306 F306:=by
 refine mZ (C:=mkC 12 [6] [0,1,2,6] [⟨223,_,F223_ok⟩]) (mO _ _ _ _) (fO _) Tryz.func306 rfl rfl rfl (by decide) rfl ?_
 rintro⟨(a0:Int),(a1:Int),(a2:Int),_⟩ hwf hpre ⟨⟩ hG rfl rfl
 show Vc _ _ [(0,⟨0,0,.c (.pure (.int .i64)) a0⟩),(1,⟨0,0,.c (.pure (.int .i64)) a1⟩),(2,⟨0,0,.c (.pure (.int .i64)) a2⟩)] _
 refine Vm hG rfl (Vq ?_)
 refine Vr hG rfl ?_ ?_
 · exact smallLit (n:=3) rfl (by decide)
 refine Vt ?_
 refine⟨?_,trivial⟩
 all_goals exact rfl
noncomputable def F233:Fun:=⟨[.int .i64,.slice (.int .i64)],[.own (.pure (.int .i64))],fun x=>(fun(_:Int) (l:List Int)=>List.length l≤1048576) x.1 x.2.1,fun x=>(upF x.1 x.2.1,())⟩
theorem F233_ok:Meets Tryz.prog 233 F233:=by
 refine mZ (C:=mkC 41 [4] [0,1,4,5,6,11,18] [⟨306,_,F306_ok⟩]) (mO _ _ _ _) (fO _) Tryz.func233 rfl rfl rfl (by decide) rfl ?_
 rintro⟨(a0:Int),a1,_⟩ hwf hpre ⟨⟩ hG rfl rfl
 show Vc _ _ [(0,⟨0,0,.c (.pure (.int .i64)) a0⟩),(1,⟨0,0,.c Z3 a1⟩)] _
 have hs:List.length a1≤1048576:=hpre
 refine Vm hG rfl (Vm hG rfl (Vq (Vm hG rfl ?_)))
 refine Vb ?_
 refine Vc.loopF [(5,false,.own (.pure (.int .i64))),(6,false,.pure (.int .i64))] [0,1,4] (fun v=>liInv a0 a1 v.1 v.2.1) (fun v=>((List.length a1:Int)-v.2.1).toNat) rfl ?_ ?_
 · exact liStart
 rintro⟨out,(i:Int),_⟩ hI
 have hI:liInv a0 a1 out i:=hI
 refine Vq (Vm hG rfl ?_)
 refine Vk rfl ?_ ?_<;>intro h0
 · have hl:i<(List.length a1:Int):=oTr h0
   refine Vs (Vq (Vb (Vm hG rfl ?_)))
   refine Vk rfl ?_ ?_<;>intro h1
   · have g1:IntKind.i64.wrap (i+1)<(List.length a1:Int):=oTr h1
     refine VrD mixed hG rfl (by kernel_rfl) ?_ ?_
     · exact⟨liRange hI hl,liRange1 hI g1 hs hl,trivial,liLen hI hs hl⟩
     refine Vn hG rfl ?_
     refine⟨rfl,?_⟩
     first
       | exact li2 hI hl hs g1
       | exact li1 hI hl hs g1
   · have g1:¬IntKind.i64.wrap (i+1)<(List.length a1:Int):=oFa h1
     refine Vr hG rfl ?_ ?_
     · exact⟨liRange hI hl,liLen hI hs hl⟩
     refine Vn hG rfl ?_
     refine⟨rfl,?_⟩
     first
       | exact li2 hI hl hs g1
       | exact li1 hI hl hs g1
 · have hl:¬i<(List.length a1:Int):=oFa h0
   refine Vx (Vm hG rfl (Vt ?_))
   refine⟨?_,trivial⟩
   exact liEnd hI hl
noncomputable def F150:Fun:=⟨[.int .i64,.slice (.int .i64)],[.pure (.int .i64)],fun _=>True,fun x=>(treeF x.1 x.2.1,())⟩
theorem F150_ok:Meets Tryz.prog 150 F150:=by
 refine mZ (C:=mkC 22 [4] [0,1,4,5,9,15] [⟨232,_,F232_ok⟩,⟨233,_,F233_ok⟩]) (mO _ _ _ _) (fO _) Tryz.func150 rfl rfl rfl (by decide) rfl ?_
 rintro⟨(a0:Int),a1,_⟩ hwf hpre ⟨⟩ hG rfl rfl
 show Vc _ _ [(0,⟨0,0,.c (.pure (.int .i64)) a0⟩),(1,⟨0,0,.c Z3 a1⟩)] _
 refine Vm hG rfl (Vq (Vm hG rfl ?_))
 refine Vk rfl ?_ ?_<;>intro h0
 · have g0:(!(inRangeF (List.length a1:Int) 1 16))=true:=h0
   refine Vm hG rfl (Vt ?_)
   refine⟨?_,trivial⟩
   exact tree0 g0
 · have g0:(!(inRangeF (List.length a1:Int) 1 16))=false:=h0
   have gr:=rg g0
   refine Vs (Vq ?_)
   refine Vr hG rfl ?_ ?_
   · show 0+List.length a1≤maxApp
     unfold maxApp
     omega
   refine Vq (Vb ?_)
   refine Vc.loopF [(5,false,.own (.pure (.int .i64)))] [0,1,4,9] (fun v=>trInv a0 a1 v.1) (fun v=>List.length v.1) rfl ?_ ?_
   · exact trStart gr
   rintro⟨l,_⟩ hI
   have hI:trInv a0 a1 l:=hI
   refine Vq (Vm hG rfl ?_)
   refine Vk rfl ?_ ?_<;>intro h1
   · have g1:(List.length l:Int)>1:=oTr h1
     refine Vs (Vb ?_)
     refine Vr hG rfl ?_ ?_
     · exact trSmall hI
     refine⟨rfl,?_⟩
     exact trStep hI g1
   · have g1:¬(List.length l:Int)>1:=oFa h1
     refine Vx (Vq ?_)
     refine Vr hG rfl ?_ ?_
     · exact trIdx hI
     refine Vt ?_
     refine⟨?_,trivial⟩
     exact trEnd hI g1 g0
noncomputable def F312:Fun:=⟨[.int .i64,.slice (.int .i64),.int .i64],[.own Z6],fun _=>True,fun x=>(pathF x.1 x.2.1 x.2.2.1,())⟩
theorem F312_ok:Meets Tryz.prog 312 F312:=by
 refine mZ (C:=mkC 60 [6] [0,1,2,6,7,8,20,27,30,44] [⟨232,_,F232_ok⟩,⟨233,_,F233_ok⟩]) (mO _ _ _ _) (fO _) Tryz.func312 rfl rfl rfl (by decide) rfl ?_
 rintro⟨(a0:Int),a1,(a2:Int),_⟩ hwf hpre ⟨⟩ hG rfl rfl
 show Vc _ _ [(0,⟨0,0,.c (.pure (.int .i64)) a0⟩),(1,⟨0,0,.c Z3 a1⟩),(2,⟨0,0,.c (.pure (.int .i64)) a2⟩)] _
 have hb:List.length a1≤bigLen:=hwf.2.1.1
 refine Vm hG rfl (Vm hG rfl (Vq (Vq ?_)))
 refine Vr hG rfl ?_ ?_
 · repeat' (first | exact trivial | refine And.intro ?_ ?_ | intro _)
 refine Vk rfl ?_ ?_<;>intro h0
 · have g0:=pt0s (m:=a0) (i:=a2) (l:=a1) hb h0
   refine Vm hG rfl (Vt ?_)
   refine⟨?_,trivial⟩
   exact g0
 · have g0:=ptGos (i:=a2) (l:=a1) hb h0
   refine Vs (Vq ?_)
   refine Vr hG rfl ?_ ?_
   · show 0+List.length a1≤maxApp
     unfold maxApp
     have:=g0.2.2
     omega
   refine Vq (Vb ?_)
   refine Vc.loopF [(2,false,.pure (.int .i64)),(7,false,.own Z6),(8,false,.own (.pure (.int .i64)))] [0,1,6,20] (fun v=>ptInv a0 a1 a2 v.2.2.1 v.1 v.2.1) (fun v=>List.length v.2.2.1) rfl ?_ ?_
   · exact ptStart g0
   rintro⟨(i:Int),out,l,_⟩ hI
   have hI:ptInv a0 a1 a2 l i out:=hI
   refine Vq (Vm hG rfl ?_)
   refine Vk rfl ?_ ?_<;>intro h1
   · have g1:(List.length l:Int)>1:=oTr h1
     refine Vs (Vb (Vq (Vq ?_)))
     refine Vr hG rfl ?_ ?_
     · show (2:Int)≠0
       decide
     refine Vk rfl ?_ ?_<;>intro h2
     · have g2:(i.tmod 2==1)=true:=h2
       have r1:=(ptOdd hI.2.1 hI.2.2.1 hI.2.2.2.1 g2).2
       have st:=ptA hI g1 g2
       refine Vr hG rfl ?_ ?_
       · exact⟨r1,ptLen hI⟩
       refine Vq ?_
       refine Vr hG rfl ?_ ?_
       · exact ptSm hI
       refine Vr hG rfl ?_ ?_
       · show (2:Int)≠0
         decide
       refine⟨rfl,?_⟩
       exact st
     · have g2:(i.tmod 2==1)=false:=h2
       refine Vm hG rfl ?_
       refine Vk rfl ?_ ?_<;>intro h3
       · have g3:IntKind.i64.wrap (i+1)<(List.length l:Int):=oTr h3
         have r2:=(ptEven hI.2.1 hI.2.2.1 hI.2.2.2.1 g2 g3).2
         have st:=ptB hI g1 g2 g3
         refine Vr hG rfl ?_ ?_
         · exact⟨r2,ptLen hI⟩
         refine Vq ?_
         refine Vr hG rfl ?_ ?_
         · exact ptSm hI
         refine Vr hG rfl ?_ ?_
         · show (2:Int)≠0
           decide
         refine⟨rfl,?_⟩
         exact st
       · have g3:¬IntKind.i64.wrap (i+1)<(List.length l:Int):=oFa h3
         have st:=ptC hI g1 g2 g3
         refine Vs (Vq ?_)
         refine Vr hG rfl ?_ ?_
         · exact ptSm hI
         refine Vr hG rfl ?_ ?_
         · show (2:Int)≠0
           decide
         refine⟨rfl,?_⟩
         exact st
   · have g1:¬(List.length l:Int)>1:=oFa h1
     refine Vx (Vm hG rfl (Vt ?_))
     refine⟨?_,trivial⟩
     exact ptEnd hI g1 g0
noncomputable def F251:Fun:=⟨[.slice Y36,.slice Y15,.int .i64,.int .i64,.slice (.int .i64),.int .i64,.slice (.int .i64),.int .i64,.int .i64],[.pair (.pure (.int .i64)) Z57],fun x=>(fun(_:List Key) (_:List Authority) (_ _:Int) (o:List Int) (_:Int) (ids:List Int) (_ _:Int)=>List.length o≤1000∧List.length ids≤1000) x.1 x.2.1 x.2.2.1 x.2.2.2.1 x.2.2.2.2.1 x.2.2.2.2.2.1 x.2.2.2.2.2.2.1 x.2.2.2.2.2.2.2.1 x.2.2.2.2.2.2.2.2.1,fun x=>(renMakeF x.1 x.2.1 x.2.2.1 x.2.2.2.1 x.2.2.2.2.1 x.2.2.2.2.2.1 x.2.2.2.2.2.2.1 x.2.2.2.2.2.2.2.1 x.2.2.2.2.2.2.2.2.1,())⟩
theorem F251_ok:Meets Tryz.prog 251 F251:=by
 refine mZ (C:=mkC 71 [18] [0,1,2,3,4,5,6,7,8,18,19,20,21,22,23,45,63] [⟨150,_,F150_ok⟩,⟨312,_,F312_ok⟩,⟨149,_,F149_ok⟩]) (mO _ _ _ _) (fO _) Tryz.func251 rfl rfl rfl (by decide) rfl ?_
 rintro⟨a0,a1,(a2:Int),(a3:Int),a4,(a5:Int),a6,(a7:Int),(a8:Int),_⟩ hwf hpre ⟨⟩ hG rfl rfl
 show Vc _ _ [(0,⟨0,0,.c Z40 a0⟩),(1,⟨0,0,.c Z25 a1⟩),(2,⟨0,0,.c (.pure (.int .i64)) a2⟩),(3,⟨0,0,.c (.pure (.int .i64)) a3⟩),(4,⟨0,0,.c Z3 a4⟩),(5,⟨0,0,.c (.pure (.int .i64)) a5⟩),(6,⟨0,0,.c Z3 a6⟩),(7,⟨0,0,.c (.pure (.int .i64)) a7⟩),(8,⟨0,0,.c (.pure (.int .i64)) a8⟩)] _
 have hs:List.length a6≤1048576:=Nat.le_trans hpre.2 (by decide)
 have hb:List.length a6≤bigLen:=Nat.le_trans hpre.2 (by decide)
 have ho:List.length a4≤1000:=hpre.1
 refine Vm hG rfl (Vq ?_)
 refine Vr hG rfl ?_ ?_
 · exact rmApp ho
 refine Vm hG rfl (Vq (Vm hG rfl (Vb ?_)))
 refine Vc.loopF [(20,true,.pair (.pure (.int .i64)) Z57),(21,false,.pure (.int .i64))] [0,1,2,3,4,5,6,7,8,18,19] (fun v=>∃ acc,v.1=rmBase a2 a3 a4 a5 acc∧pkInv (rmG a0 a1 a2 a3 a4 a7 a8) a6 acc v.2.1) (fun v=>((List.length a6:Int)-v.2.1).toNat) rfl ?_ ?_
 · exact⟨[],rfl,pkStart⟩
 rintro⟨r,(i:Int),_⟩ ⟨acc,e0,hI⟩
 have e0:r=rmBase a2 a3 a4 a5 acc:=e0
 subst e0
 have hI:pkInv (rmG a0 a1 a2 a3 a4 a7 a8) a6 acc i:=hI
 refine Vq (Vm hG rfl ?_)
 refine Vk rfl ?_ ?_<;>intro h0
 · have hl:i<(List.length a6:Int):=oTr h0
   refine Vs (Vq (Vb (Vq ?_)))
   refine VrD mixed hG rfl (by kernel_rfl) ?_ ?_
   · repeat' (first | exact trivial | exact pkRange hI hl | refine And.intro ?_ ?_ | intro _)
   refine Vm hG rfl ?_
   refine Vk rfl ?_ ?_<;>intro h1
   · have g1:((rmG a0 a1 a2 a3 a4 a7 a8) (List.getD a6 i.toNat (dflt TI))).2=true:=h1
     have st:=pkYes (d:=dflt TI) hI hl hb g1
     refine Vr hG rfl ?_ ?_
     · exact pkLen hI hs
     refine Vn hG rfl ?_
     refine⟨rfl,?_⟩
     exact⟨⟨_,rfl,st.1⟩,st.2⟩
   · have g1:((rmG a0 a1 a2 a3 a4 a7 a8) (List.getD a6 i.toNat (dflt TI))).2=false:=h1
     have st:=pkNo (d:=dflt TI) hI hl hb g1
     refine Vs (Vn hG rfl ?_)
     refine⟨rfl,?_⟩
     exact⟨⟨_,rfl,st.1⟩,st.2⟩
 · have hl:¬i<(List.length a6:Int):=oFa h0
   refine Vx (Vm hG rfl (Vt ?_))
   refine⟨?_,trivial⟩
   exact congrArg (rmBase a2 a3 a4 a5) (pkEnd hI hl)
noncomputable def P164:PFun:=⟨.pure Y18,[.pair Y26 Y59,.pair (.int .i64) Y13,.int .i64,.int .i64],[.pure Y62],fun x xs=>(fun c (s:Strand) (_:Doc) (_ _:Int)=>curOk c∧Sm big20 Y62 s) x xs.1 xs.2.1 xs.2.2.1 xs.2.2.2.1,fun x xs=>(renewD x xs.1 xs.2.1 xs.2.2.1 xs.2.2.2.1).2,fun x xs=>((renewD x xs.1 xs.2.1 xs.2.2.1 xs.2.2.2.1).1,())⟩
theorem P164_ok:MeetsP Tryz.prog 164 P164:=by
 refine meetsP_of_vc (C:=mkCP 66 [10] [0,1,2,3,4,6,7,10,11,12,13,14,15,16,30,43] [⟨250,_,F250_ok⟩,⟨220,_,F220_ok⟩,⟨234,_,F234_ok⟩,⟨76,_,F76_ok⟩,⟨77,_,F77_ok⟩,⟨251,_,F251_ok⟩] [] [] [⟨79,_,P79_ok⟩,⟨252,_,P252_ok⟩,⟨74,_,P74_ok⟩] [0]) (mkCP_ok _ _ _ _ _ _ _ _) (fO _) Tryz.func164 rfl rfl rfl (by decide) rfl rfl rfl ?_ rfl
 rintro c ⟨a1,a2,(a3:Int),(a4:Int),_⟩ hwc hwf hpre ⟨⟩ hG rfl rfl
 show Vc _ _ [(0,⟨0,0,.c (.ref Z23) c⟩),(1,⟨0,0,.c Z64 a1⟩),(2,⟨0,0,.c Z28 a2⟩),(3,⟨0,0,.c (.pure (.int .i64)) a3⟩),(4,⟨0,0,.c (.pure (.int .i64)) a4⟩)] _
 have hc:curOk c:=hpre.1
 have hs:Sm big20 TStrand a1:=hpre.2
 refine Vm hG rfl (Vm hG rfl (Vq ?_))
 refine Vr hG rfl ?_ ?_
 · repeat' (first | exact trivial | exact hc | exact once_ok hc | exact hs | exact renQ_sm _ _ | exact long_len hs | exact long_sm hs | exact(long_sm hs).1 | exact(long_sm hs).2.2 | exact leaves_ok (once_ok hc) | exact leaves_len (once_ok hc) (by decide) | exact(Nat.le_of_ble_eq_true rfl:(4:Nat)≤1000) | exact(Nat.le_of_ble_eq_true rfl:(3:Nat)≤1000) | exact renNew_sm (Nat.le_of_ble_eq_true rfl) | exact(by decide:(0:Int)<4) | exact(by decide:(4:Int)≤1000) | refine And.intro ?_ ?_ | intro _)
 refine Vq (Vm hG rfl ?_)
 refine Vk rfl ?_ ?_<;>intro h0
 · refine Vm hG rfl ?_
   refine Vc.frz 10 rfl ?_
   refine Vt ?_
   have e:renewD c a1 a2 a3 a4=_:=((renew_eq c a1 a2 a3 a4).trans (cT h0))
   refine⟨⟨?_,trivial⟩,?_,trivial⟩
   · exact(congrArg Prod.snd e).symm
   · exact(congrArg (fun r=>r.1) e).symm
 · refine Vs (Vq ?_)
   refine VrD mixed hG rfl (by kernel_rfl) ?_ ?_
   · repeat' (first | exact trivial | exact hc | exact once_ok hc | exact hs | exact renQ_sm _ _ | exact long_len hs | exact long_sm hs | exact(long_sm hs).1 | exact(long_sm hs).2.2 | exact leaves_ok (once_ok hc) | exact leaves_len (once_ok hc) (by decide) | exact(Nat.le_of_ble_eq_true rfl:(4:Nat)≤1000) | exact(Nat.le_of_ble_eq_true rfl:(3:Nat)≤1000) | exact renNew_sm (Nat.le_of_ble_eq_true rfl) | exact(by decide:(0:Int)<4) | exact(by decide:(4:Int)≤1000) | refine And.intro ?_ ?_ | intro _)
   refine Vm hG rfl (Vq (Vq ?_))
   refine Vr hG rfl ?_ ?_
   · repeat' (first | exact trivial | exact hc | exact once_ok hc | exact hs | exact renQ_sm _ _ | exact long_len hs | exact long_sm hs | exact(long_sm hs).1 | exact(long_sm hs).2.2 | exact leaves_ok (once_ok hc) | exact leaves_len (once_ok hc) (by decide) | exact(Nat.le_of_ble_eq_true rfl:(4:Nat)≤1000) | exact(Nat.le_of_ble_eq_true rfl:(3:Nat)≤1000) | exact renNew_sm (Nat.le_of_ble_eq_true rfl) | exact(by decide:(0:Int)<4) | exact(by decide:(4:Int)≤1000) | refine And.intro ?_ ?_ | intro _)
   refine Vk rfl ?_ ?_<;>intro h1
   · refine Vn hG rfl (Vq ?_)
     refine VrD mixed hG rfl (by kernel_rfl) ?_ ?_
     · repeat' (first | exact trivial | exact hc | exact once_ok hc | exact hs | exact renQ_sm _ _ | exact long_len hs | exact long_sm hs | exact(long_sm hs).1 | exact(long_sm hs).2.2 | exact leaves_ok (once_ok hc) | exact leaves_len (once_ok hc) (by decide) | exact(Nat.le_of_ble_eq_true rfl:(4:Nat)≤1000) | exact(Nat.le_of_ble_eq_true rfl:(3:Nat)≤1000) | exact renNew_sm (Nat.le_of_ble_eq_true rfl) | exact(by decide:(0:Int)<4) | exact(by decide:(4:Int)≤1000) | refine And.intro ?_ ?_ | intro _)
     refine Vq ?_
     refine Vr hG rfl ?_ ?_
     · repeat' (first | exact trivial | exact hc | exact once_ok hc | exact hs | exact renQ_sm _ _ | exact long_len hs | exact long_sm hs | exact(long_sm hs).1 | exact(long_sm hs).2.2 | exact leaves_ok (once_ok hc) | exact leaves_len (once_ok hc) (by decide) | exact(Nat.le_of_ble_eq_true rfl:(4:Nat)≤1000) | exact(Nat.le_of_ble_eq_true rfl:(3:Nat)≤1000) | exact renNew_sm (Nat.le_of_ble_eq_true rfl) | exact(by decide:(0:Int)<4) | exact(by decide:(4:Int)≤1000) | refine And.intro ?_ ?_ | intro _)
     refine Vm hG rfl ?_
     refine Vc.frz 10 rfl ?_
     refine Vt ?_
     have e:renewD c a1 a2 a3 a4=_:=((renew_eq c a1 a2 a3 a4).trans ((cF h0).trans (cT h1)))
     refine⟨⟨?_,trivial⟩,?_,trivial⟩
     · exact(congrArg Prod.snd e).symm
     · exact(congrArg (fun r=>r.1) e).symm
   · refine Vs (Vq ?_)
     refine VrD mixed hG rfl (by kernel_rfl) ?_ ?_
     · repeat' (first | exact trivial | exact hc | exact once_ok hc | exact hs | exact renQ_sm _ _ | exact long_len hs | exact long_sm hs | exact(long_sm hs).1 | exact(long_sm hs).2.2 | exact leaves_ok (once_ok hc) | exact leaves_len (once_ok hc) (by decide) | exact(Nat.le_of_ble_eq_true rfl:(4:Nat)≤1000) | exact(Nat.le_of_ble_eq_true rfl:(3:Nat)≤1000) | exact renNew_sm (Nat.le_of_ble_eq_true rfl) | exact(by decide:(0:Int)<4) | exact(by decide:(4:Int)≤1000) | refine And.intro ?_ ?_ | intro _)
     refine Vq ?_
     refine Vr hG rfl ?_ ?_
     · repeat' (first | exact trivial | exact hc | exact once_ok hc | exact hs | exact renQ_sm _ _ | exact long_len hs | exact long_sm hs | exact(long_sm hs).1 | exact(long_sm hs).2.2 | exact leaves_ok (once_ok hc) | exact leaves_len (once_ok hc) (by decide) | exact(Nat.le_of_ble_eq_true rfl:(4:Nat)≤1000) | exact(Nat.le_of_ble_eq_true rfl:(3:Nat)≤1000) | exact renNew_sm (Nat.le_of_ble_eq_true rfl) | exact(by decide:(0:Int)<4) | exact(by decide:(4:Int)≤1000) | refine And.intro ?_ ?_ | intro _)
     refine Vm hG rfl ?_
     refine Vc.frz 10 rfl ?_
     refine Vt ?_
     have e:renewD c a1 a2 a3 a4=_:=((renew_eq c a1 a2 a3 a4).trans ((cF h0).trans (cF h1)))
     refine⟨⟨?_,trivial⟩,?_,trivial⟩
     · exact(congrArg Prod.snd e).symm
     · exact(congrArg (fun r=>r.1) e).symm
noncomputable def P164o:PFun:=⟨.pure Y18,[.pair Y26 Y59,.pair (.int .i64) Y13,.int .i64,.int .i64],[.pair Z35 Z61],fun x xs=>(fun c (s:Strand) (_:Doc) (m _:Int)=>(curOk c∧Sm big20 Y62 s)∧(longF s m).2=true) x xs.1 xs.2.1 xs.2.2.1 xs.2.2.2.1,fun x xs=>(renewD x xs.1 xs.2.1 xs.2.2.1 xs.2.2.2.1).2,fun x xs=>((renewD x xs.1 xs.2.1 xs.2.2.1 xs.2.2.2.1).1,())⟩
theorem P164o_ok:MeetsP Tryz.prog 164 P164o:=by
 refine meetsP_of_vc (C:=mkCP 66 [10] [0,1,2,3,4,6,7,10,11,12,13,14,15,16,30,43] [⟨250,_,F250_ok⟩,⟨220,_,F220_ok⟩,⟨234,_,F234_ok⟩,⟨76,_,F76_ok⟩,⟨77,_,F77_ok⟩,⟨251,_,F251_ok⟩] [] [] [⟨79,_,P79_ok⟩,⟨252,_,P252_ok⟩,⟨74,_,P74_ok⟩] [0]) (mkCP_ok _ _ _ _ _ _ _ _) (fO _) Tryz.func164 rfl rfl rfl (by decide) rfl rfl rfl ?_ rfl
 rintro c ⟨a1,a2,(a3:Int),(a4:Int),_⟩ hwc hwf hpre ⟨⟩ hG rfl rfl
 show Vc _ _ [(0,⟨0,0,.c (.ref Z23) c⟩),(1,⟨0,0,.c Z64 a1⟩),(2,⟨0,0,.c Z28 a2⟩),(3,⟨0,0,.c (.pure (.int .i64)) a3⟩),(4,⟨0,0,.c (.pure (.int .i64)) a4⟩)] _
 have hc:curOk c:=hpre.1.1
 have hs:Sm big20 TStrand a1:=hpre.1.2
 refine Vm hG rfl (Vm hG rfl (Vq ?_))
 refine Vr hG rfl ?_ ?_
 · repeat' (first | exact trivial | exact hc | exact once_ok hc | exact hs | exact renQ_sm _ _ | exact long_len hs | exact long_sm hs | exact(long_sm hs).1 | exact(long_sm hs).2.2 | exact leaves_ok (once_ok hc) | exact leaves_len (once_ok hc) (by decide) | exact(Nat.le_of_ble_eq_true rfl:(4:Nat)≤1000) | exact(Nat.le_of_ble_eq_true rfl:(3:Nat)≤1000) | exact renNew_sm (Nat.le_of_ble_eq_true rfl) | exact(by decide:(0:Int)<4) | exact(by decide:(4:Int)≤1000) | refine And.intro ?_ ?_ | intro _)
 refine Vq (Vm hG rfl ?_)
 refine Vk rfl ?_ ?_<;>intro h0
 · exact(loElim hpre.2 h0).elim
 · refine Vs (Vq ?_)
   refine VrD mixed hG rfl (by kernel_rfl) ?_ ?_
   · repeat' (first | exact trivial | exact hc | exact once_ok hc | exact hs | exact renQ_sm _ _ | exact long_len hs | exact long_sm hs | exact(long_sm hs).1 | exact(long_sm hs).2.2 | exact leaves_ok (once_ok hc) | exact leaves_len (once_ok hc) (by decide) | exact(Nat.le_of_ble_eq_true rfl:(4:Nat)≤1000) | exact(Nat.le_of_ble_eq_true rfl:(3:Nat)≤1000) | exact renNew_sm (Nat.le_of_ble_eq_true rfl) | exact(by decide:(0:Int)<4) | exact(by decide:(4:Int)≤1000) | refine And.intro ?_ ?_ | intro _)
   refine Vm hG rfl (Vq (Vq ?_))
   refine Vr hG rfl ?_ ?_
   · repeat' (first | exact trivial | exact hc | exact once_ok hc | exact hs | exact renQ_sm _ _ | exact long_len hs | exact long_sm hs | exact(long_sm hs).1 | exact(long_sm hs).2.2 | exact leaves_ok (once_ok hc) | exact leaves_len (once_ok hc) (by decide) | exact(Nat.le_of_ble_eq_true rfl:(4:Nat)≤1000) | exact(Nat.le_of_ble_eq_true rfl:(3:Nat)≤1000) | exact renNew_sm (Nat.le_of_ble_eq_true rfl) | exact(by decide:(0:Int)<4) | exact(by decide:(4:Int)≤1000) | refine And.intro ?_ ?_ | intro _)
   refine Vk rfl ?_ ?_<;>intro h1
   · refine Vn hG rfl (Vq ?_)
     refine VrD mixed hG rfl (by kernel_rfl) ?_ ?_
     · repeat' (first | exact trivial | exact hc | exact once_ok hc | exact hs | exact renQ_sm _ _ | exact long_len hs | exact long_sm hs | exact(long_sm hs).1 | exact(long_sm hs).2.2 | exact leaves_ok (once_ok hc) | exact leaves_len (once_ok hc) (by decide) | exact(Nat.le_of_ble_eq_true rfl:(4:Nat)≤1000) | exact(Nat.le_of_ble_eq_true rfl:(3:Nat)≤1000) | exact renNew_sm (Nat.le_of_ble_eq_true rfl) | exact(by decide:(0:Int)<4) | exact(by decide:(4:Int)≤1000) | refine And.intro ?_ ?_ | intro _)
     refine Vq ?_
     refine Vr hG rfl ?_ ?_
     · repeat' (first | exact trivial | exact hc | exact once_ok hc | exact hs | exact renQ_sm _ _ | exact long_len hs | exact long_sm hs | exact(long_sm hs).1 | exact(long_sm hs).2.2 | exact leaves_ok (once_ok hc) | exact leaves_len (once_ok hc) (by decide) | exact(Nat.le_of_ble_eq_true rfl:(4:Nat)≤1000) | exact(Nat.le_of_ble_eq_true rfl:(3:Nat)≤1000) | exact renNew_sm (Nat.le_of_ble_eq_true rfl) | exact(by decide:(0:Int)<4) | exact(by decide:(4:Int)≤1000) | refine And.intro ?_ ?_ | intro _)
     refine Vm hG rfl (Vt ?_)
     have e:renewD c a1 a2 a3 a4=_:=((renew_eq c a1 a2 a3 a4).trans ((cF h0).trans (cT h1)))
     refine⟨⟨?_,trivial⟩,?_,trivial⟩
     · exact(congrArg Prod.snd e).symm
     · exact(congrArg (fun r=>r.1) e).symm
   · refine Vs (Vq ?_)
     refine VrD mixed hG rfl (by kernel_rfl) ?_ ?_
     · repeat' (first | exact trivial | exact hc | exact once_ok hc | exact hs | exact renQ_sm _ _ | exact long_len hs | exact long_sm hs | exact(long_sm hs).1 | exact(long_sm hs).2.2 | exact leaves_ok (once_ok hc) | exact leaves_len (once_ok hc) (by decide) | exact(Nat.le_of_ble_eq_true rfl:(4:Nat)≤1000) | exact(Nat.le_of_ble_eq_true rfl:(3:Nat)≤1000) | exact renNew_sm (Nat.le_of_ble_eq_true rfl) | exact(by decide:(0:Int)<4) | exact(by decide:(4:Int)≤1000) | refine And.intro ?_ ?_ | intro _)
     refine Vq ?_
     refine Vr hG rfl ?_ ?_
     · repeat' (first | exact trivial | exact hc | exact once_ok hc | exact hs | exact renQ_sm _ _ | exact long_len hs | exact long_sm hs | exact(long_sm hs).1 | exact(long_sm hs).2.2 | exact leaves_ok (once_ok hc) | exact leaves_len (once_ok hc) (by decide) | exact(Nat.le_of_ble_eq_true rfl:(4:Nat)≤1000) | exact(Nat.le_of_ble_eq_true rfl:(3:Nat)≤1000) | exact renNew_sm (Nat.le_of_ble_eq_true rfl) | exact(by decide:(0:Int)<4) | exact(by decide:(4:Int)≤1000) | refine And.intro ?_ ?_ | intro _)
     refine Vm hG rfl (Vt ?_)
     have e:renewD c a1 a2 a3 a4=_:=((renew_eq c a1 a2 a3 a4).trans ((cF h0).trans (cF h1)))
     refine⟨⟨?_,trivial⟩,?_,trivial⟩
     · exact(congrArg Prod.snd e).symm
     · exact(congrArg (fun r=>r.1) e).symm
noncomputable def P194:PFun:=⟨.pure Y18,[],[.pair Z35 Z61,.pure Y22,.pure Y51],fun x _=>curOk x,fun x _=>(strandD x).2,fun x _=>((strandD x).1.1,(strandD x).1.2.1,(strandD x).1.2.2,())⟩
theorem P194_ok:MeetsP Tryz.prog 194 P194:=by
 refine meetsP_of_vc (C:=mkCP 41 [2,3,4] [0,2,3,4,5,6,7,8,9,22] [] [] [] [⟨237,_,P237_ok⟩,⟨138,_,P138_ok⟩,⟨74,_,P74_ok⟩,⟨164,_,P164o_ok⟩] [0]) (mkCP_ok _ _ _ _ _ _ _ _) (fO _) Tryz.func194 rfl rfl rfl (by decide) rfl rfl rfl ?_ rfl
 rintro c ⟨_⟩ hwc hwf hpre ⟨⟩ hG rfl rfl
 show Vc _ _ [(0,⟨0,0,.c (.ref Z23) c⟩)] _
 have hc0:curOk c:=hpre
 have hg:=signed_P hc0
 refine Vm hG rfl (Vq (VrT hG rfl (by trivial) (Vq ?_)))
 refine Vr hG rfl ?_ ?_
 · exact⟨hg.2,Nat.succ_pos _⟩
 refine Vq (Vq ?_)
 refine Vr hG rfl ?_ ?_
 · exact int_ok hg.2
 refine Vb ?_
 refine Vc.frz 6 rfl ?_
 refine Vc.loopF [(0,true,.pure Y18),(5,true,.pair Z35 Z61),(8,false,.pure (.int .i64)),(9,false,.pure (.int .i64))] [2,3,4,6,7] (fun v=>dnInv (drawS (signedD c).1.2.1) ((dr2 c).2,(signedD c).1.1,(dr1 c).1) (dr2 c).1 (v.1,v.2.1,v.2.2.1) v.2.2.2.1) (fun v=>(v.2.2.2.1:Int).toNat) rfl ?_ ?_
 · exact dnStart (dr2_n c)
 rintro⟨c2,s,(t:Int),(i:Int),_⟩ hI
 have hI:dnInv (drawS (signedD c).1.2.1) ((dr2 c).2,(signedD c).1.1,(dr1 c).1) (dr2 c).1 (c2,s,t) i:=hI
 refine Vq (Vm hG rfl ?_)
 refine Vk rfl ?_ ?_<;>intro h0
 · have hl:i>0:=oTr h0
   obtain⟨hc2,ht2,hlo⟩:=drInv_P hc0 hI hl
   have hs2:=tiny_big ht2
   refine Vs (Vq (Vb (Vq ?_)))
   refine VrD mixed hG rfl (by kernel_rfl) ?_ ?_
   · repeat' (first | exact trivial | exact hc2 | exact below_ok hc2 | exact hs2 | exact hlo _ | refine And.intro ?_ ?_ | intro _)
   refine Vr hG rfl ?_ ?_
   · exact⟨renOk (below_ok hc2) ht2,Nat.succ_pos _⟩
   refine Vn hG rfl ?_
   refine⟨rfl,?_⟩
   exact dnStep hI hl
 · have hl:¬i>0:=oFa h0
   have hE:=dnEnd hI hl
   refine Vx (Vq (VrD mixed hG rfl (by kernel_rfl) (by trivial) (Vt ?_)))
   have e:=strandD_leaf hE
   refine⟨⟨?_,trivial⟩,?_,?_,?_,trivial⟩
   · exact(congrArg Prod.snd e).symm
   · exact(congrArg (fun r=>r.1.1) e).symm
   · exact(congrArg (fun r=>r.1.2.1) e).symm
   · exact(congrArg (fun r=>r.1.2.2) e).symm
noncomputable def P128:PFun:=⟨.pure Y18,[],[.pure Y74],fun x _=>curOk x,fun x _=>(itemD x).2,fun x _=>((itemD x).1,())⟩
theorem P128_ok:MeetsP Tryz.prog 128 P128:=by
 refine meetsP_of_vc (C:=mkCP 22 [2] [0,2,3,4,5] [] [] [] [⟨194,_,P194_ok⟩,⟨74,_,P74_ok⟩,⟨138,_,P138_ok⟩] [0]) (mkCP_ok _ _ _ _ _ _ _ _) (fO _) Tryz.func128 rfl rfl rfl (by decide) rfl rfl rfl ?_ rfl
 rintro c ⟨_⟩ hwc hwf hpre ⟨⟩ hG rfl rfl
 show Vc _ _ [(0,⟨0,0,.c (.ref Z23) c⟩)] _
 refine Vm hG rfl (Vq ?_)
 refine VrT hG rfl ?_ ?_
 · repeat' (first | exact trivial | exact hpre | exact strandD_ok hpre | exact below_ok (strandD_ok hpre) | exact Nat.succ_pos _ | refine And.intro ?_ ?_ | intro _)
 refine Vq ?_
 refine VrD mixed hG rfl (by kernel_rfl) ?_ ?_
 · repeat' (first | exact trivial | exact hpre | exact strandD_ok hpre | exact below_ok (strandD_ok hpre) | exact Nat.succ_pos _ | refine And.intro ?_ ?_ | intro _)
 refine Vc.frz 2 rfl ?_
 refine Vt ?_
 have e:=item_eq c
 refine⟨⟨?_,trivial⟩,?_,trivial⟩
 · exact(congrArg Prod.snd e).symm
 · exact(congrArg Prod.fst e).symm
noncomputable def F268:Fun:=⟨[.pair (.int .i64) Y73],[.pure (.bool)],fun _=>True,fun x=>(itemF x.1,())⟩
theorem F268_ok:Meets Tryz.prog 268 F268:=by
 refine mZ (C:=mkC 32 [2] [0,1,2] [⟨232,_,F232_ok⟩,⟨229,_,F229_ok⟩,⟨221,_,F221_ok⟩,⟨249,_,F249_ok⟩,⟨208,_,F208_ok⟩,⟨303,_,F303_ok⟩]) (mO _ _ _ _) (fO _) Tryz.func268 rfl rfl rfl (by decide) rfl ?_
 rintro⟨a0,_⟩ hwf hpre ⟨⟩ hG rfl rfl
 show Vc _ _ [(0,⟨0,0,.c Z75 a0⟩)] _
 refine Vm hG rfl (Vq ?_)
 refine VrD mixed hG rfl (by kernel_rfl) ?_ ?_
 · exact⟨trivial,fun _=>trivial,fun _=>trivial,fun _=>trivial,fun h=>strand0 h,fun _=>trivial,fun _=>trivial⟩
 refine Vt ?_
 refine⟨?_,trivial⟩
 all_goals exact rfl
noncomputable def F195:Fun:=⟨[.pair (.int .i64) Y76],[.pure (.bool)],fun _=>True,fun x=>(archF x.1,())⟩
theorem F195_ok:Meets Tryz.prog 195 F195:=by
 refine mZ (C:=mkC 47 [2] [0,1,2,3,8,37] [⟨268,_,F268_ok⟩,⟨232,_,F232_ok⟩]) (mO _ _ _ _) (fO _) Tryz.func195 rfl rfl rfl (by decide) rfl ?_
 rintro⟨a0,_⟩ hwf hpre ⟨⟩ hG rfl rfl
 show Vc _ _ [(0,⟨0,0,.c Z78 a0⟩)] _
 have hb0:List.length a0.2≤bigLen:=hwf.1.2.1
 refine Vm hG rfl (Vq (Vm hG rfl (Vb ?_)))
 refine Vc.loopF [(3,false,.pure (.int .i64))] [0,1] (fun v=>kInv (fun k=>goodP a0 k) a0.2 v.1) (fun v=>((List.length a0.2:Int)-v.1).toNat) rfl ?_ ?_
 · exact kStart
 rintro⟨(i:Int),_⟩ hI0
 have hI0:kInv (fun k=>goodP a0 k) a0.2 i:=hI0
 refine Vq (Vm hG rfl ?_)
 refine Vk rfl ?_ ?_<;>intro h0
 · have hl0:i<(List.length a0.2:Int):=oTr h0
   refine Vs (Vq (Vb (Vq ?_)))
   refine VrD mixed hG rfl (by kernel_rfl) ?_ ?_
   · exact⟨kRange hI0 hl0,trivial,fun h2=>backRange hI0 hl0 hb0 (oTr h2),fun _=>kRange hI0 hl0⟩
   refine Vk rfl ?_ ?_<;>intro h1
   · have g1:badF a0 i=true:=h1
     refine Vm hG rfl (Vt ?_)
     refine⟨?_,trivial⟩
     refine boolC_no (fun h=>?_)
     have q:=(goodIff hI0 hb0).2 (h.1 i.toNat (kLt hI0 hl0))
     rw[g1]at q;cases q
   · have g1:badF a0 i=false:=h1
     have s0:goodP a0 i.toNat:=(goodIff hI0 hb0).1 g1
     refine Vs (Vn hG rfl ?_)
     refine⟨rfl,?_⟩
     exact kStep hI0 hl0 hb0 s0
 · have hl0:¬i<(List.length a0.2:Int):=oFa h0
   refine Vx (Vq ?_)
   refine Vr hG rfl ?_ ?_
   · repeat' (first | exact trivial | refine And.intro ?_ ?_ | intro _)
   refine Vt ?_
   refine⟨?_,trivial⟩
   refine boolC_by (fun e=>?_) (fun h=>?_)
   · exact⟨kEnd hI0 hl0,(andT e).1,oTr (andT e).2⟩
   · exact yesAnd h.2.1 (decide_eq_true h.2.2)
noncomputable def F196:Fun:=⟨[.pair (.int .i64) Y76,.int .i64],[.pure (.int .i64)],fun _=>True,fun x=>((fun a0 a1=>findI (fun x=>x.1==a1) a0.2) x.1 x.2.1,())⟩
theorem F196_ok:Meets Tryz.prog 196 F196:=by
 refine mZ (C:=mkC 22 [4] [0,1,2,4,5,10,20] []) (mO _ _ _ _) (fO _) Tryz.func196 rfl rfl rfl (by decide) rfl ?_
 rintro⟨a0,(a1:Int),_⟩ hwf hpre ⟨⟩ hG rfl rfl
 show Vc _ _ [(0,⟨0,0,.c Z78 a0⟩),(1,⟨0,0,.c (.pure (.int .i64)) a1⟩)] _
 have hb:List.length a0.2≤bigLen:=hwf.1.2.1
 refine Vm hG rfl (Vq (Vm hG rfl (Vb ?_)))
 refine Vc.loopF [(5,false,.pure (.int .i64))] [0,1,2] (fun v=>fInv (fun x=>x.1==a1) a0.2 v.1) (fun v=>((List.length a0.2:Int)-v.1).toNat) rfl ?_ ?_
 · exact fStart
 rintro⟨(i:Int),_⟩ hI
 have hI:fInv (fun x=>x.1==a1) a0.2 i:=hI
 refine Vq (Vm hG rfl ?_)
 refine Vk rfl ?_ ?_<;>intro h0
 · have hl:i<(List.length a0.2:Int):=oTr h0
   refine Vs (Vq (Vb (Vq ?_)))
   refine Vr hG rfl ?_ ?_
   · exact fRange hI hl
   refine Vk rfl ?_ ?_<;>intro h1
   · have g1:(fun x=>x.1==a1) (List.getD a0.2 i.toNat (dflt Y74))=true:=h1
     refine Vm hG rfl (Vt ?_)
     refine⟨?_,trivial⟩
     exact fHit hI hl g1
   · have g1:(fun x=>x.1==a1) (List.getD a0.2 i.toNat (dflt Y74))=false:=h1
     refine Vs (Vn hG rfl ?_)
     refine⟨rfl,?_⟩
     exact fStep hI hl hb g1
 · have hl:¬i<(List.length a0.2:Int):=oFa h0
   refine Vx (Vm hG rfl (Vt ?_))
   refine⟨?_,trivial⟩
   exact fEnd hI hl
noncomputable def F269:Fun:=⟨[.pair (.int .i64) Y13],[.pair (.pure (.int .i64)) Z17],fun x=>Sm big20 Y22 x.1,fun x=>(id x.1,())⟩
theorem F269_ok:Meets Tryz.prog 269 F269:=by
 refine mZ (C:=mkC 14 [2] [0,1,2] []) (mO _ _ _ _) (fO _) Tryz.func269 rfl rfl rfl (by decide) rfl ?_
 rintro⟨a0,_⟩ hwf hpre ⟨⟩ hG rfl rfl
 show Vc _ _ [(0,⟨0,0,.c Z28 a0⟩)] _
 have hp1:List.length a0.2.1≤big20:=hpre.2.1.1
 have hp2:List.length a0.2.2≤big20:=hpre.2.2.1
 refine Vm hG rfl (Vq ?_)
 refine VrD mixed hG rfl (by kernel_rfl) ?_ ?_
 · exact⟨appOk hp1,appOk hp2⟩
 refine Vt ?_
 refine⟨?_,trivial⟩
 all_goals exact rfl
noncomputable def F198:Fun:=⟨[.pair (.int .i64) Y73],[.pair (.pure (.int .i64)) Z80],fun x=>Sm big20 Y74 x.1,fun x=>(id x.1,())⟩
theorem F198_ok:Meets Tryz.prog 198 F198:=by
 refine mZ (C:=mkC 12 [2] [0,1,2] [⟨269,_,F269_ok⟩,⟨160,_,F160_ok⟩]) (mO _ _ _ _) (fO _) Tryz.func198 rfl rfl rfl (by decide) rfl ?_
 rintro⟨a0,_⟩ hwf hpre ⟨⟩ hG rfl rfl
 show Vc _ _ [(0,⟨0,0,.c Z75 a0⟩)] _
 have hp1:Sm big20 Y22 a0.2.2.1:=hpre.2.2.1
 have hp2:Sm big20 Y62 a0.2.2.2.2:=hpre.2.2.2.2
 refine Vm hG rfl (Vq ?_)
 refine Vr hG rfl ?_ ?_
 · exact hp1
 refine Vq ?_
 refine Vr hG rfl ?_ ?_
 · exact hp2
 refine Vm hG rfl (Vt ?_)
 refine⟨?_,trivial⟩
 all_goals exact rfl
noncomputable def F197:Fun:=⟨[.pair (.int .i64) Y76],[.pair (.pure (.int .i64)) Z82],fun x=>Sm big20 Y77 x.1,fun x=>(id x.1,())⟩
theorem F197_ok:Meets Tryz.prog 197 F197:=by
 refine mZ (C:=mkC 27 [2] [0,1,2,3,4,12] [⟨198,_,F198_ok⟩]) (mO _ _ _ _) (fO _) Tryz.func197 rfl rfl rfl (by decide) rfl ?_
 rintro⟨a0,_⟩ hwf hpre ⟨⟩ hG rfl rfl
 show Vc _ _ [(0,⟨0,0,.c Z78 a0⟩)] _
 have hp:_∧_:=hpre.2
 have hb:List.length a0.2≤bigLen:=hwf.1.2.1
 refine Vm hG rfl (Vm hG rfl (Vq (Vm hG rfl ?_)))
 refine Vb ?_
 refine Vc.loopF [(3,true,.pair (.pure (.int .i64)) Z82),(4,false,.pure (.int .i64))] [0,1,2] (fun v=>v.1.1=a0.1∧cpInv a0.2 v.1.2 v.2.1) (fun v=>((List.length a0.2:Int)-v.2.1).toNat) rfl ?_ ?_
 · exact⟨rfl,cpStart⟩
 rintro⟨acc,(i:Int),_⟩ hI
 have hI:acc.1=a0.1∧cpInv a0.2 acc.2 i:=hI
 refine Vq (Vm hG rfl ?_)
 refine Vk rfl ?_ ?_<;>intro h0
 · have hl:i<(List.length a0.2:Int):=oTr h0
   have hE:Sm big20 Y74 (List.getD a0.2 i.toNat (dflt Y74)):=hp.2 _ (upElem hI.2.1 hl)
   refine Vs (Vq (Vb ?_))
   refine VrD mixed hG rfl (by kernel_rfl) ?_ ?_
   · exact⟨cpRange hI.2 hl,hE,cpLen hI.2 hl hp.1⟩
   refine Vn hG rfl ?_
   refine⟨rfl,?_⟩
   have e:=cpStep (d:=dflt Y74) hI.2 hl hb rfl
   exact⟨⟨hI.1,e.1⟩,e.2⟩
 · have hl:¬i<(List.length a0.2:Int):=oFa h0
   refine Vx (Vm hG rfl (Vt ?_))
   refine⟨?_,trivial⟩
   exact Prod.ext hI.1 (cpEnd hI.2 hl)
noncomputable def F129:Fun:=⟨[.pair (.int .i64) Y76,.pair (.int .i64) Y73],[.pair (.pure (.int .i64)) Z82,.pure (.bool)],fun x=>(fun(a:Archive) (x:Item)=>Sm big20 Y77 a∧Sm big20 Y74 x) x.1 x.2.1,fun x=>((addItemF x.1 x.2.1).1,(addItemF x.1 x.2.1).2,())⟩
theorem F129_ok:Meets Tryz.prog 129 F129:=by
 refine mZ (C:=mkC 77 [4,5] [0,1,2,3,4,5,6,7,8,18,28,43,63,73] [⟨195,_,F195_ok⟩,⟨196,_,F196_ok⟩,⟨197,_,F197_ok⟩,⟨198,_,F198_ok⟩]) (mO _ _ _ _) (fO _) Tryz.func129 rfl rfl rfl (by decide) rfl ?_
 rintro⟨a0,a1,_⟩ hwf hpre ⟨⟩ hG rfl rfl
 show Vc _ _ [(0,⟨0,0,.c Z78 a0⟩),(1,⟨0,0,.c Z75 a1⟩)] _
 have hp1:Sm big20 Y77 a0:=hpre.1
 have hp2:Sm big20 Y74 a1:=hpre.2
 have hs:List.length a0.2≤1048576:=hp1.2.1
 have hb:List.length a0.2≤bigLen:=hwf.1.2.1
 refine Vm hG rfl (Vq (Vq ?_))
 refine Vr hG rfl ?_ ?_
 · repeat' (first | exact trivial | refine And.intro ?_ ?_ | intro _)
 refine Vk rfl ?_ ?_<;>intro h0
 · have g0:pick2 (!(archF a0)) true (decide (itAt a0 a1.1≥0))=true:=h0
   refine Vq ?_
   refine Vr hG rfl ?_ ?_
   · exact hp1
   refine Vt ?_
   have e:=ai0s g0
   refine⟨?_,?_,trivial⟩
   · exact(congrArg Prod.fst e).symm
   · exact(congrArg Prod.snd e).symm
 · have g0:=aiGoS (a:=a0) (x:=a1) h0
   refine Vs (Vm hG rfl (Vm hG rfl (Vq ?_)))
   refine Vm hG rfl (Vb ?_)
   refine Vc.loopF [(6,true,.pair (.pure (.int .i64)) Z82),(7,false,.pure (.bool)),(8,false,.pure (.int .i64))] [0,1,2,3,4,5,18,63,73] (fun v=>aiInv a0 a1 v.1 v.2.1 v.2.2.1) (fun v=>((List.length a0.2:Int)-v.2.2.1).toNat) rfl ?_ ?_
   · exact aiStart
   rintro⟨o,b,(i:Int),_⟩ hI
   have hI:aiInv a0 a1 o b i:=hI
   refine Vq (Vm hG rfl ?_)
   refine Vk rfl ?_ ?_<;>intro h1
   · have hl:i<(List.length a0.2:Int):=oTr h1
     have hE:Sm big20 Y74 (List.getD a0.2 i.toNat (dflt Y74)):=hp1.2.2 _ (upElem hI.2.1 hl)
     have hln:=aiLen hI (Int.le_of_lt hl) hs
     refine Vs (Vq (Vb (Vq ?_)))
     refine Vq ?_
     refine VrD mixed hG rfl (by kernel_rfl) ?_ ?_
     · exact fun _=>foRange hI.2 hl
     refine Vk rfl ?_ ?_<;>intro h2
     · have g2:pick2 (!b) (decide (a1.1<(List.getD a0.2 i.toNat (dflt TItem)).1)) false=true:=h2
       refine Vq ?_
       refine VrD mixed hG rfl (by kernel_rfl) ?_ ?_
       · exact⟨hp2,aiApp hln⟩
       refine Vn hG rfl ?_
       refine VrD mixed hG rfl (by kernel_rfl) ?_ ?_
       · first
           | exact⟨foRange hI.2 hl,hE,aiApp hln⟩
           | exact⟨foRange hI.2 hl,hE,aiApp2 hln⟩
       refine Vn hG rfl ?_
       refine⟨rfl,?_⟩
       first
         | exact aiNo hI hl hb g2 rfl rfl
         | exact aiYes hI hl hb g2 rfl rfl
     · have g2:pick2 (!b) (decide (a1.1<(List.getD a0.2 i.toNat (dflt TItem)).1)) false=false:=h2
       refine Vs ?_
       refine VrD mixed hG rfl (by kernel_rfl) ?_ ?_
       · first
           | exact⟨foRange hI.2 hl,hE,aiApp hln⟩
           | exact⟨foRange hI.2 hl,hE,aiApp2 hln⟩
       refine Vn hG rfl ?_
       refine⟨rfl,?_⟩
       first
         | exact aiNo hI hl hb g2 rfl rfl
         | exact aiYes hI hl hb g2 rfl rfl
   · have hl:¬i<(List.length a0.2:Int):=oFa h1
     have hei:=aiEnd hI hl g0
     have hln:List.length o.2≤1048577:=aiLen hI (upLe hI.2.1) hs
     refine Vx (Vq (Vm hG rfl ?_))
     refine Vk rfl ?_ ?_<;>intro h3
     · have e3:(o.1,o.2++[a1])=(a0.1,insI a1 a0.2):=hei.2 (by have q:(!b)=true:=h3;simpa using q)
       refine VrD mixed hG rfl (by kernel_rfl) ?_ ?_
       · exact⟨hp2,aiApp hln⟩
       refine Vq (Vm hG rfl ?_)
       refine Vk rfl ?_ ?_<;>intro h4
       · refine Vq ?_
         refine Vr hG rfl ?_ ?_
         · exact hp1
         refine Vt ?_
         have e:=ai1 (a:=a0) (x:=a1) (by rw[←e3];exact h4)
         refine⟨?_,?_,trivial⟩
         · exact(congrArg Prod.fst e).symm
         · exact(congrArg Prod.snd e).symm
       · refine Vs (Vm hG rfl (Vt ?_))
         have e:addItemF a0 a1=((o.1,o.2++[a1]),true):=by
           rw[e3]
           exact ai2 g0 (by rw[←e3];exact h4)
         refine⟨?_,?_,trivial⟩
         · exact(congrArg Prod.fst e).symm
         · exact(congrArg Prod.snd e).symm
     · have e3:o=(a0.1,insI a1 a0.2):=hei.1 (by have q:(!b)=false:=h3;simpa using q)
       refine Vs (Vq (Vm hG rfl ?_))
       refine Vk rfl ?_ ?_<;>intro h5
       · refine Vq ?_
         refine Vr hG rfl ?_ ?_
         · exact hp1
         refine Vt ?_
         have e:=ai1 (a:=a0) (x:=a1) (by rw[←e3];exact h5)
         refine⟨?_,?_,trivial⟩
         · exact(congrArg Prod.fst e).symm
         · exact(congrArg Prod.snd e).symm
       · refine Vs (Vm hG rfl (Vt ?_))
         have e:addItemF a0 a1=(o,true):=by
           rw[e3]
           exact ai2 g0 (by rw[←e3];exact h5)
         refine⟨?_,?_,trivial⟩
         · exact(congrArg Prod.fst e).symm
         · exact(congrArg Prod.snd e).symm
noncomputable def P127:PFun:=⟨.pure Y18,[],[.pair (.pure (.int .i64)) Z82],fun x _=>curOk x,fun x _=>(archD x).2,fun x _=>((archD x).1,())⟩
theorem P127_ok:MeetsP Tryz.prog 127 P127:=by
 refine meetsP_of_vc (C:=mkCP 22 [2] [0,2,3,4,11] [⟨129,_,F129_ok⟩] [] [] [⟨74,_,P74_ok⟩,⟨128,_,P128_ok⟩] [0]) (mkCP_ok _ _ _ _ _ _ _ _) (fO _) Tryz.func127 rfl rfl rfl (by decide) rfl rfl rfl ?_ rfl
 rintro c ⟨_⟩ hwc hwf hpre ⟨⟩ hG rfl rfl
 show Vc _ _ [(0,⟨0,0,.c (.ref Z23) c⟩)] _
 refine Vm hG rfl (Vq ?_)
 refine Vr hG rfl ?_ ?_
 · exact hpre
 refine Vq (Vq ?_)
 refine Vr hG rfl ?_ ?_
 · exact below_ok hpre
 refine Vb ?_
 refine Vc.loopF [(0,true,.pure Y18),(3,true,.pair (.pure (.int .i64)) Z82),(4,false,.pure (.int .i64))] [2] (fun v=>dnInv archS ((rc2 c).2,((rc1 c).1,[])) (rc2 c).1 (v.1,v.2.1) v.2.2.1) (fun v=>(v.2.2.1:Int).toNat) rfl ?_ ?_
 · exact dnStart (rc2_n c)
 rintro⟨c2,a,(i:Int),_⟩ hI
 have hI:dnInv archS ((rc2 c).2,((rc1 c).1,[])) (rc2 c).1 (c2,a) i:=hI
 obtain⟨k,hk,hc2,_,hs2⟩:=dnP rcP (rc0_P hpre) archS_P hI
 have hs2:Sm big20 TArch a:=hs2
 have hc2:curOk c2:=hc2
 refine Vq (Vm hG rfl ?_)
 refine Vk rfl ?_ ?_<;>intro h0
 · have hl:i>0:=oTr h0
   refine Vs (Vq (Vb ?_))
   refine VrL mixed hG rfl (by kernel_rfl) ?_ ?_
   · exact⟨hc2,hs2,itemD_sm hc2⟩
   refine Vn hG rfl ?_
   refine⟨rfl,?_⟩
   exact dnStep hI hl
 · have hl:¬i>0:=oFa h0
   have hE:=dnEnd hI hl
   refine Vx (Vm hG rfl (Vt ?_))
   have e:=archD_leaf hE
   refine⟨⟨?_,trivial⟩,?_,trivial⟩
   · exact(congrArg Prod.snd e).symm
   · exact(congrArg Prod.fst e).symm
noncomputable def P178:PFun:=⟨.pure Y18,[],[.pure (.int .i64)],fun x _=>curOk x,fun x _=>(rawD x).2,fun x _=>((rawD x).1,())⟩
theorem P178_ok:MeetsP Tryz.prog 178 P178:=by
 refine meetsP_of_vc (C:=mkCP 10 [2] [0,2,4] [] [] [] [⟨79,_,P79_ok⟩,⟨138,_,P138_ok⟩,⟨74,_,P74_ok⟩] [0]) (mkCP_ok _ _ _ _ _ _ _ _) (fO _) Tryz.func178 rfl rfl rfl (by decide) rfl rfl rfl ?_ rfl
 rintro c ⟨_⟩ hwc hwf hpre ⟨⟩ hG rfl rfl
 show Vc _ _ [(0,⟨0,0,.c (.ref Z23) c⟩)] _
 refine Vm hG rfl (Vq (Vq ?_))
 refine Vr hG rfl ?_ ?_
 · repeat' (first | exact trivial | exact hpre | exact once_ok hpre | exact Nat.succ_pos _ | refine And.intro ?_ ?_ | intro _)
 refine Vk rfl ?_ ?_<;>intro h0
 · refine Vq ?_
   refine Vr hG rfl ?_ ?_
   · repeat' (first | exact trivial | exact hpre | exact once_ok hpre | exact Nat.succ_pos _ | refine And.intro ?_ ?_ | intro _)
   refine Vt ?_
   have e:rawD c=_:=(cT h0)
   refine⟨⟨?_,trivial⟩,?_,trivial⟩
   · exact(congrArg Prod.snd e).symm
   · exact(congrArg (fun r=>r.1) e).symm
 · refine Vs (Vq ?_)
   refine Vr hG rfl ?_ ?_
   · repeat' (first | exact trivial | exact hpre | exact once_ok hpre | exact Nat.succ_pos _ | refine And.intro ?_ ?_ | intro _)
   refine Vt ?_
   have e:rawD c=_:=(cF h0)
   refine⟨⟨?_,trivial⟩,?_,trivial⟩
   · exact(congrArg Prod.snd e).symm
   · exact(congrArg (fun r=>r.1) e).symm
noncomputable def P199:PFun:=⟨.pure Y18,[],[.pair (.pure (.int .i64)) Z17],fun x _=>curOk x,fun x _=>(docB x).2,fun x _=>((docB x).1,())⟩
theorem P199_ok:MeetsP Tryz.prog 199 P199:=by
 refine meetsP_of_vc (C:=mkCP 39 [2] [0,2,3,7,8,14,21,29] [] [] [] [⟨270,_,P270_ok⟩,⟨74,_,P74_ok⟩,⟨138,_,P138_ok⟩] [0]) (mkCP_ok _ _ _ _ _ _ _ _) (fO _) Tryz.func199 rfl rfl rfl (by decide) rfl rfl rfl ?_ rfl
 rintro c ⟨_⟩ hwc hwf hpre ⟨⟩ hG rfl rfl
 show Vc _ _ [(0,⟨0,0,.c (.ref Z23) c⟩)] _
 refine Vm hG rfl (Vq ?_)
 refine Vr hG rfl ?_ ?_
 · repeat' (first | exact trivial | exact hpre | exact docD_ok hpre | exact dq1_ok hpre | exact Nat.succ_pos _ | exact(docD_pos hpre).1 | exact(docD_pos hpre).2.1 | exact(docD_pos hpre).2.2 | exact Int.le_refl _ | exact(dqCut c).2.1 | exact(dqCut c).2.2 | refine And.intro ?_ ?_ | intro _)
 refine Vq (Vq ?_)
 refine Vr hG rfl ?_ ?_
 · repeat' (first | exact trivial | exact hpre | exact docD_ok hpre | exact dq1_ok hpre | exact Nat.succ_pos _ | exact(docD_pos hpre).1 | exact(docD_pos hpre).2.1 | exact(docD_pos hpre).2.2 | exact Int.le_refl _ | exact(dqCut c).2.1 | exact(dqCut c).2.2 | refine And.intro ?_ ?_ | intro _)
 refine Vb (Vm hG rfl ?_)
 refine Vk rfl ?_ ?_<;>intro h0
 · refine Vr hG rfl ?_ ?_
   · repeat' (first | exact trivial | exact hpre | exact docD_ok hpre | exact dq1_ok hpre | exact Nat.succ_pos _ | exact(docD_pos hpre).1 | exact(docD_pos hpre).2.1 | exact(docD_pos hpre).2.2 | exact Int.le_refl _ | exact(dqCut c).2.1 | exact(dqCut c).2.2 | refine And.intro ?_ ?_ | intro _)
   refine Vm hG rfl (Vt ?_)
   have e:docB c=_:=((docB_eq c).trans (cT h0))
   refine⟨⟨?_,trivial⟩,?_,trivial⟩
   · exact(congrArg Prod.snd e).symm
   · exact(congrArg (fun r=>r.1) e).symm
 · refine Vm hG rfl ?_
   refine Vk rfl ?_ ?_<;>intro h1
   · refine Vr hG rfl ?_ ?_
     · repeat' (first | exact trivial | exact hpre | exact docD_ok hpre | exact dq1_ok hpre | exact Nat.succ_pos _ | exact(docD_pos hpre).1 | exact(docD_pos hpre).2.1 | exact(docD_pos hpre).2.2 | exact Int.le_refl _ | exact(dqCut c).2.1 | exact(dqCut c).2.2 | refine And.intro ?_ ?_ | intro _)
     refine Vm hG rfl (Vt ?_)
     have e:docB c=_:=((docB_eq c).trans ((cF h0).trans (cT h1)))
     refine⟨⟨?_,trivial⟩,?_,trivial⟩
     · exact(congrArg Prod.snd e).symm
     · exact(congrArg (fun r=>r.1) e).symm
   · refine Vm hG rfl ?_
     refine Vk rfl ?_ ?_<;>intro h2
     · refine VrD mixed hG rfl (by kernel_rfl) ?_ ?_
       · repeat' (first | exact trivial | exact hpre | exact docD_ok hpre | exact dq1_ok hpre | exact Nat.succ_pos _ | exact(docD_pos hpre).1 | exact(docD_pos hpre).2.1 | exact(docD_pos hpre).2.2 | exact Int.le_refl _ | exact(dqCut c).2.1 | exact(dqCut c).2.2 | refine And.intro ?_ ?_ | intro _)
       refine Vm hG rfl (Vt ?_)
       have e:docB c=_:=((docB_eq c).trans ((cF h0).trans ((cF h1).trans (cT h2))))
       refine⟨⟨?_,trivial⟩,?_,trivial⟩
       · exact(congrArg Prod.snd e).symm
       · exact(congrArg (fun r=>r.1) e).symm
     · refine Vm hG rfl ?_
       refine Vk rfl ?_ ?_<;>intro h3
       · refine VrD mixed hG rfl (by kernel_rfl) ?_ ?_
         · repeat' (first | exact trivial | exact hpre | exact docD_ok hpre | exact dq1_ok hpre | exact Nat.succ_pos _ | exact(docD_pos hpre).1 | exact(docD_pos hpre).2.1 | exact(docD_pos hpre).2.2 | exact Int.le_refl _ | exact(dqCut c).2.1 | exact(dqCut c).2.2 | refine And.intro ?_ ?_ | intro _)
         refine Vm hG rfl (Vt ?_)
         have e:docB c=_:=((docB_eq c).trans ((cF h0).trans ((cF h1).trans ((cF h2).trans (cT h3)))))
         refine⟨⟨?_,trivial⟩,?_,trivial⟩
         · exact(congrArg Prod.snd e).symm
         · exact(congrArg (fun r=>r.1) e).symm
       · refine Vs (Vm hG rfl (Vt ?_))
         have e:docB c=_:=((docB_eq c).trans ((cF h0).trans ((cF h1).trans ((cF h2).trans (cF h3)))))
         refine⟨⟨?_,trivial⟩,?_,trivial⟩
         · exact(congrArg Prod.snd e).symm
         · exact(congrArg (fun r=>r.1) e).symm
noncomputable def P181:PFun:=⟨.pure Y18,[],[.pure (.int .i64)],fun x _=>curOk x,fun x _=>(numD x).2,fun x _=>((numD x).1,())⟩
theorem P181_ok:MeetsP Tryz.prog 181 P181:=by
 refine meetsP_of_vc (C:=mkCP 6 [2] [0,2] [] [] [] [⟨138,_,P138_ok⟩] [0]) (mkCP_ok _ _ _ _ _ _ _ _) (fO _) Tryz.func181 rfl rfl rfl (by decide) rfl rfl rfl ?_ rfl
 rintro c ⟨_⟩ hwc hwf hpre ⟨⟩ hG rfl rfl
 show Vc _ _ [(0,⟨0,0,.c (.ref Z23) c⟩)] _
 refine Vm hG rfl (Vq ?_)
 refine Vr hG rfl ?_ ?_
 · repeat' (first | exact trivial | exact hpre | exact Nat.succ_pos _ | refine And.intro ?_ ?_ | intro _)
 refine Vt ?_
 refine⟨⟨?_,trivial⟩,?_,trivial⟩
 all_goals exact rfl
end Fw
