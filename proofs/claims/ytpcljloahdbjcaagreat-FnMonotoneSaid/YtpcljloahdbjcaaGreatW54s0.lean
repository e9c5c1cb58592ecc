/- Walks of functions of the program: what each computes. Conditions: those that each contract names. -/
import Derived.Test.YtpcljloahdbjcaaGreatW54T
set_option linter.unusedVariables false
namespace Fw
open Go Go.Proofs
set_option linter.unusedSimpArgs false
set_option maxRecDepth 100000
noncomputable def F73:Fun:=⟨[.slice (.int .u8)],[.ref Z22],fun _=>True,fun x=>(curNewF x.1,())⟩
theorem F73_ok:Meets Tryz.prog 73 F73:=by
 refine mZ (C:=mkC 32 [2] [0,2,3,4,15] []) (mO _ _ _ _) (fO _) Tryz.func73 rfl rfl rfl (by decide) rfl ?_
 rintro⟨a0,_⟩ hwf hpre ⟨⟩ hG rfl rfl
 show Vc _ _ [(0,⟨0,0,.c Z1 a0⟩)] _
 have hb:List.length a0≤bigLen:=hwf.1.1
 refine Vm hG rfl (Vm hG rfl (Vq (Vm hG rfl ?_)))
 refine Vb ?_
 refine Vc.loopF [(3,false,.pure (.int .i64)),(4,false,.pure (.int .i64))] [0,2] (fun v=>foInv curNewG (IntKind.i64.wrap (193017+(List.length a0:Int))) (List.take n4k a0) v.1 v.2.1) (fun v=>((List.length (List.take n4k a0):Int)-v.2.1).toNat) rfl ?_ ?_
 · exact foStart
 rintro⟨(h:Int),(i:Int),_⟩ hI
 have hI:foInv curNewG (IntKind.i64.wrap (193017+(List.length a0:Int))) (List.take n4k a0) h i:=hI
 refine Vq (Vm hG rfl ?_)
 refine Vk rfl ?_ ?_<;>intro h0
 · have hl:=cnLt (code:=a0) h0
   have ri:=cnRange hI hl
   refine Vs (Vq (Vb ?_))
   refine Vr hG rfl ?_ ?_
   · exact ri
   refine Vn hG rfl ?_
   refine⟨Eq.trans (b:=[(0,⟨0,0,.c Z1 a0⟩),(2,⟨1,0,.junk⟩)]) rfl rfl,?_⟩
   exact foStepE (d:=(0:Int)) hI hl (cnBig a0) (cnElem hI hl)
 · have hl:=cnGe (code:=a0) h0
   refine Vx (Vm hG rfl (Vt ?_))
   refine⟨?_,trivial⟩
   exact cnEnd hI hl
noncomputable def F76:Fun:=⟨[],[.own Z35],fun _=>True,fun x=>(keysT ,())⟩
theorem F76_ok:Meets Tryz.prog 76 F76:=by
 refine mZ (C:=mkC 12 [0] [0] []) (mO _ _ _ _) (fO _) Tryz.func76 rfl rfl rfl (by decide) rfl ?_
 rintro⟨_⟩ hwf hpre ⟨⟩ hG rfl rfl
 show Vc _ _ [] _
 refine Vm hG rfl (Vm hG rfl (Vt ?_))
 refine⟨?_,trivial⟩
 all_goals exact rfl
noncomputable def F77:Fun:=⟨[],[.own (.pure Y15)],fun _=>True,fun x=>(authsT ,())⟩
theorem F77_ok:Meets Tryz.prog 77 F77:=by
 refine mZ (C:=mkC 6 [0] [0] []) (mO _ _ _ _) (fO _) Tryz.func77 rfl rfl rfl (by decide) rfl ?_
 rintro⟨_⟩ hwf hpre ⟨⟩ hG rfl rfl
 show Vc _ _ [] _
 refine Vm hG rfl (Vm hG rfl (Vt ?_))
 refine⟨?_,trivial⟩
 all_goals exact rfl
noncomputable def F236:Fun:=⟨[],[.own Z29],fun _=>True,fun x=>(methsT ,())⟩
theorem F236_ok:Meets Tryz.prog 236 F236:=by
 refine mZ (C:=mkC 6 [0] [0] []) (mO _ _ _ _) (fO _) Tryz.func236 rfl rfl rfl (by decide) rfl ?_
 rintro⟨_⟩ hwf hpre ⟨⟩ hG rfl rfl
 show Vc _ _ [] _
 refine Vm hG rfl (Vm hG rfl (Vt ?_))
 refine⟨?_,trivial⟩
 all_goals exact rfl
noncomputable def P148:PFun:=⟨.pure Y18,[],[.pure (.int .i64)],fun x _=>curOk x,fun x _=>(byteF x).2,fun x _=>((byteF x).1,())⟩
theorem P148_ok:MeetsP Tryz.prog 148 P148:=by
 refine meetsP_of_vc (C:=mkCP 58 [2] [0,2,3,34] [] [] [] [] [0]) (mkCP_ok _ _ _ _ _ _ _ _) (fO _) Tryz.func148 rfl rfl rfl (by decide) rfl rfl rfl ?_ rfl
 rintro c ⟨_⟩ hwc hwf hpre ⟨⟩ hG rfl rfl
 show Vc _ _ [(0,⟨0,0,.c (.ref Z22) c⟩)] _
 refine Vm hG rfl (Vm hG rfl (Vq ?_))
 refine VrD mixed hG rfl (by kernel_rfl) ?_ ?_
 · exact⟨(by decide:(0:Int)≤33),(by decide:(0:Int)≤47)⟩
 refine Vq (Vq (VrD mixed hG rfl (by kernel_rfl) (by trivial) ?_))
 refine Vk rfl ?_ ?_<;>intro h0
 · have g0:decide (c.2.1<(List.length c.1:Int))=true:=h0
   refine Vq ?_
   refine VrD mixed hG rfl (by kernel_rfl) ?_ ?_
   · exact⟨hpre.1,oTr g0⟩
   refine Vn hG rfl (Vm hG rfl (Vt ?_))
   have e:byteF c=_:=((byte_eq c).trans (cT h0))
   refine⟨⟨?_,trivial⟩,?_,trivial⟩
   · exact(congrArg Prod.snd e).symm
   · exact(congrArg (fun r=>r.1) e).symm
 · refine Vs (Vm hG rfl (Vt ?_))
   have e:byteF c=_:=((byte_eq c).trans (cF h0))
   refine⟨⟨?_,trivial⟩,?_,trivial⟩
   · exact(congrArg Prod.snd e).symm
   · exact(congrArg (fun r=>r.1) e).symm
noncomputable def P74:PFun:=⟨.pure Y18,[.int .i64],[.pure (.int .i64)],fun x xs=>(fun c (_:Int)=>curOk c) x xs.1,fun x xs=>(belowF x xs.1).2,fun x xs=>((belowF x xs.1).1,())⟩
theorem P74_ok:MeetsP Tryz.prog 74 P74:=by
 refine meetsP_of_vc (C:=mkCP 31 [4] [0,1,4,5,6,7,9,11] [] [] [] [⟨148,_,P148_ok⟩] [0]) (mkCP_ok _ _ _ _ _ _ _ _) (fO _) Tryz.func74 rfl rfl rfl (by decide) rfl rfl rfl ?_ rfl
 rintro c ⟨(a1:Int),_⟩ hwc hwf hpre ⟨⟩ hG rfl rfl
 show Vc _ _ [(0,⟨0,0,.c (.ref Z22) c⟩),(1,⟨0,0,.c (.pure (.int .i64)) a1⟩)] _
 refine Vm hG rfl (Vq (Vm hG rfl ?_))
 refine Vk rfl ?_ ?_<;>intro h0
 · refine Vm hG rfl (Vt ?_)
   have e:belowF c a1=_:=((bel_eq c a1).trans (cT h0))
   refine⟨⟨?_,trivial⟩,?_,trivial⟩
   · exact(congrArg Prod.snd e).symm
   · exact(congrArg (fun r=>r.1) e).symm
 · have g0:¬a1≤0:=oFa h0
   have g1:a1≠0:=by omega
   refine Vs (Vq (Vm hG rfl ?_))
   refine Vk rfl ?_ ?_<;>intro h1
   · refine Vq ?_
     refine Vr hG rfl ?_ ?_
     · exact⟨hpre,g1⟩
     refine Vt ?_
     have e:belowF c a1=_:=((bel_eq c a1).trans ((cF h0).trans (cT h1)))
     refine⟨⟨?_,trivial⟩,?_,trivial⟩
     · exact(congrArg Prod.snd e).symm
     · exact(congrArg (fun r=>r.1) e).symm
   · refine Vs (Vq ?_)
     refine Vr hG rfl ?_ ?_
     · repeat' (first | exact trivial | exact hpre | exact byte_ok hpre | exact byte_ok (byte_ok hpre) | refine And.intro ?_ ?_ | intro _)
     refine Vq ?_
     refine Vr hG rfl ?_ ?_
     · repeat' (first | exact trivial | exact hpre | exact byte_ok hpre | exact byte_ok (byte_ok hpre) | refine And.intro ?_ ?_ | intro _)
     refine Vq ?_
     refine Vr hG rfl ?_ ?_
     · repeat' (first | exact trivial | exact hpre | exact byte_ok hpre | exact byte_ok (byte_ok hpre) | refine And.intro ?_ ?_ | intro _)
     refine Vq ?_
     refine Vr hG rfl ?_ ?_
     · exact g1
     refine Vt ?_
     have e:belowF c a1=_:=((bel_eq c a1).trans ((cF h0).trans (cF h1)))
     refine⟨⟨?_,trivial⟩,?_,trivial⟩
     · exact(congrArg Prod.snd e).symm
     · exact(congrArg (fun r=>r.1) e).symm
noncomputable def P138:PFun:=⟨.pure Y18,[.slice (.int .i64)],[.pure (.int .i64)],fun x xs=>(fun c (l:List Int)=>curOk c∧0<List.length l) x xs.1,fun x xs=>(intF x xs.1).2,fun x xs=>((intF x xs.1).1,())⟩
theorem P138_ok:MeetsP Tryz.prog 138 P138:=by
 refine meetsP_of_vc (C:=mkCP 12 [4] [0,1,4] [] [] [] [⟨74,_,P74_ok⟩] [0]) (mkCP_ok _ _ _ _ _ _ _ _) (fO _) Tryz.func138 rfl rfl rfl (by decide) rfl rfl rfl ?_ rfl
 rintro c ⟨a1,_⟩ hwc hwf hpre ⟨⟩ hG rfl rfl
 show Vc _ _ [(0,⟨0,0,.c (.ref Z22) c⟩),(1,⟨0,0,.c Z3 a1⟩)] _
 refine Vm hG rfl (Vq ?_)
 refine Vr hG rfl ?_ ?_
 · exact⟨hpre.1,int_range hpre.2⟩
 refine Vt ?_
 refine⟨⟨?_,trivial⟩,?_,trivial⟩
 all_goals exact rfl
noncomputable def P158:PFun:=⟨.pure Y18,[],[.pair Z37 (.pair (.own (.pure Y15)) (.pair (.own Z29) Z9))],fun x _=>curOk x,fun x _=>(frameD x).2,fun x _=>((frameD x).1,())⟩
theorem P158_ok:MeetsP Tryz.prog 158 P158:=by
 refine meetsP_of_vc (C:=mkCP 12 [2] [0,2] [⟨76,_,F76_ok⟩,⟨77,_,F77_ok⟩,⟨236,_,F236_ok⟩] [] [] [⟨74,_,P74_ok⟩,⟨138,_,P138_ok⟩] [0]) (mkCP_ok _ _ _ _ _ _ _ _) (fO _) Tryz.func158 rfl rfl rfl (by decide) rfl rfl rfl ?_ rfl
 rintro c ⟨_⟩ hwc hwf hpre ⟨⟩ hG rfl rfl
 show Vc _ _ [(0,⟨0,0,.c (.ref Z22) c⟩)] _
 refine Vm hG rfl (Vq ?_)
 refine Vr hG rfl ?_ ?_
 · repeat' (first | exact trivial | exact hpre | exact below_ok hpre | exact Nat.succ_pos _ | refine And.intro ?_ ?_ | intro _)
 refine Vt ?_
 refine⟨⟨?_,trivial⟩,?_,trivial⟩
 all_goals exact rfl
noncomputable def P355:PFun:=⟨.pure Y18,[.slice (.str)],[.pure (.str)],fun x xs=>(fun c (l:List (List UInt8))=>curOk c∧0<List.length l) x xs.1,fun x xs=>(strF x xs.1).2,fun x xs=>((strF x xs.1).1,())⟩
theorem P355_ok:MeetsP Tryz.prog 355 P355:=by
 refine meetsP_of_vc (C:=mkCP 12 [4] [0,1,4] [] [] [] [⟨74,_,P74_ok⟩] [0]) (mkCP_ok _ _ _ _ _ _ _ _) (fO _) Tryz.func355 rfl rfl rfl (by decide) rfl rfl rfl ?_ rfl
 rintro c ⟨a1,_⟩ hwc hwf hpre ⟨⟩ hG rfl rfl
 show Vc _ _ [(0,⟨0,0,.c (.ref Z22) c⟩),(1,⟨0,0,.c (.pure (.slice (.str))) a1⟩)] _
 refine Vm hG rfl (Vq ?_)
 refine Vr hG rfl ?_ ?_
 · exact⟨hpre.1,int_range hpre.2⟩
 refine Vt ?_
 refine⟨⟨?_,trivial⟩,?_,trivial⟩
 all_goals exact rfl
noncomputable def P322:PFun:=⟨.pure Y18,[],[.pure (.str)],fun x _=>curOk x,fun x _=>(wordF x).2,fun x _=>((wordF x).1,())⟩
theorem P322_ok:MeetsP Tryz.prog 322 P322:=by
 refine meetsP_of_vc (C:=mkCP 6 [2] [0,2] [] [] [] [⟨355,_,P355_ok⟩] [0]) (mkCP_ok _ _ _ _ _ _ _ _) (fO _) Tryz.func322 rfl rfl rfl (by decide) rfl rfl rfl ?_ rfl
 rintro c ⟨_⟩ hwc hwf hpre ⟨⟩ hG rfl rfl
 show Vc _ _ [(0,⟨0,0,.c (.ref Z22) c⟩)] _
 refine Vm hG rfl (Vq ?_)
 refine Vr hG rfl ?_ ?_
 · exact⟨hpre,Nat.succ_pos _⟩
 refine Vt ?_
 refine⟨⟨?_,trivial⟩,?_,trivial⟩
 all_goals exact rfl
noncomputable def F232:Fun:=⟨[.int .i64,.int .i64,.int .i64],[.pure (.bool)],fun _=>True,fun x=>(inRangeF x.1 x.2.1 x.2.2.1,())⟩
theorem F232_ok:Meets Tryz.prog 232 F232:=by
 refine mZ (C:=mkC 15 [6] [0,1,2,6] []) (mO _ _ _ _) (fO _) Tryz.func232 rfl rfl rfl (by decide) rfl ?_
 rintro⟨(a0:Int),(a1:Int),(a2:Int),_⟩ hwf hpre ⟨⟩ hG rfl rfl
 show Vc _ _ [(0,⟨0,0,.c (.pure (.int .i64)) a0⟩),(1,⟨0,0,.c (.pure (.int .i64)) a1⟩),(2,⟨0,0,.c (.pure (.int .i64)) a2⟩)] _
 refine Vm hG rfl (Vm hG rfl (Vt ?_))
 refine⟨?_,trivial⟩
 all_goals exact rfl
noncomputable def F348:Fun:=⟨[.int .i64,.int .i64],[.pure (.int .i64)],fun _=>True,fun x=>(modF x.1 x.2.1,())⟩
theorem F348_ok:Meets Tryz.prog 348 F348:=by
 refine mZ (C:=mkC 15 [4] [0,1,4,7] [⟨232,_,F232_ok⟩]) (mO _ _ _ _) (fO _) Tryz.func348 rfl rfl rfl (by decide) rfl ?_
 rintro⟨(a0:Int),(a1:Int),_⟩ hwf hpre ⟨⟩ hG rfl rfl
 show Vc _ _ [(0,⟨0,0,.c (.pure (.int .i64)) a0⟩),(1,⟨0,0,.c (.pure (.int .i64)) a1⟩)] _
 refine Vm hG rfl (Vq (Vm hG rfl ?_))
 refine Vk rfl ?_ ?_<;>intro h0
 · have g0:(!(inRangeF a1 1 1000000000000))=true:=h0
   refine Vm hG rfl (Vt ?_)
   refine⟨?_,trivial⟩
   show (0:Int)=modF a0 a1
   unfold modF
   rw[if_neg (by simpa using g0)]
 · have g0:(!(inRangeF a1 1 1000000000000))=false:=h0
   refine Vs (Vq ?_)
   refine Vr hG rfl ?_ ?_
   · exact⟨inR_pos h0,inR_pos h0⟩
   refine Vt ?_
   refine⟨?_,trivial⟩
   show _=modF a0 a1
   unfold modF
   rw[if_pos (by simpa using g0)]
noncomputable def F302:Fun:=⟨[.slice (.int .i64)],[.pure (.int .i64)],fun _=>True,fun x=>(hashF x.1,())⟩
theorem F302_ok:Meets Tryz.prog 302 F302:=by
 refine mZ (C:=mkC 22 [2] [0,2,3,4,8] [⟨348,_,F348_ok⟩]) (mO _ _ _ _) (fO _) Tryz.func302 rfl rfl rfl (by decide) rfl ?_
 rintro⟨a0,_⟩ hwf hpre ⟨⟩ hG rfl rfl
 show Vc _ _ [(0,⟨0,0,.c Z3 a0⟩)] _
 have hb:List.length a0≤bigLen:=hwf.1.1
 refine Vm hG rfl (Vm hG rfl (Vq (Vm hG rfl ?_)))
 refine Vb ?_
 refine Vc.loopF [(3,false,.pure (.int .i64)),(4,false,.pure (.int .i64))] [0,2] (fun v=>foInv (hstep) (11) a0 v.1 v.2.1) (fun v=>((List.length a0:Int)-v.2.1).toNat) rfl ?_ ?_
 · exact foStart
 rintro⟨acc,(i:Int),_⟩ hI
 have hI:foInv (hstep) (11) a0 acc i:=hI
 refine Vq (Vm hG rfl ?_)
 refine Vk rfl ?_ ?_<;>intro h0
 · have hl:i<(List.length a0:Int):=oTr h0
   refine Vs (Vq (Vb ?_))
   refine Vr hG rfl ?_ ?_
   · exact⟨foRange hI hl,trivial,(show (2147483647:Int)≠0 by decide)⟩
   refine Vn hG rfl ?_
   refine⟨rfl,?_⟩
   exact foStep hI hl hb
 · have hl:¬i<(List.length a0:Int):=oFa h0
   refine Vx (Vm hG rfl (Vt ?_))
   refine⟨?_,trivial⟩
   exact foEnd hI hl
noncomputable def F305:Fun:=⟨[.int .i64,.slice (.int .i64)],[.pure (.int .i64)],fun x=>(fun(_:Int) (l:List Int)=>l.length≤1000000001) x.1 x.2.1,fun x=>(keyedF x.1 x.2.1,())⟩
theorem F305_ok:Meets Tryz.prog 305 F305:=by
 refine mZ (C:=mkC 13 [4] [0,1,4] [⟨302,_,F302_ok⟩]) (mO _ _ _ _) (fO _) Tryz.func305 rfl rfl rfl (by decide) rfl ?_
 rintro⟨(a0:Int),a1,_⟩ hwf hpre ⟨⟩ hG rfl rfl
 show Vc _ _ [(0,⟨0,0,.c (.pure (.int .i64)) a0⟩),(1,⟨0,0,.c Z3 a1⟩)] _
 have hp:List.length a1≤1000000001:=hpre
 refine Vm hG rfl (Vq ?_)
 refine Vr hG rfl ?_ ?_
 · refine⟨?_,?_,trivial⟩
   · show 1+List.length a1≤maxApp
     unfold maxApp;omega
   · show (List.length a1+1)+1≤maxApp
     unfold maxApp;omega
 refine Vt ?_
 refine⟨?_,trivial⟩
 all_goals exact rfl
noncomputable def F294:Fun:=⟨[.int .i64,.int .i64],[.pure (.int .i64)],fun _=>True,fun x=>((fun(a b:Int)=>max a b) x.1 x.2.1,())⟩
theorem F294_ok:Meets Tryz.prog 294 F294:=by
 refine mZ (C:=mkC 10 [4] [0,1,4,7] []) (mO _ _ _ _) (fO _) Tryz.func294 rfl rfl rfl (by decide) rfl ?_
 rintro⟨(a0:Int),(a1:Int),_⟩ hwf hpre ⟨⟩ hG rfl rfl
 show Vc _ _ [(0,⟨0,0,.c (.pure (.int .i64)) a0⟩),(1,⟨0,0,.c (.pure (.int .i64)) a1⟩)] _
 refine Vm hG rfl (Vq (Vm hG rfl ?_))
 refine Vk rfl ?_ ?_<;>intro h0
 · refine Vm hG rfl (Vt ?_)
   refine⟨?_,trivial⟩
   exact maxT h0
 · refine Vs (Vm hG rfl (Vt ?_))
   refine⟨?_,trivial⟩
   exact maxE h0
noncomputable def F221:Fun:=⟨[.pair (.int .i64) Y13],[.pure (.bool)],fun _=>True,fun x=>(docF x.1,())⟩
theorem F221_ok:Meets Tryz.prog 221 F221:=by
 refine mZ (C:=mkC 51 [2] [0,1,2,3,4,9,18,23,32] [⟨232,_,F232_ok⟩]) (mO _ _ _ _) (fO _) Tryz.func221 rfl rfl rfl (by decide) rfl ?_
 rintro⟨a0,_⟩ hwf hpre ⟨⟩ hG rfl rfl
 show Vc _ _ [(0,⟨0,0,.c Z27 a0⟩)] _
 have hb0:List.length a0.2.1≤bigLen:=hwf.1.2.1.1
 have hb1:List.length a0.2.2≤bigLen:=hwf.1.2.2.1
 refine Vm hG rfl (Vq (Vm hG rfl (Vb ?_)))
 refine Vc.loopF [(3,false,.pure (.int .i64))] [0,1,4,23,32] (fun v=>kInv (fun k=>(List.length (List.getD a0.2.1 k (dflt .str)):Int)≤40) a0.2.1 v.1) (fun v=>((List.length a0.2.1:Int)-v.1).toNat) rfl ?_ ?_
 · exact kStart
 rintro⟨(i:Int),_⟩ hI0
 have hI0:kInv (fun k=>(List.length (List.getD a0.2.1 k (dflt .str)):Int)≤40) a0.2.1 i:=hI0
 refine Vq (Vm hG rfl ?_)
 refine Vk rfl ?_ ?_<;>intro h0
 · have hl0:i<(List.length a0.2.1:Int):=oTr h0
   refine Vs (Vq (Vb (Vq ?_)))
   refine Vr hG rfl ?_ ?_
   · exact kRange hI0 hl0
   refine Vk rfl ?_ ?_<;>intro h1
   · have g1:(List.length (List.getD a0.2.1 i.toNat (dflt .str)):Int)>40:=oTr h1
     refine Vm hG rfl (Vt ?_)
     refine⟨?_,trivial⟩
     refine boolC_no (P:=docP a0) (fun h=>?_)
     have q:=h.2.2.2.1 i.toNat (kLt hI0 hl0)
     exact absurd q (Int.not_le.2 g1)
   · have g1:¬(List.length (List.getD a0.2.1 i.toNat (dflt .str)):Int)>40:=oFa h1
     refine Vs (Vn hG rfl ?_)
     refine⟨rfl,?_⟩
     exact kStep hI0 hl0 hb0 (show (List.length (List.getD a0.2.1 i.toNat (dflt .str)):Int)≤40 from Int.not_lt.1 g1)
 · have hl0:¬i<(List.length a0.2.1:Int):=oFa h0
   refine Vx (Vq (Vm hG rfl (Vb ?_)))
   refine Vc.loopF [(4,false,.pure (.int .i64))] [0,1,3,9,18] (fun v=>kInv (fun k=>inRangeF (List.getD a0.2.2 k (dflt (.int .i64))) 1 1000000000000=true) a0.2.2 v.1) (fun v=>((List.length a0.2.2:Int)-v.1).toNat) rfl ?_ ?_
   · exact kStart
   rintro⟨(i:Int),_⟩ hI1
   have hI1:kInv (fun k=>inRangeF (List.getD a0.2.2 k (dflt (.int .i64))) 1 1000000000000=true) a0.2.2 i:=hI1
   refine Vq (Vm hG rfl ?_)
   refine Vk rfl ?_ ?_<;>intro h2
   · have hl1:i<(List.length a0.2.2:Int):=oTr h2
     refine Vs (Vq (Vb (Vq ?_)))
     refine Vr hG rfl ?_ ?_
     · exact⟨kRange hI1 hl1,trivial⟩
     refine Vk rfl ?_ ?_<;>intro h3
     · have g3:(!(inRangeF (List.getD a0.2.2 i.toNat (dflt (.int .i64))) 1 1000000000000))=true:=h3
       refine Vm hG rfl (Vt ?_)
       refine⟨?_,trivial⟩
       refine boolC_no (P:=docP a0) (fun h=>?_)
       exact nself (h.2.2.2.2 i.toNat (kLt hI1 hl1)) g3
     · have g3:(!(inRangeF (List.getD a0.2.2 i.toNat (dflt (.int .i64))) 1 1000000000000))=false:=h3
       refine Vs (Vn hG rfl ?_)
       refine⟨rfl,?_⟩
       exact kStep hI1 hl1 hb1 (notF g3)
   · have hl1:¬i<(List.length a0.2.2:Int):=oFa h2
     refine Vx (Vq ?_)
     refine Vr hG rfl ?_ ?_
     · repeat' (first | exact trivial | refine And.intro ?_ ?_ | intro _)
     refine Vt ?_
     refine⟨?_,trivial⟩
     refine boolC_by (P:=docP a0) (fun e=>?_) (fun h=>?_)
     · exact⟨(andT (andT e).1).1,(andT (andT e).1).2,lenBeqI (andT e).2,kEnd hI0 hl0,kEnd hI1 hl1⟩
     · exact yesAnd (yesAnd h.1 h.2.1) (lenBeq h.2.2.1)
noncomputable def F356:Fun:=⟨[.int .i64],[.pure (.bool)],fun _=>True,fun x=>(validKeyF x.1,())⟩
theorem F356_ok:Meets Tryz.prog 356 F356:=by
 refine mZ (C:=mkC 5 [2] [0,2] [⟨232,_,F232_ok⟩]) (mO _ _ _ _) (fO _) Tryz.func356 rfl rfl rfl (by decide) rfl ?_
 rintro⟨(a0:Int),_⟩ hwf hpre ⟨⟩ hG rfl rfl
 show Vc _ _ [(0,⟨0,0,.c (.pure (.int .i64)) a0⟩)] _
 refine Vm hG rfl (Vm hG rfl (Vt ?_))
 refine⟨?_,trivial⟩
 all_goals exact rfl
noncomputable def F323:Fun:=⟨[.int .i64,.slice (.str),.int .i64],[.pair (.pure (.int .i64)) Z17,.pure (.bool)],fun x=>(fun(_:Int) (l:List (List UInt8)) (_:Int)=>List.length l≤big20) x.1 x.2.1 x.2.2.1,fun x=>((makeDocF x.1 x.2.1 x.2.2.1).1,(makeDocF x.1 x.2.1 x.2.2.1).2,())⟩
theorem F323_ok:Meets Tryz.prog 323 F323:=by
 refine mZ (C:=mkC 42 [6,7] [0,1,2,6,7,8,9,18,39] [⟨305,_,F305_ok⟩,⟨294,_,F294_ok⟩,⟨221,_,F221_ok⟩,⟨356,_,F356_ok⟩]) (mO _ _ _ _) (fO _) Tryz.func323 rfl rfl rfl (by decide) rfl ?_
 rintro⟨(a0:Int),a1,(a2:Int),_⟩ hwf hpre ⟨⟩ hG rfl rfl
 show Vc _ _ [(0,⟨0,0,.c (.pure (.int .i64)) a0⟩),(1,⟨0,0,.c (.pure (.slice (.str))) a1⟩),(2,⟨0,0,.c (.pure (.int .i64)) a2⟩)] _
 have hs:List.length a1≤big20:=hpre
 refine Vm hG rfl (Vq ?_)
 refine Vr hG rfl ?_ ?_
 · exact appOk hs
 refine Vq (Vm hG rfl (Vb ?_))
 refine Vc.loopF [(8,true,.pair (.pure (.int .i64)) Z17),(9,false,.pure (.int .i64))] [0,1,2,6,7,39] (fun v=>mdInv a0 a1 a2 v.1 v.2.1) (fun v=>((List.length a1:Int)-v.2.1).toNat) rfl ?_ ?_
 · exact mdStart
 rintro⟨d,(i:Int),_⟩ hI
 have hI:mdInv a0 a1 a2 d i:=hI
 refine Vq (Vm hG rfl ?_)
 refine Vk rfl ?_ ?_<;>intro h0
 · have hl:i<(List.length a1:Int):=oTr h0
   refine Vs (Vq (Vb ?_))
   refine VrD mixed hG rfl (by kernel_rfl) ?_ ?_
   · repeat' (first | exact trivial | exact(Nat.le_of_ble_eq_true rfl:(2:Nat)≤1000000001) | exact mdLen hI hs | refine And.intro ?_ ?_ | intro _)
   refine Vn hG rfl ?_
   refine⟨rfl,?_⟩
   exact mdStep hI hl hs rfl
 · have hl:¬i<(List.length a1:Int):=oFa h0
   refine Vx (Vq (Vq ?_))
   refine Vr hG rfl ?_ ?_
   · repeat' (first | exact trivial | refine And.intro ?_ ?_ | intro _)
   refine Vk rfl ?_ ?_<;>intro h1
   · refine Vm hG rfl (Vt ?_)
     have e:=md0 hI hl h1
     refine⟨?_,?_,trivial⟩
     · exact(congrArg Prod.fst e).symm
     · exact(congrArg Prod.snd e).symm
   · refine Vs (Vm hG rfl (Vt ?_))
     have e:=md1 hI hl h1
     refine⟨?_,?_,trivial⟩
     · exact(congrArg Prod.fst e).symm
     · exact(congrArg Prod.snd e).symm
noncomputable def P270:PFun:=⟨.pure Y18,[],[.pair (.pure (.int .i64)) Z17],fun x _=>curOk x,fun x _=>(docD x).2,fun x _=>((docD x).1,())⟩
theorem P270_ok:MeetsP Tryz.prog 270 P270:=by
 refine meetsP_of_vc (C:=mkCP 28 [2] [0,2,3,4,5,12] [⟨323,_,F323_ok⟩] [] [] [⟨74,_,P74_ok⟩,⟨322,_,P322_ok⟩] [0]) (mkCP_ok _ _ _ _ _ _ _ _) (fO _) Tryz.func270 rfl rfl rfl (by decide) rfl rfl rfl ?_ rfl
 rintro c ⟨_⟩ hwc hwf hpre ⟨⟩ hG rfl rfl
 show Vc _ _ [(0,⟨0,0,.c (.ref Z22) c⟩)] _
 refine Vm hG rfl (Vm hG rfl (Vq (Vq ?_)))
 refine Vr hG rfl ?_ ?_
 · exact hpre
 refine Vb ?_
 refine Vc.loopF [(0,true,.pure Y18),(3,false,.own (.pure (.str))),(4,false,.pure (.int .i64))] [2,5] (fun v=>dnInv partS ((belowF c 3).2,[]) (IntKind.i64.wrap (1+(belowF c 3).1)) (v.1,v.2.1) v.2.2.1) (fun v=>(v.2.2.1:Int).toNat) rfl ?_ ?_
 · exact dnStart ⟨(bel3n c).1,(bel3n c).2.1⟩
 rintro⟨c2,acc,(i:Int),_⟩ hI
 have hI:dnInv partS ((belowF c 3).2,[]) (IntKind.i64.wrap (1+(belowF c 3).1)) (c2,acc) i:=hI
 obtain⟨k,hk,hc2,hlen,_⟩:=dnP partP ⟨below_ok hpre,rfl,by simp⟩ partS_P hI
 have hlen:List.length acc=k:=hlen
 have hc2:curOk c2:=hc2
 have hn:=(bel3n c).2.1
 refine Vq (Vm hG rfl ?_)
 refine Vk rfl ?_ ?_<;>intro h0
 · have hl:i>0:=oTr h0
   refine Vs (Vq (Vb ?_))
   refine Vr hG rfl ?_ ?_
   · exact⟨hc2,dnApp hlen hk hn⟩
   refine Vn hG rfl ?_
   refine⟨rfl,?_⟩
   exact dnStep hI hl
 · have hl:¬i>0:=oFa h0
   have hE:=dnEnd hI hl
   refine Vx (Vq ?_)
   refine Vr hG rfl ?_ ?_
   · repeat' (first | exact trivial | exact hc2 | exact dnBig hlen hk hn | refine And.intro ?_ ?_ | intro _)
   refine Vm hG rfl (Vt ?_)
   have e:=docD_leaf hE
   refine⟨⟨?_,trivial⟩,?_,trivial⟩
   · exact(congrArg Prod.snd e).symm
   · exact(congrArg Prod.fst e).symm
noncomputable def F223:Fun:=⟨[.int .i64,.slice (.int .i64)],[.pure (.int .i64)],fun x=>(fun(_:Int) (l:List Int)=>smallL l) x.1 x.2.1,fun x=>(digestF x.1 x.2.1,())⟩
theorem F223_ok:Meets Tryz.prog 223 F223:=by
 refine mZ (C:=mkC 10 [4] [0,1,4] [⟨302,_,F302_ok⟩]) (mO _ _ _ _) (fO _) Tryz.func223 rfl rfl rfl (by decide) rfl ?_
 rintro⟨(a0:Int),a1,_⟩ hwf hpre ⟨⟩ hG rfl rfl
 show Vc _ _ [(0,⟨0,0,.c (.pure (.int .i64)) a0⟩),(1,⟨0,0,.c Z3 a1⟩)] _
 have hp:List.length a1≤1000000000:=hpre
 refine Vm hG rfl (Vq ?_)
 refine Vr hG rfl ?_ ?_
 · refine⟨?_,trivial⟩
   show 2+List.length a1≤maxApp
   unfold maxApp;omega
 refine Vt ?_
 refine⟨?_,trivial⟩
 exact(digest_eq a0 a1).symm
noncomputable def F222:Fun:=⟨[.int .i64,.str,.int .i64],[.pure (.int .i64)],fun x=>(fun(_:Int) (s:List UInt8) (_:Int)=>s.length≤40) x.1 x.2.1 x.2.2.1,fun x=>(partF x.1 x.2.1 x.2.2.1,())⟩
theorem F222_ok:Meets Tryz.prog 222 F222:=by
 refine mZ (C:=mkC 27 [6] [0,1,2,6,7,8,14] [⟨223,_,F223_ok⟩]) (mO _ _ _ _) (fO _) Tryz.func222 rfl rfl rfl (by decide) rfl ?_
 rintro⟨(a0:Int),a1,(a2:Int),_⟩ hwf hpre ⟨⟩ hG rfl rfl
 show Vc _ _ [(0,⟨0,0,.c (.pure (.int .i64)) a0⟩),(1,⟨0,0,.c (.pure (.str)) a1⟩),(2,⟨0,0,.c (.pure (.int .i64)) a2⟩)] _
 have hp:List.length a1≤40:=hpre
 have hb:List.length a1≤bigLen:=hwf.2.1
 refine Vm hG rfl (Vm hG rfl (Vq (Vm hG rfl ?_)))
 refine Vb ?_
 refine Vc.loopF [(7,false,.own (.pure (.int .i64))),(8,false,.pure (.int .i64))] [0,1,2,6] (fun v=>gsInv (partG a1) [a2] a1 v.1 v.2.1) (fun v=>((List.length a1:Int)-v.2.1).toNat) rfl ?_ ?_
 · exact gsStart
 rintro⟨acc,(i:Int),_⟩ hI
 have hI:gsInv (partG a1) [a2] a1 acc i:=hI
 have hA:List.length acc≤41:=gsLen (c:=1) (m:=40) hI (fun _=>Nat.le_refl _) hp (by simp)
 refine Vq (Vm hG rfl ?_)
 refine Vk rfl ?_ ?_<;>intro h0
 · have hl:i<(List.length a1:Int):=oTr h0
   refine Vs (Vq (Vb ?_))
   refine Vr hG rfl ?_ ?_
   · exact⟨gsRange hI hl,(show List.length acc+1≤maxApp from by unfold maxApp;omega)⟩
   refine Vn hG rfl ?_
   refine⟨rfl,?_⟩
   exact gsStep hI hl hb rfl
 · have hl:¬i<(List.length a1:Int):=oFa h0
   refine Vx (Vq ?_)
   refine Vr hG rfl ?_ ?_
   · exact(show List.length acc≤1000000000 from by omega)
   refine Vt ?_
   refine⟨?_,trivial⟩
   exact congrArg (digestF a0) (gsEnd hI hl)
noncomputable def F145:Fun:=⟨[.int .i64,.pair (.int .i64) Y13],[.pure (.int .i64)],fun _=>True,fun x=>(docDigF x.1 x.2.1,())⟩
theorem F145_ok:Meets Tryz.prog 145 F145:=by
 refine mZ (C:=mkC 38 [4] [0,1,3,4,5,6,9,17] [⟨221,_,F221_ok⟩,⟨222,_,F222_ok⟩,⟨223,_,F223_ok⟩]) (mO _ _ _ _) (fO _) Tryz.func145 rfl rfl rfl (by decide) rfl ?_
 rintro⟨(a0:Int),a1,_⟩ hwf hpre ⟨⟩ hG rfl rfl
 show Vc _ _ [(0,⟨0,0,.c (.pure (.int .i64)) a0⟩),(1,⟨0,0,.c Z27 a1⟩)] _
 have hb:List.length a1.2.1≤bigLen:=hwf.2.1.2.1.1
 refine Vm hG rfl (Vq (Vm hG rfl ?_))
 refine Vk rfl ?_ ?_<;>intro h0
 · have g0:(!(docF a1))=true:=h0
   refine Vm hG rfl (Vt ?_)
   refine⟨?_,trivial⟩
   exact docDig0 g0
 · have g0:(!(docF a1))=false:=h0
   have hd:=docP_of g0
   have h6:List.length a1.2.1≤6:=docN hd
   refine Vs (Vm hG rfl (Vq (Vm hG rfl ?_)))
   refine Vb ?_
   refine Vc.loopF [(5,false,.own (.pure (.int .i64))),(6,false,.pure (.int .i64))] [0,1,3,4,9] (fun v=>gsInv (docG a0 a1) [a1.1] a1.2.1 v.1 v.2.1) (fun v=>((List.length a1.2.1:Int)-v.2.1).toNat) rfl ?_ ?_
   · exact gsStart
   rintro⟨acc,(i:Int),_⟩ hI
   have hI:gsInv (docG a0 a1) [a1.1] a1.2.1 acc i:=hI
   have hA:List.length acc≤7:=gsLen (c:=1) (m:=6) hI (fun _=>Nat.le_refl _) h6 (by simp)
   refine Vq (Vm hG rfl ?_)
   refine Vk rfl ?_ ?_<;>intro h1
   · have hl:i<(List.length a1.2.1:Int):=oTr h1
     refine Vs (Vq (Vb ?_))
     refine VrD mixed hG rfl (by kernel_rfl) ?_ ?_
     · exact⟨gsRange hI hl,docX hd hI hl,doc40 hd hI hl,(show List.length acc+1≤maxApp from by unfold maxApp;omega)⟩
     refine Vn hG rfl ?_
     refine⟨rfl,?_⟩
     exact gsStep hI hl hb rfl
   · have hl:¬i<(List.length a1.2.1:Int):=oFa h1
     refine Vx (Vq ?_)
     refine Vr hG rfl ?_ ?_
     · exact(show List.length acc≤1000000000 from by omega)
     refine Vt ?_
     refine⟨?_,trivial⟩
     have e:=docDig1 (id:=a0) (d:=a1) (acc:=acc) (i:=i) g0 hI hl
     exact e
noncomputable def F209:Fun:=⟨[.slice Y34,.int .i64],[.pure (.int .i64)],fun _=>True,fun x=>((fun a0 a1=>findI (fun x=>x.1==a1) a0) x.1 x.2.1,())⟩
theorem F209_ok:Meets Tryz.prog 209 F209:=by
 refine mZ (C:=mkC 20 [4] [0,1,4,5,9,18] []) (mO _ _ _ _) (fO _) Tryz.func209 rfl rfl rfl (by decide) rfl ?_
 rintro⟨a0,(a1:Int),_⟩ hwf hpre ⟨⟩ hG rfl rfl
 show Vc _ _ [(0,⟨0,0,.c Z38 a0⟩),(1,⟨0,0,.c (.pure (.int .i64)) a1⟩)] _
 have hb:List.length a0≤bigLen:=hwf.1.1
 refine Vm hG rfl (Vq (Vm hG rfl (Vb ?_)))
 refine Vc.loopF [(5,false,.pure (.int .i64))] [0,1] (fun v=>fInv (fun x=>x.1==a1) a0 v.1) (fun v=>((List.length a0:Int)-v.1).toNat) rfl ?_ ?_
 · exact fStart
 rintro⟨(i:Int),_⟩ hI
 have hI:fInv (fun x=>x.1==a1) a0 i:=hI
 refine Vq (Vm hG rfl ?_)
 refine Vk rfl ?_ ?_<;>intro h0
 · have hl:i<(List.length a0:Int):=oTr h0
   refine Vs (Vq (Vb (Vq ?_)))
   refine Vr hG rfl ?_ ?_
   · exact fRange hI hl
   refine Vk rfl ?_ ?_<;>intro h1
   · have g1:(fun x=>x.1==a1) (List.getD a0 i.toNat (dflt Y34))=true:=h1
     refine Vm hG rfl (Vt ?_)
     refine⟨?_,trivial⟩
     exact fHit hI hl g1
   · have g1:(fun x=>x.1==a1) (List.getD a0 i.toNat (dflt Y34))=false:=h1
     refine Vs (Vn hG rfl ?_)
     refine⟨rfl,?_⟩
     exact fStep hI hl hb g1
 · have hl:¬i<(List.length a0:Int):=oFa h0
   refine Vx (Vm hG rfl (Vt ?_))
   refine⟨?_,trivial⟩
   exact fEnd hI hl
noncomputable def F282:Fun:=⟨[.pair (.int .i64) Y50],[.pure (.bool)],fun _=>True,fun x=>(isSigF x.1,())⟩
theorem F282_ok:Meets Tryz.prog 282 F282:=by
 refine mZ (C:=mkC 41 [2] [0,1,2] [⟨232,_,F232_ok⟩]) (mO _ _ _ _) (fO _) Tryz.func282 rfl rfl rfl (by decide) rfl ?_
 rintro⟨a0,_⟩ hwf hpre ⟨⟩ hG rfl rfl
 show Vc _ _ [(0,⟨0,0,.c Z54 a0⟩)] _
 refine Vm hG rfl (Vq ?_)
 refine Vr hG rfl ?_ ?_
 · repeat' (first | exact trivial | refine And.intro ?_ ?_ | intro _)
 refine Vt ?_
 refine⟨?_,trivial⟩
 all_goals exact rfl
noncomputable def F287:Fun:=⟨[.pair (.int .i64) Y50],[.own (.pure (.int .i64))],fun _=>True,fun x=>(sigIntsF x.1,())⟩
theorem F287_ok:Meets Tryz.prog 287 F287:=by
 refine mZ (C:=mkC 20 [2] [0,1,2] []) (mO _ _ _ _) (fO _) Tryz.func287 rfl rfl rfl (by decide) rfl ?_
 rintro⟨a0,_⟩ hwf hpre ⟨⟩ hG rfl rfl
 show Vc _ _ [(0,⟨0,0,.c Z54 a0⟩)] _
 refine Vm hG rfl (Vm hG rfl (Vt ?_))
 refine⟨?_,trivial⟩
 all_goals exact rfl
noncomputable def F230:Fun:=⟨[.pair (.int .i64) Y26,.slice (.int .i64)],[.pure (.int .i64)],fun x=>(fun(_:Key) (l:List Int)=>smallL l) x.1 x.2.1,fun x=>(markWithF x.1 x.2.1,())⟩
theorem F230_ok:Meets Tryz.prog 230 F230:=by
 refine mZ (C:=mkC 13 [4] [0,1,2,4] [⟨305,_,F305_ok⟩]) (mO _ _ _ _) (fO _) Tryz.func230 rfl rfl rfl (by decide) rfl ?_
 rintro⟨a0,a1,_⟩ hwf hpre ⟨⟩ hG rfl rfl
 show Vc _ _ [(0,⟨0,0,.c Z35 a0⟩),(1,⟨0,0,.c Z3 a1⟩)] _
 have hp:List.length a1≤1000000000:=hpre
 refine Vm hG rfl (Vq ?_)
 refine VrD mixed hG rfl (by kernel_rfl) ?_ ?_
 · refine⟨?_,?_⟩
   · show 1+List.length a1≤maxApp
     unfold maxApp;omega
   · show List.length a1+1≤1000000001
     omega
 refine Vt ?_
 refine⟨?_,trivial⟩
 all_goals exact rfl
noncomputable def F239:Fun:=⟨[.slice Y34,.pair (.int .i64) Y50],[.pure Y53,.pure (.bool)],fun _=>True,fun x=>((signDigestF x.1 x.2.1).1,(signDigestF x.1 x.2.1).2,())⟩
theorem F239_ok:Meets Tryz.prog 239 F239:=by
 refine mZ (C:=mkC 28 [4,5] [0,1,3,4,5,6,17] [⟨209,_,F209_ok⟩,⟨282,_,F282_ok⟩,⟨287,_,F287_ok⟩,⟨230,_,F230_ok⟩]) (mO _ _ _ _) (fO _) Tryz.func239 rfl rfl rfl (by decide) rfl ?_
 rintro⟨a0,a1,_⟩ hwf hpre ⟨⟩ hG rfl rfl
 show Vc _ _ [(0,⟨0,0,.c Z38 a0⟩),(1,⟨0,0,.c Z54 a1⟩)] _
 refine Vm hG rfl (Vq ?_)
 refine Vr hG rfl ?_ ?_
 · repeat' (first | exact trivial | exact sgRange h0 | exact smallLit (n:=9) rfl (by decide) | refine And.intro ?_ ?_ | intro _)
 refine Vq (Vq ?_)
 refine Vr hG rfl ?_ ?_
 · repeat' (first | exact trivial | exact sgRange h0 | exact smallLit (n:=9) rfl (by decide) | refine And.intro ?_ ?_ | intro _)
 refine Vk rfl ?_ ?_<;>intro h0
 · refine Vm hG rfl (Vt ?_)
   have e:signDigestF a0 a1=_:=(cT h0)
   refine⟨?_,?_,trivial⟩
   · exact(congrArg (fun r=>r.1) e).symm
   · exact(congrArg (fun r=>r.2) e).symm
 · refine Vs (Vq ?_)
   refine VrD mixed hG rfl (by kernel_rfl) ?_ ?_
   · repeat' (first | exact trivial | exact sgRange h0 | exact smallLit (n:=9) rfl (by decide) | refine And.intro ?_ ?_ | intro _)
   refine Vm hG rfl (Vt ?_)
   have e:signDigestF a0 a1=_:=(cF h0)
   refine⟨?_,?_,trivial⟩
   · exact(congrArg (fun r=>r.1) e).symm
   · exact(congrArg (fun r=>r.2) e).symm
noncomputable def F326:Fun:=⟨[.slice Y34,.int .i64,.int .i64,.int .i64,.pair (.int .i64) Y13,.int .i64],[.pure Y53,.pure (.bool)],fun _=>True,fun x=>((signDocF x.1 x.2.1 x.2.2.1 x.2.2.2.1 x.2.2.2.2.1 x.2.2.2.2.2.1).1,(signDocF x.1 x.2.1 x.2.2.1 x.2.2.2.1 x.2.2.2.2.1 x.2.2.2.2.2.1).2,())⟩
theorem F326_ok:Meets Tryz.prog 326 F326:=by
 refine mZ (C:=mkC 26 [12,13] [0,1,2,3,4,5,10,12,13] [⟨145,_,F145_ok⟩,⟨239,_,F239_ok⟩]) (mO _ _ _ _) (fO _) Tryz.func326 rfl rfl rfl (by decide) rfl ?_
 rintro⟨a0,(a1:Int),(a2:Int),(a3:Int),a4,(a5:Int),_⟩ hwf hpre ⟨⟩ hG rfl rfl
 show Vc _ _ [(0,⟨0,0,.c Z38 a0⟩),(1,⟨0,0,.c (.pure (.int .i64)) a1⟩),(2,⟨0,0,.c (.pure (.int .i64)) a2⟩),(3,⟨0,0,.c (.pure (.int .i64)) a3⟩),(4,⟨0,0,.c Z27 a4⟩),(5,⟨0,0,.c (.pure (.int .i64)) a5⟩)] _
 refine Vm hG rfl (Vq ?_)
 refine Vr hG rfl ?_ ?_
 · repeat' (first | exact trivial | refine And.intro ?_ ?_ | intro _)
 refine Vt ?_
 refine⟨?_,?_,trivial⟩
 all_goals exact rfl
noncomputable def P275:PFun:=⟨.pure Y18,[],[.pure Y53,.pair (.pure (.int .i64)) Z17],fun x _=>curOk x,fun x _=>(signD x).2,fun x _=>((signD x).1.1,(signD x).1.2,())⟩
theorem P275_ok:MeetsP Tryz.prog 275 P275:=by
 refine meetsP_of_vc (C:=mkCP 29 [2,3] [0,2,3,4,5,6] [⟨76,_,F76_ok⟩,⟨326,_,F326_ok⟩] [] [] [⟨270,_,P270_ok⟩,⟨74,_,P74_ok⟩] [0]) (mkCP_ok _ _ _ _ _ _ _ _) (fO _) Tryz.func275 rfl rfl rfl (by decide) rfl rfl rfl ?_ rfl
 rintro c ⟨_⟩ hwc hwf hpre ⟨⟩ hG rfl rfl
 show Vc _ _ [(0,⟨0,0,.c (.ref Z22) c⟩)] _
 refine Vm hG rfl (Vq ?_)
 refine Vr hG rfl ?_ ?_
 · repeat' (first | exact trivial | exact hpre | exact docD_ok hpre | exact below_ok (docD_ok hpre) | refine And.intro ?_ ?_ | intro _)
 refine Vq ?_
 refine Vr hG rfl ?_ ?_
 · repeat' (first | exact trivial | exact hpre | exact docD_ok hpre | exact below_ok (docD_ok hpre) | refine And.intro ?_ ?_ | intro _)
 refine Vq ?_
 refine VrD mixed hG rfl (by kernel_rfl) ?_ ?_
 · repeat' (first | exact trivial | exact hpre | exact docD_ok hpre | exact below_ok (docD_ok hpre) | refine And.intro ?_ ?_ | intro _)
 refine Vq (VrD mixed hG rfl (by kernel_rfl) (by trivial) (Vt ?_))
 refine⟨⟨?_,trivial⟩,?_,?_,trivial⟩
 all_goals exact rfl
noncomputable def F208:Fun:=⟨[.pair (.int .i64) Y50],[.pair (.pure (.int .i64)) Z16],fun _=>True,fun x=>(signPieceF x.1,())⟩
theorem F208_ok:Meets Tryz.prog 208 F208:=by
 refine mZ (C:=mkC 10 [2] [0,1,2] [⟨287,_,F287_ok⟩]) (mO _ _ _ _) (fO _) Tryz.func208 rfl rfl rfl (by decide) rfl ?_
 rintro⟨a0,_⟩ hwf hpre ⟨⟩ hG rfl rfl
 show Vc _ _ [(0,⟨0,0,.c Z54 a0⟩)] _
 refine Vm hG rfl (Vq (VrD mixed hG rfl (by kernel_rfl) (by trivial) (Vt ?_)))
 refine⟨?_,trivial⟩
 all_goals exact rfl
noncomputable def F346:Fun:=⟨[.pair (.int .i64) Y40],[.pure Y5],fun _=>True,fun x=>(certSpanF x.1,())⟩
theorem F346_ok:Meets Tryz.prog 346 F346:=by
 refine mZ (C:=mkC 8 [2] [0,1,2] []) (mO _ _ _ _) (fO _) Tryz.func346 rfl rfl rfl (by decide) rfl ?_
 rintro⟨a0,_⟩ hwf hpre ⟨⟩ hG rfl rfl
 show Vc _ _ [(0,⟨0,0,.c Z48 a0⟩)] _
 refine Vm hG rfl (Vm hG rfl (Vt ?_))
 refine⟨?_,trivial⟩
 all_goals exact rfl
noncomputable def F229:Fun:=⟨[.int .i64],[.pure (.bool)],fun _=>True,fun x=>(isTimeF x.1,())⟩
theorem F229_ok:Meets Tryz.prog 229 F229:=by
 refine mZ (C:=mkC 5 [2] [0,2] [⟨232,_,F232_ok⟩]) (mO _ _ _ _) (fO _) Tryz.func229 rfl rfl rfl (by decide) rfl ?_
 rintro⟨(a0:Int),_⟩ hwf hpre ⟨⟩ hG rfl rfl
 show Vc _ _ [(0,⟨0,0,.c (.pure (.int .i64)) a0⟩)] _
 refine Vm hG rfl (Vm hG rfl (Vt ?_))
 refine⟨?_,trivial⟩
 all_goals exact rfl
noncomputable def F299:Fun:=⟨[.pair (.int .i64) (.int .i64)],[.pure (.bool)],fun _=>True,fun x=>(isSpanF x.1,())⟩
theorem F299_ok:Meets Tryz.prog 299 F299:=by
 refine mZ (C:=mkC 18 [2] [0,1,2] [⟨229,_,F229_ok⟩]) (mO _ _ _ _) (fO _) Tryz.func299 rfl rfl rfl (by decide) rfl ?_
 rintro⟨a0,_⟩ hwf hpre ⟨⟩ hG rfl rfl
 show Vc _ _ [(0,⟨0,0,.c Z9 a0⟩)] _
 refine Vm hG rfl (Vq ?_)
 refine Vr hG rfl ?_ ?_
 · repeat' (first | exact trivial | refine And.intro ?_ ?_ | intro _)
 refine Vt ?_
 refine⟨?_,trivial⟩
 all_goals exact rfl
noncomputable def F335:Fun:=⟨[.pair (.int .i64) Y40],[.pure (.bool)],fun _=>True,fun x=>(isCertF x.1,())⟩
theorem F335_ok:Meets Tryz.prog 335 F335:=by
 refine mZ (C:=mkC 33 [2] [0,1,2] [⟨232,_,F232_ok⟩,⟨346,_,F346_ok⟩,⟨299,_,F299_ok⟩]) (mO _ _ _ _) (fO _) Tryz.func335 rfl rfl rfl (by decide) rfl ?_
 rintro⟨a0,_⟩ hwf hpre ⟨⟩ hG rfl rfl
 show Vc _ _ [(0,⟨0,0,.c Z48 a0⟩)] _
 refine Vm hG rfl (Vq ?_)
 refine Vr hG rfl ?_ ?_
 · repeat' (first | exact trivial | refine And.intro ?_ ?_ | intro _)
 refine Vt ?_
 refine⟨?_,trivial⟩
 all_goals exact rfl
noncomputable def F324:Fun:=⟨[.pair (.int .i64) Y40],[.own (.pure (.int .i64))],fun _=>True,fun x=>(certIntsF x.1,())⟩
theorem F324_ok:Meets Tryz.prog 324 F324:=by
 refine mZ (C:=mkC 16 [2] [0,1,2] []) (mO _ _ _ _) (fO _) Tryz.func324 rfl rfl rfl (by decide) rfl ?_
 rintro⟨a0,_⟩ hwf hpre ⟨⟩ hG rfl rfl
 show Vc _ _ [(0,⟨0,0,.c Z48 a0⟩)] _
 refine Vm hG rfl (Vm hG rfl (Vt ?_))
 refine⟨?_,trivial⟩
 all_goals exact rfl
noncomputable def F325:Fun:=⟨[.slice Y34,.pair (.int .i64) Y40],[.pure Y47,.pure (.bool)],fun _=>True,fun x=>((issueCertF x.1 x.2.1).1,(issueCertF x.1 x.2.1).2,())⟩
theorem F325_ok:Meets Tryz.prog 325 F325:=by
 refine mZ (C:=mkC 35 [4,5] [0,1,3,4,5,6,24] [⟨209,_,F209_ok⟩,⟨335,_,F335_ok⟩,⟨324,_,F324_ok⟩,⟨230,_,F230_ok⟩]) (mO _ _ _ _) (fO _) Tryz.func325 rfl rfl rfl (by decide) rfl ?_
 rintro⟨a0,a1,_⟩ hwf hpre ⟨⟩ hG rfl rfl
 show Vc _ _ [(0,⟨0,0,.c Z38 a0⟩),(1,⟨0,0,.c Z48 a1⟩)] _
 refine Vm hG rfl (Vq ?_)
 refine Vr hG rfl ?_ ?_
 · repeat' (first | exact trivial | exact icRange h0 | exact smallLit (n:=7) rfl (by decide) | refine And.intro ?_ ?_ | intro _)
 refine Vq (Vq ?_)
 refine Vr hG rfl ?_ ?_
 · repeat' (first | exact trivial | exact icRange h0 | exact smallLit (n:=7) rfl (by decide) | refine And.intro ?_ ?_ | intro _)
 refine Vk rfl ?_ ?_<;>intro h0
 · refine Vm hG rfl (Vt ?_)
   have e:issueCertF a0 a1=_:=(cT h0)
   refine⟨?_,?_,trivial⟩
   · exact(congrArg (fun r=>r.1) e).symm
   · exact(congrArg (fun r=>r.2) e).symm
 · refine Vs (Vq ?_)
   refine VrD mixed hG rfl (by kernel_rfl) ?_ ?_
   · repeat' (first | exact trivial | exact icRange h0 | exact smallLit (n:=7) rfl (by decide) | refine And.intro ?_ ?_ | intro _)
   refine Vm hG rfl (Vt ?_)
   have e:issueCertF a0 a1=_:=(cF h0)
   refine⟨?_,?_,trivial⟩
   · exact(congrArg (fun r=>r.1) e).symm
   · exact(congrArg (fun r=>r.2) e).symm
noncomputable def F272:Fun:=⟨[],[.own Z48],fun _=>True,fun x=>(certsT ,())⟩
theorem F272_ok:Meets Tryz.prog 272 F272:=by
 refine mZ (C:=mkC 29 [0] [0,1,3,5] [⟨76,_,F76_ok⟩,⟨325,_,F325_ok⟩]) (mO _ _ _ _) (fO _) Tryz.func272 rfl rfl rfl (by decide) rfl ?_
 rintro⟨_⟩ hwf hpre ⟨⟩ hG rfl rfl
 show Vc _ _ [] _
 refine Vm hG rfl (Vq ?_)
 refine Vr hG rfl ?_ ?_
 · repeat' (first | exact trivial | refine And.intro ?_ ?_ | intro _)
 refine Vq ?_
 refine Vr hG rfl ?_ ?_
 · repeat' (first | exact trivial | refine And.intro ?_ ?_ | intro _)
 refine Vq ?_
 refine Vr hG rfl ?_ ?_
 · repeat' (first | exact trivial | refine And.intro ?_ ?_ | intro _)
 refine Vm hG rfl (Vt ?_)
 refine⟨?_,trivial⟩
 all_goals exact rfl
noncomputable def F271:Fun:=⟨[.pair (.int .i64) Y40],[.pair (.pure (.int .i64)) Z16],fun _=>True,fun x=>(certPieceF x.1,())⟩
theorem F271_ok:Meets Tryz.prog 271 F271:=by
 refine mZ (C:=mkC 10 [2] [0,1,2] [⟨324,_,F324_ok⟩]) (mO _ _ _ _) (fO _) Tryz.func271 rfl rfl rfl (by decide) rfl ?_
 rintro⟨a0,_⟩ hwf hpre ⟨⟩ hG rfl rfl
 show Vc _ _ [(0,⟨0,0,.c Z48 a0⟩)] _
 refine Vm hG rfl (Vq (VrD mixed hG rfl (by kernel_rfl) (by trivial) (Vt ?_)))
 refine⟨?_,trivial⟩
 all_goals exact rfl
noncomputable def F246:Fun:=⟨[.pair (.int .i64) Y26],[.pure (.bool)],fun _=>True,fun x=>(isStatusF x.1,())⟩
theorem F246_ok:Meets Tryz.prog 246 F246:=by
 refine mZ (C:=mkC 24 [2] [0,1,2] [⟨232,_,F232_ok⟩,⟨229,_,F229_ok⟩]) (mO _ _ _ _) (fO _) Tryz.func246 rfl rfl rfl (by decide) rfl ?_
 rintro⟨a0,_⟩ hwf hpre ⟨⟩ hG rfl rfl
 show Vc _ _ [(0,⟨0,0,.c Z35 a0⟩)] _
 refine Vm hG rfl (Vq ?_)
 refine Vr hG rfl ?_ ?_
 · repeat' (first | exact trivial | refine And.intro ?_ ?_ | intro _)
 refine Vt ?_
 refine⟨?_,trivial⟩
 all_goals exact rfl
noncomputable def F247:Fun:=⟨[.pair (.int .i64) Y26],[.own (.pure (.int .i64))],fun _=>True,fun x=>(statusIntsF x.1,())⟩
theorem F247_ok:Meets Tryz.prog 247 F247:=by
 refine mZ (C:=mkC 12 [2] [0,1,2] []) (mO _ _ _ _) (fO _) Tryz.func247 rfl rfl rfl (by decide) rfl ?_
 rintro⟨a0,_⟩ hwf hpre ⟨⟩ hG rfl rfl
 show Vc _ _ [(0,⟨0,0,.c Z35 a0⟩)] _
 refine Vm hG rfl (Vm hG rfl (Vt ?_))
 refine⟨?_,trivial⟩
 all_goals exact rfl
noncomputable def F161:Fun:=⟨[.slice Y34,.pair (.int .i64) Y26],[.pure Y34,.pure (.bool)],fun _=>True,fun x=>((makeStatusF x.1 x.2.1).1,(makeStatusF x.1 x.2.1).2,())⟩
theorem F161_ok:Meets Tryz.prog 161 F161:=by
 refine mZ (C:=mkC 28 [4,5] [0,1,3,4,5,6,17] [⟨209,_,F209_ok⟩,⟨246,_,F246_ok⟩,⟨247,_,F247_ok⟩,⟨230,_,F230_ok⟩]) (mO _ _ _ _) (fO _) Tryz.func161 rfl rfl rfl (by decide) rfl ?_
 rintro⟨a0,a1,_⟩ hwf hpre ⟨⟩ hG rfl rfl
 show Vc _ _ [(0,⟨0,0,.c Z38 a0⟩),(1,⟨0,0,.c Z35 a1⟩)] _
 refine Vm hG rfl (Vq ?_)
 refine Vr hG rfl ?_ ?_
 · repeat' (first | exact trivial | exact sgRange h0 | exact smallLit (n:=5) rfl (by decide) | refine And.intro ?_ ?_ | intro _)
 refine Vq (Vq ?_)
 refine Vr hG rfl ?_ ?_
 · repeat' (first | exact trivial | exact sgRange h0 | exact smallLit (n:=5) rfl (by decide) | refine And.intro ?_ ?_ | intro _)
 refine Vk rfl ?_ ?_<;>intro h0
 · refine Vm hG rfl (Vt ?_)
   have e:makeStatusF a0 a1=_:=(cT h0)
   refine⟨?_,?_,trivial⟩
   · exact(congrArg (fun r=>r.1) e).symm
   · exact(congrArg (fun r=>r.2) e).symm
 · refine Vs (Vq ?_)
   refine VrD mixed hG rfl (by kernel_rfl) ?_ ?_
   · repeat' (first | exact trivial | exact sgRange h0 | exact smallLit (n:=5) rfl (by decide) | refine And.intro ?_ ?_ | intro _)
   refine Vm hG rfl (Vt ?_)
   have e:makeStatusF a0 a1=_:=(cF h0)
   refine⟨?_,?_,trivial⟩
   · exact(congrArg (fun r=>r.1) e).symm
   · exact(congrArg (fun r=>r.2) e).symm
noncomputable def P79:PFun:=⟨.pure Y18,[.int .i64],[.pure (.bool)],fun x xs=>(fun c (_:Int)=>curOk c) x xs.1,fun x xs=>(onceF x xs.1).2,fun x xs=>((onceF x xs.1).1,())⟩
theorem P79_ok:MeetsP Tryz.prog 79 P79:=by
 refine meetsP_of_vc (C:=mkCP 9 [4] [0,1,4] [] [] [] [⟨74,_,P74_ok⟩] [0]) (mkCP_ok _ _ _ _ _ _ _ _) (fO _) Tryz.func79 rfl rfl rfl (by decide) rfl rfl rfl ?_ rfl
 rintro c ⟨(a1:Int),_⟩ hwc hwf hpre ⟨⟩ hG rfl rfl
 show Vc _ _ [(0,⟨0,0,.c (.ref Z22) c⟩),(1,⟨0,0,.c (.pure (.int .i64)) a1⟩)] _
 refine Vm hG rfl (Vq ?_)
 refine Vr hG rfl ?_ ?_
 · repeat' (first | exact trivial | exact hpre | refine And.intro ?_ ?_ | intro _)
 refine Vt ?_
 refine⟨⟨?_,trivial⟩,?_,trivial⟩
 all_goals exact rfl
noncomputable def F163:Fun:=⟨[.pair (.int .i64) Y26],[.pair (.pure (.int .i64)) Z16],fun _=>True,fun x=>(statusPieceF x.1,())⟩
theorem F163_ok:Meets Tryz.prog 163 F163:=by
 refine mZ (C:=mkC 10 [2] [0,1,2] [⟨247,_,F247_ok⟩]) (mO _ _ _ _) (fO _) Tryz.func163 rfl rfl rfl (by decide) rfl ?_
 rintro⟨a0,_⟩ hwf hpre ⟨⟩ hG rfl rfl
 show Vc _ _ [(0,⟨0,0,.c Z35 a0⟩)] _
 refine Vm hG rfl (Vq (VrD mixed hG rfl (by kernel_rfl) (by trivial) (Vt ?_)))
 refine⟨?_,trivial⟩
 all_goals exact rfl
noncomputable def F248:Fun:=⟨[.pair (.int .i64) Y10],[.pair (.pure (.int .i64)) Z16],fun x=>Sm big20 Y19 x.1,fun x=>(id x.1,())⟩
theorem F248_ok:Meets Tryz.prog 248 F248:=by
 refine mZ (C:=mkC 12 [2] [0,1,2] []) (mO _ _ _ _) (fO _) Tryz.func248 rfl rfl rfl (by decide) rfl ?_
 rintro⟨a0,_⟩ hwf hpre ⟨⟩ hG rfl rfl
 show Vc _ _ [(0,⟨0,0,.c Z24 a0⟩)] _
 have hp:List.length a0.2.1≤big20:=hpre.2.1.1
 refine Vm hG rfl (Vq ?_)
 refine VrD mixed hG rfl (by kernel_rfl) ?_ ?_
 · exact appOk hp
 refine Vt ?_
 refine⟨?_,trivial⟩
 all_goals exact rfl
noncomputable def F244:Fun:=⟨[.slice Y19],[.own Z31],fun x=>Sm big20 Y25 x.1,fun x=>(id x.1,())⟩
theorem F244_ok:Meets Tryz.prog 244 F244:=by
 refine mZ (C:=mkC 21 [2] [0,2,3,4,9] [⟨248,_,F248_ok⟩]) (mO _ _ _ _) (fO _) Tryz.func244 rfl rfl rfl (by decide) rfl ?_
 rintro⟨a0,_⟩ hwf hpre ⟨⟩ hG rfl rfl
 show Vc _ _ [(0,⟨0,0,.c Z28 a0⟩)] _
 have hp:_∧_:=hpre
 have hb:List.length a0≤bigLen:=hwf.1.1
 refine Vm hG rfl (Vm hG rfl (Vq (Vm hG rfl ?_)))
 refine Vb ?_
 refine Vc.loopF [(3,false,.own Z31),(4,false,.pure (.int .i64))] [0,2] (fun v=>cpInv a0 v.1 v.2.1) (fun v=>((List.length a0:Int)-v.2.1).toNat) rfl ?_ ?_
 · exact cpStart
 rintro⟨acc,(i:Int),_⟩ hI
 have hI:cpInv a0 acc i:=hI
 refine Vq (Vm hG rfl ?_)
 refine Vk rfl ?_ ?_<;>intro h0
 · have hl:i<(List.length a0:Int):=oTr h0
   have hE:Sm big20 Y19 (List.getD a0 i.toNat (dflt Y19)):=hp.2 _ (upElem hI.1 hl)
   refine Vs (Vq (Vb ?_))
   refine Vr hG rfl ?_ ?_
   · exact⟨cpRange hI hl,hE,cpLen hI hl hp.1⟩
   refine Vn hG rfl ?_
   refine⟨rfl,?_⟩
   exact cpStep (d:=dflt Y19) hI hl hb rfl
 · have hl:¬i<(List.length a0:Int):=oFa h0
   refine Vx (Vm hG rfl (Vt ?_))
   refine⟨?_,trivial⟩
   exact cpEnd hI hl
noncomputable def F245:Fun:=⟨[.pair (.int .i64) Y55],[.pair (.pure (.int .i64)) Z60],fun x=>Sm big20 Y58 x.1,fun x=>(id x.1,())⟩
theorem F245_ok:Meets Tryz.prog 245 F245:=by
 refine mZ (C:=mkC 14 [2] [0,1,2] []) (mO _ _ _ _) (fO _) Tryz.func245 rfl rfl rfl (by decide) rfl ?_
 rintro⟨a0,_⟩ hwf hpre ⟨⟩ hG rfl rfl
 show Vc _ _ [(0,⟨0,0,.c Z59 a0⟩)] _
 have hp1:List.length a0.2.2.2.1≤big20:=hpre.2.2.2.1.1
 have hp2:List.length a0.2.2.2.2≤big20:=hpre.2.2.2.2.1
 refine Vm hG rfl (Vq ?_)
 refine Vr hG rfl ?_ ?_
 · exact appOk hp1
 refine Vq ?_
 refine Vr hG rfl ?_ ?_
 · exact appOk hp2
 refine Vm hG rfl (Vt ?_)
 refine⟨?_,trivial⟩
 all_goals exact rfl
noncomputable def F160:Fun:=⟨[.pair Y25 Y61],[.pair Z33 Z63],fun x=>Sm big20 Y64 x.1,fun x=>(id x.1,())⟩
theorem F160_ok:Meets Tryz.prog 160 F160:=by
 refine mZ (C:=mkC 28 [2] [0,1,2,3,4,13] [⟨244,_,F244_ok⟩,⟨245,_,F245_ok⟩]) (mO _ _ _ _) (fO _) Tryz.func160 rfl rfl rfl (by decide) rfl ?_
 rintro⟨a0,_⟩ hwf hpre ⟨⟩ hG rfl rfl
 show Vc _ _ [(0,⟨0,0,.c Z66 a0⟩)] _
 have hp0:Sm big20 Y25 a0.1:=hpre.1
 have hp:_∧_:=hpre.2
 have hb:List.length a0.2≤bigLen:=hwf.1.2.1
 refine Vm hG rfl (Vq ?_)
 refine Vr hG rfl ?_ ?_
 · exact hp0
 refine Vq (Vm hG rfl (Vb ?_))
 refine Vc.loopF [(3,true,.pair Z33 Z63),(4,false,.pure (.int .i64))] [0,1,2] (fun v=>v.1.1=a0.1∧cpInv a0.2 v.1.2 v.2.1) (fun v=>((List.length a0.2:Int)-v.2.1).toNat) rfl ?_ ?_
 · exact⟨rfl,cpStart⟩
 rintro⟨acc,(i:Int),_⟩ hI
 have hI:acc.1=a0.1∧cpInv a0.2 acc.2 i:=hI
 refine Vq (Vm hG rfl ?_)
 refine Vk rfl ?_ ?_<;>intro h0
 · have hl:i<(List.length a0.2:Int):=oTr h0
   have hE:Sm big20 Y58 (List.getD a0.2 i.toNat (dflt Y58)):=hp.2 _ (upElem hI.2.1 hl)
   refine Vs (Vq (Vb ?_))
   refine VrD mixed hG rfl (by kernel_rfl) ?_ ?_
   · exact⟨cpRange hI.2 hl,hE,cpLen hI.2 hl hp.1⟩
   refine Vn hG rfl ?_
   refine⟨rfl,?_⟩
   have e:=cpStep (d:=dflt Y58) hI.2 hl hb rfl
   exact⟨⟨hI.1,e.1⟩,e.2⟩
 · have hl:¬i<(List.length a0.2:Int):=oFa h0
   refine Vx (Vm hG rfl (Vt ?_))
   refine⟨?_,trivial⟩
   exact Prod.ext hI.1 (cpEnd hI.2 hl)
noncomputable def F349:Fun:=⟨[.slice (.int .i64),.slice (.int .i64)],[.pure (.bool)],fun _=>True,fun x=>(eqC x.1 x.2.1,())⟩
theorem F349_ok:Meets Tryz.prog 349 F349:=by
 refine mZ (C:=mkC 26 [4] [0,1,4,5,10,14,25] []) (mO _ _ _ _) (fO _) Tryz.func349 rfl rfl rfl (by decide) rfl ?_
 rintro⟨a0,a1,_⟩ hwf hpre ⟨⟩ hG rfl rfl
 show Vc _ _ [(0,⟨0,0,.c Z3 a0⟩),(1,⟨0,0,.c Z3 a1⟩)] _
 have hb0:List.length a0≤bigLen:=hwf.1.1
 refine Vm hG rfl (Vq (Vm hG rfl ?_))
 refine Vk rfl ?_ ?_<;>intro h0
 · refine Vm hG rfl (Vt ?_)
   refine⟨?_,trivial⟩
   refine eqC_no (fun e=>?_)
   have e:a0=a1:=e
   have g:((List.length a0:Int) != (List.length a1:Int))=true:=h0
   subst e
   exact bself g
 · have g0:((List.length a0:Int) != (List.length a1:Int))=false:=h0
   have f0_0:List.length a0=List.length a1:=(lenEq g0)
   refine Vs (Vq (Vm hG rfl (Vb ?_)))
   refine Vc.loopF [(5,false,.pure (.int .i64))] [0,1,10] (fun v=>eqInv a0 a1 v.1) (fun v=>((List.length a0:Int)-v.1).toNat) rfl ?_ ?_
   · exact eqStart f0_0
   rintro⟨(i0:Int),_⟩ hI0
   have hI0:eqInv a0 a1 i0:=hI0
   refine Vq (Vm hG rfl ?_)
   refine Vk rfl ?_ ?_<;>intro h1
   · have hl0:i0<(List.length a0:Int):=oTr h1
     refine Vs (Vq (Vb (Vq ?_)))
     refine VrD mixed hG rfl (by kernel_rfl) ?_ ?_
     · exact⟨(eqRange hI0 hl0).1,(eqRange hI0 hl0).2⟩
     refine Vk rfl ?_ ?_<;>intro h2
     · refine Vm hG rfl (Vt ?_)
       refine⟨?_,trivial⟩
       refine eqC_no (fun e=>?_)
       have e:a0=a1:=e
       have g:((List.getD a0 i0.toNat (dflt (.int .i64))) != (List.getD a1 i0.toNat (dflt (.int .i64))))=true:=h2
       subst e
       exact bself g
     · have g2:((List.getD a0 i0.toNat (dflt (.int .i64))) != (List.getD a1 i0.toNat (dflt (.int .i64))))=false:=h2
       have f2_0:(List.getD a0 i0.toNat (dflt (.int .i64)))=(List.getD a1 i0.toNat (dflt (.int .i64))):=(bneI g2)
       have s0:(List.getD a0 i0.toNat (dflt (.int .i64)))=(List.getD a1 i0.toNat (dflt (.int .i64))):=f2_0
       refine Vs (Vn hG rfl ?_)
       refine⟨rfl,?_⟩
       exact⟨eqStep (d:=dflt (.int .i64)) hI0 hl0 hb0 s0,(upStep hI0.1 hl0 hb0).2.2⟩
   · have hl0:¬i0<(List.length a0:Int):=oFa h1
     have e0:a0=a1:=eqEnd hI0 hl0
     refine Vx (Vm hG rfl (Vt ?_))
     refine⟨?_,trivial⟩
     exact eqC_yes e0
noncomputable def F303:Fun:=⟨[.pair (.int .i64) Y10,.pair (.int .i64) Y10],[.pure (.bool)],fun _=>True,fun x=>(eqC x.1 x.2.1,())⟩
theorem F303_ok:Meets Tryz.prog 303 F303:=by
 refine mZ (C:=mkC 24 [4] [0,1,2,3,4] [⟨349,_,F349_ok⟩]) (mO _ _ _ _) (fO _) Tryz.func303 rfl rfl rfl (by decide) rfl ?_
 rintro⟨a0,a1,_⟩ hwf hpre ⟨⟩ hG rfl rfl
 show Vc _ _ [(0,⟨0,0,.c Z24 a0⟩),(1,⟨0,0,.c Z24 a1⟩)] _
 refine Vm hG rfl (Vq ?_)
 refine Vr hG rfl ?_ ?_
 · repeat' (first | exact trivial | refine And.intro ?_ ?_ | intro _)
 refine Vt ?_
 refine⟨?_,trivial⟩
 refine eqC_by (fun e=>?_) (fun e=>?_)
 · have e:(pick2 (pick2 (a0.1==a1.1) (a0.2.2==a1.2.2) false) (eqC a0.2.1 a1.2.1) false)=true:=e
   have r_0:a0.1=a1.1:=(beqI2 (andT (andT e).1).1)
   have r_1:a0.2.2=a1.2.2:=(beqI2 (andT (andT e).1).2)
   have r_2:a0.2.1=a1.2.1:=(eqC_iff.1 (andT e).2)
   exact(Prod.ext r_0 (Prod.ext r_2 r_1))
 · have e:a0=a1:=e
   subst e
   exact(yesAnd (yesAnd beqSelf beqSelf) (eqC_self _))
noncomputable def F311:Fun:=⟨[.pair Y25 Y61,.pair (.int .i64) Y10],[.pure (.int .i64)],fun _=>True,fun x=>((fun a0 a1=>findI (fun x=>eqC x a1) a0.1) x.1 x.2.1,())⟩
theorem F311_ok:Meets Tryz.prog 311 F311:=by
 refine mZ (C:=mkC 21 [4] [0,1,2,3,4,5,10,19] [⟨303,_,F303_ok⟩]) (mO _ _ _ _) (fO _) Tryz.func311 rfl rfl rfl (by decide) rfl ?_
 rintro⟨a0,a1,_⟩ hwf hpre ⟨⟩ hG rfl rfl
 show Vc _ _ [(0,⟨0,0,.c Z66 a0⟩),(1,⟨0,0,.c Z24 a1⟩)] _
 have hb:List.length a0.1≤bigLen:=hwf.1.1.1
 refine Vm hG rfl (Vq (Vm hG rfl (Vb ?_)))
 refine Vc.loopF [(5,false,.pure (.int .i64))] [0,1,2,3] (fun v=>fInv (fun x=>eqC x a1) a0.1 v.1) (fun v=>((List.length a0.1:Int)-v.1).toNat) rfl ?_ ?_
 · exact fStart
 rintro⟨(i:Int),_⟩ hI
 have hI:fInv (fun x=>eqC x a1) a0.1 i:=hI
 refine Vq (Vm hG rfl ?_)
 refine Vk rfl ?_ ?_<;>intro h0
 · have hl:i<(List.length a0.1:Int):=oTr h0
   refine Vs (Vq (Vb (Vq ?_)))
   refine VrD mixed hG rfl (by kernel_rfl) ?_ ?_
   · exact⟨fRange hI hl,trivial⟩
   refine Vk rfl ?_ ?_<;>intro h1
   · have g1:(fun x=>eqC x a1) (List.getD a0.1 i.toNat (dflt Y19))=true:=h1
     refine Vm hG rfl (Vt ?_)
     refine⟨?_,trivial⟩
     exact fHit hI hl g1
   · have g1:(fun x=>eqC x a1) (List.getD a0.1 i.toNat (dflt Y19))=false:=h1
     refine Vs (Vn hG rfl ?_)
     refine⟨rfl,?_⟩
     exact fStep hI hl hb g1
 · have hl:¬i<(List.length a0.1:Int):=oFa h0
   refine Vx (Vm hG rfl (Vt ?_))
   refine⟨?_,trivial⟩
   exact fEnd hI hl
noncomputable def F249:Fun:=⟨[.pair Y25 Y61],[.pure (.bool)],fun _=>True,fun x=>(strandF x.1,())⟩
theorem F249_ok:Meets Tryz.prog 249 F249:=by
 refine mZ (C:=mkC 69 [2] [0,1,2,3,4,9,20,25,58] [⟨311,_,F311_ok⟩,⟨232,_,F232_ok⟩]) (mO _ _ _ _) (fO _) Tryz.func249 rfl rfl rfl (by decide) rfl ?_
 rintro⟨a0,_⟩ hwf hpre ⟨⟩ hG rfl rfl
 show Vc _ _ [(0,⟨0,0,.c Z66 a0⟩)] _
 have hb0:List.length a0.1≤bigLen:=hwf.1.1.1
 have hb1:List.length a0.2≤bigLen:=hwf.1.2.1
 refine Vm hG rfl (Vq (Vm hG rfl (Vb ?_)))
 refine Vc.loopF [(3,false,.pure (.int .i64))] [0,1,4,25,58] (fun v=>kInv (fun k=>newP a0 k) a0.1 v.1) (fun v=>((List.length a0.1:Int)-v.1).toNat) rfl ?_ ?_
 · exact kStart
 rintro⟨(i:Int),_⟩ hI0
 have hI0:kInv (fun k=>newP a0 k) a0.1 i:=hI0
 refine Vq (Vm hG rfl ?_)
 refine Vk rfl ?_ ?_<;>intro h0
 · have hl0:i<(List.length a0.1:Int):=oTr h0
   refine Vs (Vq (Vb (Vq ?_)))
   refine VrD mixed hG rfl (by kernel_rfl) ?_ ?_
   · exact⟨kRange hI0 hl0,trivial⟩
   refine Vk rfl ?_ ?_<;>intro h1
   · have g1:¬newP a0 i.toNat:=newBad hI0 hl0 (oTr h1)
     refine Vm hG rfl (Vt ?_)
     refine⟨?_,trivial⟩
     refine boolC_no (P:=strandP a0) (fun h=>?_)
     exact g1 (h.2.2.1 i.toNat (kLt hI0 hl0))
   · have g1:newP a0 i.toNat:=newGood hI0 hl0 (oFa h1)
     refine Vs (Vn hG rfl ?_)
     refine⟨rfl,?_⟩
     exact kStep hI0 hl0 hb0 g1
 · have hl0:¬i<(List.length a0.1:Int):=oFa h0
   refine Vx (Vq (Vm hG rfl (Vb ?_)))
   refine Vc.loopF [(4,false,.pure (.int .i64))] [0,1,3,9,20] (fun v=>kInv (fun k=>renP a0 k) a0.2 v.1) (fun v=>((List.length a0.2:Int)-v.1).toNat) rfl ?_ ?_
   · exact kStart
   rintro⟨(i:Int),_⟩ hI1
   have hI1:kInv (fun k=>renP a0 k) a0.2 i:=hI1
   refine Vq (Vm hG rfl ?_)
   refine Vk rfl ?_ ?_<;>intro h2
   · have hl1:i<(List.length a0.2:Int):=oTr h2
     refine Vs (Vq (Vb (Vq ?_)))
     refine VrD mixed hG rfl (by kernel_rfl) ?_ ?_
     · exact⟨kRange hI1 hl1,trivial,fun h2=>backRange hI1 hl1 hb1 (oTr h2),fun _=>kRange hI1 hl1⟩
     refine Vk rfl ?_ ?_<;>intro h3
     · have g3:renBadF a0 i=true:=h3
       refine Vm hG rfl (Vt ?_)
       refine⟨?_,trivial⟩
       refine boolC_no (P:=strandP a0) (fun h=>?_)
       exact renBad hI1 hl1 hb1 g3 (h.2.2.2 i.toNat (kLt hI1 hl1))
     · have g3:renBadF a0 i=false:=h3
       refine Vs (Vn hG rfl ?_)
       refine⟨rfl,?_⟩
       exact kStep hI1 hl1 hb1 (renGood hI1 hl1 hb1 g3)
   · have hl1:¬i<(List.length a0.2:Int):=oFa h2
     refine Vx (Vq ?_)
     refine Vr hG rfl ?_ ?_
     · repeat' (first | exact trivial | refine And.intro ?_ ?_ | intro _)
     refine Vt ?_
     refine⟨?_,trivial⟩
     refine boolC_by (P:=strandP a0) (fun e=>?_) (fun h=>?_)
     · exact⟨(andT e).1,oTr (andT e).2,kEnd hI0 hl0,kEnd hI1 hl1⟩
     · exact yesAnd h.1 (decide_eq_true h.2.1)
noncomputable def F162:Fun:=⟨[.pair Y25 Y61,.pair (.int .i64) Y10],[.pair Z33 Z63,.pure (.bool)],fun x=>(fun(s:Strand) (p:Piece)=>Sm big20 Y64 s∧Sm big20 Y19 p) x.1 x.2.1,fun x=>((addPieceF x.1 x.2.1).1,(addPieceF x.1 x.2.1).2,())⟩
theorem F162_ok:Meets Tryz.prog 162 F162:=by
 refine mZ (C:=mkC 22 [4,5] [0,1,2,3,4,5,6,18] [⟨160,_,F160_ok⟩,⟨248,_,F248_ok⟩,⟨249,_,F249_ok⟩]) (mO _ _ _ _) (fO _) Tryz.func162 rfl rfl rfl (by decide) rfl ?_
 rintro⟨a0,a1,_⟩ hwf hpre ⟨⟩ hG rfl rfl
 show Vc _ _ [(0,⟨0,0,.c Z66 a0⟩),(1,⟨0,0,.c Z24 a1⟩)] _
 have hp1:Sm big20 Y64 a0:=hpre.1
 have hp2:Sm big20 Y19 a1:=hpre.2
 refine Vm hG rfl (Vq ?_)
 refine Vr hG rfl ?_ ?_
 · exact hp1
 refine Vq ?_
 refine VrD mixed hG rfl (by kernel_rfl) ?_ ?_
 · exact⟨hp2,apLen hp1.1.1⟩
 refine Vq (Vm hG rfl ?_)
 refine Vk rfl ?_ ?_<;>intro h0
 · have g0:(!(strandF (a0.1++[a1],a0.2)))=true:=h0
   refine Vq ?_
   refine Vr hG rfl ?_ ?_
   · exact hp1
   refine Vt ?_
   have e:=ap0 g0
   refine⟨?_,?_,trivial⟩
   · exact(congrArg Prod.fst e).symm
   · exact(congrArg Prod.snd e).symm
 · have g0:(!(strandF (a0.1++[a1],a0.2)))=false:=h0
   refine Vs (Vm hG rfl (Vt ?_))
   have e:=ap1 g0
   refine⟨?_,?_,trivial⟩
   · exact(congrArg Prod.fst e).symm
   · exact(congrArg Prod.snd e).symm
noncomputable def P273:PFun:=⟨.pure Y18,[],[.pure Y34],fun x _=>curOk x,fun x _=>(statD x).2,fun x _=>((statD x).1,())⟩
theorem P273_ok:MeetsP Tryz.prog 273 P273:=by
 refine meetsP_of_vc (C:=mkCP 29 [2] [0,2,3,4,16] [⟨76,_,F76_ok⟩,⟨161,_,F161_ok⟩] [] [] [⟨74,_,P74_ok⟩,⟨79,_,P79_ok⟩] [0]) (mkCP_ok _ _ _ _ _ _ _ _) (fO _) Tryz.func273 rfl rfl rfl (by decide) rfl rfl rfl ?_ rfl
 rintro c ⟨_⟩ hwc hwf hpre ⟨⟩ hG rfl rfl
 show Vc _ _ [(0,⟨0,0,.c (.ref Z22) c⟩)] _
 refine Vm hG rfl (Vq ?_)
 refine Vr hG rfl ?_ ?_
 · repeat' (first | exact trivial | exact hpre | exact below_ok hpre | exact below_ok (below_ok hpre) | exact below_ok (below_ok (below_ok hpre)) | exact dst4_ok hpre | refine And.intro ?_ ?_ | intro _)
 refine Vq ?_
 refine Vr hG rfl ?_ ?_
 · repeat' (first | exact trivial | exact hpre | exact below_ok hpre | exact below_ok (below_ok hpre) | exact below_ok (below_ok (below_ok hpre)) | exact dst4_ok hpre | refine And.intro ?_ ?_ | intro _)
 refine Vq (Vq ?_)
 refine Vr hG rfl ?_ ?_
 · repeat' (first | exact trivial | exact hpre | exact below_ok hpre | exact below_ok (below_ok hpre) | exact below_ok (below_ok (below_ok hpre)) | exact dst4_ok hpre | refine And.intro ?_ ?_ | intro _)
 refine Vk rfl ?_ ?_<;>intro h0
 · refine Vr hG rfl ?_ ?_
   · repeat' (first | exact trivial | exact hpre | exact below_ok hpre | exact below_ok (below_ok hpre) | exact below_ok (below_ok (below_ok hpre)) | exact dst4_ok hpre | refine And.intro ?_ ?_ | intro _)
   refine Vq ?_
   refine VrD mixed hG rfl (by kernel_rfl) ?_ ?_
   · repeat' (first | exact trivial | exact hpre | exact below_ok hpre | exact below_ok (below_ok hpre) | exact below_ok (below_ok (below_ok hpre)) | exact dst4_ok hpre | refine And.intro ?_ ?_ | intro _)
   refine Vm hG rfl (Vt ?_)
   have e:statD c=_:=(cT h0)
   refine⟨⟨?_,trivial⟩,?_,trivial⟩
   · exact(congrArg Prod.snd e).symm
   · exact(congrArg (fun r=>r.1) e).symm
 · refine Vs (Vq ?_)
   refine VrD mixed hG rfl (by kernel_rfl) ?_ ?_
   · repeat' (first | exact trivial | exact hpre | exact below_ok hpre | exact below_ok (below_ok hpre) | exact below_ok (below_ok (below_ok hpre)) | exact dst4_ok hpre | refine And.intro ?_ ?_ | intro _)
   refine Vm hG rfl (Vt ?_)
   have e:statD c=_:=(cF h0)
   refine⟨⟨?_,trivial⟩,?_,trivial⟩
   · exact(congrArg Prod.snd e).symm
   · exact(congrArg (fun r=>r.1) e).symm
noncomputable def F228:Fun:=⟨[.slice Y15,.int .i64],[.pure (.int .i64)],fun _=>True,fun x=>((fun a0 a1=>findI (fun x=>x.1==a1) a0) x.1 x.2.1,())⟩
theorem F228_ok:Meets Tryz.prog 228 F228:=by
 refine mZ (C:=mkC 20 [4] [0,1,4,5,9,18] []) (mO _ _ _ _) (fO _) Tryz.func228 rfl rfl rfl (by decide) rfl ?_
 rintro⟨a0,(a1:Int),_⟩ hwf hpre ⟨⟩ hG rfl rfl
 show Vc _ _ [(0,⟨0,0,.c Z23 a0⟩),(1,⟨0,0,.c (.pure (.int .i64)) a1⟩)] _
 have hb:List.length a0≤bigLen:=hwf.1.1
 refine Vm hG rfl (Vq (Vm hG rfl (Vb ?_)))
 refine Vc.loopF [(5,false,.pure (.int .i64))] [0,1] (fun v=>fInv (fun x=>x.1==a1) a0 v.1) (fun v=>((List.length a0:Int)-v.1).toNat) rfl ?_ ?_
 · exact fStart
 rintro⟨(i:Int),_⟩ hI
 have hI:fInv (fun x=>x.1==a1) a0 i:=hI
 refine Vq (Vm hG rfl ?_)
 refine Vk rfl ?_ ?_<;>intro h0
 · have hl:i<(List.length a0:Int):=oTr h0
   refine Vs (Vq (Vb (Vq ?_)))
   refine Vr hG rfl ?_ ?_
   · exact fRange hI hl
   refine Vk rfl ?_ ?_<;>intro h1
   · have g1:(fun x=>x.1==a1) (List.getD a0 i.toNat (dflt Y15))=true:=h1
     refine Vm hG rfl (Vt ?_)
     refine⟨?_,trivial⟩
     exact fHit hI hl g1
   · have g1:(fun x=>x.1==a1) (List.getD a0 i.toNat (dflt Y15))=false:=h1
     refine Vs (Vn hG rfl ?_)
     refine⟨rfl,?_⟩
     exact fStep hI hl hb g1
 · have hl:¬i<(List.length a0:Int):=oFa h0
   refine Vx (Vm hG rfl (Vt ?_))
   refine⟨?_,trivial⟩
   exact fEnd hI hl
noncomputable def F231:Fun:=⟨[.pair (.int .i64) Y26],[.own (.pure (.int .i64))],fun _=>True,fun x=>(stampIntsF x.1,())⟩
theorem F231_ok:Meets Tryz.prog 231 F231:=by
 refine mZ (C:=mkC 12 [2] [0,1,2] []) (mO _ _ _ _) (fO _) Tryz.func231 rfl rfl rfl (by decide) rfl ?_
 rintro⟨a0,_⟩ hwf hpre ⟨⟩ hG rfl rfl
 show Vc _ _ [(0,⟨0,0,.c Z35 a0⟩)] _
 refine Vm hG rfl (Vm hG rfl (Vt ?_))
 refine⟨?_,trivial⟩
 all_goals exact rfl
noncomputable def F149:Fun:=⟨[.slice Y34,.slice Y15,.pair (.int .i64) Y26],[.pure Y34,.pure (.bool)],fun _=>True,fun x=>((makeStampF x.1 x.2.1 x.2.2.1).1,(makeStampF x.1 x.2.1 x.2.2.1).2,())⟩
theorem F149_ok:Meets Tryz.prog 149 F149:=by
 refine mZ (C:=mkC 47 [6,7] [0,1,2,5,6,7,8,9,26,36] [⟨228,_,F228_ok⟩,⟨229,_,F229_ok⟩,⟨209,_,F209_ok⟩,⟨231,_,F231_ok⟩,⟨230,_,F230_ok⟩]) (mO _ _ _ _) (fO _) Tryz.func149 rfl rfl rfl (by decide) rfl ?_
 rintro⟨a0,a1,a2,_⟩ hwf hpre ⟨⟩ hG rfl rfl
 show Vc _ _ [(0,⟨0,0,.c Z38 a0⟩),(1,⟨0,0,.c Z23 a1⟩),(2,⟨0,0,.c Z35 a2⟩)] _
 refine Vm hG rfl (Vm hG rfl (Vq (Vq ?_)))
 refine Vr hG rfl ?_ ?_
 · intro _;exact trivial
 refine Vk rfl ?_ ?_<;>intro h0
 · have g0:stampBad a1 a2=true:=h0
   refine Vm hG rfl (Vt ?_)
   have e:=ms_1 (keys:=a0) g0
   refine⟨?_,?_,trivial⟩
   · exact(congrArg Prod.fst e).symm
   · exact(congrArg Prod.snd e).symm
 · have g0:stampBad a1 a2=false:=h0
   refine Vs (Vq ?_)
   refine Vr hG rfl ?_ ?_
   · exact⟨bad_idx g0,trivial⟩
   refine Vq (Vm hG rfl ?_)
   refine Vk rfl ?_ ?_<;>intro h1
   · have g1:keyI a0 (authAt a1 a2.1).2.1<0:=oTr h1
     refine Vm hG rfl (Vt ?_)
     have e:=ms_2 (keys:=a0) g0 g1
     refine⟨?_,?_,trivial⟩
     · exact(congrArg Prod.fst e).symm
     · exact(congrArg Prod.snd e).symm
   · have g1:¬keyI a0 (authAt a1 a2.1).2.1<0:=oFa h1
     refine Vs (Vq ?_)
     refine VrD mixed hG rfl (by kernel_rfl) ?_ ?_
     · exact⟨findRange g1,trivial,smallLit (n:=5) rfl (by decide)⟩
     refine Vm hG rfl (Vt ?_)
     have e:=ms_3 (keys:=a0) g0 g1
     refine⟨?_,?_,trivial⟩
     · exact(congrArg Prod.fst e).symm
     · exact(congrArg Prod.snd e).symm
noncomputable def P259:PFun:=⟨.pure Y18,[],[.pure Y34],fun x _=>curOk x,fun x _=>(stampD x).2,fun x _=>((stampD x).1,())⟩
theorem P259_ok:MeetsP Tryz.prog 259 P259:=by
 refine meetsP_of_vc (C:=mkCP 22 [2] [0,2,3] [⟨76,_,F76_ok⟩,⟨77,_,F77_ok⟩,⟨149,_,F149_ok⟩] [] [] [⟨74,_,P74_ok⟩] [0]) (mkCP_ok _ _ _ _ _ _ _ _) (fO _) Tryz.func259 rfl rfl rfl (by decide) rfl rfl rfl ?_ rfl
 rintro c ⟨_⟩ hwc hwf hpre ⟨⟩ hG rfl rfl
 show Vc _ _ [(0,⟨0,0,.c (.ref Z22) c⟩)] _
 refine Vm hG rfl (Vq ?_)
 refine Vr hG rfl ?_ ?_
 · repeat' (first | exact trivial | exact hpre | exact below_ok hpre | exact below_ok (below_ok hpre) | exact below_ok (below_ok (below_ok hpre)) | refine And.intro ?_ ?_ | intro _)
 refine Vm hG rfl (Vt ?_)
 refine⟨⟨?_,trivial⟩,?_,trivial⟩
 all_goals exact rfl
noncomputable def F274:Fun:=⟨[.slice Y15,.pair (.int .i64) Y26],[.pure (.int .i64)],fun _=>True,fun x=>(stampKeyF x.1 x.2.1,())⟩
theorem F274_ok:Meets Tryz.prog 274 F274:=by
 refine mZ (C:=mkC 17 [4] [0,1,3,4,5,11] [⟨228,_,F228_ok⟩]) (mO _ _ _ _) (fO _) Tryz.func274 rfl rfl rfl (by decide) rfl ?_
 rintro⟨a0,a1,_⟩ hwf hpre ⟨⟩ hG rfl rfl
 show Vc _ _ [(0,⟨0,0,.c Z23 a0⟩),(1,⟨0,0,.c Z35 a1⟩)] _
 refine Vm hG rfl (Vm hG rfl (Vq (Vm hG rfl ?_)))
 refine Vk rfl ?_ ?_<;>intro h0
 · have g0:authI a0 a1.1<0:=oTr h0
   refine Vm hG rfl (Vt ?_)
   refine⟨?_,trivial⟩
   exact stampKey0 g0
 · have g0:¬authI a0 a1.1<0:=oFa h0
   refine Vs (Vq ?_)
   refine Vr hG rfl ?_ ?_
   · exact findRange g0
   refine Vt ?_
   refine⟨?_,trivial⟩
   exact stampKey1 g0
noncomputable def F240:Fun:=⟨[.int .i64,.pair (.int .i64) Y26],[.pair (.pure (.int .i64)) Z16],fun _=>True,fun x=>(stampPieceF x.1 x.2.1,())⟩
theorem F240_ok:Meets Tryz.prog 240 F240:=by
 refine mZ (C:=mkC 11 [4] [0,1,3,4] [⟨231,_,F231_ok⟩]) (mO _ _ _ _) (fO _) Tryz.func240 rfl rfl rfl (by decide) rfl ?_
 rintro⟨(a0:Int),a1,_⟩ hwf hpre ⟨⟩ hG rfl rfl
 show Vc _ _ [(0,⟨0,0,.c (.pure (.int .i64)) a0⟩),(1,⟨0,0,.c Z35 a1⟩)] _
 refine Vm hG rfl (Vq (VrD mixed hG rfl (by kernel_rfl) (by trivial) (Vt ?_)))
 refine⟨?_,trivial⟩
 all_goals exact rfl
noncomputable def F309:Fun:=⟨[.pair (.int .i64) Y34],[.pure (.bool)],fun _=>True,fun x=>(isMandF x.1,())⟩
theorem F309_ok:Meets Tryz.prog 309 F309:=by
 refine mZ (C:=mkC 24 [2] [0,1,2] [⟨232,_,F232_ok⟩,⟨299,_,F299_ok⟩]) (mO _ _ _ _) (fO _) Tryz.func309 rfl rfl rfl (by decide) rfl ?_
 rintro⟨a0,_⟩ hwf hpre ⟨⟩ hG rfl rfl
 show Vc _ _ [(0,⟨0,0,.c Z43 a0⟩)] _
 refine Vm hG rfl (Vq ?_)
 refine Vr hG rfl ?_ ?_
 · repeat' (first | exact trivial | refine And.intro ?_ ?_ | intro _)
 refine Vt ?_
 refine⟨?_,trivial⟩
 all_goals exact rfl
noncomputable def F310:Fun:=⟨[.pair (.int .i64) Y34],[.own (.pure (.int .i64))],fun _=>True,fun x=>(mandIntsF x.1,())⟩
theorem F310_ok:Meets Tryz.prog 310 F310:=by
 refine mZ (C:=mkC 14 [2] [0,1,2] []) (mO _ _ _ _) (fO _) Tryz.func310 rfl rfl rfl (by decide) rfl ?_
 rintro⟨a0,_⟩ hwf hpre ⟨⟩ hG rfl rfl
 show Vc _ _ [(0,⟨0,0,.c Z43 a0⟩)] _
 refine Vm hG rfl (Vm hG rfl (Vt ?_))
 refine⟨?_,trivial⟩
 all_goals exact rfl
noncomputable def F241:Fun:=⟨[.slice Y34,.pair (.int .i64) Y34],[.pure Y40,.pure (.bool)],fun _=>True,fun x=>((makeMandF x.1 x.2.1).1,(makeMandF x.1 x.2.1).2,())⟩
theorem F241_ok:Meets Tryz.prog 241 F241:=by
 refine mZ (C:=mkC 28 [4,5] [0,1,3,4,5,6,17] [⟨209,_,F209_ok⟩,⟨309,_,F309_ok⟩,⟨310,_,F310_ok⟩,⟨230,_,F230_ok⟩]) (mO _ _ _ _) (fO _) Tryz.func241 rfl rfl rfl (by decide) rfl ?_
 rintro⟨a0,a1,_⟩ hwf hpre ⟨⟩ hG rfl rfl
 show Vc _ _ [(0,⟨0,0,.c Z38 a0⟩),(1,⟨0,0,.c Z43 a1⟩)] _
 refine Vm hG rfl (Vq ?_)
 refine Vr hG rfl ?_ ?_
 · repeat' (first | exact trivial | exact sgRange h0 | exact smallLit (n:=6) rfl (by decide) | refine And.intro ?_ ?_ | intro _)
 refine Vq (Vq ?_)
 refine Vr hG rfl ?_ ?_
 · repeat' (first | exact trivial | exact sgRange h0 | exact smallLit (n:=6) rfl (by decide) | refine And.intro ?_ ?_ | intro _)
 refine Vk rfl ?_ ?_<;>intro h0
 · refine Vm hG rfl (Vt ?_)
   have e:makeMandF a0 a1=_:=(cT h0)
   refine⟨?_,?_,trivial⟩
   · exact(congrArg (fun r=>r.1) e).symm
   · exact(congrArg (fun r=>r.2) e).symm
 · refine Vs (Vq ?_)
   refine VrD mixed hG rfl (by kernel_rfl) ?_ ?_
   · repeat' (first | exact trivial | exact sgRange h0 | exact smallLit (n:=6) rfl (by decide) | refine And.intro ?_ ?_ | intro _)
   refine Vm hG rfl (Vt ?_)
   have e:makeMandF a0 a1=_:=(cF h0)
   refine⟨?_,?_,trivial⟩
   · exact(congrArg (fun r=>r.1) e).symm
   · exact(congrArg (fun r=>r.2) e).symm
noncomputable def P276:PFun:=⟨.pure Y18,[],[.pure Y40],fun x _=>curOk x,fun x _=>(mandD x).2,fun x _=>((mandD x).1,())⟩
theorem P276_ok:MeetsP Tryz.prog 276 P276:=by
 refine meetsP_of_vc (C:=mkCP 23 [2] [0,2,3,4] [⟨76,_,F76_ok⟩,⟨241,_,F241_ok⟩] [] [] [⟨74,_,P74_ok⟩] [0]) (mkCP_ok _ _ _ _ _ _ _ _) (fO _) Tryz.func276 rfl rfl rfl (by decide) rfl rfl rfl ?_ rfl
 rintro c ⟨_⟩ hwc hwf hpre ⟨⟩ hG rfl rfl
 show Vc _ _ [(0,⟨0,0,.c (.ref Z22) c⟩)] _
 refine Vm hG rfl (Vq ?_)
 refine Vr hG rfl ?_ ?_
 · repeat' (first | exact trivial | exact hpre | exact below_ok hpre | exact below_ok (below_ok hpre) | exact below_ok (below_ok (below_ok hpre)) | refine And.intro ?_ ?_ | intro _)
 refine Vq ?_
 refine Vr hG rfl ?_ ?_
 · repeat' (first | exact trivial | exact hpre | exact below_ok hpre | exact below_ok (below_ok hpre) | exact below_ok (below_ok (below_ok hpre)) | refine And.intro ?_ ?_ | intro _)
 refine Vm hG rfl (Vt ?_)
 refine⟨⟨?_,trivial⟩,?_,trivial⟩
 all_goals exact rfl
noncomputable def F243:Fun:=⟨[.pair (.int .i64) Y34],[.pair (.pure (.int .i64)) Z16],fun _=>True,fun x=>(mandPieceF x.1,())⟩
theorem F243_ok:Meets Tryz.prog 243 F243:=by
 refine mZ (C:=mkC 10 [2] [0,1,2] [⟨310,_,F310_ok⟩]) (mO _ _ _ _) (fO _) Tryz.func243 rfl rfl rfl (by decide) rfl ?_
 rintro⟨a0,_⟩ hwf hpre ⟨⟩ hG rfl rfl
 show Vc _ _ [(0,⟨0,0,.c Z43 a0⟩)] _
 refine Vm hG rfl (Vq (VrD mixed hG rfl (by kernel_rfl) (by trivial) (Vt ?_)))
 refine⟨?_,trivial⟩
 all_goals exact rfl
noncomputable def P201:PFun:=⟨.pure Y18,[],[.pair (.pure (.int .i64)) Z16],fun x _=>curOk x,fun x _=>(pieceD x).2,fun x _=>((pieceD x).1,())⟩
theorem P201_ok:MeetsP Tryz.prog 201 P201:=by
 refine meetsP_of_vc (C:=mkCP 42 [2] [0,2,3,4,7,8,16,21,30] [⟨272,_,F272_ok⟩,⟨271,_,F271_ok⟩,⟨163,_,F163_ok⟩,⟨77,_,F77_ok⟩,⟨274,_,F274_ok⟩,⟨240,_,F240_ok⟩,⟨208,_,F208_ok⟩,⟨243,_,F243_ok⟩] [] [] [⟨74,_,P74_ok⟩,⟨273,_,P273_ok⟩,⟨259,_,P259_ok⟩,⟨275,_,P275_ok⟩,⟨276,_,P276_ok⟩] [0]) (mkCP_ok _ _ _ _ _ _ _ _) (fO _) Tryz.func201 rfl rfl rfl (by decide) rfl rfl rfl ?_ rfl
 rintro c ⟨_⟩ hwc hwf hpre ⟨⟩ hG rfl rfl
 show Vc _ _ [(0,⟨0,0,.c (.ref Z22) c⟩)] _
 refine Vm hG rfl (Vq (Vq ?_))
 refine Vr hG rfl ?_ ?_
 · repeat' (first | exact trivial | exact hpre | exact below_ok hpre | exact certIdx _ | refine And.intro ?_ ?_ | intro _)
 refine Vb (Vm hG rfl ?_)
 refine Vk rfl ?_ ?_<;>intro h0
 · refine Vq ?_
   refine Vr hG rfl ?_ ?_
   · repeat' (first | exact trivial | exact hpre | exact below_ok hpre | exact certIdx _ | refine And.intro ?_ ?_ | intro _)
   refine Vt ?_
   have e:pieceD c=_:=(cT h0)
   refine⟨⟨?_,trivial⟩,?_,trivial⟩
   · exact(congrArg Prod.snd e).symm
   · exact(congrArg (fun r=>r.1) e).symm
 · refine Vm hG rfl ?_
   refine Vk rfl ?_ ?_<;>intro h1
   · refine Vq ?_
     refine Vr hG rfl ?_ ?_
     · repeat' (first | exact trivial | exact hpre | exact below_ok hpre | exact certIdx _ | refine And.intro ?_ ?_ | intro _)
     refine Vt ?_
     have e:pieceD c=_:=((cF h0).trans (cT h1))
     refine⟨⟨?_,trivial⟩,?_,trivial⟩
     · exact(congrArg Prod.snd e).symm
     · exact(congrArg (fun r=>r.1) e).symm
   · refine Vm hG rfl ?_
     refine Vk rfl ?_ ?_<;>intro h2
     · refine Vq ?_
       refine Vr hG rfl ?_ ?_
       · repeat' (first | exact trivial | exact hpre | exact below_ok hpre | exact certIdx _ | refine And.intro ?_ ?_ | intro _)
       refine Vq ?_
       refine VrD mixed hG rfl (by kernel_rfl) ?_ ?_
       · repeat' (first | exact trivial | exact hpre | exact below_ok hpre | exact certIdx _ | refine And.intro ?_ ?_ | intro _)
       refine Vt ?_
       have e:pieceD c=_:=((cF h0).trans ((cF h1).trans (cT h2)))
       refine⟨⟨?_,trivial⟩,?_,trivial⟩
       · exact(congrArg Prod.snd e).symm
       · exact(congrArg (fun r=>r.1) e).symm
     · refine Vm hG rfl ?_
       refine Vk rfl ?_ ?_<;>intro h3
       · refine Vq ?_
         refine Vr hG rfl ?_ ?_
         · repeat' (first | exact trivial | exact hpre | exact below_ok hpre | exact certIdx _ | refine And.intro ?_ ?_ | intro _)
         refine Vq ?_
         refine Vr hG rfl ?_ ?_
         · repeat' (first | exact trivial | exact hpre | exact below_ok hpre | exact certIdx _ | refine And.intro ?_ ?_ | intro _)
         refine Vt ?_
         have e:pieceD c=_:=((cF h0).trans ((cF h1).trans ((cF h2).trans (cT h3))))
         refine⟨⟨?_,trivial⟩,?_,trivial⟩
         · exact(congrArg Prod.snd e).symm
         · exact(congrArg (fun r=>r.1) e).symm
       · refine Vs (Vq ?_)
         refine Vr hG rfl ?_ ?_
         · repeat' (first | exact trivial | exact hpre | exact below_ok hpre | exact certIdx _ | refine And.intro ?_ ?_ | intro _)
         refine Vt ?_
         have e:pieceD c=_:=((cF h0).trans ((cF h1).trans ((cF h2).trans (cF h3))))
         refine⟨⟨?_,trivial⟩,?_,trivial⟩
         · exact(congrArg Prod.snd e).symm
         · exact(congrArg (fun r=>r.1) e).symm
noncomputable def P237:PFun:=⟨.pure Y18,[],[.pair Z33 Z63,.pair (.pure (.int .i64)) Z17,.pure Y53],fun x _=>curOk x,fun x _=>(signedD x).2,fun x _=>((signedD x).1.1,(signedD x).1.2.1,(signedD x).1.2.2,())⟩
theorem P237_ok:MeetsP Tryz.prog 237 P237:=by
 refine meetsP_of_vc (C:=mkCP 66 [2,3,4] [0,2,3,4,5,6,7,8,46,55] [⟨208,_,F208_ok⟩,⟨272,_,F272_ok⟩,⟨271,_,F271_ok⟩,⟨76,_,F76_ok⟩,⟨161,_,F161_ok⟩,⟨163,_,F163_ok⟩,⟨162,_,F162_ok⟩] [] [] [⟨275,_,P275_ok⟩,⟨138,_,P138_ok⟩,⟨79,_,P79_ok⟩,⟨201,_,P201_ok⟩] [0]) (mkCP_ok _ _ _ _ _ _ _ _) (fO _) Tryz.func237 rfl rfl rfl (by decide) rfl rfl rfl ?_ rfl
 rintro c ⟨_⟩ hwc hwf hpre ⟨⟩ hG rfl rfl
 show Vc _ _ [(0,⟨0,0,.c (.ref Z22) c⟩)] _
 refine Vm hG rfl (Vq ?_)
 refine Vr hG rfl ?_ ?_
 · exact hpre
 refine Vq ?_
 refine VrD mixed hG rfl (by kernel_rfl) ?_ ?_
 · repeat' (first | exact trivial | exact signD_idx hpre | refine And.intro ?_ ?_ | intro _)
 refine Vq ?_
 refine VrD mixed hG rfl (by kernel_rfl) ?_ ?_
 · repeat' (first | exact trivial | exact signD_idx hpre | exact signD_ok hpre | exact Nat.succ_pos _ | refine And.intro ?_ ?_ | intro _)
 refine Vq (Vq ?_)
 refine Vr hG rfl ?_ ?_
 · exact sg2_ok hpre
 refine Vk rfl ?_ ?_<;>intro h0
 · refine VrL mixed hG rfl (by kernel_rfl) ?_ ?_
   · exact⟨trivial,sgS_sm c,statPiece_sm _⟩
   refine Vq (Vq ?_)
   refine Vr hG rfl ?_ ?_
   · exact sg3_ok hpre
   refine Vk rfl ?_ ?_<;>intro h1
   · refine VrL mixed hG rfl (by kernel_rfl) ?_ ?_
     · first
         | exact⟨sg4_ok hpre,sgS2_sm c,pieceD_sm _⟩
         | exact⟨sg4_ok hpre,sgS_sm c,pieceD_sm _⟩
     refine Vq (VrD mixed hG rfl (by kernel_rfl) (by trivial) (Vt ?_))
     have e:signedD c=_:=((signed_eq c).trans ((cT h0).trans (cT h1)))
     refine⟨⟨?_,trivial⟩,?_,?_,?_,trivial⟩
     · exact(congrArg Prod.snd e).symm
     · exact(congrArg (fun r=>r.1.1) e).symm
     · exact(congrArg (fun r=>r.1.2.1) e).symm
     · exact(congrArg (fun r=>r.1.2.2) e).symm
   · refine Vs (Vq (VrD mixed hG rfl (by kernel_rfl) (by trivial) (Vt ?_)))
     have e:signedD c=_:=((signed_eq c).trans ((cT h0).trans (cF h1)))
     refine⟨⟨?_,trivial⟩,?_,?_,?_,trivial⟩
     · exact(congrArg Prod.snd e).symm
     · exact(congrArg (fun r=>r.1.1) e).symm
     · exact(congrArg (fun r=>r.1.2.1) e).symm
     · exact(congrArg (fun r=>r.1.2.2) e).symm
 · refine Vs (Vq (Vq ?_))
   refine Vr hG rfl ?_ ?_
   · exact sg3_ok hpre
   refine Vk rfl ?_ ?_<;>intro h2
   · refine VrL mixed hG rfl (by kernel_rfl) ?_ ?_
     · first
         | exact⟨sg4_ok hpre,sgS2_sm c,pieceD_sm _⟩
         | exact⟨sg4_ok hpre,sgS_sm c,pieceD_sm _⟩
     refine Vq (VrD mixed hG rfl (by kernel_rfl) (by trivial) (Vt ?_))
     have e:signedD c=_:=((signed_eq c).trans ((cF h0).trans (cT h2)))
     refine⟨⟨?_,trivial⟩,?_,?_,?_,trivial⟩
     · exact(congrArg Prod.snd e).symm
     · exact(congrArg (fun r=>r.1.1) e).symm
     · exact(congrArg (fun r=>r.1.2.1) e).symm
     · exact(congrArg (fun r=>r.1.2.2) e).symm
   · refine Vs (Vq (VrD mixed hG rfl (by kernel_rfl) (by trivial) (Vt ?_)))
     have e:signedD c=_:=((signed_eq c).trans ((cF h0).trans (cF h2)))
     refine⟨⟨?_,trivial⟩,?_,?_,?_,trivial⟩
     · exact(congrArg Prod.snd e).symm
     · exact(congrArg (fun r=>r.1.1) e).symm
     · exact(congrArg (fun r=>r.1.2.1) e).symm
     · exact(congrArg (fun r=>r.1.2.2) e).symm
noncomputable def F165:Fun:=⟨[.int .i64],[.own Z35],fun _=>True,fun x=>(freshD x.1,())⟩
theorem F165_ok:Meets Tryz.prog 165 F165:=by
 refine mZ (C:=mkC 26 [2] [0,2,3,4,5,9] [⟨76,_,F76_ok⟩,⟨77,_,F77_ok⟩,⟨149,_,F149_ok⟩]) (mO _ _ _ _) (fO _) Tryz.func165 rfl rfl rfl (by decide) rfl ?_
 rintro⟨(a0:Int),_⟩ hwf hpre ⟨⟩ hG rfl rfl
 show Vc _ _ [(0,⟨0,0,.c (.pure (.int .i64)) a0⟩)] _
 refine Vm hG rfl (Vm hG rfl (Vq (Vm hG rfl ?_)))
 refine Vb ?_
 refine Vc.loopF [(3,false,.own Z35),(4,false,.pure (.int .i64))] [0,2] (fun v=>fzInv a0 v.1 v.2.1) (fun v=>(5-v.2.1:Int).toNat) rfl ?_ ?_
 · exact fzStart
 rintro⟨acc,(id:Int),_⟩ hI
 have hI:fzInv a0 acc id:=hI
 refine Vq (Vm hG rfl ?_)
 refine Vk rfl ?_ ?_<;>intro h0
 · have hl:id≤4:=oTr h0
   refine Vs (Vq (Vb (Vm hG rfl ?_)))
   refine Vr hG rfl ?_ ?_
   · exact fzLen hI
   refine Vn hG rfl ?_
   refine⟨rfl,?_⟩
   exact fzStep hI hl rfl
 · have hl:¬id≤4:=oFa h0
   refine Vx (Vm hG rfl (Vt ?_))
   refine⟨?_,trivial⟩
   exact fzEnd hI hl
noncomputable def F238:Fun:=⟨[.int .i64,.slice Y34],[.pure (.int .i64)],fun x=>(fun(_:Int) (l:List Stamp)=>List.length l≤1048576) x.1 x.2.1,fun x=>(stampsDgF x.1 x.2.1,())⟩
theorem F238_ok:Meets Tryz.prog 238 F238:=by
 refine mZ (C:=mkC 29 [4] [0,1,4,5,6,9,14] [⟨223,_,F223_ok⟩,⟨294,_,F294_ok⟩]) (mO _ _ _ _) (fO _) Tryz.func238 rfl rfl rfl (by decide) rfl ?_
 rintro⟨(a0:Int),a1,_⟩ hwf hpre ⟨⟩ hG rfl rfl
 show Vc _ _ [(0,⟨0,0,.c (.pure (.int .i64)) a0⟩),(1,⟨0,0,.c Z38 a1⟩)] _
 have hs:List.length a1≤1048576:=hpre
 have hb:List.length a1≤bigLen:=hwf.2.1.1
 refine Vm hG rfl (Vq (Vm hG rfl ?_))
 refine Vk rfl ?_ ?_<;>intro h0
 · have g0:(List.length a1:Int)=0:=beqI2 h0
   refine Vm hG rfl (Vt ?_)
   refine⟨?_,trivial⟩
   exact sd0 g0
 · have g0:¬(List.length a1:Int)=0:=bneI' h0
   refine Vs (Vm hG rfl (Vq (Vm hG rfl ?_)))
   refine Vb ?_
   refine Vc.loopF [(5,false,.own (.pure (.int .i64))),(6,false,.pure (.int .i64))] [0,1,4,9] (fun v=>gsInv (mkG a1) [] a1 v.1 v.2.1) (fun v=>((List.length a1:Int)-v.2.1).toNat) rfl ?_ ?_
   · exact gsStart
   rintro⟨acc,(i:Int),_⟩ hI
   have hI:gsInv (mkG a1) [] a1 acc i:=hI
   have hA:List.length acc≤1048576:=gsLen (c:=1) (m:=1048576) hI (fun _=>Nat.le_refl _) hs (by simp)
   refine Vq (Vm hG rfl ?_)
   refine Vk rfl ?_ ?_<;>intro h1
   · have hl:i<(List.length a1:Int):=oTr h1
     refine Vs (Vq (Vb ?_))
     refine Vr hG rfl ?_ ?_
     · exact⟨gsRange hI hl,(show List.length acc+1≤maxApp from by unfold maxApp;omega)⟩
     refine Vn hG rfl ?_
     refine⟨rfl,?_⟩
     exact gsStep hI hl hb rfl
   · have hl:¬i<(List.length a1:Int):=oFa h1
     refine Vx (Vq ?_)
     refine Vr hG rfl ?_ ?_
     · exact⟨(show List.length acc≤1000000000 from by omega),trivial⟩
     refine Vt ?_
     refine⟨?_,trivial⟩
     exact(congrArg (fun l=>max 1 (digestF a0 l)) (gsEnd hI hl)).trans (sd1 g0)
noncomputable def F242:Fun:=⟨[.slice Y34,.int .i64],[.pure (.int .i64)],fun _=>True,fun x=>(ownerF x.1 x.2.1,())⟩
theorem F242_ok:Meets Tryz.prog 242 F242:=by
 refine mZ (C:=mkC 16 [4] [0,1,4,5,10] [⟨209,_,F209_ok⟩]) (mO _ _ _ _) (fO _) Tryz.func242 rfl rfl rfl (by decide) rfl ?_
 rintro⟨a0,(a1:Int),_⟩ hwf hpre ⟨⟩ hG rfl rfl
 show Vc _ _ [(0,⟨0,0,.c Z38 a0⟩),(1,⟨0,0,.c (.pure (.int .i64)) a1⟩)] _
 refine Vm hG rfl (Vm hG rfl (Vq (Vm hG rfl ?_)))
 refine Vk rfl ?_ ?_<;>intro h0
 · have g0:keyI a0 a1<0:=oTr h0
   refine Vm hG rfl (Vt ?_)
   refine⟨?_,trivial⟩
   exact owner0 g0
 · have g0:¬keyI a0 a1<0:=oFa h0
   refine Vs (Vq ?_)
   refine Vr hG rfl ?_ ?_
   · exact findRange g0
   refine Vt ?_
   refine⟨?_,trivial⟩
   exact owner1 g0
noncomputable def F250:Fun:=⟨[.pair Y25 Y61,.pair (.int .i64) Y55],[.pair Z33 Z63,.pure (.bool)],fun x=>(fun(s:Strand) (r:Renewal)=>Sm big20 Y64 s∧Sm big20 Y58 r) x.1 x.2.1,fun x=>((addRenF x.1 x.2.1).1,(addRenF x.1 x.2.1).2,())⟩
theorem F250_ok:Meets Tryz.prog 250 F250:=by
 refine mZ (C:=mkC 22 [4,5] [0,1,2,3,4,5,6,18] [⟨160,_,F160_ok⟩,⟨245,_,F245_ok⟩,⟨249,_,F249_ok⟩]) (mO _ _ _ _) (fO _) Tryz.func250 rfl rfl rfl (by decide) rfl ?_
 rintro⟨a0,a1,_⟩ hwf hpre ⟨⟩ hG rfl rfl
 show Vc _ _ [(0,⟨0,0,.c Z66 a0⟩),(1,⟨0,0,.c Z59 a1⟩)] _
 have hp1:Sm big20 Y64 a0:=hpre.1
 have hp2:Sm big20 Y58 a1:=hpre.2
 refine Vm hG rfl (Vq ?_)
 refine Vr hG rfl ?_ ?_
 · exact hp1
 refine Vq ?_
 refine VrD mixed hG rfl (by kernel_rfl) ?_ ?_
 · exact⟨hp2,arLen hp1.2.1⟩
 refine Vq (Vm hG rfl ?_)
 refine Vk rfl ?_ ?_<;>intro h0
 · have g0:(!(strandF (a0.1,a0.2++[a1])))=true:=h0
   refine Vq ?_
   refine Vr hG rfl ?_ ?_
   · exact hp1
   refine Vt ?_
   have e:=ar0 g0
   refine⟨?_,?_,trivial⟩
   · exact(congrArg Prod.fst e).symm
   · exact(congrArg Prod.snd e).symm
 · have g0:(!(strandF (a0.1,a0.2++[a1])))=false:=h0
   refine Vs (Vm hG rfl (Vt ?_))
   have e:=ar1 g0
   refine⟨?_,?_,trivial⟩
   · exact(congrArg Prod.fst e).symm
   · exact(congrArg Prod.snd e).symm
noncomputable def F220:Fun:=⟨[.pair Y25 Y61,.pair (.int .i64) Y13],[.own (.pure (.int .i64))],fun x=>(fun(s:Strand) (_:Doc)=>List.length s.2≤2000000) x.1 x.2.1,fun x=>(docDigsF x.1 x.2.1,())⟩
theorem F220_ok:Meets Tryz.prog 220 F220:=by
 refine mZ (C:=mkC 27 [4] [0,1,2,3,4,5,6,12] [⟨145,_,F145_ok⟩]) (mO _ _ _ _) (fO _) Tryz.func220 rfl rfl rfl (by decide) rfl ?_
 rintro⟨a0,a1,_⟩ hwf hpre ⟨⟩ hG rfl rfl
 show Vc _ _ [(0,⟨0,0,.c Z66 a0⟩),(1,⟨0,0,.c Z27 a1⟩)] _
 have hs:List.length a0.2≤2000000:=hpre
 have hb:List.length a0.2≤bigLen:=hwf.1.2.1
 refine Vm hG rfl (Vm hG rfl (Vq (Vm hG rfl ?_)))
 refine Vb ?_
 refine Vc.loopF [(5,false,.own (.pure (.int .i64))),(6,false,.pure (.int .i64))] [0,1,2,3,4] (fun v=>pkInv (ddF a1) a0.2 v.1 v.2.1) (fun v=>((List.length a0.2:Int)-v.2.1).toNat) rfl ?_ ?_
 · exact pkStart
 rintro⟨acc,(i:Int),_⟩ hI
 have hI:pkInv (ddF a1) a0.2 acc i:=hI
 refine Vq (Vm hG rfl ?_)
 refine Vk rfl ?_ ?_<;>intro h0
 · have hl:i<(List.length a0.2:Int):=oTr h0
   refine Vs (Vq (Vb ?_))
   refine VrD mixed hG rfl (by kernel_rfl) ?_ ?_
   · exact⟨pkRange hI hl,trivial,pkLen2 hI hs⟩
   refine Vn hG rfl ?_
   refine⟨rfl,?_⟩
   exact pkYes (d:=dflt Y58) hI hl hb rfl
 · have hl:¬i<(List.length a0.2:Int):=oFa h0
   refine Vx (Vm hG rfl (Vt ?_))
   refine⟨?_,trivial⟩
   exact pkEnd hI hl
end Fw
