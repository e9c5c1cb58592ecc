/- Walks of functions of the program: what each computes. Conditions: those that each contract names. -/
import Derived.Test.YtajkcodhmabmnaaGreatW39T
namespace Fw
open Go Go.Proofs
set_option linter.unusedSimpArgs false
set_option maxRecDepth 100000
noncomputable def F51:Fun:=⟨[.int .i64,.int .i64,.int .i64],[.pure (.bool)],fun _=>True,fun x=>(inRangeF x.1 x.2.1 x.2.2.1,())⟩
theorem F51_ok:Meets Tryz.prog 51 F51:=by
 refine mZ (C:=mkC 15 [6] [0,1,2,6] []) (mO _ _ _ _) (fO _) Tryz.func51 rfl rfl rfl (by decide) rfl ?_
 rintro⟨(a0:Int),(a1:Int),(a2:Int),_⟩ hwf hpre ⟨⟩ hG rfl rfl
 show Vc _ _ [(0,⟨0,0,.c (.pure (.int .i64)) a0⟩),(1,⟨0,0,.c (.pure (.int .i64)) a1⟩),(2,⟨0,0,.c (.pure (.int .i64)) a2⟩)] _
 refine Vm hG rfl (Vm hG rfl (Vt ?_))
 refine⟨?_,trivial⟩
 all_goals exact rfl
noncomputable def F85:Fun:=⟨[.int .i64],[.pure (.bool)],fun _=>True,fun x=>(isTimeF x.1,())⟩
theorem F85_ok:Meets Tryz.prog 85 F85:=by
 refine mZ (C:=mkC 5 [2] [0,2] [⟨51,_,F51_ok⟩]) (mO _ _ _ _) (fO _) Tryz.func85 rfl rfl rfl (by decide) rfl ?_
 rintro⟨(a0:Int),_⟩ hwf hpre ⟨⟩ hG rfl rfl
 show Vc _ _ [(0,⟨0,0,.c (.pure (.int .i64)) a0⟩)] _
 refine Vm hG rfl (Vm hG rfl (Vt ?_))
 refine⟨?_,trivial⟩
 all_goals exact rfl
noncomputable def F86:Fun:=⟨[.pair (.int .i64) Y9],[.pure (.bool)],fun _=>True,fun x=>(docF x.1,())⟩
theorem F86_ok:Meets Tryz.prog 86 F86:=by
 refine mZ (C:=mkC 46 [2] [0,1,2,3,4,24,26,27,28,29,44] [⟨51,_,F51_ok⟩]) (mO _ _ _ _) (fO _) Tryz.func86 rfl rfl rfl (by decide) rfl ?_
 rintro⟨a0,_⟩ hwf hpre ⟨⟩ hG rfl rfl
 show Vc _ _ [(0,⟨0,0,.c Z22 a0⟩)] _
 have hb0:List.length a0.2.1≤bigLen:=hwf.1.2.1.1
 refine Vm hG rfl (Vq (Vq ?_))
 refine Vr hG rfl ?_ ?_
 · repeat' (first | exact trivial | refine And.intro ?_ ?_ | intro _)
 refine Vk rfl ?_ ?_<;>intro h0
 · have g0:pick2 (pick2 (!(inRangeF a0.1 0 999)) true (!(inRangeF (List.length a0.2.1:Int) 1 6))) true ((List.length a0.2.2:Int) != (List.length a0.2.1:Int))=true:=h0
   refine Vm hG rfl (Vt ?_)
   refine⟨?_,trivial⟩
   refine boolC_no (P:=docP a0) (fun h=>?_)
   exact noOr (noOr (nself h.1) (nself h.2.1)) (lenNe h.2.2.1) g0
 · have g0:pick2 (pick2 (!(inRangeF a0.1 0 999)) true (!(inRangeF (List.length a0.2.1:Int) 1 6))) true ((List.length a0.2.2:Int) != (List.length a0.2.1:Int))=false:=h0
   have f0:inRangeF a0.1 0 999=true∧inRangeF (List.length a0.2.1:Int) 1 6=true∧List.length a0.2.2=List.length a0.2.1:=⟨notF (orF (orF g0).1).1,notF (orF (orF g0).1).2,lenEq (orF g0).2⟩
   refine Vs (Vq (Vm hG rfl (Vb ?_)))
   refine Vc.loopF [(28,false,.pure (.int .i64))] [0,1,24,26,27] (fun v=>kInv (fun k=>(List.length (List.getD a0.2.1 k (dflt .str)):Int)≤40∧inRangeF (List.getD a0.2.2 k (dflt (.int .i64))) 1 1000000000000=true) a0.2.1 v.1) (fun v=>((List.length a0.2.1:Int)-v.1).toNat) rfl ?_ ?_
   · exact kStart
   rintro⟨(i:Int),_⟩ hI0
   have hI0:kInv (fun k=>(List.length (List.getD a0.2.1 k (dflt .str)):Int)≤40∧inRangeF (List.getD a0.2.2 k (dflt (.int .i64))) 1 1000000000000=true) a0.2.1 i:=hI0
   refine Vm hG rfl (Vq ?_)
   refine Vk rfl ?_ ?_<;>intro h1
   · have hl0:i<(List.length a0.2.1:Int):=oTr h1
     refine Vs (Vq (Vb (Vq ?_)))
     refine Vr hG rfl ?_ ?_
     · exact kRange hI0 hl0
     refine Vq ?_
     refine Vr hG rfl ?_ ?_
     · exact⟨fun _=>(show inRange i (List.length a0.2.2)from by rw[f0.2.2];exact kRange hI0 hl0),fun _=>trivial⟩
     refine Vk rfl ?_ ?_<;>intro h2
     · have g2:pick2 (decide ((List.length (List.getD a0.2.1 i.toNat (dflt .str)):Int)>40)) true (!(inRangeF (List.getD a0.2.2 i.toNat (dflt (.int .i64))) 1 1000000000000))=true:=h2
       refine Vm hG rfl (Vt ?_)
       refine⟨?_,trivial⟩
       refine boolC_no (P:=docP a0) (fun h=>?_)
       exact noOr (fun q=>absurd (h.2.2.2.1 i.toNat (kLt hI0 hl0)) (Int.not_le.2 (oTr q))) (nself (h.2.2.2.2 i.toNat (by rw[h.2.2.1];exact kLt hI0 hl0))) g2
     · have g2:pick2 (decide ((List.length (List.getD a0.2.1 i.toNat (dflt .str)):Int)>40)) true (!(inRangeF (List.getD a0.2.2 i.toNat (dflt (.int .i64))) 1 1000000000000))=false:=h2
       have s0:(fun k=>(List.length (List.getD a0.2.1 k (dflt .str)):Int)≤40∧inRangeF (List.getD a0.2.2 k (dflt (.int .i64))) 1 1000000000000=true) i.toNat:=⟨Int.not_lt.1 (oFa (orF g2).1),notF (orF g2).2⟩
       refine Vs (Vn hG rfl ?_)
       refine⟨rfl,?_⟩
       exact kStep hI0 hl0 hb0 s0
   · have hl0:¬i<(List.length a0.2.1:Int):=oFa h1
     refine Vx (Vm hG rfl (Vt ?_))
     refine⟨?_,trivial⟩
     exact boolC_yes (P:=docP a0) ⟨f0.1,f0.2.1,f0.2.2,fun k hk=>(kEnd hI0 hl0 k hk).1,fun k hk=>(kEnd hI0 hl0 k (by rw[←f0.2.2];exact hk)).2⟩
noncomputable def F152:Fun:=⟨[.slice (.int .i64),.slice (.int .i64)],[.pure (.bool)],fun _=>True,fun x=>(eqC x.1 x.2.1,())⟩
theorem F152_ok:Meets Tryz.prog 152 F152:=by
 refine mZ (C:=mkC 26 [4] [0,1,4,5,10,12,13,14,24] []) (mO _ _ _ _) (fO _) Tryz.func152 rfl rfl rfl (by decide) rfl ?_
 rintro⟨a0,a1,_⟩ hwf hpre ⟨⟩ hG rfl rfl
 show Vc _ _ [(0,⟨0,0,.c Z3 a0⟩),(1,⟨0,0,.c Z3 a1⟩)] _
 have hb0:List.length a0≤bigLen:=hwf.1.1
 refine Vm hG rfl (Vq (Vm hG rfl ?_))
 refine Vk rfl ?_ ?_<;>intro h0
 · refine Vm hG rfl (Vt ?_)
   refine⟨?_,trivial⟩
   refine eqC_no (fun e=>?_)
   have e:a0=a1:=e
   have g:((List.length a0:Int) != (List.length a1:Int))=true:=h0
   subst e
   exact bself g
 · have g0:((List.length a0:Int) != (List.length a1:Int))=false:=h0
   have f0_0:List.length a0=List.length a1:=(lenEq g0)
   refine Vs (Vq (Vm hG rfl (Vb ?_)))
   refine Vc.loopF [(13,false,.pure (.int .i64))] [0,1,10,12] (fun v=>eqInv a0 a1 v.1) (fun v=>((List.length a0:Int)-v.1).toNat) rfl ?_ ?_
   · exact eqStart f0_0
   rintro⟨(i0:Int),_⟩ hI0
   have hI0:eqInv a0 a1 i0:=hI0
   refine Vm hG rfl (Vq ?_)
   refine Vk rfl ?_ ?_<;>intro h1
   · have hl0:i0<(List.length a0:Int):=oTr h1
     refine Vs (Vq (Vb (Vm hG rfl ?_)))
     refine Vq ?_
     refine VrD mixed hG rfl (by kernel_rfl) ?_ ?_
     · exact⟨(eqRange hI0 hl0).1,(eqRange hI0 hl0).2⟩
     refine Vk rfl ?_ ?_<;>intro h2
     · refine Vm hG rfl (Vt ?_)
       refine⟨?_,trivial⟩
       refine eqC_no (fun e=>?_)
       have e:a0=a1:=e
       have g:((List.getD a0 i0.toNat (dflt (.int .i64))) != (List.getD a1 i0.toNat (dflt (.int .i64))))=true:=h2
       subst e
       exact bself g
     · have g2:((List.getD a0 i0.toNat (dflt (.int .i64))) != (List.getD a1 i0.toNat (dflt (.int .i64))))=false:=h2
       have f2_0:(List.getD a0 i0.toNat (dflt (.int .i64)))=(List.getD a1 i0.toNat (dflt (.int .i64))):=(bneI g2)
       have s0:(List.getD a0 i0.toNat (dflt (.int .i64)))=(List.getD a1 i0.toNat (dflt (.int .i64))):=f2_0
       refine Vs (Vn hG rfl ?_)
       refine⟨rfl,?_⟩
       exact⟨eqStep (d:=dflt (.int .i64)) hI0 hl0 hb0 s0,(upStep hI0.1 hl0 hb0).2.2⟩
   · have hl0:¬i0<(List.length a0:Int):=oFa h1
     have e0:a0=a1:=eqEnd hI0 hl0
     refine Vx (Vm hG rfl (Vt ?_))
     refine⟨?_,trivial⟩
     exact eqC_yes e0
noncomputable def F87:Fun:=⟨[.pair (.int .i64) Y7,.pair (.int .i64) Y7],[.pure (.bool)],fun _=>True,fun x=>(eqC x.1 x.2.1,())⟩
theorem F87_ok:Meets Tryz.prog 87 F87:=by
 refine mZ (C:=mkC 24 [4] [0,1,2,3,4] [⟨152,_,F152_ok⟩]) (mO _ _ _ _) (fO _) Tryz.func87 rfl rfl rfl (by decide) rfl ?_
 rintro⟨a0,a1,_⟩ hwf hpre ⟨⟩ hG rfl rfl
 show Vc _ _ [(0,⟨0,0,.c Z18 a0⟩),(1,⟨0,0,.c Z18 a1⟩)] _
 refine Vm hG rfl (Vq ?_)
 refine Vr hG rfl ?_ ?_
 · repeat' (first | exact trivial | refine And.intro ?_ ?_ | intro _)
 refine Vt ?_
 refine⟨?_,trivial⟩
 refine eqC_by (fun e=>?_) (fun e=>?_)
 · have e:(pick2 (pick2 (a0.1==a1.1) (a0.2.2==a1.2.2) false) (eqC a0.2.1 a1.2.1) false)=true:=e
   have r_0:a0.1=a1.1:=(beqI2 (andT (andT e).1).1)
   have r_1:a0.2.2=a1.2.2:=(beqI2 (andT (andT e).1).2)
   have r_2:a0.2.1=a1.2.1:=(eqC_iff.1 (andT e).2)
   exact(Prod.ext r_0 (Prod.ext r_2 r_1))
 · have e:a0=a1:=e
   subst e
   exact(yesAnd (yesAnd beqSelf beqSelf) (eqC_self _))
noncomputable def F150:Fun:=⟨[.slice Y14,.pair (.int .i64) Y7],[.pure (.bool)],fun _=>True,fun x=>(hasF x.1 x.2.1,())⟩
theorem F150_ok:Meets Tryz.prog 150 F150:=by
 refine mZ (C:=mkC 17 [4] [0,1,3,4,6,7,8,9,10,15] [⟨87,_,F87_ok⟩]) (mO _ _ _ _) (fO _) Tryz.func150 rfl rfl rfl (by decide) rfl ?_
 rintro⟨a0,a1,_⟩ hwf hpre ⟨⟩ hG rfl rfl
 show Vc _ _ [(0,⟨0,0,.c Z23 a0⟩),(1,⟨0,0,.c Z18 a1⟩)] _
 have hb:List.length a0≤bigLen:=hwf.1.1
 refine Vm hG rfl (Vq (Vm hG rfl (Vb ?_)))
 refine Vc.loopF [(9,false,.pure (.int .i64))] [0,1,3,7,8] (fun v=>fInv (fun x=>eqC x a1) a0 v.1) (fun v=>((List.length a0:Int)-v.1).toNat) rfl ?_ ?_
 · exact fStart
 rintro⟨(i:Int),_⟩ hI
 have hI:fInv (fun x=>eqC x a1) a0 i:=hI
 refine Vm hG rfl (Vq ?_)
 refine Vk rfl ?_ ?_<;>intro h0
 · have hl:i<(List.length a0:Int):=oTr h0
   refine Vs (Vq (Vb (Vq ?_)))
   refine Vr hG rfl ?_ ?_
   · exact fRange hI hl
   refine Vm hG rfl ?_
   refine Vk rfl ?_ ?_<;>intro h1
   · have g1:(fun x=>eqC x a1) (List.getD a0 i.toNat (dflt Y14))=true:=h1
     refine Vm hG rfl (Vt ?_)
     refine⟨?_,trivial⟩
     exact hasYes hI hl g1
   · have g1:(fun x=>eqC x a1) (List.getD a0 i.toNat (dflt Y14))=false:=h1
     refine Vs (Vn hG rfl ?_)
     refine⟨rfl,?_⟩
     exact fStep hI hl hb g1
 · have hl:¬i<(List.length a0:Int):=oFa h0
   refine Vx (Vm hG rfl (Vt ?_))
   refine⟨?_,trivial⟩
   exact hasNo hI hl
noncomputable def F82:Fun:=⟨[.pair Y20 Y47],[.pure (.bool)],fun _=>True,fun x=>(strandF x.1,())⟩
theorem F82_ok:Meets Tryz.prog 82 F82:=by
 refine mZ (C:=mkC 65 [2] [0,1,2,3,4,5,6,17,19,20,21,22,31,34,35,36,37,63] [⟨51,_,F51_ok⟩,⟨150,_,F150_ok⟩]) (mO _ _ _ _) (fO _) Tryz.func82 rfl rfl rfl (by decide) rfl ?_
 rintro⟨a0,_⟩ hwf hpre ⟨⟩ hG rfl rfl
 show Vc _ _ [(0,⟨0,0,.c Z51 a0⟩)] _
 have hb0:List.length a0.1≤bigLen:=hwf.1.1.1
 have hb1:List.length a0.2≤bigLen:=hwf.1.2.1
 refine Vm hG rfl (Vq (Vq ?_))
 refine Vr hG rfl ?_ ?_
 · repeat' (first | exact trivial | refine And.intro ?_ ?_ | intro _)
 refine Vk rfl ?_ ?_<;>intro h0
 · have g0:pick2 (!(inRangeF (List.length a0.1:Int) 1 12)) true (decide ((List.length a0.2:Int)>8))=true:=h0
   refine Vm hG rfl (Vt ?_)
   refine⟨?_,trivial⟩
   refine boolC_no (P:=strandP a0) (fun h=>?_)
   exact noOr (nself h.1) (fun q=>absurd h.2.1 (Int.not_le.2 (oTr q))) g0
 · have g0:pick2 (!(inRangeF (List.length a0.1:Int) 1 12)) true (decide ((List.length a0.2:Int)>8))=false:=h0
   refine Vs (Vq (Vm hG rfl (Vb ?_)))
   refine Vc.loopF [(21,false,.pure (.int .i64))] [0,1,5,6,17,19,20,34,35,36,37,63] (fun v=>kInv (fun k=>newP a0 k) a0.1 v.1) (fun v=>((List.length a0.1:Int)-v.1).toNat) rfl ?_ ?_
   · exact kStart
   rintro⟨(i:Int),_⟩ hI0
   have hI0:kInv (fun k=>newP a0 k) a0.1 i:=hI0
   refine Vm hG rfl (Vq ?_)
   refine Vk rfl ?_ ?_<;>intro h1
   · have hl0:i<(List.length a0.1:Int):=oTr h1
     refine Vs (Vq (Vb (Vq ?_)))
     refine Vr hG rfl ?_ ?_
     · exact kRange hI0 hl0
     refine Vq ?_
     refine VrD mixed hG rfl (by kernel_rfl) ?_ ?_
     · exact⟨Int.le_refl _,(headCond hI0 hl0).2.1,(headCond hI0 hl0).2.2,trivial⟩
     refine Vk rfl ?_ ?_<;>intro h2
     · have g2:¬newP a0 i.toNat:=hasBad hI0 hl0 h2
       refine Vm hG rfl (Vt ?_)
       refine⟨?_,trivial⟩
       refine boolC_no (P:=strandP a0) (fun h=>?_)
       exact g2 (h.2.2.1 i.toNat (kLt hI0 hl0))
     · have g2:newP a0 i.toNat:=hasGood hI0 hl0 h2
       refine Vs (Vn hG rfl ?_)
       refine⟨rfl,?_⟩
       exact kStep hI0 hl0 hb0 g2
   · have hl0:¬i<(List.length a0.1:Int):=oFa h1
     refine Vx (Vq (Vm hG rfl (Vb ?_)))
     refine Vc.loopF [(36,false,.pure (.int .i64))] [0,1,3,4,17,19,20,21,22,31,34,35] (fun v=>kInv (fun k=>renP a0 k) a0.2 v.1) (fun v=>((List.length a0.2:Int)-v.1).toNat) rfl ?_ ?_
     · exact kStart
     rintro⟨(i:Int),_⟩ hI1
     have hI1:kInv (fun k=>renP a0 k) a0.2 i:=hI1
     refine Vm hG rfl (Vq ?_)
     refine Vk rfl ?_ ?_<;>intro h3
     · have hl1:i<(List.length a0.2:Int):=oTr h3
       refine Vs (Vq (Vb (Vq ?_)))
       refine Vr hG rfl ?_ ?_
       · exact kRange hI1 hl1
       refine Vq ?_
       refine VrD mixed hG rfl (by kernel_rfl) ?_ ?_
       · exact⟨trivial,fun h2=>backRange hI1 hl1 hb1 (oTr h2)⟩
       refine Vk rfl ?_ ?_<;>intro h4
       · have g4:renBadF a0 i=true:=h4
         refine Vm hG rfl (Vt ?_)
         refine⟨?_,trivial⟩
         refine boolC_no (P:=strandP a0) (fun h=>?_)
         exact renBad hI1 hl1 hb1 g4 (h.2.2.2 i.toNat (kLt hI1 hl1))
       · have g4:renBadF a0 i=false:=h4
         refine Vs (Vn hG rfl ?_)
         refine⟨rfl,?_⟩
         exact kStep hI1 hl1 hb1 (renGood hI1 hl1 hb1 g4)
     · have hl1:¬i<(List.length a0.2:Int):=oFa h3
       refine Vx (Vm hG rfl (Vt ?_))
       refine⟨?_,trivial⟩
       exact boolC_yes (P:=strandP a0) ⟨notF (orF g0).1,Int.not_lt.1 (oFa (orF g0).2),kEnd hI0 hl0,kEnd hI1 hl1⟩
noncomputable def F153:Fun:=⟨[.pair (.int .i64) Y37],[.own (.pure (.int .i64))],fun _=>True,fun x=>(sigIntsF x.1,())⟩
theorem F153_ok:Meets Tryz.prog 153 F153:=by
 refine mZ (C:=mkC 20 [2] [0,1,2] []) (mO _ _ _ _) (fO _) Tryz.func153 rfl rfl rfl (by decide) rfl ?_
 rintro⟨a0,_⟩ hwf hpre ⟨⟩ hG rfl rfl
 show Vc _ _ [(0,⟨0,0,.c Z41 a0⟩)] _
 refine Vm hG rfl (Vm hG rfl (Vt ?_))
 refine⟨?_,trivial⟩
 all_goals exact rfl
noncomputable def F88:Fun:=⟨[.pair (.int .i64) Y37],[.pair (.pure (.int .i64)) Z11],fun _=>True,fun x=>(signPieceF x.1,())⟩
theorem F88_ok:Meets Tryz.prog 88 F88:=by
 refine mZ (C:=mkC 10 [2] [0,1,2] [⟨153,_,F153_ok⟩]) (mO _ _ _ _) (fO _) Tryz.func88 rfl rfl rfl (by decide) rfl ?_
 rintro⟨a0,_⟩ hwf hpre ⟨⟩ hG rfl rfl
 show Vc _ _ [(0,⟨0,0,.c Z41 a0⟩)] _
 refine Vm hG rfl (Vq (VrD mixed hG rfl (by kernel_rfl) (by trivial) (Vt ?_)))
 refine⟨?_,trivial⟩
 all_goals exact rfl
noncomputable def F50:Fun:=⟨[.pair (.int .i64) Y56],[.pure (.bool)],fun _=>True,fun x=>(itemF x.1,())⟩
theorem F50_ok:Meets Tryz.prog 50 F50:=by
 refine mZ (C:=mkC 32 [2] [0,1,2] [⟨51,_,F51_ok⟩,⟨85,_,F85_ok⟩,⟨86,_,F86_ok⟩,⟨82,_,F82_ok⟩,⟨88,_,F88_ok⟩,⟨87,_,F87_ok⟩]) (mO _ _ _ _) (fO _) Tryz.func50 rfl rfl rfl (by decide) rfl ?_
 rintro⟨a0,_⟩ hwf hpre ⟨⟩ hG rfl rfl
 show Vc _ _ [(0,⟨0,0,.c Z58 a0⟩)] _
 refine Vm hG rfl (Vq ?_)
 refine VrD mixed hG rfl (by kernel_rfl) ?_ ?_
 · exact⟨trivial,fun _=>trivial,fun _=>trivial,fun _=>trivial,fun h=>strand0 h,fun _=>trivial,fun _=>trivial⟩
 refine Vt ?_
 refine⟨?_,trivial⟩
 all_goals exact rfl
noncomputable def F12:Fun:=⟨[.pair (.int .i64) Y59],[.pure (.bool)],fun _=>True,fun x=>(archF x.1,())⟩
theorem F12_ok:Meets Tryz.prog 12 F12:=by
 refine mZ (C:=mkC 42 [2] [0,1,2,3,4,6,7,8,9,31] [⟨50,_,F50_ok⟩,⟨51,_,F51_ok⟩]) (mO _ _ _ _) (fO _) Tryz.func12 rfl rfl rfl (by decide) rfl ?_
 rintro⟨a0,_⟩ hwf hpre ⟨⟩ hG rfl rfl
 show Vc _ _ [(0,⟨0,0,.c Z61 a0⟩)] _
 have hb0:List.length a0.2≤bigLen:=hwf.1.2.1
 refine Vm hG rfl (Vq (Vm hG rfl (Vb ?_)))
 refine Vc.loopF [(8,false,.pure (.int .i64))] [0,1,6,7] (fun v=>kInv (fun k=>goodP a0 k) a0.2 v.1) (fun v=>((List.length a0.2:Int)-v.1).toNat) rfl ?_ ?_
 · exact kStart
 rintro⟨(i:Int),_⟩ hI0
 have hI0:kInv (fun k=>goodP a0 k) a0.2 i:=hI0
 refine Vm hG rfl (Vq ?_)
 refine Vk rfl ?_ ?_<;>intro h0
 · have hl0:i<(List.length a0.2:Int):=oTr h0
   refine Vs (Vq (Vb (Vq ?_)))
   refine Vr hG rfl ?_ ?_
   · exact kRange hI0 hl0
   refine Vq ?_
   refine VrD mixed hG rfl (by kernel_rfl) ?_ ?_
   · exact⟨trivial,fun h2=>backRange hI0 hl0 hb0 (oTr h2)⟩
   refine Vk rfl ?_ ?_<;>intro h1
   · have g1:badF a0 i=true:=h1
     refine Vm hG rfl (Vt ?_)
     refine⟨?_,trivial⟩
     refine boolC_no (fun h=>?_)
     have q:=(goodIff hI0 hb0).2 (h.1 i.toNat (kLt hI0 hl0))
     rw[g1]at q;cases q
   · have g1:badF a0 i=false:=h1
     have s0:goodP a0 i.toNat:=(goodIff hI0 hb0).1 g1
     refine Vs (Vn hG rfl ?_)
     refine⟨rfl,?_⟩
     exact kStep hI0 hl0 hb0 s0
 · have hl0:¬i<(List.length a0.2:Int):=oFa h0
   refine Vx (Vq ?_)
   refine Vr hG rfl ?_ ?_
   · repeat' (first | exact trivial | refine And.intro ?_ ?_ | intro _)
   refine Vt ?_
   refine⟨?_,trivial⟩
   refine boolC_by (fun e=>?_) (fun h=>?_)
   · exact⟨kEnd hI0 hl0,(andT e).1,oTr (andT e).2⟩
   · exact yesAnd h.2.1 (decide_eq_true h.2.2)
noncomputable def F103:Fun:=⟨[.slice (.int .i64)],[.own (.pure (.int .i64))],fun x=>(fun l=>List.length l≤4000000) x.1,fun x=>(id x.1,())⟩
theorem F103_ok:Meets Tryz.prog 103 F103:=by
 refine mZ (C:=mkC 6 [2] [0,2] []) (mO _ _ _ _) (fO _) Tryz.func103 rfl rfl rfl (by decide) rfl ?_
 rintro⟨a0,_⟩ hwf hpre ⟨⟩ hG rfl rfl
 show Vc _ _ [(0,⟨0,0,.c Z3 a0⟩)] _
 have hp:List.length a0≤4000000:=hpre
 refine Vm hG rfl (Vq ?_)
 refine Vr hG rfl ?_ ?_
 · exact appMore hp
 refine Vt ?_
 refine⟨?_,trivial⟩
 all_goals exact rfl
noncomputable def F95:Fun:=⟨[.pair (.int .i64) Y9],[.pair (.pure (.int .i64)) Z12],fun x=>Sm big20 Y16 x.1,fun x=>(id x.1,())⟩
theorem F95_ok:Meets Tryz.prog 95 F95:=by
 refine mZ (C:=mkC 13 [2] [0,1,2] [⟨103,_,F103_ok⟩]) (mO _ _ _ _) (fO _) Tryz.func95 rfl rfl rfl (by decide) rfl ?_
 rintro⟨a0,_⟩ hwf hpre ⟨⟩ hG rfl rfl
 show Vc _ _ [(0,⟨0,0,.c Z22 a0⟩)] _
 have hp1:List.length a0.2.1≤big20:=hpre.2.1.1
 have hp2:List.length a0.2.2≤4000000:=Nat.le_trans hpre.2.2.1 (by decide)
 refine Vm hG rfl (Vq ?_)
 refine VrD mixed hG rfl (by kernel_rfl) ?_ ?_
 · exact⟨appOk hp1,hp2⟩
 refine Vt ?_
 refine⟨?_,trivial⟩
 all_goals exact rfl
noncomputable def F204:Fun:=⟨[.pair (.int .i64) Y7],[.pair (.pure (.int .i64)) Z11],fun x=>Sm big20 Y14 x.1,fun x=>(id x.1,())⟩
theorem F204_ok:Meets Tryz.prog 204 F204:=by
 refine mZ (C:=mkC 8 [2] [0,1,2] [⟨103,_,F103_ok⟩]) (mO _ _ _ _) (fO _) Tryz.func204 rfl rfl rfl (by decide) rfl ?_
 rintro⟨a0,_⟩ hwf hpre ⟨⟩ hG rfl rfl
 show Vc _ _ [(0,⟨0,0,.c Z18 a0⟩)] _
 have hp:List.length a0.2.1≤4000000:=Nat.le_trans hpre.2.1.1 (by decide)
 refine Vm hG rfl (Vq ?_)
 refine Vr hG rfl ?_ ?_
 · exact hp
 refine Vm hG rfl (Vt ?_)
 refine⟨?_,trivial⟩
 all_goals exact rfl
noncomputable def F123:Fun:=⟨[.slice Y14],[.own Z24],fun x=>Sm big20 Y20 x.1,fun x=>(id x.1,())⟩
theorem F123_ok:Meets Tryz.prog 123 F123:=by
 refine mZ (C:=mkC 19 [2] [0,2,3,5,6,7,8,9] [⟨204,_,F204_ok⟩]) (mO _ _ _ _) (fO _) Tryz.func123 rfl rfl rfl (by decide) rfl ?_
 rintro⟨a0,_⟩ hwf hpre ⟨⟩ hG rfl rfl
 show Vc _ _ [(0,⟨0,0,.c Z23 a0⟩)] _
 have hp:_∧_:=hpre
 have hb:List.length a0≤bigLen:=hwf.1.1
 refine Vm hG rfl (Vm hG rfl (Vq (Vm hG rfl ?_)))
 refine Vb ?_
 refine Vc.loopF [(3,false,.own Z24),(8,false,.pure (.int .i64))] [0,2,6,7] (fun v=>cpInv a0 v.1 v.2.1) (fun v=>((List.length a0:Int)-v.2.1).toNat) rfl ?_ ?_
 · exact cpStart
 rintro⟨acc,(i:Int),_⟩ hI
 have hI:cpInv a0 acc i:=hI
 refine Vm hG rfl (Vq ?_)
 refine Vk rfl ?_ ?_<;>intro h0
 · have hl:i<(List.length a0:Int):=oTr h0
   have hE:Sm big20 Y14 (List.getD a0 i.toNat (dflt Y14)):=hp.2 _ (upElem hI.1 hl)
   refine Vs (Vq (Vb (Vq ?_)))
   refine Vr hG rfl ?_ ?_
   · exact cpRange hI hl
   refine Vr hG rfl ?_ ?_
   · exact⟨hE,cpLen hI hl hp.1⟩
   refine Vn hG rfl ?_
   refine⟨rfl,?_⟩
   exact cpStep (d:=dflt Y14) hI hl hb rfl
 · have hl:¬i<(List.length a0:Int):=oFa h0
   refine Vx (Vm hG rfl (Vt ?_))
   refine⟨?_,trivial⟩
   exact cpEnd hI hl
noncomputable def F73:Fun:=⟨[.slice Y27],[.own Z28],fun x=>(fun l=>List.length l≤4000000) x.1,fun x=>(id x.1,())⟩
theorem F73_ok:Meets Tryz.prog 73 F73:=by
 refine mZ (C:=mkC 6 [2] [0,2] []) (mO _ _ _ _) (fO _) Tryz.func73 rfl rfl rfl (by decide) rfl ?_
 rintro⟨a0,_⟩ hwf hpre ⟨⟩ hG rfl rfl
 show Vc _ _ [(0,⟨0,0,.c Z31 a0⟩)] _
 have hp:List.length a0≤4000000:=hpre
 refine Vm hG rfl (Vq ?_)
 refine Vr hG rfl ?_ ?_
 · exact appMore hp
 refine Vt ?_
 refine⟨?_,trivial⟩
 all_goals exact rfl
noncomputable def F81:Fun:=⟨[.pair (.int .i64) Y42],[.pair (.pure (.int .i64)) Z45],fun x=>Sm big20 Y44 x.1,fun x=>(id x.1,())⟩
theorem F81_ok:Meets Tryz.prog 81 F81:=by
 refine mZ (C:=mkC 13 [2] [0,1,2] [⟨73,_,F73_ok⟩]) (mO _ _ _ _) (fO _) Tryz.func81 rfl rfl rfl (by decide) rfl ?_
 rintro⟨a0,_⟩ hwf hpre ⟨⟩ hG rfl rfl
 show Vc _ _ [(0,⟨0,0,.c Z46 a0⟩)] _
 have hp1:List.length a0.2.2.2.1≤big20:=hpre.2.2.2.1.1
 have hp2:List.length a0.2.2.2.2≤4000000:=Nat.le_trans hpre.2.2.2.2.1 (by decide)
 refine Vm hG rfl (Vq ?_)
 refine Vr hG rfl ?_ ?_
 · exact appOk hp1
 refine Vq ?_
 refine Vr hG rfl ?_ ?_
 · exact hp2
 refine Vm hG rfl (Vt ?_)
 refine⟨?_,trivial⟩
 all_goals exact rfl
noncomputable def F71:Fun:=⟨[.pair Y20 Y47],[.pair Z26 Z49],fun x=>Sm big20 Y50 x.1,fun x=>(id x.1,())⟩
theorem F71_ok:Meets Tryz.prog 71 F71:=by
 refine mZ (C:=mkC 26 [2] [0,1,2,3,5,11,12,13,14] [⟨123,_,F123_ok⟩,⟨81,_,F81_ok⟩]) (mO _ _ _ _) (fO _) Tryz.func71 rfl rfl rfl (by decide) rfl ?_
 rintro⟨a0,_⟩ hwf hpre ⟨⟩ hG rfl rfl
 show Vc _ _ [(0,⟨0,0,.c Z51 a0⟩)] _
 have hp0:Sm big20 Y20 a0.1:=hpre.1
 have hp:_∧_:=hpre.2
 have hb:List.length a0.2≤bigLen:=hwf.1.2.1
 refine Vm hG rfl (Vq ?_)
 refine Vr hG rfl ?_ ?_
 · exact hp0
 refine Vq (Vm hG rfl (Vb ?_))
 refine Vc.loopF [(3,true,.pair Z26 Z49),(13,false,.pure (.int .i64))] [0,1,2,11,12] (fun v=>v.1.1=a0.1∧cpInv a0.2 v.1.2 v.2.1) (fun v=>((List.length a0.2:Int)-v.2.1).toNat) rfl ?_ ?_
 · exact⟨rfl,cpStart⟩
 rintro⟨acc,(i:Int),_⟩ hI
 have hI:acc.1=a0.1∧cpInv a0.2 acc.2 i:=hI
 refine Vm hG rfl (Vq ?_)
 refine Vk rfl ?_ ?_<;>intro h0
 · have hl:i<(List.length a0.2:Int):=oTr h0
   have hE:Sm big20 Y44 (List.getD a0.2 i.toNat (dflt Y44)):=hp.2 _ (upElem hI.2.1 hl)
   refine Vs (Vq (Vb (Vq ?_)))
   refine Vr hG rfl ?_ ?_
   · exact cpRange hI.2 hl
   refine VrD mixed hG rfl (by kernel_rfl) ?_ ?_
   · exact⟨hE,cpLen hI.2 hl hp.1⟩
   refine Vn hG rfl ?_
   refine⟨rfl,?_⟩
   have e:=cpStep (d:=dflt Y44) hI.2 hl hb rfl
   exact⟨⟨hI.1,e.1⟩,e.2⟩
 · have hl:¬i<(List.length a0.2:Int):=oFa h0
   refine Vx (Vm hG rfl (Vt ?_))
   refine⟨?_,trivial⟩
   exact Prod.ext hI.1 (cpEnd hI.2 hl)
noncomputable def F58:Fun:=⟨[.pair (.int .i64) Y56],[.pair (.pure (.int .i64)) Z63],fun x=>Sm big20 Y57 x.1,fun x=>(id x.1,())⟩
theorem F58_ok:Meets Tryz.prog 58 F58:=by
 refine mZ (C:=mkC 12 [2] [0,1,2] [⟨95,_,F95_ok⟩,⟨71,_,F71_ok⟩]) (mO _ _ _ _) (fO _) Tryz.func58 rfl rfl rfl (by decide) rfl ?_
 rintro⟨a0,_⟩ hwf hpre ⟨⟩ hG rfl rfl
 show Vc _ _ [(0,⟨0,0,.c Z58 a0⟩)] _
 have hp1:Sm big20 Y16 a0.2.2.1:=hpre.2.2.1
 have hp2:Sm big20 Y50 a0.2.2.2.2:=hpre.2.2.2.2
 refine Vm hG rfl (Vq ?_)
 refine Vr hG rfl ?_ ?_
 · exact hp1
 refine Vq ?_
 refine Vr hG rfl ?_ ?_
 · exact hp2
 refine Vm hG rfl (Vt ?_)
 refine⟨?_,trivial⟩
 all_goals exact rfl
noncomputable def F44:Fun:=⟨[.pair (.int .i64) Y59],[.pair (.pure (.int .i64)) Z65],fun x=>Sm big20 Y60 x.1,fun x=>(id x.1,())⟩
theorem F44_ok:Meets Tryz.prog 44 F44:=by
 refine mZ (C:=mkC 25 [2] [0,1,2,3,5,10,11,12,13] [⟨58,_,F58_ok⟩]) (mO _ _ _ _) (fO _) Tryz.func44 rfl rfl rfl (by decide) rfl ?_
 rintro⟨a0,_⟩ hwf hpre ⟨⟩ hG rfl rfl
 show Vc _ _ [(0,⟨0,0,.c Z61 a0⟩)] _
 have hp:_∧_:=hpre.2
 have hb:List.length a0.2≤bigLen:=hwf.1.2.1
 refine Vm hG rfl (Vm hG rfl (Vq (Vm hG rfl ?_)))
 refine Vb ?_
 refine Vc.loopF [(3,true,.pair (.pure (.int .i64)) Z65),(12,false,.pure (.int .i64))] [0,1,2,10,11] (fun v=>v.1.1=a0.1∧cpInv a0.2 v.1.2 v.2.1) (fun v=>((List.length a0.2:Int)-v.2.1).toNat) rfl ?_ ?_
 · exact⟨rfl,cpStart⟩
 rintro⟨acc,(i:Int),_⟩ hI
 have hI:acc.1=a0.1∧cpInv a0.2 acc.2 i:=hI
 refine Vm hG rfl (Vq ?_)
 refine Vk rfl ?_ ?_<;>intro h0
 · have hl:i<(List.length a0.2:Int):=oTr h0
   have hE:Sm big20 Y57 (List.getD a0.2 i.toNat (dflt Y57)):=hp.2 _ (upElem hI.2.1 hl)
   refine Vs (Vq (Vb (Vq ?_)))
   refine Vr hG rfl ?_ ?_
   · exact cpRange hI.2 hl
   refine VrD mixed hG rfl (by kernel_rfl) ?_ ?_
   · exact⟨hE,cpLen hI.2 hl hp.1⟩
   refine Vn hG rfl ?_
   refine⟨rfl,?_⟩
   have e:=cpStep (d:=dflt Y57) hI.2 hl hb rfl
   exact⟨⟨hI.1,e.1⟩,e.2⟩
 · have hl:¬i<(List.length a0.2:Int):=oFa h0
   refine Vx (Vm hG rfl (Vt ?_))
   refine⟨?_,trivial⟩
   exact Prod.ext hI.1 (cpEnd hI.2 hl)
noncomputable def F90:Fun:=⟨[.pair (.int .i64) Y21],[.own (.pure (.int .i64))],fun _=>True,fun x=>(stampIntsF x.1,())⟩
theorem F90_ok:Meets Tryz.prog 90 F90:=by
 refine mZ (C:=mkC 12 [2] [0,1,2] []) (mO _ _ _ _) (fO _) Tryz.func90 rfl rfl rfl (by decide) rfl ?_
 rintro⟨a0,_⟩ hwf hpre ⟨⟩ hG rfl rfl
 show Vc _ _ [(0,⟨0,0,.c Z28 a0⟩)] _
 refine Vm hG rfl (Vm hG rfl (Vt ?_))
 refine⟨?_,trivial⟩
 all_goals exact rfl
noncomputable def F231:Fun:=⟨[.int .i64,.int .i64],[.pure (.int .i64)],fun _=>True,fun x=>(modF x.1 x.2.1,())⟩
theorem F231_ok:Meets Tryz.prog 231 F231:=by
 refine mZ (C:=mkC 15 [4] [0,1,4,7] [⟨51,_,F51_ok⟩]) (mO _ _ _ _) (fO _) Tryz.func231 rfl rfl rfl (by decide) rfl ?_
 rintro⟨(a0:Int),(a1:Int),_⟩ hwf hpre ⟨⟩ hG rfl rfl
 show Vc _ _ [(0,⟨0,0,.c (.pure (.int .i64)) a0⟩),(1,⟨0,0,.c (.pure (.int .i64)) a1⟩)] _
 refine Vm hG rfl (Vq (Vm hG rfl ?_))
 refine Vk rfl ?_ ?_<;>intro h0
 · have g0:(!(inRangeF a1 1 1000000000000))=true:=h0
   refine Vm hG rfl (Vt ?_)
   refine⟨?_,trivial⟩
   show (0:Int)=modF a0 a1
   unfold modF
   rw[if_neg (by simpa using g0)]
 · have g0:(!(inRangeF a1 1 1000000000000))=false:=h0
   refine Vs (Vq ?_)
   refine Vr hG rfl ?_ ?_
   · exact⟨inR_pos h0,inR_pos h0⟩
   refine Vt ?_
   refine⟨?_,trivial⟩
   show _=modF a0 a1
   unfold modF
   rw[if_pos (by simpa using g0)]
noncomputable def F154:Fun:=⟨[.slice (.int .i64)],[.pure (.int .i64)],fun _=>True,fun x=>(hashF x.1,())⟩
theorem F154_ok:Meets Tryz.prog 154 F154:=by
 refine mZ (C:=mkC 21 [2] [0,2,3,5,6,7,8,9] [⟨231,_,F231_ok⟩]) (mO _ _ _ _) (fO _) Tryz.func154 rfl rfl rfl (by decide) rfl ?_
 rintro⟨a0,_⟩ hwf hpre ⟨⟩ hG rfl rfl
 show Vc _ _ [(0,⟨0,0,.c Z3 a0⟩)] _
 have hb:List.length a0≤bigLen:=hwf.1.1
 refine Vm hG rfl (Vm hG rfl (Vq (Vm hG rfl ?_)))
 refine Vb ?_
 refine Vc.loopF [(3,false,.pure (.int .i64)),(8,false,.pure (.int .i64))] [0,2,6,7] (fun v=>foInv (hstep) (11) a0 v.1 v.2.1) (fun v=>((List.length a0:Int)-v.2.1).toNat) rfl ?_ ?_
 · exact foStart
 rintro⟨acc,(i:Int),_⟩ hI
 have hI:foInv (hstep) (11) a0 acc i:=hI
 refine Vm hG rfl (Vq ?_)
 refine Vk rfl ?_ ?_<;>intro h0
 · have hl:i<(List.length a0:Int):=oTr h0
   refine Vs (Vq (Vb (Vq ?_)))
   refine Vr hG rfl ?_ ?_
   · exact foRange hI hl
   refine Vr hG rfl ?_ ?_
   · exact⟨trivial,(show (2147483647:Int)≠0 by decide)⟩
   refine Vn hG rfl ?_
   refine⟨rfl,?_⟩
   exact foStep hI hl hb
 · have hl:¬i<(List.length a0:Int):=oFa h0
   refine Vx (Vm hG rfl (Vt ?_))
   refine⟨?_,trivial⟩
   exact foEnd hI hl
noncomputable def F89:Fun:=⟨[.int .i64,.slice (.int .i64)],[.pure (.int .i64)],fun x=>(fun(_:Int) (l:List Int)=>smallL l) x.1 x.2.1,fun x=>(digestF x.1 x.2.1,())⟩
theorem F89_ok:Meets Tryz.prog 89 F89:=by
 refine mZ (C:=mkC 10 [4] [0,1,4] [⟨154,_,F154_ok⟩]) (mO _ _ _ _) (fO _) Tryz.func89 rfl rfl rfl (by decide) rfl ?_
 rintro⟨(a0:Int),a1,_⟩ hwf hpre ⟨⟩ hG rfl rfl
 show Vc _ _ [(0,⟨0,0,.c (.pure (.int .i64)) a0⟩),(1,⟨0,0,.c Z3 a1⟩)] _
 have hp:List.length a1≤1000000000:=hpre
 refine Vm hG rfl (Vq ?_)
 refine Vr hG rfl ?_ ?_
 · refine⟨?_,trivial⟩
   show 2+List.length a1≤maxApp
   unfold maxApp;omega
 refine Vt ?_
 refine⟨?_,trivial⟩
 exact(digest_eq a0 a1).symm
noncomputable def F53:Fun:=⟨[.int .i64,.pair (.int .i64) Y42],[.pure (.int .i64)],fun x=>(fun(_:Int) (r:Renewal)=>Sm big20 TRen r) x.1 x.2.1,fun x=>(renDigF x.1 x.2.1,())⟩
theorem F53_ok:Meets Tryz.prog 53 F53:=by
 refine mZ (C:=mkC 59 [4] [0,1,3,4,5,7,8,10,19,20,21,22,26,41,42,43,44] [⟨90,_,F90_ok⟩,⟨89,_,F89_ok⟩]) (mO _ _ _ _) (fO _) Tryz.func53 rfl rfl rfl (by decide) rfl ?_
 rintro⟨(a0:Int),a1,_⟩ hwf hpre ⟨⟩ hG rfl rfl
 show Vc _ _ [(0,⟨0,0,.c (.pure (.int .i64)) a0⟩),(1,⟨0,0,.c Z46 a1⟩)] _
 have hp:Sm big20 TRen a1:=hpre
 have h3:List.length a1.2.2.2.1≤1048576:=hp.2.2.2.1.1
 have h4:List.length a1.2.2.2.2≤1048576:=hp.2.2.2.2.1
 have hb0:List.length a1.2.2.2.1≤bigLen:=hwf.2.1.2.2.2.1.1
 have hb1:List.length a1.2.2.2.2≤bigLen:=hwf.2.1.2.2.2.2.1
 refine Vm hG rfl (Vm hG rfl (Vq (Vm hG rfl ?_)))
 refine Vb ?_
 refine Vc.loopF [(5,false,.own (.pure (.int .i64))),(21,false,.pure (.int .i64))] [0,1,3,4,10,19,20,41,42,43,44] (fun v=>gsInv (stepG a1) [4,a1.1,a1.2.1,a1.2.2.1] a1.2.2.2.1 v.1 v.2.1) (fun v=>((List.length a1.2.2.2.1:Int)-v.2.1).toNat) rfl ?_ ?_
 · exact gsStart
 rintro⟨acc,(i:Int),_⟩ hI0
 have hI0:gsInv (stepG a1) [4,a1.1,a1.2.1,a1.2.2.1] a1.2.2.2.1 acc i:=hI0
 have hA:List.length acc≤2097156:=gsLen (c:=2) (m:=1048576) hI0 (fun _=>Nat.le_refl _) h3 (by simp)
 refine Vm hG rfl (Vq ?_)
 refine Vk rfl ?_ ?_<;>intro h0
 · have hl0:i<(List.length a1.2.2.2.1:Int):=oTr h0
   refine Vs (Vq (Vb (Vq ?_)))
   refine Vr hG rfl ?_ ?_
   · exact gsRange hI0 hl0
   refine Vm hG rfl (Vq (Vm hG rfl ?_))
   refine Vk rfl ?_ ?_<;>intro h1
   · have g1:(List.getD a1.2.2.2.1 i.toNat (dflt TStep)).2=true:=h1
     refine Vn hG rfl ?_
     refine Vr hG rfl ?_ ?_
     · exact(show List.length acc+2≤maxApp from by unfold maxApp;omega)
     refine Vn hG rfl ?_
     refine⟨rfl,?_⟩
     first | exact gsStep hI0 hl0 hb0 (stepYesI g1) | exact gsStep hI0 hl0 hb0 (stepNoI g1)
   · have g1:(List.getD a1.2.2.2.1 i.toNat (dflt TStep)).2=false:=h1
     refine Vs ?_
     refine Vr hG rfl ?_ ?_
     · exact(show List.length acc+2≤maxApp from by unfold maxApp;omega)
     refine Vn hG rfl ?_
     refine⟨rfl,?_⟩
     first | exact gsStep hI0 hl0 hb0 (stepYesI g1) | exact gsStep hI0 hl0 hb0 (stepNoI g1)
 · have hl0:¬i<(List.length a1.2.2.2.1:Int):=oFa h0
   refine Vx (Vq ?_)
   refine Vr hG rfl ?_ ?_
   · exact(show List.length acc+1≤maxApp from by unfold maxApp;omega)
   refine Vq (Vm hG rfl (Vb ?_))
   refine Vc.loopF [(5,false,.own (.pure (.int .i64))),(43,false,.pure (.int .i64))] [0,1,3,4,7,8,19,20,21,22,26,41,42] (fun v=>gsInv (stmpG a1) (renMid a1) a1.2.2.2.2 v.1 v.2.1) (fun v=>((List.length a1.2.2.2.2:Int)-v.2.1).toNat) rfl ?_ ?_
   · exact gsStart2 (renMidEq hI0 hl0)
   rintro⟨acc2,(i:Int),_⟩ hI1
   have hI1:gsInv (stmpG a1) (renMid a1) a1.2.2.2.2 acc2 i:=hI1
   have hA2:List.length acc2≤8388613:=gsLen (c:=6) (m:=1048576) hI1 (fun _=>Nat.le_refl _) h4 (by have:=midLen h3;omega)
   refine Vm hG rfl (Vq ?_)
   refine Vk rfl ?_ ?_<;>intro h2
   · have hl1:i<(List.length a1.2.2.2.2:Int):=oTr h2
     refine Vs (Vq (Vb (Vq ?_)))
     refine Vr hG rfl ?_ ?_
     · exact gsRange hI1 hl1
     refine VrD mixed hG rfl (by kernel_rfl) ?_ ?_
     · exact⟨trivial,(show List.length acc2+5≤maxApp from by unfold maxApp;omega),(by show List.length (acc2++stampIntsF (List.getD a1.2.2.2.2 i.toNat (dflt TStamp)))+1≤maxApp;rw[List.length_append];show List.length acc2+5+1≤maxApp;unfold maxApp;omega)⟩
     refine Vn hG rfl ?_
     refine⟨rfl,?_⟩
     exact gsStep hI1 hl1 hb1 stmpEq
   · have hl1:¬i<(List.length a1.2.2.2.2:Int):=oFa h2
     refine Vx (Vq ?_)
     refine Vr hG rfl ?_ ?_
     · exact(show List.length acc2≤1000000000 from by omega)
     refine Vt ?_
     refine⟨?_,trivial⟩
     have e:=congrArg (digestF a0) (gsEnd hI1 hl1)
     exact e
noncomputable def F155:Fun:=⟨[.slice (.int .u8)],[.own (.pure (.int .i64))],fun x=>(fun(l:List Int)=>l.length≤40) x.1,fun x=>(bytesF x.1,())⟩
theorem F155_ok:Meets Tryz.prog 155 F155:=by
 refine mZ (C:=mkC 19 [2] [0,2,3,5,6,7,8,9] []) (mO _ _ _ _) (fO _) Tryz.func155 rfl rfl rfl (by decide) rfl ?_
 rintro⟨a0,_⟩ hwf hpre ⟨⟩ hG rfl rfl
 show Vc _ _ [(0,⟨0,0,.c Z1 a0⟩)] _
 have hp:List.length a0≤40:=hpre
 have hb:List.length a0≤bigLen:=hwf.1.1
 refine Vm hG rfl (Vm hG rfl (Vq (Vm hG rfl ?_)))
 refine Vb ?_
 refine Vc.loopF [(3,false,.own (.pure (.int .i64))),(8,false,.pure (.int .i64))] [0,2,6,7] (fun v=>gsInv (byteG a0) [] a0 v.1 v.2.1) (fun v=>((List.length a0:Int)-v.2.1).toNat) rfl ?_ ?_
 · exact gsStart
 rintro⟨acc,(i:Int),_⟩ hI
 have hI:gsInv (byteG a0) [] a0 acc i:=hI
 have hA:List.length acc≤40:=gsLen (c:=1) (m:=40) hI (fun _=>Nat.le_refl _) hp (by simp)
 refine Vm hG rfl (Vq ?_)
 refine Vk rfl ?_ ?_<;>intro h0
 · have hl:i<(List.length a0:Int):=oTr h0
   refine Vs (Vq (Vb (Vq ?_)))
   refine Vr hG rfl ?_ ?_
   · exact gsRange hI hl
   refine Vr hG rfl ?_ ?_
   · exact(show List.length acc+1≤maxApp from by unfold maxApp;omega)
   refine Vn hG rfl ?_
   refine⟨rfl,?_⟩
   exact gsStep hI hl hb rfl
 · have hl:¬i<(List.length a0:Int):=oFa h0
   refine Vx (Vm hG rfl (Vt ?_))
   refine⟨?_,trivial⟩
   exact gsEnd hI hl
noncomputable def F92:Fun:=⟨[.int .i64,.str,.int .i64],[.pure (.int .i64)],fun x=>(fun(_:Int) (s:List UInt8) (_:Int)=>s.length≤40) x.1 x.2.1 x.2.2.1,fun x=>(partF x.1 x.2.1 x.2.2.1,())⟩
theorem F92_ok:Meets Tryz.prog 92 F92:=by
 refine mZ (C:=mkC 15 [6] [0,1,2,6] [⟨155,_,F155_ok⟩,⟨89,_,F89_ok⟩]) (mO _ _ _ _) (fO _) Tryz.func92 rfl rfl rfl (by decide) rfl ?_
 rintro⟨(a0:Int),a1,(a2:Int),_⟩ hwf hpre ⟨⟩ hG rfl rfl
 show Vc _ _ [(0,⟨0,0,.c (.pure (.int .i64)) a0⟩),(1,⟨0,0,.c (.pure (.str)) a1⟩),(2,⟨0,0,.c (.pure (.int .i64)) a2⟩)] _
 have hp:List.length a1≤40:=hpre
 have hq:List.length (bytesF (bytesOf a1))=List.length a1:=bytesLen a1
 have hq2:List.length (bytesOf a1)=List.length a1:=List.length_map _
 refine Vm hG rfl (Vq ?_)
 refine Vr hG rfl ?_ ?_
 · exact⟨(show List.length a1≤maxNew from by unfold maxNew;omega),(show List.length (bytesOf a1)≤40 from by omega),(show 1+List.length (bytesF (bytesOf a1))≤maxApp from by unfold maxApp;omega),(show List.length ([a2]++bytesF (bytesOf a1))≤1000000000 from by rw[List.length_append,hq];simp;omega)⟩
 refine Vt ?_
 refine⟨?_,trivial⟩
 exact congrArg (fun l=>digestF a0 ([a2]++l)) (bytesEq a1)
noncomputable def F55:Fun:=⟨[.int .i64,.pair (.int .i64) Y9],[.pure (.int .i64)],fun _=>True,fun x=>(docDigF x.1 x.2.1,())⟩
theorem F55_ok:Meets Tryz.prog 55 F55:=by
 refine mZ (C:=mkC 37 [4] [0,1,3,4,5,6,7,10,15,16,17,18] [⟨86,_,F86_ok⟩,⟨92,_,F92_ok⟩,⟨89,_,F89_ok⟩]) (mO _ _ _ _) (fO _) Tryz.func55 rfl rfl rfl (by decide) rfl ?_
 rintro⟨(a0:Int),a1,_⟩ hwf hpre ⟨⟩ hG rfl rfl
 show Vc _ _ [(0,⟨0,0,.c (.pure (.int .i64)) a0⟩),(1,⟨0,0,.c Z22 a1⟩)] _
 have hb:List.length a1.2.1≤bigLen:=hwf.2.1.2.1.1
 refine Vm hG rfl (Vq (Vm hG rfl ?_))
 refine Vk rfl ?_ ?_<;>intro h0
 · have g0:(!(docF a1))=true:=h0
   refine Vm hG rfl (Vt ?_)
   refine⟨?_,trivial⟩
   exact docDig0 g0
 · have g0:(!(docF a1))=false:=h0
   have hd:=docP_of g0
   have h6:List.length a1.2.1≤6:=docN hd
   refine Vs (Vm hG rfl (Vq (Vm hG rfl ?_)))
   refine Vb ?_
   refine Vc.loopF [(5,false,.own (.pure (.int .i64))),(17,false,.pure (.int .i64))] [0,1,3,4,10,15,16] (fun v=>gsInv (docG a0 a1) [a1.1] a1.2.1 v.1 v.2.1) (fun v=>((List.length a1.2.1:Int)-v.2.1).toNat) rfl ?_ ?_
   · exact gsStart
   rintro⟨acc,(i:Int),_⟩ hI
   have hI:gsInv (docG a0 a1) [a1.1] a1.2.1 acc i:=hI
   have hA:List.length acc≤7:=gsLen (c:=1) (m:=6) hI (fun _=>Nat.le_refl _) h6 (by simp)
   refine Vm hG rfl (Vq ?_)
   refine Vk rfl ?_ ?_<;>intro h1
   · have hl:i<(List.length a1.2.1:Int):=oTr h1
     refine Vs (Vq (Vb (Vq ?_)))
     refine Vr hG rfl ?_ ?_
     · exact gsRange hI hl
     refine Vr hG rfl ?_ ?_
     · exact⟨docX hd hI hl,doc40 hd hI hl,(show List.length acc+1≤maxApp from by unfold maxApp;omega)⟩
     refine Vn hG rfl ?_
     refine⟨rfl,?_⟩
     exact gsStep hI hl hb rfl
   · have hl:¬i<(List.length a1.2.1:Int):=oFa h1
     refine Vx (Vq ?_)
     refine Vr hG rfl ?_ ?_
     · exact(show List.length acc≤1000000000 from by omega)
     refine Vt ?_
     refine⟨?_,trivial⟩
     have e:=docDig1 (id:=a0) (d:=a1) (acc:=acc) (i:=i) g0 hI hl
     exact e
noncomputable def F91:Fun:=⟨[.int .i64,.slice Y14],[.pure (.int .i64)],fun x=>(fun(_:Int) (l:List Piece)=>Sm big20 (.slice TPiece) l) x.1 x.2.1,fun x=>(piecesF x.1 x.2.1,())⟩
theorem F91_ok:Meets Tryz.prog 91 F91:=by
 refine mZ (C:=mkC 32 [4] [0,1,4,5,7,9,10,11,12] [⟨89,_,F89_ok⟩]) (mO _ _ _ _) (fO _) Tryz.func91 rfl rfl rfl (by decide) rfl ?_
 rintro⟨(a0:Int),a1,_⟩ hwf hpre ⟨⟩ hG rfl rfl
 show Vc _ _ [(0,⟨0,0,.c (.pure (.int .i64)) a0⟩),(1,⟨0,0,.c Z23 a1⟩)] _
 have hp:List.length a1≤big20∧∀ x∈a1,Sm big20 TPiece x:=hpre
 have hL:List.length a1≤1048576:=hp.1
 have hb:List.length a1≤bigLen:=hwf.2.1.1
 refine Vm hG rfl (Vm hG rfl (Vq (Vm hG rfl ?_)))
 refine Vb ?_
 refine Vc.loopF [(5,false,.own (.pure (.int .i64))),(11,false,.pure (.int .i64))] [0,1,4,9,10] (fun v=>gsInv (piecesG a0 a1) [2] a1 v.1 v.2.1) (fun v=>((List.length a1:Int)-v.2.1).toNat) rfl ?_ ?_
 · exact gsStart
 rintro⟨acc,(i:Int),_⟩ hI
 have hI:gsInv (piecesG a0 a1) [2] a1 acc i:=hI
 have hA:List.length acc≤1048577:=gsLen (c:=1) (m:=1048576) hI (fun _=>Nat.le_refl _) hL (by simp)
 refine Vm hG rfl (Vq ?_)
 refine Vk rfl ?_ ?_<;>intro h0
 · have hl:i<(List.length a1:Int):=oTr h0
   have hE:List.length (List.getD a1 i.toNat (dflt TPiece)).2.1≤1048576:=(hp.2 _ (upElem hI.1 hl)).2.1.1
   refine Vs (Vq (Vb (Vq ?_)))
   refine Vr hG rfl ?_ ?_
   · exact gsRange hI hl
   refine Vr hG rfl ?_ ?_
   · exact⟨(show 2+List.length (List.getD a1 i.toNat (dflt TPiece)).2.1≤maxApp from by unfold maxApp;omega),(show List.length (List.getD a1 i.toNat (dflt TPiece)).2.1+2≤1000000000 from by omega),(show List.length acc+1≤maxApp from by unfold maxApp;omega)⟩
   refine Vn hG rfl ?_
   refine⟨rfl,?_⟩
   exact gsStep hI hl hb rfl
 · have hl:¬i<(List.length a1:Int):=oFa h0
   refine Vx (Vq ?_)
   refine Vr hG rfl ?_ ?_
   · exact(show List.length acc≤1000000000 from by omega)
   refine Vt ?_
   refine⟨?_,trivial⟩
   have e:=congrArg (digestF a0) (gsEnd hI hl)
   exact e
noncomputable def F54:Fun:=⟨[.int .i64,.int .i64,.slice Y14,.int .i64],[.pure (.int .i64)],fun x=>(fun(_ _:Int) (l:List Piece) (_:Int)=>Sm big20 (.slice TPiece) l) x.1 x.2.1 x.2.2.1 x.2.2.2.1,fun x=>(leafOfF x.1 x.2.1 x.2.2.1 x.2.2.2.1,())⟩
theorem F54_ok:Meets Tryz.prog 54 F54:=by
 refine mZ (C:=mkC 17 [8] [0,1,2,3,8] [⟨91,_,F91_ok⟩,⟨89,_,F89_ok⟩]) (mO _ _ _ _) (fO _) Tryz.func54 rfl rfl rfl (by decide) rfl ?_
 rintro⟨(a0:Int),(a1:Int),a2,(a3:Int),_⟩ hwf hpre ⟨⟩ hG rfl rfl
 show Vc _ _ [(0,⟨0,0,.c (.pure (.int .i64)) a0⟩),(1,⟨0,0,.c (.pure (.int .i64)) a1⟩),(2,⟨0,0,.c Z23 a2⟩),(3,⟨0,0,.c (.pure (.int .i64)) a3⟩)] _
 have hp:Sm big20 (.slice TPiece) a2:=hpre
 refine Vm hG rfl (Vq ?_)
 refine Vr hG rfl ?_ ?_
 · exact⟨hp,smallLit (n:=4) rfl (by decide)⟩
 refine Vt ?_
 refine⟨?_,trivial⟩
 all_goals exact rfl
noncomputable def F80:Fun:=⟨[.pair (.int .i64) Y56,.int .i64],[.pure (.int .i64)],fun x=>(fun(x:Item) (_:Int)=>Sm big20 Y57 x) x.1 x.2.1,fun x=>(leafForF x.1 x.2.1,())⟩
theorem F80_ok:Meets Tryz.prog 80 F80:=by
 refine mZ (C:=mkC 32 [4] [0,1,2,4,5,6,12] [⟨53,_,F53_ok⟩,⟨55,_,F55_ok⟩,⟨54,_,F54_ok⟩]) (mO _ _ _ _) (fO _) Tryz.func80 rfl rfl rfl (by decide) rfl ?_
 rintro⟨a0,(a1:Int),_⟩ hwf hpre ⟨⟩ hG rfl rfl
 show Vc _ _ [(0,⟨0,0,.c Z58 a0⟩),(1,⟨0,0,.c (.pure (.int .i64)) a1⟩)] _
 have hp:Sm big20 Y57 a0:=hpre
 have hP:Sm big20 (.slice TPiece) a0.2.2.2.2.1:=hp.2.2.2.2.1
 have hR:List.length a0.2.2.2.2.2≤big20∧∀ x∈a0.2.2.2.2.2,Sm big20 TRen x:=hp.2.2.2.2.2
 have hb:List.length a0.2.2.2.2.2≤bigLen:=hwf.1.2.2.2.2.2.1
 refine Vm hG rfl (Vm hG rfl (Vq (Vm hG rfl ?_)))
 refine Vm hG rfl ?_
 refine Vk rfl ?_ ?_<;>intro h0
 · have g0:(List.length a0.2.2.2.2.2:Int)>0:=oTr h0
   refine Vr hG rfl ?_ ?_
   · exact⟨lastIdx g0 hb,hR.2 _ (getD_mem (lastIdx g0 hb) (dflt TRen))⟩
   refine Vq ?_
   refine VrD mixed hG rfl (by kernel_rfl) ?_ ?_
   · exact⟨trivial,hP⟩
   refine Vt ?_
   refine⟨?_,trivial⟩
   exact lf1 g0
 · have g0:¬(List.length a0.2.2.2.2.2:Int)>0:=oFa h0
   refine Vs (Vq ?_)
   refine VrD mixed hG rfl (by kernel_rfl) ?_ ?_
   · exact⟨trivial,hP⟩
   refine Vt ?_
   refine⟨?_,trivial⟩
   exact lf2 g0
noncomputable def F45:Fun:=⟨[.pair (.int .i64) Y59,.int .i64],[.own (.pure (.int .i64))],fun x=>(fun(x:Archive) (_:Int)=>Sm big20 Y60 x) x.1 x.2.1,fun x=>(leavesF x.1 x.2.1,())⟩
theorem F45_ok:Meets Tryz.prog 45 F45:=by
 refine mZ (C:=mkC 23 [4] [0,1,2,4,5,7,9,10,11,12] [⟨80,_,F80_ok⟩]) (mO _ _ _ _) (fO _) Tryz.func45 rfl rfl rfl (by decide) rfl ?_
 rintro⟨a0,(a1:Int),_⟩ hwf hpre ⟨⟩ hG rfl rfl
 show Vc _ _ [(0,⟨0,0,.c Z61 a0⟩),(1,⟨0,0,.c (.pure (.int .i64)) a1⟩)] _
 have hp:Sm big20 Y59 a0.2:=hpre.2
 have hs:List.length a0.2≤1048576:=hp.1
 have hb:List.length a0.2≤bigLen:=hwf.1.2.1
 refine Vm hG rfl (Vm hG rfl (Vq (Vm hG rfl ?_)))
 refine Vb ?_
 refine Vc.loopF [(5,false,.own (.pure (.int .i64))),(11,false,.pure (.int .i64))] [0,1,2,4,9,10] (fun v=>pkInv (lvF a1) a0.2 v.1 v.2.1) (fun v=>((List.length a0.2:Int)-v.2.1).toNat) rfl ?_ ?_
 · exact pkStart
 rintro⟨acc,(i:Int),_⟩ hI
 have hI:pkInv (lvF a1) a0.2 acc i:=hI
 refine Vm hG rfl (Vq ?_)
 refine Vk rfl ?_ ?_<;>intro h0
 · have hl:i<(List.length a0.2:Int):=oTr h0
   have hE:Sm big20 Y57 (List.getD a0.2 i.toNat (dflt Y57)):=hp.2 _ (upElem hI.1 hl)
   refine Vs (Vq (Vb (Vq ?_)))
   refine Vr hG rfl ?_ ?_
   · exact pkRange hI hl
   refine Vr hG rfl ?_ ?_
   · exact⟨hE,pkLen hI hs⟩
   refine Vn hG rfl ?_
   refine⟨rfl,?_⟩
   exact pkYes (d:=dflt Y57) hI hl hb rfl
 · have hl:¬i<(List.length a0.2:Int):=oFa h0
   refine Vx (Vm hG rfl (Vt ?_))
   refine⟨?_,trivial⟩
   exact pkEnd hI hl
noncomputable def F52:Fun:=⟨[.int .i64,.int .i64,.int .i64],[.pure (.int .i64)],fun _=>True,fun x=>(pairDF x.1 x.2.1 x.2.2.1,())⟩
theorem F52_ok:Meets Tryz.prog 52 F52:=by
 refine mZ (C:=mkC 12 [6] [0,1,2,6] [⟨89,_,F89_ok⟩]) (mO _ _ _ _) (fO _) Tryz.func52 rfl rfl rfl (by decide) rfl ?_
 rintro⟨(a0:Int),(a1:Int),(a2:Int),_⟩ hwf hpre ⟨⟩ hG rfl rfl
 show Vc _ _ [(0,⟨0,0,.c (.pure (.int .i64)) a0⟩),(1,⟨0,0,.c (.pure (.int .i64)) a1⟩),(2,⟨0,0,.c (.pure (.int .i64)) a2⟩)] _
 refine Vm hG rfl (Vq ?_)
 refine Vr hG rfl ?_ ?_
 · exact smallLit (n:=3) rfl (by decide)
 refine Vt ?_
 refine⟨?_,trivial⟩
 all_goals exact rfl
noncomputable def F83:Fun:=⟨[.int .i64,.slice (.int .i64)],[.own (.pure (.int .i64))],fun x=>(fun(_:Int) (l:List Int)=>List.length l≤1048576) x.1 x.2.1,fun x=>(upF x.1 x.2.1,())⟩
theorem F83_ok:Meets Tryz.prog 83 F83:=by
 refine mZ (C:=mkC 40 [4] [0,1,4,5,6,10,17] [⟨52,_,F52_ok⟩]) (mO _ _ _ _) (fO _) Tryz.func83 rfl rfl rfl (by decide) rfl ?_
 rintro⟨(a0:Int),a1,_⟩ hwf hpre ⟨⟩ hG rfl rfl
 show Vc _ _ [(0,⟨0,0,.c (.pure (.int .i64)) a0⟩),(1,⟨0,0,.c Z3 a1⟩)] _
 have hs:List.length a1≤1048576:=hpre
 refine Vm hG rfl (Vm hG rfl (Vq (Vm hG rfl ?_)))
 refine Vb ?_
 refine Vc.loopF [(5,false,.own (.pure (.int .i64))),(6,false,.pure (.int .i64))] [0,1,4] (fun v=>liInv a0 a1 v.1 v.2.1) (fun v=>((List.length a1:Int)-v.2.1).toNat) rfl ?_ ?_
 · exact liStart
 rintro⟨out,(i:Int),_⟩ hI
 have hI:liInv a0 a1 out i:=hI
 refine Vq (Vm hG rfl ?_)
 refine Vk rfl ?_ ?_<;>intro h0
 · have hl:i<(List.length a1:Int):=oTr h0
   refine Vs (Vq (Vb (Vm hG rfl ?_)))
   refine Vk rfl ?_ ?_<;>intro h1
   · have g1:IntKind.i64.wrap (i+1)<(List.length a1:Int):=oTr h1
     refine VrD mixed hG rfl (by kernel_rfl) ?_ ?_
     · exact⟨liRange hI hl,liRange1 hI g1 hs hl,trivial,liLen hI hs hl⟩
     refine Vn hG rfl ?_
     refine⟨rfl,?_⟩
     first
       | exact li2 hI hl hs g1
       | exact li1 hI hl hs g1
   · have g1:¬IntKind.i64.wrap (i+1)<(List.length a1:Int):=oFa h1
     refine Vr hG rfl ?_ ?_
     · exact⟨liRange hI hl,liLen hI hs hl⟩
     refine Vn hG rfl ?_
     refine⟨rfl,?_⟩
     first
       | exact li2 hI hl hs g1
       | exact li1 hI hl hs g1
 · have hl:¬i<(List.length a1:Int):=oFa h0
   refine Vx (Vm hG rfl (Vt ?_))
   refine⟨?_,trivial⟩
   exact liEnd hI hl
noncomputable def F49:Fun:=⟨[.int .i64,.slice (.int .i64)],[.pure (.int .i64)],fun _=>True,fun x=>(treeF x.1 x.2.1,())⟩
theorem F49_ok:Meets Tryz.prog 49 F49:=by
 refine mZ (C:=mkC 18 [4] [0,1,4,8,11] [⟨51,_,F51_ok⟩,⟨83,_,F83_ok⟩]) (mO _ _ _ _) (fO _) Tryz.func49 rfl rfl rfl (by decide) rfl ?_
 rintro⟨(a0:Int),a1,_⟩ hwf hpre ⟨⟩ hG rfl rfl
 show Vc _ _ [(0,⟨0,0,.c (.pure (.int .i64)) a0⟩),(1,⟨0,0,.c Z3 a1⟩)] _
 refine Vm hG rfl (Vq (Vm hG rfl ?_))
 refine Vk rfl ?_ ?_<;>intro h0
 · have g0:(!(inRangeF (List.length a1:Int) 1 16))=true:=h0
   refine Vm hG rfl (Vt ?_)
   refine⟨?_,trivial⟩
   exact tree0 g0
 · have g0:(!(inRangeF (List.length a1:Int) 1 16))=false:=h0
   have gr:=rg g0
   refine Vs (Vq (Vb ?_))
   refine Vc.loopZ [(1,false,.pure (.slice (.int .i64)))] [0,4,8] [1] (fun v=>trInv a0 a1 v.1) (fun v=>List.length v.1) rfl rfl ?_ ?_
   · exact trStart gr
   rintro⟨l,_⟩ hI
   have hI:trInv a0 a1 l:=hI
   refine Vq (Vm hG rfl ?_)
   refine Vk rfl ?_ ?_<;>intro h1
   · have g1:(List.length l:Int)>1:=oTr h1
     refine Vs (Vb ?_)
     refine Vr hG rfl ?_ ?_
     · exact trSmall hI
     refine⟨rfl,?_⟩
     exact trStep hI g1
   · have g1:¬(List.length l:Int)>1:=oFa h1
     refine Vx (Vq ?_)
     refine Vr hG rfl ?_ ?_
     · exact trIdx hI
     refine Vt ?_
     refine⟨?_,trivial⟩
     exact trEnd hI g1 g0
noncomputable def F10:Fun:=⟨[.pair (.int .i64) Y59,.int .i64],[.pure (.int .i64)],fun x=>(fun(x:Archive) (_:Int)=>Sm big20 Y60 x) x.1 x.2.1,fun x=>(rootForF x.1 x.2.1,())⟩
theorem F10_ok:Meets Tryz.prog 10 F10:=by
 refine mZ (C:=mkC 10 [4] [0,1,2,4] [⟨45,_,F45_ok⟩,⟨49,_,F49_ok⟩]) (mO _ _ _ _) (fO _) Tryz.func10 rfl rfl rfl (by decide) rfl ?_
 rintro⟨a0,(a1:Int),_⟩ hwf hpre ⟨⟩ hG rfl rfl
 show Vc _ _ [(0,⟨0,0,.c Z61 a0⟩),(1,⟨0,0,.c (.pure (.int .i64)) a1⟩)] _
 have hp:Sm big20 Y60 a0:=hpre
 refine Vm hG rfl (Vq ?_)
 refine Vr hG rfl ?_ ?_
 · exact⟨hp,trivial⟩
 refine Vt ?_
 refine⟨?_,trivial⟩
 all_goals exact rfl
noncomputable def F47:Fun:=⟨[.int .i64,.slice (.int .i64),.int .i64],[.own Z5],fun _=>True,fun x=>(pathF x.1 x.2.1 x.2.2.1,())⟩
theorem F47_ok:Meets Tryz.prog 47 F47:=by
 refine mZ (C:=mkC 54 [6] [0,1,2,6,7,18,21,24,38] [⟨51,_,F51_ok⟩,⟨83,_,F83_ok⟩]) (mO _ _ _ _) (fO _) Tryz.func47 rfl rfl rfl (by decide) rfl ?_
 rintro⟨(a0:Int),a1,(a2:Int),_⟩ hwf hpre ⟨⟩ hG rfl rfl
 show Vc _ _ [(0,⟨0,0,.c (.pure (.int .i64)) a0⟩),(1,⟨0,0,.c Z3 a1⟩),(2,⟨0,0,.c (.pure (.int .i64)) a2⟩)] _
 have hb:List.length a1≤bigLen:=hwf.2.1.1
 refine Vm hG rfl (Vq (Vm hG rfl ?_))
 refine Vk rfl ?_ ?_<;>intro h0
 · have g0:=pt0i (m:=a0) (i:=a2) (l:=a1) hb h0
   refine Vm hG rfl (Vt ?_)
   refine⟨?_,trivial⟩
   exact g0
 · have g0:=ptGoi (i:=a2) (l:=a1) hb h0
   refine Vs (Vm hG rfl (Vq (Vb ?_)))
   refine Vc.loopZ [(1,false,.pure (.slice (.int .i64))),(2,false,.pure (.int .i64)),(7,false,.own Z5)] [0,6,18] [1] (fun v=>ptInv a0 a1 a2 v.1 v.2.1 v.2.2.1) (fun v=>List.length v.1) rfl rfl ?_ ?_
   · exact ptStart g0
   rintro⟨l,(i:Int),out,_⟩ hI
   have hI:ptInv a0 a1 a2 l i out:=hI
   refine Vq (Vm hG rfl ?_)
   refine Vk rfl ?_ ?_<;>intro h1
   · have g1:(List.length l:Int)>1:=oTr h1
     refine Vs (Vb (Vq (Vq ?_)))
     refine Vr hG rfl ?_ ?_
     · show (2:Int)≠0
       decide
     refine Vk rfl ?_ ?_<;>intro h2
     · have g2:(i.tmod 2==1)=true:=h2
       have r1:=(ptOdd hI.2.1 hI.2.2.1 hI.2.2.2.1 g2).2
       have st:=ptA hI g1 g2
       refine Vr hG rfl ?_ ?_
       · exact⟨r1,ptLen hI⟩
       refine Vq ?_
       refine Vr hG rfl ?_ ?_
       · exact ptSm hI
       refine Vr hG rfl ?_ ?_
       · show (2:Int)≠0
         decide
       refine⟨rfl,?_⟩
       exact st
     · have g2:(i.tmod 2==1)=false:=h2
       refine Vm hG rfl ?_
       refine Vk rfl ?_ ?_<;>intro h3
       · have g3:IntKind.i64.wrap (i+1)<(List.length l:Int):=oTr h3
         have r2:=(ptEven hI.2.1 hI.2.2.1 hI.2.2.2.1 g2 g3).2
         have st:=ptB hI g1 g2 g3
         refine Vr hG rfl ?_ ?_
         · exact⟨r2,ptLen hI⟩
         refine Vq ?_
         refine Vr hG rfl ?_ ?_
         · exact ptSm hI
         refine Vr hG rfl ?_ ?_
         · show (2:Int)≠0
           decide
         refine⟨rfl,?_⟩
         exact st
       · have g3:¬IntKind.i64.wrap (i+1)<(List.length l:Int):=oFa h3
         have st:=ptC hI g1 g2 g3
         refine Vs (Vq ?_)
         refine Vr hG rfl ?_ ?_
         · exact ptSm hI
         refine Vr hG rfl ?_ ?_
         · show (2:Int)≠0
           decide
         refine⟨rfl,?_⟩
         exact st
   · have g1:¬(List.length l:Int)>1:=oFa h1
     refine Vx (Vm hG rfl (Vt ?_))
     refine⟨?_,trivial⟩
     exact ptEnd hI g1 g0
noncomputable def F46:Fun:=⟨[.pair Y20 Y47,.pair (.int .i64) Y42],[.pair Z26 Z49,.pure (.bool)],fun x=>(fun(s:Strand) (r:Renewal)=>Sm big20 Y50 s∧Sm big20 Y44 r) x.1 x.2.1,fun x=>((addRenF x.1 x.2.1).1,(addRenF x.1 x.2.1).2,())⟩
theorem F46_ok:Meets Tryz.prog 46 F46:=by
 refine mZ (C:=mkC 22 [4,5] [0,1,2,3,4,5,6,18] [⟨71,_,F71_ok⟩,⟨81,_,F81_ok⟩,⟨82,_,F82_ok⟩]) (mO _ _ _ _) (fO _) Tryz.func46 rfl rfl rfl (by decide) rfl ?_
 rintro⟨a0,a1,_⟩ hwf hpre ⟨⟩ hG rfl rfl
 show Vc _ _ [(0,⟨0,0,.c Z51 a0⟩),(1,⟨0,0,.c Z46 a1⟩)] _
 have hp1:Sm big20 Y50 a0:=hpre.1
 have hp2:Sm big20 Y44 a1:=hpre.2
 refine Vm hG rfl (Vq ?_)
 refine Vr hG rfl ?_ ?_
 · exact hp1
 refine Vq ?_
 refine VrD mixed hG rfl (by kernel_rfl) ?_ ?_
 · exact⟨hp2,arLen hp1.2.1⟩
 refine Vq (Vm hG rfl ?_)
 refine Vk rfl ?_ ?_<;>intro h0
 · have g0:(!(strandF (a0.1,a0.2++[a1])))=true:=h0
   refine Vq ?_
   refine Vr hG rfl ?_ ?_
   · exact hp1
   refine Vt ?_
   have e:=ar0 g0
   refine⟨?_,?_,trivial⟩
   · exact(congrArg Prod.fst e).symm
   · exact(congrArg Prod.snd e).symm
 · have g0:(!(strandF (a0.1,a0.2++[a1])))=false:=h0
   refine Vs (Vm hG rfl (Vt ?_))
   have e:=ar1 g0
   refine⟨?_,?_,trivial⟩
   · exact(congrArg Prod.fst e).symm
   · exact(congrArg Prod.snd e).symm
noncomputable def F8:Fun:=⟨[.pair (.int .i64) Y59,.int .i64,.slice Y27],[.pair (.pure (.int .i64)) Z65,.pure (.bool)],fun x=>(fun(a:Archive) (_:Int) (l:List Stamp)=>Sm big20 Y60 a∧Sm big20 (.slice TStamp) l) x.1 x.2.1 x.2.2.1,fun x=>((sealF x.1 x.2.1 x.2.2.1).1,(sealF x.1 x.2.1 x.2.2.1).2,())⟩
theorem F8_ok:Meets Tryz.prog 8 F8:=by
 refine mZ (C:=mkC 75 [6,7,8] [0,1,2,3,6,7,8,9,10,11,12,13,22,31,32,33,34,59,71] [⟨12,_,F12_ok⟩,⟨44,_,F44_ok⟩,⟨45,_,F45_ok⟩,⟨10,_,F10_ok⟩,⟨47,_,F47_ok⟩,⟨46,_,F46_ok⟩]) (mO _ _ _ _) (fO _) Tryz.func8 rfl rfl rfl (by decide) rfl ?_
 rintro⟨a0,(a1:Int),a2,_⟩ hwf hpre ⟨⟩ hG rfl rfl
 show Vc _ _ [(0,⟨0,0,.c Z61 a0⟩),(1,⟨0,0,.c (.pure (.int .i64)) a1⟩),(2,⟨0,0,.c Z31 a2⟩)] _
 have hp1:Sm big20 Y60 a0:=hpre.1
 have hp2:Sm big20 (.slice TStamp) a2:=hpre.2
 have hb:List.length a0.2≤bigLen:=hwf.1.2.1
 refine Vm hG rfl (Vq (Vq ?_))
 refine Vr hG rfl ?_ ?_
 · repeat' (first | exact trivial | refine And.intro ?_ ?_ | intro _)
 refine Vk rfl ?_ ?_<;>intro h0
 · have g0:pick2 ((List.length a0.2:Int)==0) true (!(archF a0))=true:=h0
   refine Vq ?_
   refine Vr hG rfl ?_ ?_
   · exact hp1
   refine Vt ?_
   have e:=sl0 (m:=a1) (st:=a2) g0
   refine⟨?_,?_,trivial⟩
   · exact(congrArg Prod.fst e).symm
   · exact(congrArg Prod.snd e).symm
 · have g0:=slCond (a:=a0) h0
   refine Vs (Vq ?_)
   refine Vr hG rfl ?_ ?_
   · exact hp1
   refine Vq ?_
   refine Vr hG rfl ?_ ?_
   · exact hp1
   refine Vq (Vm hG rfl (Vb ?_))
   refine Vc.loopF [(6,true,.pair (.pure (.int .i64)) Z65),(8,true,.pair (.pure (.int .i64)) Z65),(33,false,.pure (.int .i64))] [0,1,2,3,9,22,31,32,71] (fun v=>slInv a0 a1 a2 v.2.1 v.2.2.1) (fun v=>((List.length a0.2:Int)-v.2.2.1).toNat) rfl ?_ ?_
   · exact slStart
   rintro⟨r,o,(i:Int),_⟩ hI
   have hI:slInv a0 a1 a2 o i:=hI
   refine Vm hG rfl (Vq ?_)
   refine Vk rfl ?_ ?_<;>intro h1
   · have hl:i<(List.length a0.2:Int):=oTr h1
     have hE:=itKSm hp1 hI.1 hl
     have ea:=slAt (m:=a1) (st:=a2) hI.1
     refine Vs (Vq (Vb (Vq ?_)))
     refine Vr hG rfl ?_ ?_
     · exact upRange hI.1 hl
     refine Vq ?_
     refine VrL mixed hG rfl (by kernel_rfl) ?_ ?_
     · exact⟨hp1,trivial,hE.2.2.2.2,renSm i.toNat i hp2⟩
     refine Vq (Vm hG rfl ?_)
     refine Vk rfl ?_ ?_<;>intro h2
     · have g2:(!(sealAt a0 a1 a2 i.toNat).2)=true:=by rw[ea];exact h2
       refine Vq ?_
       refine Vr hG rfl ?_ ?_
       · exact hp1
       refine Vt ?_
       have e:=slStop hI hl g2
       refine⟨?_,?_,trivial⟩
       · exact(congrArg Prod.fst e).symm
       · exact(congrArg Prod.snd e).symm
     · have g2:(!(sealAt a0 a1 a2 i.toNat).2)=false:=by rw[ea];exact h2
       refine Vs ?_
       refine Vr hG rfl ?_ ?_
       · exact slRange hI hl
       refine Vn hG rfl ?_
       refine⟨rfl,?_⟩
       exact slNext hI hl hb (by rw[ea];rfl) (notF g2) rfl
   · have hl:¬i<(List.length a0.2:Int):=oFa h1
     refine Vx (Vq (Vm hG rfl ?_))
     refine Vk rfl ?_ ?_<;>intro h3
     · have g3:(!(archF o))=true:=h3
       refine Vq ?_
       refine Vr hG rfl ?_ ?_
       · exact hp1
       refine Vt ?_
       have e:=slBad hI hl g3
       refine⟨?_,?_,trivial⟩
       · exact(congrArg Prod.fst e).symm
       · exact(congrArg Prod.snd e).symm
     · have g3:(!(archF o))=false:=h3
       refine Vs (Vm hG rfl (Vt ?_))
       have e:=slDone hI hl g0 g3
       refine⟨?_,?_,trivial⟩
       · exact(congrArg Prod.fst e).symm
       · exact(congrArg Prod.snd e).symm
noncomputable def F151:Fun:=⟨[.slice (.str),.slice (.str)],[.pure (.bool)],fun _=>True,fun x=>(eqC x.1 x.2.1,())⟩
theorem F151_ok:Meets Tryz.prog 151 F151:=by
 refine mZ (C:=mkC 26 [4] [0,1,4,5,10,12,13,14,24] []) (mO _ _ _ _) (fO _) Tryz.func151 rfl rfl rfl (by decide) rfl ?_
 rintro⟨a0,a1,_⟩ hwf hpre ⟨⟩ hG rfl rfl
 show Vc _ _ [(0,⟨0,0,.c (.pure (.slice (.str))) a0⟩),(1,⟨0,0,.c (.pure (.slice (.str))) a1⟩)] _
 have hb0:List.length a0≤bigLen:=hwf.1.1
 refine Vm hG rfl (Vq (Vm hG rfl ?_))
 refine Vk rfl ?_ ?_<;>intro h0
 · refine Vm hG rfl (Vt ?_)
   refine⟨?_,trivial⟩
   refine eqC_no (fun e=>?_)
   have e:a0=a1:=e
   have g:((List.length a0:Int) != (List.length a1:Int))=true:=h0
   subst e
   exact bself g
 · have g0:((List.length a0:Int) != (List.length a1:Int))=false:=h0
   have f0_0:List.length a0=List.length a1:=(lenEq g0)
   refine Vs (Vq (Vm hG rfl (Vb ?_)))
   refine Vc.loopF [(13,false,.pure (.int .i64))] [0,1,10,12] (fun v=>eqInv a0 a1 v.1) (fun v=>((List.length a0:Int)-v.1).toNat) rfl ?_ ?_
   · exact eqStart f0_0
   rintro⟨(i0:Int),_⟩ hI0
   have hI0:eqInv a0 a1 i0:=hI0
   refine Vm hG rfl (Vq ?_)
   refine Vk rfl ?_ ?_<;>intro h1
   · have hl0:i0<(List.length a0:Int):=oTr h1
     refine Vs (Vq (Vb (Vm hG rfl ?_)))
     refine Vq ?_
     refine VrD mixed hG rfl (by kernel_rfl) ?_ ?_
     · exact⟨(eqRange hI0 hl0).1,(eqRange hI0 hl0).2⟩
     refine Vk rfl ?_ ?_<;>intro h2
     · refine Vm hG rfl (Vt ?_)
       refine⟨?_,trivial⟩
       refine eqC_no (fun e=>?_)
       have e:a0=a1:=e
       have g:((List.getD a0 i0.toNat (dflt (.str))) != (List.getD a1 i0.toNat (dflt (.str))))=true:=h2
       subst e
       exact bselfS g
     · have g2:((List.getD a0 i0.toNat (dflt (.str))) != (List.getD a1 i0.toNat (dflt (.str))))=false:=h2
       have f2_0:(List.getD a0 i0.toNat (dflt (.str)))=(List.getD a1 i0.toNat (dflt (.str))):=(bneS g2)
       have s0:(List.getD a0 i0.toNat (dflt (.str)))=(List.getD a1 i0.toNat (dflt (.str))):=f2_0
       refine Vs (Vn hG rfl ?_)
       refine⟨rfl,?_⟩
       exact⟨eqStep (d:=dflt (.str)) hI0 hl0 hb0 s0,(upStep hI0.1 hl0 hb0).2.2⟩
   · have hl0:¬i0<(List.length a0:Int):=oFa h1
     have e0:a0=a1:=eqEnd hI0 hl0
     refine Vx (Vm hG rfl (Vt ?_))
     refine⟨?_,trivial⟩
     exact eqC_yes e0
noncomputable def F84:Fun:=⟨[.pair (.int .i64) Y9,.pair (.int .i64) Y9],[.pure (.bool)],fun _=>True,fun x=>(eqC x.1 x.2.1,())⟩
theorem F84_ok:Meets Tryz.prog 84 F84:=by
 refine mZ (C:=mkC 24 [4] [0,1,2,3,4] [⟨151,_,F151_ok⟩,⟨152,_,F152_ok⟩]) (mO _ _ _ _) (fO _) Tryz.func84 rfl rfl rfl (by decide) rfl ?_
 rintro⟨a0,a1,_⟩ hwf hpre ⟨⟩ hG rfl rfl
 show Vc _ _ [(0,⟨0,0,.c Z22 a0⟩),(1,⟨0,0,.c Z22 a1⟩)] _
 refine Vm hG rfl (Vq ?_)
 refine Vr hG rfl ?_ ?_
 · repeat' (first | exact trivial | refine And.intro ?_ ?_ | intro _)
 refine Vt ?_
 refine⟨?_,trivial⟩
 refine eqC_by (fun e=>?_) (fun e=>?_)
 · have e:(pick2 (pick2 (a0.1==a1.1) (eqC a0.2.1 a1.2.1) false) (eqC a0.2.2 a1.2.2) false)=true:=e
   have r_0:a0.1=a1.1:=(beqI2 (andT (andT e).1).1)
   have r_1:a0.2.1=a1.2.1:=(eqC_iff.1 (andT (andT e).1).2)
   have r_2:a0.2.2=a1.2.2:=(eqC_iff.1 (andT e).2)
   exact(Prod.ext r_0 (Prod.ext r_1 r_2))
 · have e:a0=a1:=e
   subst e
   exact(yesAnd (yesAnd beqSelf (eqC_self _)) (eqC_self _))
noncomputable def F121:Fun:=⟨[.slice Y14,.slice Y14],[.pure (.bool)],fun _=>True,fun x=>(eqC x.1 x.2.1,())⟩
theorem F121_ok:Meets Tryz.prog 121 F121:=by
 refine mZ (C:=mkC 27 [4] [0,1,4,5,10,12,13,14,25] [⟨87,_,F87_ok⟩]) (mO _ _ _ _) (fO _) Tryz.func121 rfl rfl rfl (by decide) rfl ?_
 rintro⟨a0,a1,_⟩ hwf hpre ⟨⟩ hG rfl rfl
 show Vc _ _ [(0,⟨0,0,.c Z23 a0⟩),(1,⟨0,0,.c Z23 a1⟩)] _
 have hb0:List.length a0≤bigLen:=hwf.1.1
 refine Vm hG rfl (Vq (Vm hG rfl ?_))
 refine Vk rfl ?_ ?_<;>intro h0
 · refine Vm hG rfl (Vt ?_)
   refine⟨?_,trivial⟩
   refine eqC_no (fun e=>?_)
   have e:a0=a1:=e
   have g:((List.length a0:Int) != (List.length a1:Int))=true:=h0
   subst e
   exact bself g
 · have g0:((List.length a0:Int) != (List.length a1:Int))=false:=h0
   have f0_0:List.length a0=List.length a1:=(lenEq g0)
   refine Vs (Vq (Vm hG rfl (Vb ?_)))
   refine Vc.loopF [(13,false,.pure (.int .i64))] [0,1,10,12] (fun v=>eqInv a0 a1 v.1) (fun v=>((List.length a0:Int)-v.1).toNat) rfl ?_ ?_
   · exact eqStart f0_0
   rintro⟨(i0:Int),_⟩ hI0
   have hI0:eqInv a0 a1 i0:=hI0
   refine Vm hG rfl (Vq ?_)
   refine Vk rfl ?_ ?_<;>intro h1
   · have hl0:i0<(List.length a0:Int):=oTr h1
     refine Vs (Vq (Vb (Vm hG rfl ?_)))
     refine Vq ?_
     refine VrD mixed hG rfl (by kernel_rfl) ?_ ?_
     · exact⟨(eqRange hI0 hl0).1,(eqRange hI0 hl0).2,trivial⟩
     refine Vk rfl ?_ ?_<;>intro h2
     · refine Vm hG rfl (Vt ?_)
       refine⟨?_,trivial⟩
       refine eqC_no (fun e=>?_)
       have e:a0=a1:=e
       have g:(!(eqC (List.getD a0 i0.toNat (dflt Y14)) (List.getD a1 i0.toNat (dflt Y14))))=true:=h2
       subst e
       exact(nself (eqC_self _)) g
     · have g2:(!(eqC (List.getD a0 i0.toNat (dflt Y14)) (List.getD a1 i0.toNat (dflt Y14))))=false:=h2
       have f2_0:(List.getD a0 i0.toNat (dflt Y14))=(List.getD a1 i0.toNat (dflt Y14)):=(eqC_iff.1 (notF g2))
       have s0:(List.getD a0 i0.toNat (dflt Y14))=(List.getD a1 i0.toNat (dflt Y14)):=f2_0
       refine Vs (Vn hG rfl ?_)
       refine⟨rfl,?_⟩
       exact⟨eqStep (d:=dflt Y14) hI0 hl0 hb0 s0,(upStep hI0.1 hl0 hb0).2.2⟩
   · have hl0:¬i0<(List.length a0:Int):=oFa h1
     have e0:a0=a1:=eqEnd hI0 hl0
     refine Vx (Vm hG rfl (Vt ?_))
     refine⟨?_,trivial⟩
     exact eqC_yes e0
end Fw
