/- Walks of functions of the program: what each computes. Conditions: those that each contract names. -/
import Derived.Test.YtpcljloahdbjcaaGreatW51T
set_option linter.unusedVariables false
namespace Fw
open Go Go.Proofs
set_option linter.unusedSimpArgs false
set_option maxRecDepth 100000
noncomputable def F47:Fun:=⟨[.pair (.int .i64) Y76,.int .i64],[.pure (.int .i64)],fun _=>True,fun x=>((fun a0 a1=>findI (fun x=>x.1==a1) a0.2) x.1 x.2.1,())⟩
theorem F47_ok:Meets Tryz.prog 47 F47:=by
 refine mZ (C:=mkC 21 [4] [0,1,2,4,5,6,8,9,10,11,18] []) (mO _ _ _ _) (fO _) Tryz.func47 rfl rfl rfl (by decide) rfl ?_
 rintro⟨a0,(a1:Int),_⟩ hwf hpre ⟨⟩ hG rfl rfl
 show Vc _ _ [(0,⟨0,0,.c Z78 a0⟩),(1,⟨0,0,.c (.pure (.int .i64)) a1⟩)] _
 have hb:List.length a0.2≤bigLen:=hwf.1.2.1
 refine Vm hG rfl (Vq (Vm hG rfl (Vb ?_)))
 refine Vc.loopF [(10,false,.pure (.int .i64))] [0,1,2,8,9] (fun v=>fInv (fun x=>x.1==a1) a0.2 v.1) (fun v=>((List.length a0.2:Int)-v.1).toNat) rfl ?_ ?_
 · exact fStart
 rintro⟨(i:Int),_⟩ hI
 have hI:fInv (fun x=>x.1==a1) a0.2 i:=hI
 refine Vm hG rfl (Vq ?_)
 refine Vk rfl ?_ ?_<;>intro h0
 · have hl:i<(List.length a0.2:Int):=oTr h0
   refine Vs (Vq (Vb (Vq ?_)))
   refine Vr hG rfl ?_ ?_
   · exact fRange hI hl
   refine Vm hG rfl ?_
   refine Vk rfl ?_ ?_<;>intro h1
   · have g1:(fun x=>x.1==a1) (List.getD a0.2 i.toNat (dflt Y74))=true:=h1
     refine Vm hG rfl (Vt ?_)
     refine⟨?_,trivial⟩
     exact fHit hI hl g1
   · have g1:(fun x=>x.1==a1) (List.getD a0.2 i.toNat (dflt Y74))=false:=h1
     refine Vs (Vn hG rfl ?_)
     refine⟨rfl,?_⟩
     exact fStep hI hl hb g1
 · have hl:¬i<(List.length a0.2:Int):=oFa h0
   refine Vx (Vm hG rfl (Vt ?_))
   refine⟨?_,trivial⟩
   exact fEnd hI hl
noncomputable def F86:Fun:=⟨[.int .i64,.int .i64,.int .i64],[.pure (.bool)],fun _=>True,fun x=>(inRangeF x.1 x.2.1 x.2.2.1,())⟩
theorem F86_ok:Meets Tryz.prog 86 F86:=by
 refine mZ (C:=mkC 15 [6] [0,1,2,6] []) (mO _ _ _ _) (fO _) Tryz.func86 rfl rfl rfl (by decide) rfl ?_
 rintro⟨(a0:Int),(a1:Int),(a2:Int),_⟩ hwf hpre ⟨⟩ hG rfl rfl
 show Vc _ _ [(0,⟨0,0,.c (.pure (.int .i64)) a0⟩),(1,⟨0,0,.c (.pure (.int .i64)) a1⟩),(2,⟨0,0,.c (.pure (.int .i64)) a2⟩)] _
 refine Vm hG rfl (Vm hG rfl (Vt ?_))
 refine⟨?_,trivial⟩
 all_goals exact rfl
noncomputable def F132:Fun:=⟨[.int .i64],[.pure (.bool)],fun _=>True,fun x=>(isTimeF x.1,())⟩
theorem F132_ok:Meets Tryz.prog 132 F132:=by
 refine mZ (C:=mkC 5 [2] [0,2] [⟨86,_,F86_ok⟩]) (mO _ _ _ _) (fO _) Tryz.func132 rfl rfl rfl (by decide) rfl ?_
 rintro⟨(a0:Int),_⟩ hwf hpre ⟨⟩ hG rfl rfl
 show Vc _ _ [(0,⟨0,0,.c (.pure (.int .i64)) a0⟩)] _
 refine Vm hG rfl (Vm hG rfl (Vt ?_))
 refine⟨?_,trivial⟩
 all_goals exact rfl
noncomputable def F118:Fun:=⟨[.pair (.int .i64) Y13],[.pure (.bool)],fun _=>True,fun x=>(docF x.1,())⟩
theorem F118_ok:Meets Tryz.prog 118 F118:=by
 refine mZ (C:=mkC 46 [2] [0,1,2,3,4,24,26,27,28,29,44] [⟨86,_,F86_ok⟩]) (mO _ _ _ _) (fO _) Tryz.func118 rfl rfl rfl (by decide) rfl ?_
 rintro⟨a0,_⟩ hwf hpre ⟨⟩ hG rfl rfl
 show Vc _ _ [(0,⟨0,0,.c Z28 a0⟩)] _
 have hb0:List.length a0.2.1≤bigLen:=hwf.1.2.1.1
 refine Vm hG rfl (Vq (Vq ?_))
 refine Vr hG rfl ?_ ?_
 · repeat' (first | exact trivial | refine And.intro ?_ ?_ | intro _)
 refine Vk rfl ?_ ?_<;>intro h0
 · have g0:pick2 (pick2 (!(inRangeF a0.1 0 999)) true (!(inRangeF (List.length a0.2.1:Int) 1 6))) true ((List.length a0.2.2:Int) != (List.length a0.2.1:Int))=true:=h0
   refine Vm hG rfl (Vt ?_)
   refine⟨?_,trivial⟩
   refine boolC_no (P:=docP a0) (fun h=>?_)
   exact noOr (noOr (nself h.1) (nself h.2.1)) (lenNe h.2.2.1) g0
 · have g0:pick2 (pick2 (!(inRangeF a0.1 0 999)) true (!(inRangeF (List.length a0.2.1:Int) 1 6))) true ((List.length a0.2.2:Int) != (List.length a0.2.1:Int))=false:=h0
   have f0:inRangeF a0.1 0 999=true∧inRangeF (List.length a0.2.1:Int) 1 6=true∧List.length a0.2.2=List.length a0.2.1:=⟨notF (orF (orF g0).1).1,notF (orF (orF g0).1).2,lenEq (orF g0).2⟩
   refine Vs (Vq (Vm hG rfl (Vb ?_)))
   refine Vc.loopF [(28,false,.pure (.int .i64))] [0,1,24,26,27] (fun v=>kInv (fun k=>(List.length (List.getD a0.2.1 k (dflt .str)):Int)≤40∧inRangeF (List.getD a0.2.2 k (dflt (.int .i64))) 1 1000000000000=true) a0.2.1 v.1) (fun v=>((List.length a0.2.1:Int)-v.1).toNat) rfl ?_ ?_
   · exact kStart
   rintro⟨(i:Int),_⟩ hI0
   have hI0:kInv (fun k=>(List.length (List.getD a0.2.1 k (dflt .str)):Int)≤40∧inRangeF (List.getD a0.2.2 k (dflt (.int .i64))) 1 1000000000000=true) a0.2.1 i:=hI0
   refine Vm hG rfl (Vq ?_)
   refine Vk rfl ?_ ?_<;>intro h1
   · have hl0:i<(List.length a0.2.1:Int):=oTr h1
     refine Vs (Vq (Vb (Vq ?_)))
     refine Vr hG rfl ?_ ?_
     · exact kRange hI0 hl0
     refine Vq ?_
     refine Vr hG rfl ?_ ?_
     · exact⟨fun _=>(show inRange i (List.length a0.2.2)from by rw[f0.2.2];exact kRange hI0 hl0),fun _=>trivial⟩
     refine Vk rfl ?_ ?_<;>intro h2
     · have g2:pick2 (decide ((List.length (List.getD a0.2.1 i.toNat (dflt .str)):Int)>40)) true (!(inRangeF (List.getD a0.2.2 i.toNat (dflt (.int .i64))) 1 1000000000000))=true:=h2
       refine Vm hG rfl (Vt ?_)
       refine⟨?_,trivial⟩
       refine boolC_no (P:=docP a0) (fun h=>?_)
       exact noOr (fun q=>absurd (h.2.2.2.1 i.toNat (kLt hI0 hl0)) (Int.not_le.2 (oTr q))) (nself (h.2.2.2.2 i.toNat (by rw[h.2.2.1];exact kLt hI0 hl0))) g2
     · have g2:pick2 (decide ((List.length (List.getD a0.2.1 i.toNat (dflt .str)):Int)>40)) true (!(inRangeF (List.getD a0.2.2 i.toNat (dflt (.int .i64))) 1 1000000000000))=false:=h2
       have s0:(fun k=>(List.length (List.getD a0.2.1 k (dflt .str)):Int)≤40∧inRangeF (List.getD a0.2.2 k (dflt (.int .i64))) 1 1000000000000=true) i.toNat:=⟨Int.not_lt.1 (oFa (orF g2).1),notF (orF g2).2⟩
       refine Vs (Vn hG rfl ?_)
       refine⟨rfl,?_⟩
       exact kStep hI0 hl0 hb0 s0
   · have hl0:¬i<(List.length a0.2.1:Int):=oFa h1
     refine Vx (Vm hG rfl (Vt ?_))
     refine⟨?_,trivial⟩
     exact boolC_yes (P:=docP a0) ⟨f0.1,f0.2.1,f0.2.2,fun k hk=>(kEnd hI0 hl0 k hk).1,fun k hk=>(kEnd hI0 hl0 k (by rw[←f0.2.2];exact hk)).2⟩
noncomputable def F107:Fun:=⟨[.slice (.int .i64),.slice (.int .i64)],[.pure (.bool)],fun _=>True,fun x=>(eqC x.1 x.2.1,())⟩
theorem F107_ok:Meets Tryz.prog 107 F107:=by
 refine mZ (C:=mkC 26 [4] [0,1,4,5,10,12,13,14,24] []) (mO _ _ _ _) (fO _) Tryz.func107 rfl rfl rfl (by decide) rfl ?_
 rintro⟨a0,a1,_⟩ hwf hpre ⟨⟩ hG rfl rfl
 show Vc _ _ [(0,⟨0,0,.c Z3 a0⟩),(1,⟨0,0,.c Z3 a1⟩)] _
 have hb0:List.length a0≤bigLen:=hwf.1.1
 refine Vm hG rfl (Vq (Vm hG rfl ?_))
 refine Vk rfl ?_ ?_<;>intro h0
 · refine Vm hG rfl (Vt ?_)
   refine⟨?_,trivial⟩
   refine eqC_no (fun e=>?_)
   have e:a0=a1:=e
   have g:((List.length a0:Int) != (List.length a1:Int))=true:=h0
   subst e
   exact bself g
 · have g0:((List.length a0:Int) != (List.length a1:Int))=false:=h0
   have f0_0:List.length a0=List.length a1:=(lenEq g0)
   refine Vs (Vq (Vm hG rfl (Vb ?_)))
   refine Vc.loopF [(13,false,.pure (.int .i64))] [0,1,10,12] (fun v=>eqInv a0 a1 v.1) (fun v=>((List.length a0:Int)-v.1).toNat) rfl ?_ ?_
   · exact eqStart f0_0
   rintro⟨(i0:Int),_⟩ hI0
   have hI0:eqInv a0 a1 i0:=hI0
   refine Vm hG rfl (Vq ?_)
   refine Vk rfl ?_ ?_<;>intro h1
   · have hl0:i0<(List.length a0:Int):=oTr h1
     refine Vs (Vq (Vb (Vm hG rfl ?_)))
     refine Vq ?_
     refine VrD mixed hG rfl (by kernel_rfl) ?_ ?_
     · exact⟨(eqRange hI0 hl0).1,(eqRange hI0 hl0).2⟩
     refine Vk rfl ?_ ?_<;>intro h2
     · refine Vm hG rfl (Vt ?_)
       refine⟨?_,trivial⟩
       refine eqC_no (fun e=>?_)
       have e:a0=a1:=e
       have g:((List.getD a0 i0.toNat (dflt (.int .i64))) != (List.getD a1 i0.toNat (dflt (.int .i64))))=true:=h2
       subst e
       exact bself g
     · have g2:((List.getD a0 i0.toNat (dflt (.int .i64))) != (List.getD a1 i0.toNat (dflt (.int .i64))))=false:=h2
       have f2_0:(List.getD a0 i0.toNat (dflt (.int .i64)))=(List.getD a1 i0.toNat (dflt (.int .i64))):=(bneI g2)
       have s0:(List.getD a0 i0.toNat (dflt (.int .i64)))=(List.getD a1 i0.toNat (dflt (.int .i64))):=f2_0
       refine Vs (Vn hG rfl ?_)
       refine⟨rfl,?_⟩
       exact⟨eqStep (d:=dflt (.int .i64)) hI0 hl0 hb0 s0,(upStep hI0.1 hl0 hb0).2.2⟩
   · have hl0:¬i0<(List.length a0:Int):=oFa h1
     have e0:a0=a1:=eqEnd hI0 hl0
     refine Vx (Vm hG rfl (Vt ?_))
     refine⟨?_,trivial⟩
     exact eqC_yes e0
noncomputable def F29:Fun:=⟨[.pair (.int .i64) Y10,.pair (.int .i64) Y10],[.pure (.bool)],fun _=>True,fun x=>(eqC x.1 x.2.1,())⟩
theorem F29_ok:Meets Tryz.prog 29 F29:=by
 refine mZ (C:=mkC 24 [4] [0,1,2,3,4] [⟨107,_,F107_ok⟩]) (mO _ _ _ _) (fO _) Tryz.func29 rfl rfl rfl (by decide) rfl ?_
 rintro⟨a0,a1,_⟩ hwf hpre ⟨⟩ hG rfl rfl
 show Vc _ _ [(0,⟨0,0,.c Z24 a0⟩),(1,⟨0,0,.c Z24 a1⟩)] _
 refine Vm hG rfl (Vq ?_)
 refine Vr hG rfl ?_ ?_
 · repeat' (first | exact trivial | refine And.intro ?_ ?_ | intro _)
 refine Vt ?_
 refine⟨?_,trivial⟩
 refine eqC_by (fun e=>?_) (fun e=>?_)
 · have e:(pick2 (pick2 (a0.1==a1.1) (a0.2.2==a1.2.2) false) (eqC a0.2.1 a1.2.1) false)=true:=e
   have r_0:a0.1=a1.1:=(beqI2 (andT (andT e).1).1)
   have r_1:a0.2.2=a1.2.2:=(beqI2 (andT (andT e).1).2)
   have r_2:a0.2.1=a1.2.1:=(eqC_iff.1 (andT e).2)
   exact(Prod.ext r_0 (Prod.ext r_2 r_1))
 · have e:a0=a1:=e
   subst e
   exact(yesAnd (yesAnd beqSelf beqSelf) (eqC_self _))
noncomputable def F97:Fun:=⟨[.slice Y20,.pair (.int .i64) Y10],[.pure (.bool)],fun _=>True,fun x=>(hasF x.1 x.2.1,())⟩
theorem F97_ok:Meets Tryz.prog 97 F97:=by
 refine mZ (C:=mkC 17 [4] [0,1,3,4,6,7,8,9,10,15] [⟨29,_,F29_ok⟩]) (mO _ _ _ _) (fO _) Tryz.func97 rfl rfl rfl (by decide) rfl ?_
 rintro⟨a0,a1,_⟩ hwf hpre ⟨⟩ hG rfl rfl
 show Vc _ _ [(0,⟨0,0,.c Z29 a0⟩),(1,⟨0,0,.c Z24 a1⟩)] _
 have hb:List.length a0≤bigLen:=hwf.1.1
 refine Vm hG rfl (Vq (Vm hG rfl (Vb ?_)))
 refine Vc.loopF [(9,false,.pure (.int .i64))] [0,1,3,7,8] (fun v=>fInv (fun x=>eqC x a1) a0 v.1) (fun v=>((List.length a0:Int)-v.1).toNat) rfl ?_ ?_
 · exact fStart
 rintro⟨(i:Int),_⟩ hI
 have hI:fInv (fun x=>eqC x a1) a0 i:=hI
 refine Vm hG rfl (Vq ?_)
 refine Vk rfl ?_ ?_<;>intro h0
 · have hl:i<(List.length a0:Int):=oTr h0
   refine Vs (Vq (Vb (Vq ?_)))
   refine Vr hG rfl ?_ ?_
   · exact fRange hI hl
   refine Vm hG rfl ?_
   refine Vk rfl ?_ ?_<;>intro h1
   · have g1:(fun x=>eqC x a1) (List.getD a0 i.toNat (dflt Y20))=true:=h1
     refine Vm hG rfl (Vt ?_)
     refine⟨?_,trivial⟩
     exact hasYes hI hl g1
   · have g1:(fun x=>eqC x a1) (List.getD a0 i.toNat (dflt Y20))=false:=h1
     refine Vs (Vn hG rfl ?_)
     refine⟨rfl,?_⟩
     exact fStep hI hl hb g1
 · have hl:¬i<(List.length a0:Int):=oFa h0
   refine Vx (Vm hG rfl (Vt ?_))
   refine⟨?_,trivial⟩
   exact hasNo hI hl
noncomputable def F133:Fun:=⟨[.pair Y26 Y59],[.pure (.bool)],fun _=>True,fun x=>(strandF x.1,())⟩
theorem F133_ok:Meets Tryz.prog 133 F133:=by
 refine mZ (C:=mkC 65 [2] [0,1,2,3,4,5,6,17,19,20,21,22,31,34,35,36,37,63] [⟨86,_,F86_ok⟩,⟨97,_,F97_ok⟩]) (mO _ _ _ _) (fO _) Tryz.func133 rfl rfl rfl (by decide) rfl ?_
 rintro⟨a0,_⟩ hwf hpre ⟨⟩ hG rfl rfl
 show Vc _ _ [(0,⟨0,0,.c Z64 a0⟩)] _
 have hb0:List.length a0.1≤bigLen:=hwf.1.1.1
 have hb1:List.length a0.2≤bigLen:=hwf.1.2.1
 refine Vm hG rfl (Vq (Vq ?_))
 refine Vr hG rfl ?_ ?_
 · repeat' (first | exact trivial | refine And.intro ?_ ?_ | intro _)
 refine Vk rfl ?_ ?_<;>intro h0
 · have g0:pick2 (!(inRangeF (List.length a0.1:Int) 1 12)) true (decide ((List.length a0.2:Int)>8))=true:=h0
   refine Vm hG rfl (Vt ?_)
   refine⟨?_,trivial⟩
   refine boolC_no (P:=strandP a0) (fun h=>?_)
   exact noOr (nself h.1) (fun q=>absurd h.2.1 (Int.not_le.2 (oTr q))) g0
 · have g0:pick2 (!(inRangeF (List.length a0.1:Int) 1 12)) true (decide ((List.length a0.2:Int)>8))=false:=h0
   refine Vs (Vq (Vm hG rfl (Vb ?_)))
   refine Vc.loopF [(21,false,.pure (.int .i64))] [0,1,5,6,17,19,20,34,35,36,37,63] (fun v=>kInv (fun k=>newP a0 k) a0.1 v.1) (fun v=>((List.length a0.1:Int)-v.1).toNat) rfl ?_ ?_
   · exact kStart
   rintro⟨(i:Int),_⟩ hI0
   have hI0:kInv (fun k=>newP a0 k) a0.1 i:=hI0
   refine Vm hG rfl (Vq ?_)
   refine Vk rfl ?_ ?_<;>intro h1
   · have hl0:i<(List.length a0.1:Int):=oTr h1
     refine Vs (Vq (Vb (Vq ?_)))
     refine Vr hG rfl ?_ ?_
     · exact kRange hI0 hl0
     refine Vq ?_
     refine VrD mixed hG rfl (by kernel_rfl) ?_ ?_
     · exact⟨Int.le_refl _,(headCond hI0 hl0).2.1,(headCond hI0 hl0).2.2,trivial⟩
     refine Vk rfl ?_ ?_<;>intro h2
     · have g2:¬newP a0 i.toNat:=hasBad hI0 hl0 h2
       refine Vm hG rfl (Vt ?_)
       refine⟨?_,trivial⟩
       refine boolC_no (P:=strandP a0) (fun h=>?_)
       exact g2 (h.2.2.1 i.toNat (kLt hI0 hl0))
     · have g2:newP a0 i.toNat:=hasGood hI0 hl0 h2
       refine Vs (Vn hG rfl ?_)
       refine⟨rfl,?_⟩
       exact kStep hI0 hl0 hb0 g2
   · have hl0:¬i<(List.length a0.1:Int):=oFa h1
     refine Vx (Vq (Vm hG rfl (Vb ?_)))
     refine Vc.loopF [(36,false,.pure (.int .i64))] [0,1,3,4,17,19,20,21,22,31,34,35] (fun v=>kInv (fun k=>renP a0 k) a0.2 v.1) (fun v=>((List.length a0.2:Int)-v.1).toNat) rfl ?_ ?_
     · exact kStart
     rintro⟨(i:Int),_⟩ hI1
     have hI1:kInv (fun k=>renP a0 k) a0.2 i:=hI1
     refine Vm hG rfl (Vq ?_)
     refine Vk rfl ?_ ?_<;>intro h3
     · have hl1:i<(List.length a0.2:Int):=oTr h3
       refine Vs (Vq (Vb (Vq ?_)))
       refine Vr hG rfl ?_ ?_
       · exact kRange hI1 hl1
       refine Vq ?_
       refine VrD mixed hG rfl (by kernel_rfl) ?_ ?_
       · exact⟨trivial,fun h2=>backRange hI1 hl1 hb1 (oTr h2)⟩
       refine Vk rfl ?_ ?_<;>intro h4
       · have g4:renBadF a0 i=true:=h4
         refine Vm hG rfl (Vt ?_)
         refine⟨?_,trivial⟩
         refine boolC_no (P:=strandP a0) (fun h=>?_)
         exact renBad hI1 hl1 hb1 g4 (h.2.2.2 i.toNat (kLt hI1 hl1))
       · have g4:renBadF a0 i=false:=h4
         refine Vs (Vn hG rfl ?_)
         refine⟨rfl,?_⟩
         exact kStep hI1 hl1 hb1 (renGood hI1 hl1 hb1 g4)
     · have hl1:¬i<(List.length a0.2:Int):=oFa h3
       refine Vx (Vm hG rfl (Vt ?_))
       refine⟨?_,trivial⟩
       exact boolC_yes (P:=strandP a0) ⟨notF (orF g0).1,Int.not_lt.1 (oFa (orF g0).2),kEnd hI0 hl0,kEnd hI1 hl1⟩
noncomputable def F95:Fun:=⟨[.pair (.int .i64) Y48],[.own (.pure (.int .i64))],fun _=>True,fun x=>(sigIntsF x.1,())⟩
theorem F95_ok:Meets Tryz.prog 95 F95:=by
 refine mZ (C:=mkC 20 [2] [0,1,2] []) (mO _ _ _ _) (fO _) Tryz.func95 rfl rfl rfl (by decide) rfl ?_
 rintro⟨a0,_⟩ hwf hpre ⟨⟩ hG rfl rfl
 show Vc _ _ [(0,⟨0,0,.c Z52 a0⟩)] _
 refine Vm hG rfl (Vm hG rfl (Vt ?_))
 refine⟨?_,trivial⟩
 all_goals exact rfl
noncomputable def F24:Fun:=⟨[.pair (.int .i64) Y48],[.pair (.pure (.int .i64)) Z16],fun _=>True,fun x=>(signPieceF x.1,())⟩
theorem F24_ok:Meets Tryz.prog 24 F24:=by
 refine mZ (C:=mkC 10 [2] [0,1,2] [⟨95,_,F95_ok⟩]) (mO _ _ _ _) (fO _) Tryz.func24 rfl rfl rfl (by decide) rfl ?_
 rintro⟨a0,_⟩ hwf hpre ⟨⟩ hG rfl rfl
 show Vc _ _ [(0,⟨0,0,.c Z52 a0⟩)] _
 refine Vm hG rfl (Vq (VrD mixed hG rfl (by kernel_rfl) (by trivial) (Vt ?_)))
 refine⟨?_,trivial⟩
 all_goals exact rfl
noncomputable def F48:Fun:=⟨[.pair (.int .i64) Y73],[.pure (.bool)],fun _=>True,fun x=>(itemF x.1,())⟩
theorem F48_ok:Meets Tryz.prog 48 F48:=by
 refine mZ (C:=mkC 32 [2] [0,1,2] [⟨86,_,F86_ok⟩,⟨132,_,F132_ok⟩,⟨118,_,F118_ok⟩,⟨133,_,F133_ok⟩,⟨24,_,F24_ok⟩,⟨29,_,F29_ok⟩]) (mO _ _ _ _) (fO _) Tryz.func48 rfl rfl rfl (by decide) rfl ?_
 rintro⟨a0,_⟩ hwf hpre ⟨⟩ hG rfl rfl
 show Vc _ _ [(0,⟨0,0,.c Z75 a0⟩)] _
 refine Vm hG rfl (Vq ?_)
 refine VrD mixed hG rfl (by kernel_rfl) ?_ ?_
 · exact⟨trivial,fun _=>trivial,fun _=>trivial,fun _=>trivial,fun h=>strand0 h,fun _=>trivial,fun _=>trivial⟩
 refine Vt ?_
 refine⟨?_,trivial⟩
 all_goals exact rfl
noncomputable def F16:Fun:=⟨[.pair (.int .i64) Y76],[.pure (.bool)],fun _=>True,fun x=>(archF x.1,())⟩
theorem F16_ok:Meets Tryz.prog 16 F16:=by
 refine mZ (C:=mkC 42 [2] [0,1,2,3,4,6,7,8,9,31] [⟨48,_,F48_ok⟩,⟨86,_,F86_ok⟩]) (mO _ _ _ _) (fO _) Tryz.func16 rfl rfl rfl (by decide) rfl ?_
 rintro⟨a0,_⟩ hwf hpre ⟨⟩ hG rfl rfl
 show Vc _ _ [(0,⟨0,0,.c Z78 a0⟩)] _
 have hb0:List.length a0.2≤bigLen:=hwf.1.2.1
 refine Vm hG rfl (Vq (Vm hG rfl (Vb ?_)))
 refine Vc.loopF [(8,false,.pure (.int .i64))] [0,1,6,7] (fun v=>kInv (fun k=>goodP a0 k) a0.2 v.1) (fun v=>((List.length a0.2:Int)-v.1).toNat) rfl ?_ ?_
 · exact kStart
 rintro⟨(i:Int),_⟩ hI0
 have hI0:kInv (fun k=>goodP a0 k) a0.2 i:=hI0
 refine Vm hG rfl (Vq ?_)
 refine Vk rfl ?_ ?_<;>intro h0
 · have hl0:i<(List.length a0.2:Int):=oTr h0
   refine Vs (Vq (Vb (Vq ?_)))
   refine Vr hG rfl ?_ ?_
   · exact kRange hI0 hl0
   refine Vq ?_
   refine VrD mixed hG rfl (by kernel_rfl) ?_ ?_
   · exact⟨trivial,fun h2=>backRange hI0 hl0 hb0 (oTr h2)⟩
   refine Vk rfl ?_ ?_<;>intro h1
   · have g1:badF a0 i=true:=h1
     refine Vm hG rfl (Vt ?_)
     refine⟨?_,trivial⟩
     refine boolC_no (fun h=>?_)
     have q:=(goodIff hI0 hb0).2 (h.1 i.toNat (kLt hI0 hl0))
     rw[g1]at q;cases q
   · have g1:badF a0 i=false:=h1
     have s0:goodP a0 i.toNat:=(goodIff hI0 hb0).1 g1
     refine Vs (Vn hG rfl ?_)
     refine⟨rfl,?_⟩
     exact kStep hI0 hl0 hb0 s0
 · have hl0:¬i<(List.length a0.2:Int):=oFa h0
   refine Vx (Vq ?_)
   refine Vr hG rfl ?_ ?_
   · repeat' (first | exact trivial | refine And.intro ?_ ?_ | intro _)
   refine Vt ?_
   refine⟨?_,trivial⟩
   refine boolC_by (fun e=>?_) (fun h=>?_)
   · exact⟨kEnd hI0 hl0,(andT e).1,oTr (andT e).2⟩
   · exact yesAnd h.2.1 (decide_eq_true h.2.2)
noncomputable def F169:Fun:=⟨[.slice (.int .i64)],[.own (.pure (.int .i64))],fun x=>(fun l=>List.length l≤4000000) x.1,fun x=>(id x.1,())⟩
theorem F169_ok:Meets Tryz.prog 169 F169:=by
 refine mZ (C:=mkC 6 [2] [0,2] []) (mO _ _ _ _) (fO _) Tryz.func169 rfl rfl rfl (by decide) rfl ?_
 rintro⟨a0,_⟩ hwf hpre ⟨⟩ hG rfl rfl
 show Vc _ _ [(0,⟨0,0,.c Z3 a0⟩)] _
 have hp:List.length a0≤4000000:=hpre
 refine Vm hG rfl (Vq ?_)
 refine Vr hG rfl ?_ ?_
 · exact appMore hp
 refine Vt ?_
 refine⟨?_,trivial⟩
 all_goals exact rfl
noncomputable def F200:Fun:=⟨[.pair (.int .i64) Y13],[.pair (.pure (.int .i64)) Z17],fun x=>Sm big20 Y22 x.1,fun x=>(id x.1,())⟩
theorem F200_ok:Meets Tryz.prog 200 F200:=by
 refine mZ (C:=mkC 13 [2] [0,1,2] [⟨169,_,F169_ok⟩]) (mO _ _ _ _) (fO _) Tryz.func200 rfl rfl rfl (by decide) rfl ?_
 rintro⟨a0,_⟩ hwf hpre ⟨⟩ hG rfl rfl
 show Vc _ _ [(0,⟨0,0,.c Z28 a0⟩)] _
 have hp1:List.length a0.2.1≤big20:=hpre.2.1.1
 have hp2:List.length a0.2.2≤4000000:=Nat.le_trans hpre.2.2.1 (by decide)
 refine Vm hG rfl (Vq ?_)
 refine VrD mixed hG rfl (by kernel_rfl) ?_ ?_
 · exact⟨appOk hp1,hp2⟩
 refine Vt ?_
 refine⟨?_,trivial⟩
 all_goals exact rfl
noncomputable def F99:Fun:=⟨[.pair (.int .i64) Y10],[.pair (.pure (.int .i64)) Z16],fun x=>Sm big20 Y20 x.1,fun x=>(id x.1,())⟩
theorem F99_ok:Meets Tryz.prog 99 F99:=by
 refine mZ (C:=mkC 8 [2] [0,1,2] [⟨169,_,F169_ok⟩]) (mO _ _ _ _) (fO _) Tryz.func99 rfl rfl rfl (by decide) rfl ?_
 rintro⟨a0,_⟩ hwf hpre ⟨⟩ hG rfl rfl
 show Vc _ _ [(0,⟨0,0,.c Z24 a0⟩)] _
 have hp:List.length a0.2.1≤4000000:=Nat.le_trans hpre.2.1.1 (by decide)
 refine Vm hG rfl (Vq ?_)
 refine Vr hG rfl ?_ ?_
 · exact hp
 refine Vm hG rfl (Vt ?_)
 refine⟨?_,trivial⟩
 all_goals exact rfl
noncomputable def F166:Fun:=⟨[.slice Y20],[.own Z32],fun x=>Sm big20 Y26 x.1,fun x=>(id x.1,())⟩
theorem F166_ok:Meets Tryz.prog 166 F166:=by
 refine mZ (C:=mkC 19 [2] [0,2,3,5,6,7,8,9] [⟨99,_,F99_ok⟩]) (mO _ _ _ _) (fO _) Tryz.func166 rfl rfl rfl (by decide) rfl ?_
 rintro⟨a0,_⟩ hwf hpre ⟨⟩ hG rfl rfl
 show Vc _ _ [(0,⟨0,0,.c Z29 a0⟩)] _
 have hp:_∧_:=hpre
 have hb:List.length a0≤bigLen:=hwf.1.1
 refine Vm hG rfl (Vm hG rfl (Vq (Vm hG rfl ?_)))
 refine Vb ?_
 refine Vc.loopF [(3,false,.own Z32),(8,false,.pure (.int .i64))] [0,2,6,7] (fun v=>cpInv a0 v.1 v.2.1) (fun v=>((List.length a0:Int)-v.2.1).toNat) rfl ?_ ?_
 · exact cpStart
 rintro⟨acc,(i:Int),_⟩ hI
 have hI:cpInv a0 acc i:=hI
 refine Vm hG rfl (Vq ?_)
 refine Vk rfl ?_ ?_<;>intro h0
 · have hl:i<(List.length a0:Int):=oTr h0
   have hE:Sm big20 Y20 (List.getD a0 i.toNat (dflt Y20)):=hp.2 _ (upElem hI.1 hl)
   refine Vs (Vq (Vb (Vq ?_)))
   refine Vr hG rfl ?_ ?_
   · exact cpRange hI hl
   refine Vr hG rfl ?_ ?_
   · exact⟨hE,cpLen hI hl hp.1⟩
   refine Vn hG rfl ?_
   refine⟨rfl,?_⟩
   exact cpStep (d:=dflt Y20) hI hl hb rfl
 · have hl:¬i<(List.length a0:Int):=oFa h0
   refine Vx (Vm hG rfl (Vt ?_))
   refine⟨?_,trivial⟩
   exact cpEnd hI hl
noncomputable def F94:Fun:=⟨[.slice Y36],[.own Z37],fun x=>(fun l=>List.length l≤4000000) x.1,fun x=>(id x.1,())⟩
theorem F94_ok:Meets Tryz.prog 94 F94:=by
 refine mZ (C:=mkC 6 [2] [0,2] []) (mO _ _ _ _) (fO _) Tryz.func94 rfl rfl rfl (by decide) rfl ?_
 rintro⟨a0,_⟩ hwf hpre ⟨⟩ hG rfl rfl
 show Vc _ _ [(0,⟨0,0,.c Z40 a0⟩)] _
 have hp:List.length a0≤4000000:=hpre
 refine Vm hG rfl (Vq ?_)
 refine Vr hG rfl ?_ ?_
 · exact appMore hp
 refine Vt ?_
 refine⟨?_,trivial⟩
 all_goals exact rfl
noncomputable def F153:Fun:=⟨[.pair (.int .i64) Y53],[.pair (.pure (.int .i64)) Z57],fun x=>Sm big20 Y56 x.1,fun x=>(id x.1,())⟩
theorem F153_ok:Meets Tryz.prog 153 F153:=by
 refine mZ (C:=mkC 13 [2] [0,1,2] [⟨94,_,F94_ok⟩]) (mO _ _ _ _) (fO _) Tryz.func153 rfl rfl rfl (by decide) rfl ?_
 rintro⟨a0,_⟩ hwf hpre ⟨⟩ hG rfl rfl
 show Vc _ _ [(0,⟨0,0,.c Z58 a0⟩)] _
 have hp1:List.length a0.2.2.2.1≤big20:=hpre.2.2.2.1.1
 have hp2:List.length a0.2.2.2.2≤4000000:=Nat.le_trans hpre.2.2.2.2.1 (by decide)
 refine Vm hG rfl (Vq ?_)
 refine Vr hG rfl ?_ ?_
 · exact appOk hp1
 refine Vq ?_
 refine Vr hG rfl ?_ ?_
 · exact hp2
 refine Vm hG rfl (Vt ?_)
 refine⟨?_,trivial⟩
 all_goals exact rfl
noncomputable def F92:Fun:=⟨[.pair Y26 Y59],[.pair Z35 Z61],fun x=>Sm big20 Y62 x.1,fun x=>(id x.1,())⟩
theorem F92_ok:Meets Tryz.prog 92 F92:=by
 refine mZ (C:=mkC 26 [2] [0,1,2,3,5,11,12,13,14] [⟨166,_,F166_ok⟩,⟨153,_,F153_ok⟩]) (mO _ _ _ _) (fO _) Tryz.func92 rfl rfl rfl (by decide) rfl ?_
 rintro⟨a0,_⟩ hwf hpre ⟨⟩ hG rfl rfl
 show Vc _ _ [(0,⟨0,0,.c Z64 a0⟩)] _
 have hp0:Sm big20 Y26 a0.1:=hpre.1
 have hp:_∧_:=hpre.2
 have hb:List.length a0.2≤bigLen:=hwf.1.2.1
 refine Vm hG rfl (Vq ?_)
 refine Vr hG rfl ?_ ?_
 · exact hp0
 refine Vq (Vm hG rfl (Vb ?_))
 refine Vc.loopF [(3,true,.pair Z35 Z61),(13,false,.pure (.int .i64))] [0,1,2,11,12] (fun v=>v.1.1=a0.1∧cpInv a0.2 v.1.2 v.2.1) (fun v=>((List.length a0.2:Int)-v.2.1).toNat) rfl ?_ ?_
 · exact⟨rfl,cpStart⟩
 rintro⟨acc,(i:Int),_⟩ hI
 have hI:acc.1=a0.1∧cpInv a0.2 acc.2 i:=hI
 refine Vm hG rfl (Vq ?_)
 refine Vk rfl ?_ ?_<;>intro h0
 · have hl:i<(List.length a0.2:Int):=oTr h0
   have hE:Sm big20 Y56 (List.getD a0.2 i.toNat (dflt Y56)):=hp.2 _ (upElem hI.2.1 hl)
   refine Vs (Vq (Vb (Vq ?_)))
   refine Vr hG rfl ?_ ?_
   · exact cpRange hI.2 hl
   refine VrD mixed hG rfl (by kernel_rfl) ?_ ?_
   · exact⟨hE,cpLen hI.2 hl hp.1⟩
   refine Vn hG rfl ?_
   refine⟨rfl,?_⟩
   have e:=cpStep (d:=dflt Y56) hI.2 hl hb rfl
   exact⟨⟨hI.1,e.1⟩,e.2⟩
 · have hl:¬i<(List.length a0.2:Int):=oFa h0
   refine Vx (Vm hG rfl (Vt ?_))
   refine⟨?_,trivial⟩
   exact Prod.ext hI.1 (cpEnd hI.2 hl)
noncomputable def F131:Fun:=⟨[.pair (.int .i64) Y73],[.pair (.pure (.int .i64)) Z80],fun x=>Sm big20 Y74 x.1,fun x=>(id x.1,())⟩
theorem F131_ok:Meets Tryz.prog 131 F131:=by
 refine mZ (C:=mkC 12 [2] [0,1,2] [⟨200,_,F200_ok⟩,⟨92,_,F92_ok⟩]) (mO _ _ _ _) (fO _) Tryz.func131 rfl rfl rfl (by decide) rfl ?_
 rintro⟨a0,_⟩ hwf hpre ⟨⟩ hG rfl rfl
 show Vc _ _ [(0,⟨0,0,.c Z75 a0⟩)] _
 have hp1:Sm big20 Y22 a0.2.2.1:=hpre.2.2.1
 have hp2:Sm big20 Y62 a0.2.2.2.2:=hpre.2.2.2.2
 refine Vm hG rfl (Vq ?_)
 refine Vr hG rfl ?_ ?_
 · exact hp1
 refine Vq ?_
 refine Vr hG rfl ?_ ?_
 · exact hp2
 refine Vm hG rfl (Vt ?_)
 refine⟨?_,trivial⟩
 all_goals exact rfl
noncomputable def F80:Fun:=⟨[.pair (.int .i64) Y76],[.pair (.pure (.int .i64)) Z82],fun x=>Sm big20 Y77 x.1,fun x=>(id x.1,())⟩
theorem F80_ok:Meets Tryz.prog 80 F80:=by
 refine mZ (C:=mkC 25 [2] [0,1,2,3,5,10,11,12,13] [⟨131,_,F131_ok⟩]) (mO _ _ _ _) (fO _) Tryz.func80 rfl rfl rfl (by decide) rfl ?_
 rintro⟨a0,_⟩ hwf hpre ⟨⟩ hG rfl rfl
 show Vc _ _ [(0,⟨0,0,.c Z78 a0⟩)] _
 have hp:_∧_:=hpre.2
 have hb:List.length a0.2≤bigLen:=hwf.1.2.1
 refine Vm hG rfl (Vm hG rfl (Vq (Vm hG rfl ?_)))
 refine Vb ?_
 refine Vc.loopF [(3,true,.pair (.pure (.int .i64)) Z82),(12,false,.pure (.int .i64))] [0,1,2,10,11] (fun v=>v.1.1=a0.1∧cpInv a0.2 v.1.2 v.2.1) (fun v=>((List.length a0.2:Int)-v.2.1).toNat) rfl ?_ ?_
 · exact⟨rfl,cpStart⟩
 rintro⟨acc,(i:Int),_⟩ hI
 have hI:acc.1=a0.1∧cpInv a0.2 acc.2 i:=hI
 refine Vm hG rfl (Vq ?_)
 refine Vk rfl ?_ ?_<;>intro h0
 · have hl:i<(List.length a0.2:Int):=oTr h0
   have hE:Sm big20 Y74 (List.getD a0.2 i.toNat (dflt Y74)):=hp.2 _ (upElem hI.2.1 hl)
   refine Vs (Vq (Vb (Vq ?_)))
   refine Vr hG rfl ?_ ?_
   · exact cpRange hI.2 hl
   refine VrD mixed hG rfl (by kernel_rfl) ?_ ?_
   · exact⟨hE,cpLen hI.2 hl hp.1⟩
   refine Vn hG rfl ?_
   refine⟨rfl,?_⟩
   have e:=cpStep (d:=dflt Y74) hI.2 hl hb rfl
   exact⟨⟨hI.1,e.1⟩,e.2⟩
 · have hl:¬i<(List.length a0.2:Int):=oFa h0
   refine Vx (Vm hG rfl (Vt ?_))
   refine⟨?_,trivial⟩
   exact Prod.ext hI.1 (cpEnd hI.2 hl)
noncomputable def F46:Fun:=⟨[.pair (.int .i64) Y76,.pair (.int .i64) Y73],[.pair (.pure (.int .i64)) Z82,.pure (.bool)],fun x=>(fun(a:Archive) (x:Item)=>Sm big20 Y77 a∧Sm big20 Y74 x) x.1 x.2.1,fun x=>((addItemF x.1 x.2.1).1,(addItemF x.1 x.2.1).2,())⟩
theorem F46_ok:Meets Tryz.prog 46 F46:=by
 refine mZ (C:=mkC 62 [4,5] [0,1,2,3,4,5,6,7,17,37,58] [⟨47,_,F47_ok⟩,⟨16,_,F16_ok⟩,⟨80,_,F80_ok⟩,⟨131,_,F131_ok⟩]) (mO _ _ _ _) (fO _) Tryz.func46 rfl rfl rfl (by decide) rfl ?_
 rintro⟨a0,a1,_⟩ hwf hpre ⟨⟩ hG rfl rfl
 show Vc _ _ [(0,⟨0,0,.c Z78 a0⟩),(1,⟨0,0,.c Z75 a1⟩)] _
 have hp1:Sm big20 Y77 a0:=hpre.1
 have hp2:Sm big20 Y74 a1:=hpre.2
 have hs:List.length a0.2≤1048576:=hp1.2.1
 have hb:List.length a0.2≤bigLen:=hwf.1.2.1
 refine Vm hG rfl (Vq (Vq ?_))
 refine Vr hG rfl ?_ ?_
 · repeat' (first | exact trivial | refine And.intro ?_ ?_ | intro _)
 refine Vk rfl ?_ ?_<;>intro h0
 · have g0:pick2 (decide (itAt a0 a1.1≥0)) true (!(archF a0))=true:=h0
   refine Vq ?_
   refine Vr hG rfl ?_ ?_
   · exact hp1
   refine Vt ?_
   have e:=ai0 g0
   refine⟨?_,?_,trivial⟩
   · exact(congrArg Prod.fst e).symm
   · exact(congrArg Prod.snd e).symm
 · have g0:=aiGo (a:=a0) (x:=a1) h0
   refine Vs (Vq ?_)
   refine Vr hG rfl ?_ ?_
   · exact hp1
   refine Vm hG rfl (Vq (Vb ?_))
   refine Vc.loopF [(7,false,.pure (.int .i64))] [0,1,2,3,4,5,6,17,58] (fun v=>tkInv (fun(y:Item)=>decide (y.1<a1.1)) a0.2 v.1) (fun v=>((List.length a0.2:Int)-v.1).toNat) rfl ?_ ?_
   · exact tkStart
   rintro⟨(i:Int),_⟩ hI
   have hI:tkInv (fun(y:Item)=>decide (y.1<a1.1)) a0.2 i:=hI
   refine Vq (Vq ?_)
   refine VrD mixed hG rfl (by kernel_rfl) ?_ ?_
   · exact fun h=>tkRange hI (oTr h)
   refine Vk rfl ?_ ?_<;>intro h1
   · have g1:pick2 (decide (i<(List.length a0.2:Int))) (decide ((List.getD a0.2 i.toNat (dflt TItem)).1<a1.1)) false=true:=h1
     refine Vs (Vb (Vn hG rfl ?_))
     refine⟨rfl,?_⟩
     exact tkStep (p:=fun(y:Item)=>decide (y.1<a1.1)) hI (Nat.le_trans hs (by decide)) g1
   · have g1:pick2 (decide (i<(List.length a0.2:Int))) (decide ((List.getD a0.2 i.toNat (dflt TItem)).1<a1.1)) false=false:=h1
     have hk:=tkEnd (p:=fun(y:Item)=>decide (y.1<a1.1)) hI g1
     have ei:(List.take (subL a0.2 0 i).length a0.2++([]++[a1])++List.drop i.toNat a0.2)=insI a1 a0.2:=insP_eq (by rw[sub0_len hI];exact hk) hk
     refine Vx (Vq ?_)
     refine VrD mixed hG rfl (by kernel_rfl) ?_ ?_
     · exact insConds2 hI (Nat.le_trans hs (by decide)) hp2
     refine Vq (Vm hG rfl ?_)
     refine Vk rfl ?_ ?_<;>intro h2
     · have g2:(!(archF (a0.1,insI a1 a0.2)))=true:=by rw[←ei];exact h2
       refine Vq ?_
       refine Vr hG rfl ?_ ?_
       · exact hp1
       refine Vt ?_
       have e:=ai1 g2
       refine⟨?_,?_,trivial⟩
       · exact(congrArg Prod.fst e).symm
       · exact(congrArg Prod.snd e).symm
     · have g2:(!(archF (a0.1,insI a1 a0.2)))=false:=by rw[←ei];exact h2
       refine Vs (Vm hG rfl (Vt ?_))
       have e:addItemF a0 a1=((a0.1,(List.take (subL a0.2 0 i).length a0.2++([]++[a1])++List.drop i.toNat a0.2)),true):=by rw[ei];exact ai2 g0 g2
       refine⟨?_,?_,trivial⟩
       · exact(congrArg Prod.fst e).symm
       · exact(congrArg Prod.snd e).symm
noncomputable def F235:Fun:=⟨[.slice (.str),.slice (.str)],[.pure (.bool)],fun _=>True,fun x=>(eqC x.1 x.2.1,())⟩
theorem F235_ok:Meets Tryz.prog 235 F235:=by
 refine mZ (C:=mkC 26 [4] [0,1,4,5,10,12,13,14,24] []) (mO _ _ _ _) (fO _) Tryz.func235 rfl rfl rfl (by decide) rfl ?_
 rintro⟨a0,a1,_⟩ hwf hpre ⟨⟩ hG rfl rfl
 show Vc _ _ [(0,⟨0,0,.c (.pure (.slice (.str))) a0⟩),(1,⟨0,0,.c (.pure (.slice (.str))) a1⟩)] _
 have hb0:List.length a0≤bigLen:=hwf.1.1
 refine Vm hG rfl (Vq (Vm hG rfl ?_))
 refine Vk rfl ?_ ?_<;>intro h0
 · refine Vm hG rfl (Vt ?_)
   refine⟨?_,trivial⟩
   refine eqC_no (fun e=>?_)
   have e:a0=a1:=e
   have g:((List.length a0:Int) != (List.length a1:Int))=true:=h0
   subst e
   exact bself g
 · have g0:((List.length a0:Int) != (List.length a1:Int))=false:=h0
   have f0_0:List.length a0=List.length a1:=(lenEq g0)
   refine Vs (Vq (Vm hG rfl (Vb ?_)))
   refine Vc.loopF [(13,false,.pure (.int .i64))] [0,1,10,12] (fun v=>eqInv a0 a1 v.1) (fun v=>((List.length a0:Int)-v.1).toNat) rfl ?_ ?_
   · exact eqStart f0_0
   rintro⟨(i0:Int),_⟩ hI0
   have hI0:eqInv a0 a1 i0:=hI0
   refine Vm hG rfl (Vq ?_)
   refine Vk rfl ?_ ?_<;>intro h1
   · have hl0:i0<(List.length a0:Int):=oTr h1
     refine Vs (Vq (Vb (Vm hG rfl ?_)))
     refine Vq ?_
     refine VrD mixed hG rfl (by kernel_rfl) ?_ ?_
     · exact⟨(eqRange hI0 hl0).1,(eqRange hI0 hl0).2⟩
     refine Vk rfl ?_ ?_<;>intro h2
     · refine Vm hG rfl (Vt ?_)
       refine⟨?_,trivial⟩
       refine eqC_no (fun e=>?_)
       have e:a0=a1:=e
       have g:((List.getD a0 i0.toNat (dflt (.str))) != (List.getD a1 i0.toNat (dflt (.str))))=true:=h2
       subst e
       exact bselfS g
     · have g2:((List.getD a0 i0.toNat (dflt (.str))) != (List.getD a1 i0.toNat (dflt (.str))))=false:=h2
       have f2_0:(List.getD a0 i0.toNat (dflt (.str)))=(List.getD a1 i0.toNat (dflt (.str))):=(bneS g2)
       have s0:(List.getD a0 i0.toNat (dflt (.str)))=(List.getD a1 i0.toNat (dflt (.str))):=f2_0
       refine Vs (Vn hG rfl ?_)
       refine⟨rfl,?_⟩
       exact⟨eqStep (d:=dflt (.str)) hI0 hl0 hb0 s0,(upStep hI0.1 hl0 hb0).2.2⟩
   · have hl0:¬i0<(List.length a0:Int):=oFa h1
     have e0:a0=a1:=eqEnd hI0 hl0
     refine Vx (Vm hG rfl (Vt ?_))
     refine⟨?_,trivial⟩
     exact eqC_yes e0
noncomputable def F155:Fun:=⟨[.pair (.int .i64) Y13,.pair (.int .i64) Y13],[.pure (.bool)],fun _=>True,fun x=>(eqC x.1 x.2.1,())⟩
theorem F155_ok:Meets Tryz.prog 155 F155:=by
 refine mZ (C:=mkC 24 [4] [0,1,2,3,4] [⟨235,_,F235_ok⟩,⟨107,_,F107_ok⟩]) (mO _ _ _ _) (fO _) Tryz.func155 rfl rfl rfl (by decide) rfl ?_
 rintro⟨a0,a1,_⟩ hwf hpre ⟨⟩ hG rfl rfl
 show Vc _ _ [(0,⟨0,0,.c Z28 a0⟩),(1,⟨0,0,.c Z28 a1⟩)] _
 refine Vm hG rfl (Vq ?_)
 refine Vr hG rfl ?_ ?_
 · repeat' (first | exact trivial | refine And.intro ?_ ?_ | intro _)
 refine Vt ?_
 refine⟨?_,trivial⟩
 refine eqC_by (fun e=>?_) (fun e=>?_)
 · have e:(pick2 (pick2 (a0.1==a1.1) (eqC a0.2.1 a1.2.1) false) (eqC a0.2.2 a1.2.2) false)=true:=e
   have r_0:a0.1=a1.1:=(beqI2 (andT (andT e).1).1)
   have r_1:a0.2.1=a1.2.1:=(eqC_iff.1 (andT (andT e).1).2)
   have r_2:a0.2.2=a1.2.2:=(eqC_iff.1 (andT e).2)
   exact(Prod.ext r_0 (Prod.ext r_1 r_2))
 · have e:a0=a1:=e
   subst e
   exact(yesAnd (yesAnd beqSelf (eqC_self _)) (eqC_self _))
noncomputable def F136:Fun:=⟨[.slice Y20,.slice Y20],[.pure (.bool)],fun _=>True,fun x=>(eqC x.1 x.2.1,())⟩
theorem F136_ok:Meets Tryz.prog 136 F136:=by
 refine mZ (C:=mkC 27 [4] [0,1,4,5,10,12,13,14,25] [⟨29,_,F29_ok⟩]) (mO _ _ _ _) (fO _) Tryz.func136 rfl rfl rfl (by decide) rfl ?_
 rintro⟨a0,a1,_⟩ hwf hpre ⟨⟩ hG rfl rfl
 show Vc _ _ [(0,⟨0,0,.c Z29 a0⟩),(1,⟨0,0,.c Z29 a1⟩)] _
 have hb0:List.length a0≤bigLen:=hwf.1.1
 refine Vm hG rfl (Vq (Vm hG rfl ?_))
 refine Vk rfl ?_ ?_<;>intro h0
 · refine Vm hG rfl (Vt ?_)
   refine⟨?_,trivial⟩
   refine eqC_no (fun e=>?_)
   have e:a0=a1:=e
   have g:((List.length a0:Int) != (List.length a1:Int))=true:=h0
   subst e
   exact bself g
 · have g0:((List.length a0:Int) != (List.length a1:Int))=false:=h0
   have f0_0:List.length a0=List.length a1:=(lenEq g0)
   refine Vs (Vq (Vm hG rfl (Vb ?_)))
   refine Vc.loopF [(13,false,.pure (.int .i64))] [0,1,10,12] (fun v=>eqInv a0 a1 v.1) (fun v=>((List.length a0:Int)-v.1).toNat) rfl ?_ ?_
   · exact eqStart f0_0
   rintro⟨(i0:Int),_⟩ hI0
   have hI0:eqInv a0 a1 i0:=hI0
   refine Vm hG rfl (Vq ?_)
   refine Vk rfl ?_ ?_<;>intro h1
   · have hl0:i0<(List.length a0:Int):=oTr h1
     refine Vs (Vq (Vb (Vm hG rfl ?_)))
     refine Vq ?_
     refine VrD mixed hG rfl (by kernel_rfl) ?_ ?_
     · exact⟨(eqRange hI0 hl0).1,(eqRange hI0 hl0).2,trivial⟩
     refine Vk rfl ?_ ?_<;>intro h2
     · refine Vm hG rfl (Vt ?_)
       refine⟨?_,trivial⟩
       refine eqC_no (fun e=>?_)
       have e:a0=a1:=e
       have g:(!(eqC (List.getD a0 i0.toNat (dflt Y20)) (List.getD a1 i0.toNat (dflt Y20))))=true:=h2
       subst e
       exact(nself (eqC_self _)) g
     · have g2:(!(eqC (List.getD a0 i0.toNat (dflt Y20)) (List.getD a1 i0.toNat (dflt Y20))))=false:=h2
       have f2_0:(List.getD a0 i0.toNat (dflt Y20))=(List.getD a1 i0.toNat (dflt Y20)):=(eqC_iff.1 (notF g2))
       have s0:(List.getD a0 i0.toNat (dflt Y20))=(List.getD a1 i0.toNat (dflt Y20)):=f2_0
       refine Vs (Vn hG rfl ?_)
       refine⟨rfl,?_⟩
       exact⟨eqStep (d:=dflt Y20) hI0 hl0 hb0 s0,(upStep hI0.1 hl0 hb0).2.2⟩
   · have hl0:¬i0<(List.length a0:Int):=oFa h1
     have e0:a0=a1:=eqEnd hI0 hl0
     refine Vx (Vm hG rfl (Vt ?_))
     refine⟨?_,trivial⟩
     exact eqC_yes e0
noncomputable def F93:Fun:=⟨[.slice Y36,.slice Y36],[.pure (.bool)],fun _=>True,fun x=>(eqC x.1 x.2.1,())⟩
theorem F93_ok:Meets Tryz.prog 93 F93:=by
 refine mZ (C:=mkC 26 [4] [0,1,4,5,10,12,13,14,24] []) (mO _ _ _ _) (fO _) Tryz.func93 rfl rfl rfl (by decide) rfl ?_
 rintro⟨a0,a1,_⟩ hwf hpre ⟨⟩ hG rfl rfl
 show Vc _ _ [(0,⟨0,0,.c Z40 a0⟩),(1,⟨0,0,.c Z40 a1⟩)] _
 have hb0:List.length a0≤bigLen:=hwf.1.1
 refine Vm hG rfl (Vq (Vm hG rfl ?_))
 refine Vk rfl ?_ ?_<;>intro h0
 · refine Vm hG rfl (Vt ?_)
   refine⟨?_,trivial⟩
   refine eqC_no (fun e=>?_)
   have e:a0=a1:=e
   have g:((List.length a0:Int) != (List.length a1:Int))=true:=h0
   subst e
   exact bself g
 · have g0:((List.length a0:Int) != (List.length a1:Int))=false:=h0
   have f0_0:List.length a0=List.length a1:=(lenEq g0)
   refine Vs (Vq (Vm hG rfl (Vb ?_)))
   refine Vc.loopF [(13,false,.pure (.int .i64))] [0,1,10,12] (fun v=>eqInv a0 a1 v.1) (fun v=>((List.length a0:Int)-v.1).toNat) rfl ?_ ?_
   · exact eqStart f0_0
   rintro⟨(i0:Int),_⟩ hI0
   have hI0:eqInv a0 a1 i0:=hI0
   refine Vm hG rfl (Vq ?_)
   refine Vk rfl ?_ ?_<;>intro h1
   · have hl0:i0<(List.length a0:Int):=oTr h1
     refine Vs (Vq (Vb (Vm hG rfl ?_)))
     refine Vq ?_
     refine VrD mixed hG rfl (by kernel_rfl) ?_ ?_
     · exact⟨(eqRange hI0 hl0).1,(eqRange hI0 hl0).2⟩
     refine Vk rfl ?_ ?_<;>intro h2
     · refine Vm hG rfl (Vt ?_)
       refine⟨?_,trivial⟩
       refine eqC_no (fun e=>?_)
       have e:a0=a1:=e
       have g:(!(El.eq Y36 (List.getD a0 i0.toNat (dflt Y36)) (List.getD a1 i0.toNat (dflt Y36))))=true:=h2
       subst e
       exact(eself rfl) g
     · have g2:(!(El.eq Y36 (List.getD a0 i0.toNat (dflt Y36)) (List.getD a1 i0.toNat (dflt Y36))))=false:=h2
       have f2_0:(List.getD a0 i0.toNat (dflt Y36))=(List.getD a1 i0.toNat (dflt Y36)):=(notE g2 rfl)
       have s0:(List.getD a0 i0.toNat (dflt Y36))=(List.getD a1 i0.toNat (dflt Y36)):=f2_0
       refine Vs (Vn hG rfl ?_)
       refine⟨rfl,?_⟩
       exact⟨eqStep (d:=dflt Y36) hI0 hl0 hb0 s0,(upStep hI0.1 hl0 hb0).2.2⟩
   · have hl0:¬i0<(List.length a0:Int):=oFa h1
     have e0:a0=a1:=eqEnd hI0 hl0
     refine Vx (Vm hG rfl (Vt ?_))
     refine⟨?_,trivial⟩
     exact eqC_yes e0
noncomputable def F137:Fun:=⟨[.pair (.int .i64) Y53,.pair (.int .i64) Y53],[.pure (.bool)],fun _=>True,fun x=>(eqC x.1 x.2.1,())⟩
theorem F137_ok:Meets Tryz.prog 137 F137:=by
 refine mZ (C:=mkC 57 [4] [0,1,2,3,4,5,33,36,37,38,50] [⟨93,_,F93_ok⟩]) (mO _ _ _ _) (fO _) Tryz.func137 rfl rfl rfl (by decide) rfl ?_
 rintro⟨a0,a1,_⟩ hwf hpre ⟨⟩ hG rfl rfl
 show Vc _ _ [(0,⟨0,0,.c Z58 a0⟩),(1,⟨0,0,.c Z58 a1⟩)] _
 have hb0:List.length a0.2.2.2.1≤bigLen:=hwf.1.2.2.2.1.1
 refine Vm hG rfl (Vq (Vm hG rfl ?_))
 refine Vk rfl ?_ ?_<;>intro h0
 · refine Vm hG rfl (Vt ?_)
   refine⟨?_,trivial⟩
   refine eqC_no (fun e=>?_)
   have e:a0=a1:=e
   have g:(pick2 (pick2 (pick2 (a0.1 != a1.1) true (a0.2.1 != a1.2.1)) true (a0.2.2.1 != a1.2.2.1)) true ((List.length a0.2.2.2.1:Int) != (List.length a1.2.2.2.1:Int)))=true:=h0
   subst e
   exact(noOr (noOr (noOr bself bself) bself) bself) g
 · have g0:(pick2 (pick2 (pick2 (a0.1 != a1.1) true (a0.2.1 != a1.2.1)) true (a0.2.2.1 != a1.2.2.1)) true ((List.length a0.2.2.2.1:Int) != (List.length a1.2.2.2.1:Int)))=false:=h0
   have f0_0:a0.1=a1.1:=(bneI (orF (orF (orF g0).1).1).1)
   have f0_1:a0.2.1=a1.2.1:=(bneI (orF (orF (orF g0).1).1).2)
   have f0_2:a0.2.2.1=a1.2.2.1:=(bneI (orF (orF g0).1).2)
   have f0_3:List.length a0.2.2.2.1=List.length a1.2.2.2.1:=(lenEq (orF g0).2)
   refine Vs (Vq (Vm hG rfl (Vb ?_)))
   refine Vc.loopF [(37,false,.pure (.int .i64))] [0,1,2,3,33,36] (fun v=>eqInv a0.2.2.2.1 a1.2.2.2.1 v.1) (fun v=>((List.length a0.2.2.2.1:Int)-v.1).toNat) rfl ?_ ?_
   · exact eqStart f0_3
   rintro⟨(i0:Int),_⟩ hI0
   have hI0:eqInv a0.2.2.2.1 a1.2.2.2.1 i0:=hI0
   refine Vm hG rfl (Vq ?_)
   refine Vk rfl ?_ ?_<;>intro h1
   · have hl0:i0<(List.length a0.2.2.2.1:Int):=oTr h1
     refine Vs (Vq (Vb (Vm hG rfl ?_)))
     refine Vq ?_
     refine VrD mixed hG rfl (by kernel_rfl) ?_ ?_
     · exact⟨(eqRange hI0 hl0).1,(eqRange hI0 hl0).2⟩
     refine Vk rfl ?_ ?_<;>intro h2
     · refine Vm hG rfl (Vt ?_)
       refine⟨?_,trivial⟩
       refine eqC_no (fun e=>?_)
       have e:a0=a1:=e
       have g:(!(El.eq Y2 (List.getD a0.2.2.2.1 i0.toNat (dflt Y2)) (List.getD a1.2.2.2.1 i0.toNat (dflt Y2))))=true:=h2
       subst e
       exact(eself rfl) g
     · have g2:(!(El.eq Y2 (List.getD a0.2.2.2.1 i0.toNat (dflt Y2)) (List.getD a1.2.2.2.1 i0.toNat (dflt Y2))))=false:=h2
       have f2_0:(List.getD a0.2.2.2.1 i0.toNat (dflt Y2))=(List.getD a1.2.2.2.1 i0.toNat (dflt Y2)):=(notE g2 rfl)
       have s0:(List.getD a0.2.2.2.1 i0.toNat (dflt Y2))=(List.getD a1.2.2.2.1 i0.toNat (dflt Y2)):=f2_0
       refine Vs (Vn hG rfl ?_)
       refine⟨rfl,?_⟩
       exact⟨eqStep (d:=dflt Y2) hI0 hl0 hb0 s0,(upStep hI0.1 hl0 hb0).2.2⟩
   · have hl0:¬i0<(List.length a0.2.2.2.1:Int):=oFa h1
     have e0:a0.2.2.2.1=a1.2.2.2.1:=eqEnd hI0 hl0
     refine Vx (Vq ?_)
     refine Vr hG rfl ?_ ?_
     · repeat' (first | exact trivial | refine And.intro ?_ ?_ | intro _)
     refine Vt ?_
     refine⟨?_,trivial⟩
     refine eqC_by (fun e=>?_) (fun e=>?_)
     · have e:(eqC a0.2.2.2.2 a1.2.2.2.2)=true:=e
       have r_0:a0.2.2.2.2=a1.2.2.2.2:=(eqC_iff.1 e)
       exact(Prod.ext f0_0 (Prod.ext f0_1 (Prod.ext f0_2 (Prod.ext e0 r_0))))
     · have e:a0=a1:=e
       subst e
       exact(eqC_self _)
noncomputable def F54:Fun:=⟨[.pair Y26 Y59,.pair Y26 Y59],[.pure (.bool)],fun _=>True,fun x=>(eqC x.1 x.2.1,())⟩
theorem F54_ok:Meets Tryz.prog 54 F54:=by
 refine mZ (C:=mkC 40 [4] [0,1,2,3,4,5,20,23,24,25,38] [⟨136,_,F136_ok⟩,⟨137,_,F137_ok⟩]) (mO _ _ _ _) (fO _) Tryz.func54 rfl rfl rfl (by decide) rfl ?_
 rintro⟨a0,a1,_⟩ hwf hpre ⟨⟩ hG rfl rfl
 show Vc _ _ [(0,⟨0,0,.c Z64 a0⟩),(1,⟨0,0,.c Z64 a1⟩)] _
 have hb0:List.length a0.2≤bigLen:=hwf.1.2.1
 refine Vm hG rfl (Vq (Vq ?_))
 refine Vr hG rfl ?_ ?_
 · repeat' (first | exact trivial | refine And.intro ?_ ?_ | intro _)
 refine Vk rfl ?_ ?_<;>intro h0
 · refine Vm hG rfl (Vt ?_)
   refine⟨?_,trivial⟩
   refine eqC_no (fun e=>?_)
   have e:a0=a1:=e
   have g:(pick2 (!(eqC a0.1 a1.1)) true ((List.length a0.2:Int) != (List.length a1.2:Int)))=true:=h0
   subst e
   exact(noOr (nself (eqC_self _)) bself) g
 · have g0:(pick2 (!(eqC a0.1 a1.1)) true ((List.length a0.2:Int) != (List.length a1.2:Int)))=false:=h0
   have f0_0:a0.1=a1.1:=(eqC_iff.1 (notF (orF g0).1))
   have f0_1:List.length a0.2=List.length a1.2:=(lenEq (orF g0).2)
   refine Vs (Vq (Vm hG rfl (Vb ?_)))
   refine Vc.loopF [(24,false,.pure (.int .i64))] [0,1,2,3,20,23] (fun v=>eqInv a0.2 a1.2 v.1) (fun v=>((List.length a0.2:Int)-v.1).toNat) rfl ?_ ?_
   · exact eqStart f0_1
   rintro⟨(i0:Int),_⟩ hI0
   have hI0:eqInv a0.2 a1.2 i0:=hI0
   refine Vm hG rfl (Vq ?_)
   refine Vk rfl ?_ ?_<;>intro h1
   · have hl0:i0<(List.length a0.2:Int):=oTr h1
     refine Vs (Vq (Vb (Vm hG rfl ?_)))
     refine Vq ?_
     refine VrD mixed hG rfl (by kernel_rfl) ?_ ?_
     · exact⟨(eqRange hI0 hl0).1,(eqRange hI0 hl0).2,trivial⟩
     refine Vk rfl ?_ ?_<;>intro h2
     · refine Vm hG rfl (Vt ?_)
       refine⟨?_,trivial⟩
       refine eqC_no (fun e=>?_)
       have e:a0=a1:=e
       have g:(!(eqC (List.getD a0.2 i0.toNat (dflt Y56)) (List.getD a1.2 i0.toNat (dflt Y56))))=true:=h2
       subst e
       exact(nself (eqC_self _)) g
     · have g2:(!(eqC (List.getD a0.2 i0.toNat (dflt Y56)) (List.getD a1.2 i0.toNat (dflt Y56))))=false:=h2
       have f2_0:(List.getD a0.2 i0.toNat (dflt Y56))=(List.getD a1.2 i0.toNat (dflt Y56)):=(eqC_iff.1 (notF g2))
       have s0:(List.getD a0.2 i0.toNat (dflt Y56))=(List.getD a1.2 i0.toNat (dflt Y56)):=f2_0
       refine Vs (Vn hG rfl ?_)
       refine⟨rfl,?_⟩
       exact⟨eqStep (d:=dflt Y56) hI0 hl0 hb0 s0,(upStep hI0.1 hl0 hb0).2.2⟩
   · have hl0:¬i0<(List.length a0.2:Int):=oFa h1
     have e0:a0.2=a1.2:=eqEnd hI0 hl0
     refine Vx (Vm hG rfl (Vt ?_))
     refine⟨?_,trivial⟩
     exact eqC_yes (Prod.ext f0_0 e0)
noncomputable def F84:Fun:=⟨[.pair (.int .i64) Y73,.pair (.int .i64) Y73],[.pure (.bool)],fun _=>True,fun x=>(eqC x.1 x.2.1,())⟩
theorem F84_ok:Meets Tryz.prog 84 F84:=by
 refine mZ (C:=mkC 38 [4] [0,1,2,3,4] [⟨155,_,F155_ok⟩,⟨54,_,F54_ok⟩]) (mO _ _ _ _) (fO _) Tryz.func84 rfl rfl rfl (by decide) rfl ?_
 rintro⟨a0,a1,_⟩ hwf hpre ⟨⟩ hG rfl rfl
 show Vc _ _ [(0,⟨0,0,.c Z75 a0⟩),(1,⟨0,0,.c Z75 a1⟩)] _
 refine Vm hG rfl (Vq ?_)
 refine Vr hG rfl ?_ ?_
 · repeat' (first | exact trivial | refine And.intro ?_ ?_ | intro _)
 refine Vt ?_
 refine⟨?_,trivial⟩
 refine eqC_by (fun e=>?_) (fun e=>?_)
 · have e:(pick2 (pick2 (pick2 (pick2 (a0.1==a1.1) (a0.2.1==a1.2.1) false) (eqC a0.2.2.1 a1.2.2.1) false) (El.eq Y51 a0.2.2.2.1 a1.2.2.2.1) false) (eqC a0.2.2.2.2 a1.2.2.2.2) false)=true:=e
   have r_0:a0.1=a1.1:=(beqI2 (andT (andT (andT (andT e).1).1).1).1)
   have r_1:a0.2.1=a1.2.1:=(beqI2 (andT (andT (andT (andT e).1).1).1).2)
   have r_2:a0.2.2.1=a1.2.2.1:=(eqC_iff.1 (andT (andT (andT e).1).1).2)
   have r_3:a0.2.2.2.1=a1.2.2.2.1:=(eqlE (andT (andT e).1).2 rfl)
   have r_4:a0.2.2.2.2=a1.2.2.2.2:=(eqC_iff.1 (andT e).2)
   exact(Prod.ext r_0 (Prod.ext r_1 (Prod.ext r_2 (Prod.ext r_3 r_4))))
 · have e:a0=a1:=e
   subst e
   exact(yesAnd (yesAnd (yesAnd (yesAnd beqSelf beqSelf) (eqC_self _)) (El.eq_self _ _ rfl)) (eqC_self _))
noncomputable def F13:Fun:=⟨[.pair (.int .i64) Y76,.pair (.int .i64) Y76],[.pure (.bool)],fun _=>True,fun x=>(eqC x.1 x.2.1,())⟩
theorem F13_ok:Meets Tryz.prog 13 F13:=by
 refine mZ (C:=mkC 39 [4] [0,1,2,3,4,5,19,22,23,24,37] [⟨84,_,F84_ok⟩]) (mO _ _ _ _) (fO _) Tryz.func13 rfl rfl rfl (by decide) rfl ?_
 rintro⟨a0,a1,_⟩ hwf hpre ⟨⟩ hG rfl rfl
 show Vc _ _ [(0,⟨0,0,.c Z78 a0⟩),(1,⟨0,0,.c Z78 a1⟩)] _
 have hb0:List.length a0.2≤bigLen:=hwf.1.2.1
 refine Vm hG rfl (Vq (Vm hG rfl ?_))
 refine Vk rfl ?_ ?_<;>intro h0
 · refine Vm hG rfl (Vt ?_)
   refine⟨?_,trivial⟩
   refine eqC_no (fun e=>?_)
   have e:a0=a1:=e
   have g:(pick2 (a0.1 != a1.1) true ((List.length a0.2:Int) != (List.length a1.2:Int)))=true:=h0
   subst e
   exact(noOr bself bself) g
 · have g0:(pick2 (a0.1 != a1.1) true ((List.length a0.2:Int) != (List.length a1.2:Int)))=false:=h0
   have f0_0:a0.1=a1.1:=(bneI (orF g0).1)
   have f0_1:List.length a0.2=List.length a1.2:=(lenEq (orF g0).2)
   refine Vs (Vq (Vm hG rfl (Vb ?_)))
   refine Vc.loopF [(23,false,.pure (.int .i64))] [0,1,2,3,19,22] (fun v=>eqInv a0.2 a1.2 v.1) (fun v=>((List.length a0.2:Int)-v.1).toNat) rfl ?_ ?_
   · exact eqStart f0_1
   rintro⟨(i0:Int),_⟩ hI0
   have hI0:eqInv a0.2 a1.2 i0:=hI0
   refine Vm hG rfl (Vq ?_)
   refine Vk rfl ?_ ?_<;>intro h1
   · have hl0:i0<(List.length a0.2:Int):=oTr h1
     refine Vs (Vq (Vb (Vm hG rfl ?_)))
     refine Vq ?_
     refine VrD mixed hG rfl (by kernel_rfl) ?_ ?_
     · exact⟨(eqRange hI0 hl0).1,(eqRange hI0 hl0).2,trivial⟩
     refine Vk rfl ?_ ?_<;>intro h2
     · refine Vm hG rfl (Vt ?_)
       refine⟨?_,trivial⟩
       refine eqC_no (fun e=>?_)
       have e:a0=a1:=e
       have g:(!(eqC (List.getD a0.2 i0.toNat (dflt Y74)) (List.getD a1.2 i0.toNat (dflt Y74))))=true:=h2
       subst e
       exact(nself (eqC_self _)) g
     · have g2:(!(eqC (List.getD a0.2 i0.toNat (dflt Y74)) (List.getD a1.2 i0.toNat (dflt Y74))))=false:=h2
       have f2_0:(List.getD a0.2 i0.toNat (dflt Y74))=(List.getD a1.2 i0.toNat (dflt Y74)):=(eqC_iff.1 (notF g2))
       have s0:(List.getD a0.2 i0.toNat (dflt Y74))=(List.getD a1.2 i0.toNat (dflt Y74)):=f2_0
       refine Vs (Vn hG rfl ?_)
       refine⟨rfl,?_⟩
       exact⟨eqStep (d:=dflt Y74) hI0 hl0 hb0 s0,(upStep hI0.1 hl0 hb0).2.2⟩
   · have hl0:¬i0<(List.length a0.2:Int):=oFa h1
     have e0:a0.2=a1.2:=eqEnd hI0 hl0
     refine Vx (Vm hG rfl (Vt ?_))
     refine⟨?_,trivial⟩
     exact eqC_yes (Prod.ext f0_0 e0)
noncomputable def F135:Fun:=⟨[.pair Y26 Y59,.pair (.int .i64) Y10],[.pair Z35 Z61,.pure (.bool)],fun x=>(fun(s:Strand) (p:Piece)=>Sm big20 Y62 s∧Sm big20 Y20 p) x.1 x.2.1,fun x=>((addPieceF x.1 x.2.1).1,(addPieceF x.1 x.2.1).2,())⟩
theorem F135_ok:Meets Tryz.prog 135 F135:=by
 refine mZ (C:=mkC 22 [4,5] [0,1,2,3,4,5,6,18] [⟨92,_,F92_ok⟩,⟨99,_,F99_ok⟩,⟨133,_,F133_ok⟩]) (mO _ _ _ _) (fO _) Tryz.func135 rfl rfl rfl (by decide) rfl ?_
 rintro⟨a0,a1,_⟩ hwf hpre ⟨⟩ hG rfl rfl
 show Vc _ _ [(0,⟨0,0,.c Z64 a0⟩),(1,⟨0,0,.c Z24 a1⟩)] _
 have hp1:Sm big20 Y62 a0:=hpre.1
 have hp2:Sm big20 Y20 a1:=hpre.2
 refine Vm hG rfl (Vq ?_)
 refine Vr hG rfl ?_ ?_
 · exact hp1
 refine Vq ?_
 refine VrD mixed hG rfl (by kernel_rfl) ?_ ?_
 · exact⟨hp2,apLen hp1.1.1⟩
 refine Vq (Vm hG rfl ?_)
 refine Vk rfl ?_ ?_<;>intro h0
 · have g0:(!(strandF (a0.1++[a1],a0.2)))=true:=h0
   refine Vq ?_
   refine Vr hG rfl ?_ ?_
   · exact hp1
   refine Vt ?_
   have e:=ap0 g0
   refine⟨?_,?_,trivial⟩
   · exact(congrArg Prod.fst e).symm
   · exact(congrArg Prod.snd e).symm
 · have g0:(!(strandF (a0.1++[a1],a0.2)))=false:=h0
   refine Vs (Vm hG rfl (Vt ?_))
   have e:=ap1 g0
   refine⟨?_,?_,trivial⟩
   · exact(congrArg Prod.fst e).symm
   · exact(congrArg Prod.snd e).symm
noncomputable def F51:Fun:=⟨[.pair (.int .i64) Y76,.int .i64,.pair (.int .i64) Y10],[.pair (.pure (.int .i64)) Z82,.pure (.bool)],fun x=>(fun(a:Archive) (_:Int) (p:Piece)=>Sm big20 Y77 a∧Sm big20 Y20 p) x.1 x.2.1 x.2.2.1,fun x=>((addToItemF x.1 x.2.1 x.2.2.1).1,(addToItemF x.1 x.2.1 x.2.2.1).2,())⟩
theorem F51_ok:Meets Tryz.prog 51 F51:=by
 refine mZ (C:=mkC 39 [6,7,8] [0,1,2,3,5,6,7,8,9,10,11,18] [⟨80,_,F80_ok⟩,⟨47,_,F47_ok⟩,⟨135,_,F135_ok⟩]) (mO _ _ _ _) (fO _) Tryz.func51 rfl rfl rfl (by decide) rfl ?_
 rintro⟨a0,(a1:Int),a2,_⟩ hwf hpre ⟨⟩ hG rfl rfl
 show Vc _ _ [(0,⟨0,0,.c Z78 a0⟩),(1,⟨0,0,.c (.pure (.int .i64)) a1⟩),(2,⟨0,0,.c Z24 a2⟩)] _
 have hp1:Sm big20 Y77 a0:=hpre.1
 have hp2:Sm big20 Y20 a2:=hpre.2
 refine Vm hG rfl (Vq ?_)
 refine Vr hG rfl ?_ ?_
 · exact hp1
 refine Vm hG rfl (Vq (Vm hG rfl ?_))
 refine Vk rfl ?_ ?_<;>intro h0
 · have g0:itAt a0 a1<0:=oTr h0
   refine Vm hG rfl (Vt ?_)
   have e:=ati0 (p:=a2) g0
   refine⟨?_,?_,trivial⟩
   · exact(congrArg Prod.fst e).symm
   · exact(congrArg Prod.snd e).symm
 · have g0:¬itAt a0 a1<0:=oFa h0
   have gr:inRange (itAt a0 a1) (List.length a0.2):=findRange g0
   have hE:Sm big20 Y74 (itGet a0 a1):=hp1.2.2 _ (getD_mem gr _)
   refine Vs (Vq ?_)
   refine VrL mixed hG rfl (by kernel_rfl) ?_ ?_
   · exact⟨gr,hE.2.2.2.2,hp2⟩
   refine Vq ?_
   refine Vr hG rfl ?_ ?_
   · exact gr
   refine Vm hG rfl (Vt ?_)
   have e:=ati1 (p:=a2) g0
   refine⟨?_,?_,trivial⟩
   · exact(congrArg Prod.fst e).symm
   · exact(congrArg Prod.snd e).symm
noncomputable def F53:Fun:=⟨[.pair (.int .i64) Y73],[.pair (.own Z67) (.own Z39)],fun x=>Sm big20 Y74 x.1,fun x=>(itemEvF x.1,())⟩
theorem F53_ok:Meets Tryz.prog 53 F53:=by
 refine mZ (C:=mkC 8 [2] [0,1,2] [⟨92,_,F92_ok⟩]) (mO _ _ _ _) (fO _) Tryz.func53 rfl rfl rfl (by decide) rfl ?_
 rintro⟨a0,_⟩ hwf hpre ⟨⟩ hG rfl rfl
 show Vc _ _ [(0,⟨0,0,.c Z75 a0⟩)] _
 have hp:Sm big20 Y62 a0.2.2.2.2:=hpre.2.2.2.2
 refine Vm hG rfl (Vq ?_)
 refine Vr hG rfl ?_ ?_
 · exact hp
 refine Vt ?_
 refine⟨?_,trivial⟩
 all_goals exact rfl
noncomputable def F190:Fun:=⟨[.slice (.int .u8)],[.own (.pure (.int .i64))],fun x=>(fun(l:List Int)=>l.length≤40) x.1,fun x=>(bytesF x.1,())⟩
theorem F190_ok:Meets Tryz.prog 190 F190:=by
 refine mZ (C:=mkC 19 [2] [0,2,3,5,6,7,8,9] []) (mO _ _ _ _) (fO _) Tryz.func190 rfl rfl rfl (by decide) rfl ?_
 rintro⟨a0,_⟩ hwf hpre ⟨⟩ hG rfl rfl
 show Vc _ _ [(0,⟨0,0,.c Z1 a0⟩)] _
 have hp:List.length a0≤40:=hpre
 have hb:List.length a0≤bigLen:=hwf.1.1
 refine Vm hG rfl (Vm hG rfl (Vq (Vm hG rfl ?_)))
 refine Vb ?_
 refine Vc.loopF [(3,false,.own (.pure (.int .i64))),(8,false,.pure (.int .i64))] [0,2,6,7] (fun v=>gsInv (byteG a0) [] a0 v.1 v.2.1) (fun v=>((List.length a0:Int)-v.2.1).toNat) rfl ?_ ?_
 · exact gsStart
 rintro⟨acc,(i:Int),_⟩ hI
 have hI:gsInv (byteG a0) [] a0 acc i:=hI
 have hA:List.length acc≤40:=gsLen (c:=1) (m:=40) hI (fun _=>Nat.le_refl _) hp (by simp)
 refine Vm hG rfl (Vq ?_)
 refine Vk rfl ?_ ?_<;>intro h0
 · have hl:i<(List.length a0:Int):=oTr h0
   refine Vs (Vq (Vb (Vq ?_)))
   refine Vr hG rfl ?_ ?_
   · exact gsRange hI hl
   refine Vr hG rfl ?_ ?_
   · exact(show List.length acc+1≤maxApp from by unfold maxApp;omega)
   refine Vn hG rfl ?_
   refine⟨rfl,?_⟩
   exact gsStep hI hl hb rfl
 · have hl:¬i<(List.length a0:Int):=oFa h0
   refine Vx (Vm hG rfl (Vt ?_))
   refine⟨?_,trivial⟩
   exact gsEnd hI hl
noncomputable def F265:Fun:=⟨[.int .i64,.int .i64],[.pure (.int .i64)],fun _=>True,fun x=>(modF x.1 x.2.1,())⟩
theorem F265_ok:Meets Tryz.prog 265 F265:=by
 refine mZ (C:=mkC 15 [4] [0,1,4,7] [⟨86,_,F86_ok⟩]) (mO _ _ _ _) (fO _) Tryz.func265 rfl rfl rfl (by decide) rfl ?_
 rintro⟨(a0:Int),(a1:Int),_⟩ hwf hpre ⟨⟩ hG rfl rfl
 show Vc _ _ [(0,⟨0,0,.c (.pure (.int .i64)) a0⟩),(1,⟨0,0,.c (.pure (.int .i64)) a1⟩)] _
 refine Vm hG rfl (Vq (Vm hG rfl ?_))
 refine Vk rfl ?_ ?_<;>intro h0
 · have g0:(!(inRangeF a1 1 1000000000000))=true:=h0
   refine Vm hG rfl (Vt ?_)
   refine⟨?_,trivial⟩
   show (0:Int)=modF a0 a1
   unfold modF
   rw[if_neg (by simpa using g0)]
 · have g0:(!(inRangeF a1 1 1000000000000))=false:=h0
   refine Vs (Vq ?_)
   refine Vr hG rfl ?_ ?_
   · exact⟨inR_pos h0,inR_pos h0⟩
   refine Vt ?_
   refine⟨?_,trivial⟩
   show _=modF a0 a1
   unfold modF
   rw[if_pos (by simpa using g0)]
noncomputable def F191:Fun:=⟨[.slice (.int .i64)],[.pure (.int .i64)],fun _=>True,fun x=>(hashF x.1,())⟩
theorem F191_ok:Meets Tryz.prog 191 F191:=by
 refine mZ (C:=mkC 21 [2] [0,2,3,5,6,7,8,9] [⟨265,_,F265_ok⟩]) (mO _ _ _ _) (fO _) Tryz.func191 rfl rfl rfl (by decide) rfl ?_
 rintro⟨a0,_⟩ hwf hpre ⟨⟩ hG rfl rfl
 show Vc _ _ [(0,⟨0,0,.c Z3 a0⟩)] _
 have hb:List.length a0≤bigLen:=hwf.1.1
 refine Vm hG rfl (Vm hG rfl (Vq (Vm hG rfl ?_)))
 refine Vb ?_
 refine Vc.loopF [(3,false,.pure (.int .i64)),(8,false,.pure (.int .i64))] [0,2,6,7] (fun v=>foInv (hstep) (11) a0 v.1 v.2.1) (fun v=>((List.length a0:Int)-v.2.1).toNat) rfl ?_ ?_
 · exact foStart
 rintro⟨acc,(i:Int),_⟩ hI
 have hI:foInv (hstep) (11) a0 acc i:=hI
 refine Vm hG rfl (Vq ?_)
 refine Vk rfl ?_ ?_<;>intro h0
 · have hl:i<(List.length a0:Int):=oTr h0
   refine Vs (Vq (Vb (Vq ?_)))
   refine Vr hG rfl ?_ ?_
   · exact foRange hI hl
   refine Vr hG rfl ?_ ?_
   · exact⟨trivial,(show (2147483647:Int)≠0 by decide)⟩
   refine Vn hG rfl ?_
   refine⟨rfl,?_⟩
   exact foStep hI hl hb
 · have hl:¬i<(List.length a0:Int):=oFa h0
   refine Vx (Vm hG rfl (Vt ?_))
   refine⟨?_,trivial⟩
   exact foEnd hI hl
noncomputable def F120:Fun:=⟨[.int .i64,.slice (.int .i64)],[.pure (.int .i64)],fun x=>(fun(_:Int) (l:List Int)=>smallL l) x.1 x.2.1,fun x=>(digestF x.1 x.2.1,())⟩
theorem F120_ok:Meets Tryz.prog 120 F120:=by
 refine mZ (C:=mkC 10 [4] [0,1,4] [⟨191,_,F191_ok⟩]) (mO _ _ _ _) (fO _) Tryz.func120 rfl rfl rfl (by decide) rfl ?_
 rintro⟨(a0:Int),a1,_⟩ hwf hpre ⟨⟩ hG rfl rfl
 show Vc _ _ [(0,⟨0,0,.c (.pure (.int .i64)) a0⟩),(1,⟨0,0,.c Z3 a1⟩)] _
 have hp:List.length a1≤1000000000:=hpre
 refine Vm hG rfl (Vq ?_)
 refine Vr hG rfl ?_ ?_
 · refine⟨?_,trivial⟩
   show 2+List.length a1≤maxApp
   unfold maxApp;omega
 refine Vt ?_
 refine⟨?_,trivial⟩
 exact(digest_eq a0 a1).symm
noncomputable def F119:Fun:=⟨[.int .i64,.str,.int .i64],[.pure (.int .i64)],fun x=>(fun(_:Int) (s:List UInt8) (_:Int)=>s.length≤40) x.1 x.2.1 x.2.2.1,fun x=>(partF x.1 x.2.1 x.2.2.1,())⟩
theorem F119_ok:Meets Tryz.prog 119 F119:=by
 refine mZ (C:=mkC 15 [6] [0,1,2,6] [⟨190,_,F190_ok⟩,⟨120,_,F120_ok⟩]) (mO _ _ _ _) (fO _) Tryz.func119 rfl rfl rfl (by decide) rfl ?_
 rintro⟨(a0:Int),a1,(a2:Int),_⟩ hwf hpre ⟨⟩ hG rfl rfl
 show Vc _ _ [(0,⟨0,0,.c (.pure (.int .i64)) a0⟩),(1,⟨0,0,.c (.pure (.str)) a1⟩),(2,⟨0,0,.c (.pure (.int .i64)) a2⟩)] _
 have hp:List.length a1≤40:=hpre
 have hq:List.length (bytesF (bytesOf a1))=List.length a1:=bytesLen a1
 have hq2:List.length (bytesOf a1)=List.length a1:=List.length_map _
 refine Vm hG rfl (Vq ?_)
 refine Vr hG rfl ?_ ?_
 · exact⟨(show List.length a1≤maxNew from by unfold maxNew;omega),(show List.length (bytesOf a1)≤40 from by omega),(show 1+List.length (bytesF (bytesOf a1))≤maxApp from by unfold maxApp;omega),(show List.length ([a2]++bytesF (bytesOf a1))≤1000000000 from by rw[List.length_append,hq];simp;omega)⟩
 refine Vt ?_
 refine⟨?_,trivial⟩
 exact congrArg (fun l=>digestF a0 ([a2]++l)) (bytesEq a1)
noncomputable def F36:Fun:=⟨[.int .i64,.pair (.int .i64) Y13],[.pure (.int .i64)],fun _=>True,fun x=>(docDigF x.1 x.2.1,())⟩
theorem F36_ok:Meets Tryz.prog 36 F36:=by
 refine mZ (C:=mkC 37 [4] [0,1,3,4,5,6,7,10,15,16,17,18] [⟨118,_,F118_ok⟩,⟨119,_,F119_ok⟩,⟨120,_,F120_ok⟩]) (mO _ _ _ _) (fO _) Tryz.func36 rfl rfl rfl (by decide) rfl ?_
 rintro⟨(a0:Int),a1,_⟩ hwf hpre ⟨⟩ hG rfl rfl
 show Vc _ _ [(0,⟨0,0,.c (.pure (.int .i64)) a0⟩),(1,⟨0,0,.c Z28 a1⟩)] _
 have hb:List.length a1.2.1≤bigLen:=hwf.2.1.2.1.1
 refine Vm hG rfl (Vq (Vm hG rfl ?_))
 refine Vk rfl ?_ ?_<;>intro h0
 · have g0:(!(docF a1))=true:=h0
   refine Vm hG rfl (Vt ?_)
   refine⟨?_,trivial⟩
   exact docDig0 g0
 · have g0:(!(docF a1))=false:=h0
   have hd:=docP_of g0
   have h6:List.length a1.2.1≤6:=docN hd
   refine Vs (Vm hG rfl (Vq (Vm hG rfl ?_)))
   refine Vb ?_
   refine Vc.loopF [(5,false,.own (.pure (.int .i64))),(17,false,.pure (.int .i64))] [0,1,3,4,10,15,16] (fun v=>gsInv (docG a0 a1) [a1.1] a1.2.1 v.1 v.2.1) (fun v=>((List.length a1.2.1:Int)-v.2.1).toNat) rfl ?_ ?_
   · exact gsStart
   rintro⟨acc,(i:Int),_⟩ hI
   have hI:gsInv (docG a0 a1) [a1.1] a1.2.1 acc i:=hI
   have hA:List.length acc≤7:=gsLen (c:=1) (m:=6) hI (fun _=>Nat.le_refl _) h6 (by simp)
   refine Vm hG rfl (Vq ?_)
   refine Vk rfl ?_ ?_<;>intro h1
   · have hl:i<(List.length a1.2.1:Int):=oTr h1
     refine Vs (Vq (Vb (Vq ?_)))
     refine Vr hG rfl ?_ ?_
     · exact gsRange hI hl
     refine Vr hG rfl ?_ ?_
     · exact⟨docX hd hI hl,doc40 hd hI hl,(show List.length acc+1≤maxApp from by unfold maxApp;omega)⟩
     refine Vn hG rfl ?_
     refine⟨rfl,?_⟩
     exact gsStep hI hl hb rfl
   · have hl:¬i<(List.length a1.2.1:Int):=oFa h1
     refine Vx (Vq ?_)
     refine Vr hG rfl ?_ ?_
     · exact(show List.length acc≤1000000000 from by omega)
     refine Vt ?_
     refine⟨?_,trivial⟩
     have e:=docDig1 (id:=a0) (d:=a1) (acc:=acc) (i:=i) g0 hI hl
     exact e
noncomputable def F19:Fun:=⟨[.pair Y26 Y59,.pair (.int .i64) Y13],[.own (.pure (.int .i64))],fun x=>(fun(s:Strand) (_:Doc)=>List.length s.2≤2000000) x.1 x.2.1,fun x=>(docDigsF x.1 x.2.1,())⟩
theorem F19_ok:Meets Tryz.prog 19 F19:=by
 refine mZ (C:=mkC 24 [4] [0,1,2,3,4,5,7,9,10,11,12] [⟨36,_,F36_ok⟩]) (mO _ _ _ _) (fO _) Tryz.func19 rfl rfl rfl (by decide) rfl ?_
 rintro⟨a0,a1,_⟩ hwf hpre ⟨⟩ hG rfl rfl
 show Vc _ _ [(0,⟨0,0,.c Z64 a0⟩),(1,⟨0,0,.c Z28 a1⟩)] _
 have hs:List.length a0.2≤2000000:=hpre
 have hb:List.length a0.2≤bigLen:=hwf.1.2.1
 refine Vm hG rfl (Vm hG rfl (Vq (Vm hG rfl ?_)))
 refine Vb ?_
 refine Vc.loopF [(5,false,.own (.pure (.int .i64))),(11,false,.pure (.int .i64))] [0,1,2,3,4,9,10] (fun v=>pkInv (ddF a1) a0.2 v.1 v.2.1) (fun v=>((List.length a0.2:Int)-v.2.1).toNat) rfl ?_ ?_
 · exact pkStart
 rintro⟨acc,(i:Int),_⟩ hI
 have hI:pkInv (ddF a1) a0.2 acc i:=hI
 refine Vm hG rfl (Vq ?_)
 refine Vk rfl ?_ ?_<;>intro h0
 · have hl:i<(List.length a0.2:Int):=oTr h0
   refine Vs (Vq (Vb (Vq ?_)))
   refine Vr hG rfl ?_ ?_
   · exact pkRange hI hl
   refine Vr hG rfl ?_ ?_
   · exact⟨trivial,pkLen2 hI hs⟩
   refine Vn hG rfl ?_
   refine⟨rfl,?_⟩
   exact pkYes (d:=dflt Y56) hI hl hb rfl
 · have hl:¬i<(List.length a0.2:Int):=oFa h0
   refine Vx (Vm hG rfl (Vt ?_))
   refine⟨?_,trivial⟩
   exact pkEnd hI hl
noncomputable def F23:Fun:=⟨[.pair Y65 Y41,.pair (.int .i64) Y13],[.own Z0],fun x=>(fun(e:Evidence) (_:Doc)=>Sm big20 Y65 e.1) x.1 x.2.1,fun x=>(allDigsF x.1 x.2.1,())⟩
theorem F23_ok:Meets Tryz.prog 23 F23:=by
 refine mZ (C:=mkC 23 [4] [0,1,2,3,4,5,7,9,10,11,12] [⟨19,_,F19_ok⟩]) (mO _ _ _ _) (fO _) Tryz.func23 rfl rfl rfl (by decide) rfl ?_
 rintro⟨a0,a1,_⟩ hwf hpre ⟨⟩ hG rfl rfl
 show Vc _ _ [(0,⟨0,0,.c Z69 a0⟩),(1,⟨0,0,.c Z28 a1⟩)] _
 have hS:Sm big20 Y65 a0.1:=hpre
 have hs:List.length a0.1≤1048576:=hS.1
 have hb:List.length a0.1≤bigLen:=hwf.1.1.1
 refine Vm hG rfl (Vm hG rfl (Vq (Vm hG rfl ?_)))
 refine Vb ?_
 refine Vc.loopF [(5,false,.own Z0),(11,false,.pure (.int .i64))] [0,1,2,3,4,9,10] (fun v=>pkInv (adF a1) a0.1 v.1 v.2.1) (fun v=>((List.length a0.1:Int)-v.2.1).toNat) rfl ?_ ?_
 · exact pkStart
 rintro⟨acc,(i:Int),_⟩ hI
 have hI:pkInv (adF a1) a0.1 acc i:=hI
 refine Vm hG rfl (Vq ?_)
 refine Vk rfl ?_ ?_<;>intro h0
 · have hl:i<(List.length a0.1:Int):=oTr h0
   have r1:=pkRange hI hl
   have hE:List.length (List.getD a0.1 i.toNat (dflt Y62)).2≤2000000:=Nat.le_trans (hS.2 _ (getD_mem r1 _)).2.1 (by decide)
   refine Vs (Vq (Vb (Vq ?_)))
   refine Vr hG rfl ?_ ?_
   · exact pkRange hI hl
   refine Vr hG rfl ?_ ?_
   · exact⟨hE,pkLen hI hs⟩
   refine Vn hG rfl ?_
   refine⟨rfl,?_⟩
   exact pkYes (d:=dflt Y62) hI hl hb rfl
 · have hl:¬i<(List.length a0.1:Int):=oFa h0
   refine Vx (Vm hG rfl (Vt ?_))
   refine⟨?_,trivial⟩
   exact pkEnd hI hl
noncomputable def F353:Fun:=⟨[.int .i64],[.pure (.bool)],fun _=>True,fun x=>(validKeyF x.1,())⟩
theorem F353_ok:Meets Tryz.prog 353 F353:=by
 refine mZ (C:=mkC 5 [2] [0,2] [⟨86,_,F86_ok⟩]) (mO _ _ _ _) (fO _) Tryz.func353 rfl rfl rfl (by decide) rfl ?_
 rintro⟨(a0:Int),_⟩ hwf hpre ⟨⟩ hG rfl rfl
 show Vc _ _ [(0,⟨0,0,.c (.pure (.int .i64)) a0⟩)] _
 refine Vm hG rfl (Vm hG rfl (Vt ?_))
 refine⟨?_,trivial⟩
 all_goals exact rfl
noncomputable def F318:Fun:=⟨[.pair (.int .i64) Y27],[.pure (.bool)],fun _=>True,fun x=>(isKeyF x.1,())⟩
theorem F318_ok:Meets Tryz.prog 318 F318:=by
 refine mZ (C:=mkC 26 [2] [0,1,2] [⟨86,_,F86_ok⟩,⟨132,_,F132_ok⟩,⟨353,_,F353_ok⟩]) (mO _ _ _ _) (fO _) Tryz.func318 rfl rfl rfl (by decide) rfl ?_
 rintro⟨a0,_⟩ hwf hpre ⟨⟩ hG rfl rfl
 show Vc _ _ [(0,⟨0,0,.c Z37 a0⟩)] _
 refine Vm hG rfl (Vq ?_)
 refine Vr hG rfl ?_ ?_
 · repeat' (first | exact trivial | refine And.intro ?_ ?_ | intro _)
 refine Vt ?_
 refine⟨?_,trivial⟩
 all_goals exact rfl
noncomputable def F260:Fun:=⟨[.slice Y36],[.pure (.bool)],fun _=>True,fun x=>(areKeysF x.1,())⟩
theorem F260_ok:Meets Tryz.prog 260 F260:=by
 refine mZ (C:=mkC 34 [2] [0,2,3,4,5,6,7,8,29] [⟨318,_,F318_ok⟩]) (mO _ _ _ _) (fO _) Tryz.func260 rfl rfl rfl (by decide) rfl ?_
 rintro⟨a0,_⟩ hwf hpre ⟨⟩ hG rfl rfl
 show Vc _ _ [(0,⟨0,0,.c Z40 a0⟩)] _
 have hb:List.length a0≤bigLen:=hwf.1.1
 refine Vm hG rfl (Vq (Vm hG rfl (Vb ?_)))
 refine Vc.loopF [(7,false,.pure (.int .i64))] [0,5,6] (fun v=>kInv (areG isKeyF (fun k=>k.1) (dflt (TKey)) a0) a0 v.1) (fun v=>((List.length a0:Int)-v.1).toNat) rfl ?_ ?_
 · exact kStart
 rintro⟨(i:Int),_⟩ hI
 have hI:kInv (areG isKeyF (fun k=>k.1) (dflt (TKey)) a0) a0 i:=hI
 refine Vm hG rfl (Vq ?_)
 refine Vk rfl ?_ ?_<;>intro h0
 · have hl:i<(List.length a0:Int):=oTr h0
   refine Vs (Vq (Vb (Vq ?_)))
   refine Vr hG rfl ?_ ?_
   · exact kRange hI hl
   refine Vq ?_
   refine VrD mixed hG rfl (by kernel_rfl) ?_ ?_
   · repeat' (first | exact trivial | exact kRange hI hl | (intro _ h2;exact prevIdx (kRange hI hl) (oTr h2) hb) | (intro h2;exact prevIdx (kRange hI hl) (oTr h2) hb) | refine And.intro ?_ ?_ | intro _)
   refine Vk rfl ?_ ?_<;>intro h1
   · have g1:areT isKeyF (fun k=>k.1) (dflt (TKey)) a0 i=true:=h1
     refine Vm hG rfl (Vt ?_)
     refine⟨?_,trivial⟩
     exact areBad (m:=12) hI hl hb g1
   · have g1:areT isKeyF (fun k=>k.1) (dflt (TKey)) a0 i=false:=h1
     refine Vs (Vn hG rfl ?_)
     refine⟨rfl,?_⟩
     exact areStep hI hl hb g1
 · have hl:¬i<(List.length a0:Int):=oFa h0
   refine Vx (Vm hG rfl (Vt ?_))
   refine⟨?_,trivial⟩
   exact areEnd (m:=12) hI hl
noncomputable def F261:Fun:=⟨[.slice Y15],[.pure (.bool)],fun _=>True,fun x=>(areAuthsF x.1,())⟩
theorem F261_ok:Meets Tryz.prog 261 F261:=by
 refine mZ (C:=mkC 47 [2] [0,2,3,4,5,6,7,8,42] [⟨86,_,F86_ok⟩]) (mO _ _ _ _) (fO _) Tryz.func261 rfl rfl rfl (by decide) rfl ?_
 rintro⟨a0,_⟩ hwf hpre ⟨⟩ hG rfl rfl
 show Vc _ _ [(0,⟨0,0,.c Z25 a0⟩)] _
 have hb:List.length a0≤bigLen:=hwf.1.1
 refine Vm hG rfl (Vq (Vm hG rfl (Vb ?_)))
 refine Vc.loopF [(7,false,.pure (.int .i64))] [0,5,6] (fun v=>kInv (areG isAuthF (fun k=>k.1) (dflt (TAuth)) a0) a0 v.1) (fun v=>((List.length a0:Int)-v.1).toNat) rfl ?_ ?_
 · exact kStart
 rintro⟨(i:Int),_⟩ hI
 have hI:kInv (areG isAuthF (fun k=>k.1) (dflt (TAuth)) a0) a0 i:=hI
 refine Vm hG rfl (Vq ?_)
 refine Vk rfl ?_ ?_<;>intro h0
 · have hl:i<(List.length a0:Int):=oTr h0
   refine Vs (Vq (Vb (Vq ?_)))
   refine Vr hG rfl ?_ ?_
   · exact kRange hI hl
   refine Vq ?_
   refine VrD mixed hG rfl (by kernel_rfl) ?_ ?_
   · repeat' (first | exact trivial | exact kRange hI hl | (intro _ h2;exact prevIdx (kRange hI hl) (oTr h2) hb) | (intro h2;exact prevIdx (kRange hI hl) (oTr h2) hb) | refine And.intro ?_ ?_ | intro _)
   refine Vk rfl ?_ ?_<;>intro h1
   · have g1:areT isAuthF (fun k=>k.1) (dflt (TAuth)) a0 i=true:=(nor3 _ _ _ _).symm.trans h1
     refine Vm hG rfl (Vt ?_)
     refine⟨?_,trivial⟩
     exact areBad (m:=6) hI hl hb g1
   · have g1:areT isAuthF (fun k=>k.1) (dflt (TAuth)) a0 i=false:=(nor3 _ _ _ _).symm.trans h1
     refine Vs (Vn hG rfl ?_)
     refine⟨rfl,?_⟩
     exact areStep hI hl hb g1
 · have hl:¬i<(List.length a0:Int):=oFa h0
   refine Vx (Vm hG rfl (Vt ?_))
   refine⟨?_,trivial⟩
   exact areEnd (m:=6) hI hl
noncomputable def F319:Fun:=⟨[.pair (.int .i64) Y15],[.pure (.bool)],fun _=>True,fun x=>(isMethodF x.1,())⟩
theorem F319_ok:Meets Tryz.prog 319 F319:=by
 refine mZ (C:=mkC 35 [2] [0,1,2] [⟨86,_,F86_ok⟩,⟨132,_,F132_ok⟩]) (mO _ _ _ _) (fO _) Tryz.func319 rfl rfl rfl (by decide) rfl ?_
 rintro⟨a0,_⟩ hwf hpre ⟨⟩ hG rfl rfl
 show Vc _ _ [(0,⟨0,0,.c Z30 a0⟩)] _
 refine Vm hG rfl (Vq ?_)
 refine Vr hG rfl ?_ ?_
 · repeat' (first | exact trivial | refine And.intro ?_ ?_ | intro _)
 refine Vt ?_
 refine⟨?_,trivial⟩
 all_goals exact rfl
noncomputable def F262:Fun:=⟨[.slice Y27],[.pure (.bool)],fun _=>True,fun x=>(areMethodsF x.1,())⟩
theorem F262_ok:Meets Tryz.prog 262 F262:=by
 refine mZ (C:=mkC 34 [2] [0,2,3,4,5,6,7,8,29] [⟨319,_,F319_ok⟩]) (mO _ _ _ _) (fO _) Tryz.func262 rfl rfl rfl (by decide) rfl ?_
 rintro⟨a0,_⟩ hwf hpre ⟨⟩ hG rfl rfl
 show Vc _ _ [(0,⟨0,0,.c Z34 a0⟩)] _
 have hb:List.length a0≤bigLen:=hwf.1.1
 refine Vm hG rfl (Vq (Vm hG rfl (Vb ?_)))
 refine Vc.loopF [(7,false,.pure (.int .i64))] [0,5,6] (fun v=>kInv (areG isMethodF (fun k=>k.1) (dflt (TMethod)) a0) a0 v.1) (fun v=>((List.length a0:Int)-v.1).toNat) rfl ?_ ?_
 · exact kStart
 rintro⟨(i:Int),_⟩ hI
 have hI:kInv (areG isMethodF (fun k=>k.1) (dflt (TMethod)) a0) a0 i:=hI
 refine Vm hG rfl (Vq ?_)
 refine Vk rfl ?_ ?_<;>intro h0
 · have hl:i<(List.length a0:Int):=oTr h0
   refine Vs (Vq (Vb (Vq ?_)))
   refine Vr hG rfl ?_ ?_
   · exact kRange hI hl
   refine Vq ?_
   refine VrD mixed hG rfl (by kernel_rfl) ?_ ?_
   · repeat' (first | exact trivial | exact kRange hI hl | (intro _ h2;exact prevIdx (kRange hI hl) (oTr h2) hb) | (intro h2;exact prevIdx (kRange hI hl) (oTr h2) hb) | refine And.intro ?_ ?_ | intro _)
   refine Vk rfl ?_ ?_<;>intro h1
   · have g1:areT isMethodF (fun k=>k.1) (dflt (TMethod)) a0 i=true:=h1
     refine Vm hG rfl (Vt ?_)
     refine⟨?_,trivial⟩
     exact areBad (m:=8) hI hl hb g1
   · have g1:areT isMethodF (fun k=>k.1) (dflt (TMethod)) a0 i=false:=h1
     refine Vs (Vn hG rfl ?_)
     refine⟨rfl,?_⟩
     exact areStep hI hl hb g1
 · have hl:¬i<(List.length a0:Int):=oFa h0
   refine Vx (Vm hG rfl (Vt ?_))
   refine⟨?_,trivial⟩
   exact areEnd (m:=8) hI hl
noncomputable def F182:Fun:=⟨[.pair Y38 Y55],[.pure (.bool)],fun _=>True,fun x=>(isFrameF x.1,())⟩
theorem F182_ok:Meets Tryz.prog 182 F182:=by
 refine mZ (C:=mkC 26 [2] [0,1,2] [⟨260,_,F260_ok⟩,⟨261,_,F261_ok⟩,⟨262,_,F262_ok⟩,⟨86,_,F86_ok⟩,⟨132,_,F132_ok⟩]) (mO _ _ _ _) (fO _) Tryz.func182 rfl rfl rfl (by decide) rfl ?_
 rintro⟨a0,_⟩ hwf hpre ⟨⟩ hG rfl rfl
 show Vc _ _ [(0,⟨0,0,.c Z66 a0⟩)] _
 refine Vm hG rfl (Vq ?_)
 refine Vr hG rfl ?_ ?_
 · repeat' (first | exact trivial | refine And.intro ?_ ?_ | intro _)
 refine Vt ?_
 refine⟨?_,trivial⟩
 all_goals exact rfl
noncomputable def F183:Fun:=⟨[.int .i64],[.pure Y27],fun _=>True,fun x=>((fun(r:Int)=>((3,r,(0,0)):Verdict)) x.1,())⟩
theorem F183_ok:Meets Tryz.prog 183 F183:=by
 refine mZ (C:=mkC 5 [2] [0,2] []) (mO _ _ _ _) (fO _) Tryz.func183 rfl rfl rfl (by decide) rfl ?_
 rintro⟨(a0:Int),_⟩ hwf hpre ⟨⟩ hG rfl rfl
 show Vc _ _ [(0,⟨0,0,.c (.pure (.int .i64)) a0⟩)] _
 refine Vm hG rfl (Vm hG rfl (Vt ?_))
 refine⟨?_,trivial⟩
 all_goals exact rfl
noncomputable def F121:Fun:=⟨[.pair (.int .i64) Y48],[.pure (.bool)],fun _=>True,fun x=>(isSigF x.1,())⟩
theorem F121_ok:Meets Tryz.prog 121 F121:=by
 refine mZ (C:=mkC 41 [2] [0,1,2] [⟨86,_,F86_ok⟩]) (mO _ _ _ _) (fO _) Tryz.func121 rfl rfl rfl (by decide) rfl ?_
 rintro⟨a0,_⟩ hwf hpre ⟨⟩ hG rfl rfl
 show Vc _ _ [(0,⟨0,0,.c Z52 a0⟩)] _
 refine Vm hG rfl (Vq ?_)
 refine Vr hG rfl ?_ ?_
 · repeat' (first | exact trivial | refine And.intro ?_ ?_ | intro _)
 refine Vt ?_
 refine⟨?_,trivial⟩
 all_goals exact rfl
noncomputable def F184:Fun:=⟨[.int .i64],[.pure Y27],fun _=>True,fun x=>((fun(r:Int)=>((2,r,(0,0)):Verdict)) x.1,())⟩
theorem F184_ok:Meets Tryz.prog 184 F184:=by
 refine mZ (C:=mkC 5 [2] [0,2] []) (mO _ _ _ _) (fO _) Tryz.func184 rfl rfl rfl (by decide) rfl ?_
 rintro⟨(a0:Int),_⟩ hwf hpre ⟨⟩ hG rfl rfl
 show Vc _ _ [(0,⟨0,0,.c (.pure (.int .i64)) a0⟩)] _
 refine Vm hG rfl (Vm hG rfl (Vt ?_))
 refine⟨?_,trivial⟩
 all_goals exact rfl
noncomputable def F34:Fun:=⟨[.slice Y36,.int .i64],[.pure (.int .i64)],fun _=>True,fun x=>((fun a0 a1=>findI (fun x=>x.1==a1) a0) x.1 x.2.1,())⟩
theorem F34_ok:Meets Tryz.prog 34 F34:=by
 refine mZ (C:=mkC 20 [4] [0,1,4,5,6,7,8,9,10,17] []) (mO _ _ _ _) (fO _) Tryz.func34 rfl rfl rfl (by decide) rfl ?_
 rintro⟨a0,(a1:Int),_⟩ hwf hpre ⟨⟩ hG rfl rfl
 show Vc _ _ [(0,⟨0,0,.c Z40 a0⟩),(1,⟨0,0,.c (.pure (.int .i64)) a1⟩)] _
 have hb:List.length a0≤bigLen:=hwf.1.1
 refine Vm hG rfl (Vq (Vm hG rfl (Vb ?_)))
 refine Vc.loopF [(9,false,.pure (.int .i64))] [0,1,7,8] (fun v=>fInv (fun x=>x.1==a1) a0 v.1) (fun v=>((List.length a0:Int)-v.1).toNat) rfl ?_ ?_
 · exact fStart
 rintro⟨(i:Int),_⟩ hI
 have hI:fInv (fun x=>x.1==a1) a0 i:=hI
 refine Vm hG rfl (Vq ?_)
 refine Vk rfl ?_ ?_<;>intro h0
 · have hl:i<(List.length a0:Int):=oTr h0
   refine Vs (Vq (Vb (Vq ?_)))
   refine Vr hG rfl ?_ ?_
   · exact fRange hI hl
   refine Vm hG rfl ?_
   refine Vk rfl ?_ ?_<;>intro h1
   · have g1:(fun x=>x.1==a1) (List.getD a0 i.toNat (dflt Y36))=true:=h1
     refine Vm hG rfl (Vt ?_)
     refine⟨?_,trivial⟩
     exact fHit hI hl g1
   · have g1:(fun x=>x.1==a1) (List.getD a0 i.toNat (dflt Y36))=false:=h1
     refine Vs (Vn hG rfl ?_)
     refine⟨rfl,?_⟩
     exact fStep hI hl hb g1
 · have hl:¬i<(List.length a0:Int):=oFa h0
   refine Vx (Vm hG rfl (Vt ?_))
   refine⟨?_,trivial⟩
   exact fEnd hI hl
noncomputable def F316:Fun:=⟨[.int .i64,.slice (.int .i64)],[.pure (.int .i64)],fun x=>(fun(_:Int) (l:List Int)=>l.length≤1000000001) x.1 x.2.1,fun x=>(keyedF x.1 x.2.1,())⟩
theorem F316_ok:Meets Tryz.prog 316 F316:=by
 refine mZ (C:=mkC 13 [4] [0,1,4] [⟨191,_,F191_ok⟩]) (mO _ _ _ _) (fO _) Tryz.func316 rfl rfl rfl (by decide) rfl ?_
 rintro⟨(a0:Int),a1,_⟩ hwf hpre ⟨⟩ hG rfl rfl
 show Vc _ _ [(0,⟨0,0,.c (.pure (.int .i64)) a0⟩),(1,⟨0,0,.c Z3 a1⟩)] _
 have hp:List.length a1≤1000000001:=hpre
 refine Vm hG rfl (Vq ?_)
 refine Vr hG rfl ?_ ?_
 · refine⟨?_,?_,trivial⟩
   · show 1+List.length a1≤maxApp
     unfold maxApp;omega
   · show (List.length a1+1)+1≤maxApp
     unfold maxApp;omega
 refine Vt ?_
 refine⟨?_,trivial⟩
 all_goals exact rfl
noncomputable def F255:Fun:=⟨[.pair (.int .i64) Y27,.slice (.int .i64)],[.pure (.int .i64)],fun x=>(fun(_:Key) (l:List Int)=>smallL l) x.1 x.2.1,fun x=>(markWithF x.1 x.2.1,())⟩
theorem F255_ok:Meets Tryz.prog 255 F255:=by
 refine mZ (C:=mkC 13 [4] [0,1,2,4] [⟨316,_,F316_ok⟩]) (mO _ _ _ _) (fO _) Tryz.func255 rfl rfl rfl (by decide) rfl ?_
 rintro⟨a0,a1,_⟩ hwf hpre ⟨⟩ hG rfl rfl
 show Vc _ _ [(0,⟨0,0,.c Z37 a0⟩),(1,⟨0,0,.c Z3 a1⟩)] _
 have hp:List.length a1≤1000000000:=hpre
 refine Vm hG rfl (Vq ?_)
 refine VrD mixed hG rfl (by kernel_rfl) ?_ ?_
 · refine⟨?_,?_⟩
   · show 1+List.length a1≤maxApp
     unfold maxApp;omega
   · show List.length a1+1≤1000000001
     omega
 refine Vt ?_
 refine⟨?_,trivial⟩
 all_goals exact rfl
noncomputable def F170:Fun:=⟨[.slice Y36,.int .i64,.slice (.int .i64)],[.pure (.int .i64),.pure (.bool)],fun x=>(fun(_:List Key) (_:Int) (l:List Int)=>smallL l) x.1 x.2.1 x.2.2.1,fun x=>((markByF x.1 x.2.1 x.2.2.1).1,(markByF x.1 x.2.1 x.2.2.1).2,())⟩
theorem F170_ok:Meets Tryz.prog 170 F170:=by
 refine mZ (C:=mkC 20 [6,7] [0,1,2,6,7,8,13] [⟨34,_,F34_ok⟩,⟨255,_,F255_ok⟩]) (mO _ _ _ _) (fO _) Tryz.func170 rfl rfl rfl (by decide) rfl ?_
 rintro⟨a0,(a1:Int),a2,_⟩ hwf hpre ⟨⟩ hG rfl rfl
 show Vc _ _ [(0,⟨0,0,.c Z40 a0⟩),(1,⟨0,0,.c (.pure (.int .i64)) a1⟩),(2,⟨0,0,.c Z3 a2⟩)] _
 have hp:smallL a2:=hpre
 refine Vm hG rfl (Vm hG rfl (Vq (Vm hG rfl ?_)))
 refine Vk rfl ?_ ?_<;>intro h0
 · have g0:keyI a0 a1<0:=oTr h0
   refine Vm hG rfl (Vt ?_)
   have e:=markBy_no (l:=a2) g0
   refine⟨?_,?_,trivial⟩
   · exact(congrArg Prod.fst e).symm
   · exact(congrArg Prod.snd e).symm
 · have g0:¬keyI a0 a1<0:=oFa h0
   refine Vs (Vq ?_)
   refine Vr hG rfl ?_ ?_
   · exact⟨findRange g0,hp⟩
   refine Vt ?_
   have e:=markBy_yes (l:=a2) g0
   refine⟨?_,?_,trivial⟩
   · exact(congrArg Prod.fst e).symm
   · exact(congrArg Prod.snd e).symm
noncomputable def F106:Fun:=⟨[.slice Y36,.int .i64,.slice (.int .i64),.int .i64],[.pure (.bool)],fun x=>(fun(_:List Key) (_:Int) (l:List Int) (_:Int)=>smallL l) x.1 x.2.1 x.2.2.1 x.2.2.2.1,fun x=>(checkMarkF x.1 x.2.1 x.2.2.1 x.2.2.2.1,())⟩
theorem F106_ok:Meets Tryz.prog 106 F106:=by
 refine mZ (C:=mkC 24 [8] [0,1,2,3,8,9,10] [⟨170,_,F170_ok⟩]) (mO _ _ _ _) (fO _) Tryz.func106 rfl rfl rfl (by decide) rfl ?_
 rintro⟨a0,(a1:Int),a2,(a3:Int),_⟩ hwf hpre ⟨⟩ hG rfl rfl
 show Vc _ _ [(0,⟨0,0,.c Z40 a0⟩),(1,⟨0,0,.c (.pure (.int .i64)) a1⟩),(2,⟨0,0,.c Z3 a2⟩),(3,⟨0,0,.c (.pure (.int .i64)) a3⟩)] _
 have hp:smallL a2:=hpre
 refine Vm hG rfl (Vq ?_)
 refine Vr hG rfl ?_ ?_
 · exact hp
 refine Vm hG rfl (Vt ?_)
 refine⟨?_,trivial⟩
 exact checkMark_by a0 a1 a2 a3
noncomputable def F37:Fun:=⟨[.slice Y36,.pair (.int .i64) Y48],[.pure (.bool)],fun _=>True,fun x=>(checkSigF x.1 x.2.1,())⟩
theorem F37_ok:Meets Tryz.prog 37 F37:=by
 refine mZ (C:=mkC 17 [4] [0,1,3,4] [⟨121,_,F121_ok⟩,⟨95,_,F95_ok⟩,⟨106,_,F106_ok⟩]) (mO _ _ _ _) (fO _) Tryz.func37 rfl rfl rfl (by decide) rfl ?_
 rintro⟨a0,a1,_⟩ hwf hpre ⟨⟩ hG rfl rfl
 show Vc _ _ [(0,⟨0,0,.c Z40 a0⟩),(1,⟨0,0,.c Z52 a1⟩)] _
 refine Vm hG rfl (Vq ?_)
 refine VrD mixed hG rfl (by kernel_rfl) ?_ ?_
 · repeat' (first | exact trivial | exact smallLit (n:=9) rfl (by decide) | refine And.intro ?_ ?_ | intro _)
 refine Vt ?_
 refine⟨?_,trivial⟩
 all_goals exact rfl
noncomputable def F167:Fun:=⟨[.pair Y26 Y59,.pair (.int .i64) Y10],[.pure (.int .i64)],fun _=>True,fun x=>((fun a0 a1=>findI (fun x=>eqC x a1) a0.1) x.1 x.2.1,())⟩
theorem F167_ok:Meets Tryz.prog 167 F167:=by
 refine mZ (C:=mkC 20 [4] [0,1,2,3,4,5,6,8,9,10,11,17] [⟨29,_,F29_ok⟩]) (mO _ _ _ _) (fO _) Tryz.func167 rfl rfl rfl (by decide) rfl ?_
 rintro⟨a0,a1,_⟩ hwf hpre ⟨⟩ hG rfl rfl
 show Vc _ _ [(0,⟨0,0,.c Z64 a0⟩),(1,⟨0,0,.c Z24 a1⟩)] _
 have hb:List.length a0.1≤bigLen:=hwf.1.1.1
 refine Vm hG rfl (Vq (Vm hG rfl (Vb ?_)))
 refine Vc.loopF [(10,false,.pure (.int .i64))] [0,1,2,3,8,9] (fun v=>fInv (fun x=>eqC x a1) a0.1 v.1) (fun v=>((List.length a0.1:Int)-v.1).toNat) rfl ?_ ?_
 · exact fStart
 rintro⟨(i:Int),_⟩ hI
 have hI:fInv (fun x=>eqC x a1) a0.1 i:=hI
 refine Vm hG rfl (Vq ?_)
 refine Vk rfl ?_ ?_<;>intro h0
 · have hl:i<(List.length a0.1:Int):=oTr h0
   refine Vs (Vq (Vb (Vq ?_)))
   refine Vr hG rfl ?_ ?_
   · exact fRange hI hl
   refine Vm hG rfl ?_
   refine Vk rfl ?_ ?_<;>intro h1
   · have g1:(fun x=>eqC x a1) (List.getD a0.1 i.toNat (dflt Y20))=true:=h1
     refine Vm hG rfl (Vt ?_)
     refine⟨?_,trivial⟩
     exact fHit hI hl g1
   · have g1:(fun x=>eqC x a1) (List.getD a0.1 i.toNat (dflt Y20))=false:=h1
     refine Vs (Vn hG rfl ?_)
     refine⟨rfl,?_⟩
     exact fStep hI hl hb g1
 · have hl:¬i<(List.length a0.1:Int):=oFa h0
   refine Vx (Vm hG rfl (Vt ?_))
   refine⟨?_,trivial⟩
   exact fEnd hI hl
noncomputable def F172:Fun:=⟨[.slice Y15,.int .i64],[.pure (.int .i64)],fun _=>True,fun x=>((fun a0 a1=>findI (fun x=>x.1==a1) a0) x.1 x.2.1,())⟩
theorem F172_ok:Meets Tryz.prog 172 F172:=by
 refine mZ (C:=mkC 20 [4] [0,1,4,5,6,7,8,9,10,17] []) (mO _ _ _ _) (fO _) Tryz.func172 rfl rfl rfl (by decide) rfl ?_
 rintro⟨a0,(a1:Int),_⟩ hwf hpre ⟨⟩ hG rfl rfl
 show Vc _ _ [(0,⟨0,0,.c Z25 a0⟩),(1,⟨0,0,.c (.pure (.int .i64)) a1⟩)] _
 have hb:List.length a0≤bigLen:=hwf.1.1
 refine Vm hG rfl (Vq (Vm hG rfl (Vb ?_)))
 refine Vc.loopF [(9,false,.pure (.int .i64))] [0,1,7,8] (fun v=>fInv (fun x=>x.1==a1) a0 v.1) (fun v=>((List.length a0:Int)-v.1).toNat) rfl ?_ ?_
 · exact fStart
 rintro⟨(i:Int),_⟩ hI
 have hI:fInv (fun x=>x.1==a1) a0 i:=hI
 refine Vm hG rfl (Vq ?_)
 refine Vk rfl ?_ ?_<;>intro h0
 · have hl:i<(List.length a0:Int):=oTr h0
   refine Vs (Vq (Vb (Vq ?_)))
   refine Vr hG rfl ?_ ?_
   · exact fRange hI hl
   refine Vm hG rfl ?_
   refine Vk rfl ?_ ?_<;>intro h1
   · have g1:(fun x=>x.1==a1) (List.getD a0 i.toNat (dflt Y15))=true:=h1
     refine Vm hG rfl (Vt ?_)
     refine⟨?_,trivial⟩
     exact fHit hI hl g1
   · have g1:(fun x=>x.1==a1) (List.getD a0 i.toNat (dflt Y15))=false:=h1
     refine Vs (Vn hG rfl ?_)
     refine⟨rfl,?_⟩
     exact fStep hI hl hb g1
 · have hl:¬i<(List.length a0:Int):=oFa h0
   refine Vx (Vm hG rfl (Vt ?_))
   refine⟨?_,trivial⟩
   exact fEnd hI hl
noncomputable def F123:Fun:=⟨[.pair (.int .i64) (.int .i64)],[.pure (.bool)],fun _=>True,fun x=>(isSpanF x.1,())⟩
theorem F123_ok:Meets Tryz.prog 123 F123:=by
 refine mZ (C:=mkC 18 [2] [0,1,2] [⟨132,_,F132_ok⟩]) (mO _ _ _ _) (fO _) Tryz.func123 rfl rfl rfl (by decide) rfl ?_
 rintro⟨a0,_⟩ hwf hpre ⟨⟩ hG rfl rfl
 show Vc _ _ [(0,⟨0,0,.c Z9 a0⟩)] _
 refine Vm hG rfl (Vq ?_)
 refine Vr hG rfl ?_ ?_
 · repeat' (first | exact trivial | refine And.intro ?_ ?_ | intro _)
 refine Vt ?_
 refine⟨?_,trivial⟩
 all_goals exact rfl
end Fw
