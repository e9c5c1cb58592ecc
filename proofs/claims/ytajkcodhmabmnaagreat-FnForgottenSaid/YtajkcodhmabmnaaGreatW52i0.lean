/- Walks of functions of the program: what each computes. Conditions: those that each contract names. -/
import Derived.Test.YtajkcodhmabmnaaGreatW52T
namespace Fw
open Go Go.Proofs
set_option linter.unusedSimpArgs false
set_option maxRecDepth 100000
noncomputable def F103:Fun:=⟨[.slice (.int .i64)],[.own (.pure (.int .i64))],fun x=>(fun l=>List.length l≤4000000) x.1,fun x=>(id x.1,())⟩
theorem F103_ok:Meets Tryz.prog 103 F103:=by
 refine mZ (C:=mkC 6 [2] [0,2] []) (mO _ _ _ _) (fO _) Tryz.func103 rfl rfl rfl (by decide) rfl ?_
 rintro⟨a0,_⟩ hwf hpre ⟨⟩ hG rfl rfl
 show Vc _ _ [(0,⟨0,0,.c Z3 a0⟩)] _
 have hp:List.length a0≤4000000:=hpre
 refine Vm hG rfl (Vq ?_)
 refine Vr hG rfl ?_ ?_
 · exact appMore hp
 refine Vt ?_
 refine⟨?_,trivial⟩
 all_goals exact rfl
noncomputable def F95:Fun:=⟨[.pair (.int .i64) Y14],[.pair (.pure (.int .i64)) Z18],fun x=>Sm big20 Y24 x.1,fun x=>(id x.1,())⟩
theorem F95_ok:Meets Tryz.prog 95 F95:=by
 refine mZ (C:=mkC 13 [2] [0,1,2] [⟨103,_,F103_ok⟩]) (mO _ _ _ _) (fO _) Tryz.func95 rfl rfl rfl (by decide) rfl ?_
 rintro⟨a0,_⟩ hwf hpre ⟨⟩ hG rfl rfl
 show Vc _ _ [(0,⟨0,0,.c Z31 a0⟩)] _
 have hp1:List.length a0.2.1≤big20:=hpre.2.1.1
 have hp2:List.length a0.2.2≤4000000:=Nat.le_trans hpre.2.2.1 (by decide)
 refine Vm hG rfl (Vq ?_)
 refine VrD mixed hG rfl (by kernel_rfl) ?_ ?_
 · exact⟨appOk hp1,hp2⟩
 refine Vt ?_
 refine⟨?_,trivial⟩
 all_goals exact rfl
noncomputable def F204:Fun:=⟨[.pair (.int .i64) Y11],[.pair (.pure (.int .i64)) Z17],fun x=>Sm big20 Y22 x.1,fun x=>(id x.1,())⟩
theorem F204_ok:Meets Tryz.prog 204 F204:=by
 refine mZ (C:=mkC 8 [2] [0,1,2] [⟨103,_,F103_ok⟩]) (mO _ _ _ _) (fO _) Tryz.func204 rfl rfl rfl (by decide) rfl ?_
 rintro⟨a0,_⟩ hwf hpre ⟨⟩ hG rfl rfl
 show Vc _ _ [(0,⟨0,0,.c Z26 a0⟩)] _
 have hp:List.length a0.2.1≤4000000:=Nat.le_trans hpre.2.1.1 (by decide)
 refine Vm hG rfl (Vq ?_)
 refine Vr hG rfl ?_ ?_
 · exact hp
 refine Vm hG rfl (Vt ?_)
 refine⟨?_,trivial⟩
 all_goals exact rfl
noncomputable def F123:Fun:=⟨[.slice Y22],[.own Z35],fun x=>Sm big20 Y29 x.1,fun x=>(id x.1,())⟩
theorem F123_ok:Meets Tryz.prog 123 F123:=by
 refine mZ (C:=mkC 19 [2] [0,2,3,5,6,7,8,9] [⟨204,_,F204_ok⟩]) (mO _ _ _ _) (fO _) Tryz.func123 rfl rfl rfl (by decide) rfl ?_
 rintro⟨a0,_⟩ hwf hpre ⟨⟩ hG rfl rfl
 show Vc _ _ [(0,⟨0,0,.c Z32 a0⟩)] _
 have hp:_∧_:=hpre
 have hb:List.length a0≤bigLen:=hwf.1.1
 refine Vm hG rfl (Vm hG rfl (Vq (Vm hG rfl ?_)))
 refine Vb ?_
 refine Vc.loopF [(3,false,.own Z35),(8,false,.pure (.int .i64))] [0,2,6,7] (fun v=>cpInv a0 v.1 v.2.1) (fun v=>((List.length a0:Int)-v.2.1).toNat) rfl ?_ ?_
 · exact cpStart
 rintro⟨acc,(i:Int),_⟩ hI
 have hI:cpInv a0 acc i:=hI
 refine Vm hG rfl (Vq ?_)
 refine Vk rfl ?_ ?_<;>intro h0
 · have hl:i<(List.length a0:Int):=oTr h0
   have hE:Sm big20 Y22 (List.getD a0 i.toNat (dflt Y22)):=hp.2 _ (upElem hI.1 hl)
   refine Vs (Vq (Vb (Vq ?_)))
   refine Vr hG rfl ?_ ?_
   · exact cpRange hI hl
   refine Vr hG rfl ?_ ?_
   · exact⟨hE,cpLen hI hl hp.1⟩
   refine Vn hG rfl ?_
   refine⟨rfl,?_⟩
   exact cpStep (d:=dflt Y22) hI hl hb rfl
 · have hl:¬i<(List.length a0:Int):=oFa h0
   refine Vx (Vm hG rfl (Vt ?_))
   refine⟨?_,trivial⟩
   exact cpEnd hI hl
noncomputable def F73:Fun:=⟨[.slice Y40],[.own Z42],fun x=>(fun l=>List.length l≤4000000) x.1,fun x=>(id x.1,())⟩
theorem F73_ok:Meets Tryz.prog 73 F73:=by
 refine mZ (C:=mkC 6 [2] [0,2] []) (mO _ _ _ _) (fO _) Tryz.func73 rfl rfl rfl (by decide) rfl ?_
 rintro⟨a0,_⟩ hwf hpre ⟨⟩ hG rfl rfl
 show Vc _ _ [(0,⟨0,0,.c Z46 a0⟩)] _
 have hp:List.length a0≤4000000:=hpre
 refine Vm hG rfl (Vq ?_)
 refine Vr hG rfl ?_ ?_
 · exact appMore hp
 refine Vt ?_
 refine⟨?_,trivial⟩
 all_goals exact rfl
noncomputable def F81:Fun:=⟨[.pair (.int .i64) Y64],[.pair (.pure (.int .i64)) Z68],fun x=>Sm big20 Y67 x.1,fun x=>(id x.1,())⟩
theorem F81_ok:Meets Tryz.prog 81 F81:=by
 refine mZ (C:=mkC 13 [2] [0,1,2] [⟨73,_,F73_ok⟩]) (mO _ _ _ _) (fO _) Tryz.func81 rfl rfl rfl (by decide) rfl ?_
 rintro⟨a0,_⟩ hwf hpre ⟨⟩ hG rfl rfl
 show Vc _ _ [(0,⟨0,0,.c Z69 a0⟩)] _
 have hp1:List.length a0.2.2.2.1≤big20:=hpre.2.2.2.1.1
 have hp2:List.length a0.2.2.2.2≤4000000:=Nat.le_trans hpre.2.2.2.2.1 (by decide)
 refine Vm hG rfl (Vq ?_)
 refine Vr hG rfl ?_ ?_
 · exact appOk hp1
 refine Vq ?_
 refine Vr hG rfl ?_ ?_
 · exact hp2
 refine Vm hG rfl (Vt ?_)
 refine⟨?_,trivial⟩
 all_goals exact rfl
noncomputable def F71:Fun:=⟨[.pair Y29 Y70],[.pair Z39 Z72],fun x=>Sm big20 Y73 x.1,fun x=>(id x.1,())⟩
theorem F71_ok:Meets Tryz.prog 71 F71:=by
 refine mZ (C:=mkC 26 [2] [0,1,2,3,5,11,12,13,14] [⟨123,_,F123_ok⟩,⟨81,_,F81_ok⟩]) (mO _ _ _ _) (fO _) Tryz.func71 rfl rfl rfl (by decide) rfl ?_
 rintro⟨a0,_⟩ hwf hpre ⟨⟩ hG rfl rfl
 show Vc _ _ [(0,⟨0,0,.c Z75 a0⟩)] _
 have hp0:Sm big20 Y29 a0.1:=hpre.1
 have hp:_∧_:=hpre.2
 have hb:List.length a0.2≤bigLen:=hwf.1.2.1
 refine Vm hG rfl (Vq ?_)
 refine Vr hG rfl ?_ ?_
 · exact hp0
 refine Vq (Vm hG rfl (Vb ?_))
 refine Vc.loopF [(3,true,.pair Z39 Z72),(13,false,.pure (.int .i64))] [0,1,2,11,12] (fun v=>v.1.1=a0.1∧cpInv a0.2 v.1.2 v.2.1) (fun v=>((List.length a0.2:Int)-v.2.1).toNat) rfl ?_ ?_
 · exact⟨rfl,cpStart⟩
 rintro⟨acc,(i:Int),_⟩ hI
 have hI:acc.1=a0.1∧cpInv a0.2 acc.2 i:=hI
 refine Vm hG rfl (Vq ?_)
 refine Vk rfl ?_ ?_<;>intro h0
 · have hl:i<(List.length a0.2:Int):=oTr h0
   have hE:Sm big20 Y67 (List.getD a0.2 i.toNat (dflt Y67)):=hp.2 _ (upElem hI.2.1 hl)
   refine Vs (Vq (Vb (Vq ?_)))
   refine Vr hG rfl ?_ ?_
   · exact cpRange hI.2 hl
   refine VrD mixed hG rfl (by kernel_rfl) ?_ ?_
   · exact⟨hE,cpLen hI.2 hl hp.1⟩
   refine Vn hG rfl ?_
   refine⟨rfl,?_⟩
   have e:=cpStep (d:=dflt Y67) hI.2 hl hb rfl
   exact⟨⟨hI.1,e.1⟩,e.2⟩
 · have hl:¬i<(List.length a0.2:Int):=oFa h0
   refine Vx (Vm hG rfl (Vt ?_))
   refine⟨?_,trivial⟩
   exact Prod.ext hI.1 (cpEnd hI.2 hl)
noncomputable def F58:Fun:=⟨[.pair (.int .i64) Y84],[.pair (.pure (.int .i64)) Z91],fun x=>Sm big20 Y85 x.1,fun x=>(id x.1,())⟩
theorem F58_ok:Meets Tryz.prog 58 F58:=by
 refine mZ (C:=mkC 12 [2] [0,1,2] [⟨95,_,F95_ok⟩,⟨71,_,F71_ok⟩]) (mO _ _ _ _) (fO _) Tryz.func58 rfl rfl rfl (by decide) rfl ?_
 rintro⟨a0,_⟩ hwf hpre ⟨⟩ hG rfl rfl
 show Vc _ _ [(0,⟨0,0,.c Z86 a0⟩)] _
 have hp1:Sm big20 Y24 a0.2.2.1:=hpre.2.2.1
 have hp2:Sm big20 Y73 a0.2.2.2.2:=hpre.2.2.2.2
 refine Vm hG rfl (Vq ?_)
 refine Vr hG rfl ?_ ?_
 · exact hp1
 refine Vq ?_
 refine Vr hG rfl ?_ ?_
 · exact hp2
 refine Vm hG rfl (Vt ?_)
 refine⟨?_,trivial⟩
 all_goals exact rfl
noncomputable def F18:Fun:=⟨[.pair (.int .i64) Y87,.int .i64],[.pair (.pure (.int .i64)) Z93,.pure (.int .i64)],fun x=>(fun(a:Archive) (_:Int)=>Sm big20 Y88 a) x.1 x.2.1,fun x=>((forgetF x.1 x.2.1).1,(forgetF x.1 x.2.1).2,())⟩
theorem F18_ok:Meets Tryz.prog 18 F18:=by
 refine mZ (C:=mkC 39 [4,5] [0,1,2,4,5,6,8,13,14,15,16,22] [⟨58,_,F58_ok⟩]) (mO _ _ _ _) (fO _) Tryz.func18 rfl rfl rfl (by decide) rfl ?_
 rintro⟨a0,(a1:Int),_⟩ hwf hpre ⟨⟩ hG rfl rfl
 show Vc _ _ [(0,⟨0,0,.c Z89 a0⟩),(1,⟨0,0,.c (.pure (.int .i64)) a1⟩)] _
 have hp:_∧_:=hpre.2
 have hs:List.length a0.2≤1048576:=hp.1
 have hb:List.length a0.2≤bigLen:=hwf.1.2.1
 refine Vm hG rfl (Vm hG rfl (Vq (Vm hG rfl ?_)))
 refine Vb ?_
 refine Vc.loopF [(6,true,.pair (.pure (.int .i64)) Z93),(15,false,.pure (.int .i64))] [0,1,2,4,5,13,14] (fun v=>fgInv a0 a1 v.1 v.2.1) (fun v=>((List.length a0.2:Int)-v.2.1).toNat) rfl ?_ ?_
 · exact fgStart
 rintro⟨o,(i:Int),_⟩ hI
 have hI:fgInv a0 a1 o i:=hI
 refine Vm hG rfl (Vq ?_)
 refine Vk rfl ?_ ?_<;>intro h0
 · have hl:i<(List.length a0.2:Int):=oTr h0
   have hE:Sm big20 Y85 (List.getD a0.2 i.toNat (dflt Y85)):=hp.2 _ (upElem hI.2.1 hl)
   refine Vs (Vq (Vb (Vq ?_)))
   refine Vr hG rfl ?_ ?_
   · exact fgRange hI hl
   refine Vm hG rfl ?_
   refine Vk rfl ?_ ?_<;>intro h1
   · have g1:(fgF a1 (List.getD a0.2 i.toNat (dflt Y85))).2=true:=h1
     refine VrD mixed hG rfl (by kernel_rfl) ?_ ?_
     · exact⟨hE,fgLen hI hs⟩
     refine Vn hG rfl ?_
     refine⟨rfl,?_⟩
     first
       | exact fgNo hI hl hb g1
       | exact fgYes hI hl hb g1
   · have g1:(fgF a1 (List.getD a0.2 i.toNat (dflt Y85))).2=false:=h1
     refine Vs (Vn hG rfl ?_)
     refine⟨rfl,?_⟩
     first
       | exact fgNo hI hl hb g1
       | exact fgYes hI hl hb g1
 · have hl:¬i<(List.length a0.2:Int):=oFa h0
   refine Vx (Vq (VrL mixed hG rfl (by kernel_rfl) (by trivial) (Vt ?_)))
   refine⟨?_,?_,trivial⟩
   · exact fgEnd hI hl
   · exact fgNum hI hl hs
noncomputable def F51:Fun:=⟨[.int .i64,.int .i64,.int .i64],[.pure (.bool)],fun _=>True,fun x=>(inRangeF x.1 x.2.1 x.2.2.1,())⟩
theorem F51_ok:Meets Tryz.prog 51 F51:=by
 refine mZ (C:=mkC 15 [6] [0,1,2,6] []) (mO _ _ _ _) (fO _) Tryz.func51 rfl rfl rfl (by decide) rfl ?_
 rintro⟨(a0:Int),(a1:Int),(a2:Int),_⟩ hwf hpre ⟨⟩ hG rfl rfl
 show Vc _ _ [(0,⟨0,0,.c (.pure (.int .i64)) a0⟩),(1,⟨0,0,.c (.pure (.int .i64)) a1⟩),(2,⟨0,0,.c (.pure (.int .i64)) a2⟩)] _
 refine Vm hG rfl (Vm hG rfl (Vt ?_))
 refine⟨?_,trivial⟩
 all_goals exact rfl
noncomputable def F85:Fun:=⟨[.int .i64],[.pure (.bool)],fun _=>True,fun x=>(isTimeF x.1,())⟩
theorem F85_ok:Meets Tryz.prog 85 F85:=by
 refine mZ (C:=mkC 5 [2] [0,2] [⟨51,_,F51_ok⟩]) (mO _ _ _ _) (fO _) Tryz.func85 rfl rfl rfl (by decide) rfl ?_
 rintro⟨(a0:Int),_⟩ hwf hpre ⟨⟩ hG rfl rfl
 show Vc _ _ [(0,⟨0,0,.c (.pure (.int .i64)) a0⟩)] _
 refine Vm hG rfl (Vm hG rfl (Vt ?_))
 refine⟨?_,trivial⟩
 all_goals exact rfl
noncomputable def F86:Fun:=⟨[.pair (.int .i64) Y14],[.pure (.bool)],fun _=>True,fun x=>(docF x.1,())⟩
theorem F86_ok:Meets Tryz.prog 86 F86:=by
 refine mZ (C:=mkC 46 [2] [0,1,2,3,4,24,26,27,28,29,44] [⟨51,_,F51_ok⟩]) (mO _ _ _ _) (fO _) Tryz.func86 rfl rfl rfl (by decide) rfl ?_
 rintro⟨a0,_⟩ hwf hpre ⟨⟩ hG rfl rfl
 show Vc _ _ [(0,⟨0,0,.c Z31 a0⟩)] _
 have hb0:List.length a0.2.1≤bigLen:=hwf.1.2.1.1
 refine Vm hG rfl (Vq (Vq ?_))
 refine Vr hG rfl ?_ ?_
 · repeat' (first | exact trivial | refine And.intro ?_ ?_ | intro _)
 refine Vk rfl ?_ ?_<;>intro h0
 · have g0:pick2 (pick2 (!(inRangeF a0.1 0 999)) true (!(inRangeF (List.length a0.2.1:Int) 1 6))) true ((List.length a0.2.2:Int) != (List.length a0.2.1:Int))=true:=h0
   refine Vm hG rfl (Vt ?_)
   refine⟨?_,trivial⟩
   refine boolC_no (P:=docP a0) (fun h=>?_)
   exact noOr (noOr (nself h.1) (nself h.2.1)) (lenNe h.2.2.1) g0
 · have g0:pick2 (pick2 (!(inRangeF a0.1 0 999)) true (!(inRangeF (List.length a0.2.1:Int) 1 6))) true ((List.length a0.2.2:Int) != (List.length a0.2.1:Int))=false:=h0
   have f0:inRangeF a0.1 0 999=true∧inRangeF (List.length a0.2.1:Int) 1 6=true∧List.length a0.2.2=List.length a0.2.1:=⟨notF (orF (orF g0).1).1,notF (orF (orF g0).1).2,lenEq (orF g0).2⟩
   refine Vs (Vq (Vm hG rfl (Vb ?_)))
   refine Vc.loopF [(28,false,.pure (.int .i64))] [0,1,24,26,27] (fun v=>kInv (fun k=>(List.length (List.getD a0.2.1 k (dflt .str)):Int)≤40∧inRangeF (List.getD a0.2.2 k (dflt (.int .i64))) 1 1000000000000=true) a0.2.1 v.1) (fun v=>((List.length a0.2.1:Int)-v.1).toNat) rfl ?_ ?_
   · exact kStart
   rintro⟨(i:Int),_⟩ hI0
   have hI0:kInv (fun k=>(List.length (List.getD a0.2.1 k (dflt .str)):Int)≤40∧inRangeF (List.getD a0.2.2 k (dflt (.int .i64))) 1 1000000000000=true) a0.2.1 i:=hI0
   refine Vm hG rfl (Vq ?_)
   refine Vk rfl ?_ ?_<;>intro h1
   · have hl0:i<(List.length a0.2.1:Int):=oTr h1
     refine Vs (Vq (Vb (Vq ?_)))
     refine Vr hG rfl ?_ ?_
     · exact kRange hI0 hl0
     refine Vq ?_
     refine Vr hG rfl ?_ ?_
     · exact⟨fun _=>(show inRange i (List.length a0.2.2)from by rw[f0.2.2];exact kRange hI0 hl0),fun _=>trivial⟩
     refine Vk rfl ?_ ?_<;>intro h2
     · have g2:pick2 (decide ((List.length (List.getD a0.2.1 i.toNat (dflt .str)):Int)>40)) true (!(inRangeF (List.getD a0.2.2 i.toNat (dflt (.int .i64))) 1 1000000000000))=true:=h2
       refine Vm hG rfl (Vt ?_)
       refine⟨?_,trivial⟩
       refine boolC_no (P:=docP a0) (fun h=>?_)
       exact noOr (fun q=>absurd (h.2.2.2.1 i.toNat (kLt hI0 hl0)) (Int.not_le.2 (oTr q))) (nself (h.2.2.2.2 i.toNat (by rw[h.2.2.1];exact kLt hI0 hl0))) g2
     · have g2:pick2 (decide ((List.length (List.getD a0.2.1 i.toNat (dflt .str)):Int)>40)) true (!(inRangeF (List.getD a0.2.2 i.toNat (dflt (.int .i64))) 1 1000000000000))=false:=h2
       have s0:(fun k=>(List.length (List.getD a0.2.1 k (dflt .str)):Int)≤40∧inRangeF (List.getD a0.2.2 k (dflt (.int .i64))) 1 1000000000000=true) i.toNat:=⟨Int.not_lt.1 (oFa (orF g2).1),notF (orF g2).2⟩
       refine Vs (Vn hG rfl ?_)
       refine⟨rfl,?_⟩
       exact kStep hI0 hl0 hb0 s0
   · have hl0:¬i<(List.length a0.2.1:Int):=oFa h1
     refine Vx (Vm hG rfl (Vt ?_))
     refine⟨?_,trivial⟩
     exact boolC_yes (P:=docP a0) ⟨f0.1,f0.2.1,f0.2.2,fun k hk=>(kEnd hI0 hl0 k hk).1,fun k hk=>(kEnd hI0 hl0 k (by rw[←f0.2.2];exact hk)).2⟩
noncomputable def F152:Fun:=⟨[.slice (.int .i64),.slice (.int .i64)],[.pure (.bool)],fun _=>True,fun x=>(eqC x.1 x.2.1,())⟩
theorem F152_ok:Meets Tryz.prog 152 F152:=by
 refine mZ (C:=mkC 26 [4] [0,1,4,5,10,12,13,14,24] []) (mO _ _ _ _) (fO _) Tryz.func152 rfl rfl rfl (by decide) rfl ?_
 rintro⟨a0,a1,_⟩ hwf hpre ⟨⟩ hG rfl rfl
 show Vc _ _ [(0,⟨0,0,.c Z3 a0⟩),(1,⟨0,0,.c Z3 a1⟩)] _
 have hb0:List.length a0≤bigLen:=hwf.1.1
 refine Vm hG rfl (Vq (Vm hG rfl ?_))
 refine Vk rfl ?_ ?_<;>intro h0
 · refine Vm hG rfl (Vt ?_)
   refine⟨?_,trivial⟩
   refine eqC_no (fun e=>?_)
   have e:a0=a1:=e
   have g:((List.length a0:Int) != (List.length a1:Int))=true:=h0
   subst e
   exact bself g
 · have g0:((List.length a0:Int) != (List.length a1:Int))=false:=h0
   have f0_0:List.length a0=List.length a1:=(lenEq g0)
   refine Vs (Vq (Vm hG rfl (Vb ?_)))
   refine Vc.loopF [(13,false,.pure (.int .i64))] [0,1,10,12] (fun v=>eqInv a0 a1 v.1) (fun v=>((List.length a0:Int)-v.1).toNat) rfl ?_ ?_
   · exact eqStart f0_0
   rintro⟨(i0:Int),_⟩ hI0
   have hI0:eqInv a0 a1 i0:=hI0
   refine Vm hG rfl (Vq ?_)
   refine Vk rfl ?_ ?_<;>intro h1
   · have hl0:i0<(List.length a0:Int):=oTr h1
     refine Vs (Vq (Vb (Vm hG rfl ?_)))
     refine Vq ?_
     refine VrD mixed hG rfl (by kernel_rfl) ?_ ?_
     · exact⟨(eqRange hI0 hl0).1,(eqRange hI0 hl0).2⟩
     refine Vk rfl ?_ ?_<;>intro h2
     · refine Vm hG rfl (Vt ?_)
       refine⟨?_,trivial⟩
       refine eqC_no (fun e=>?_)
       have e:a0=a1:=e
       have g:((List.getD a0 i0.toNat (dflt (.int .i64))) != (List.getD a1 i0.toNat (dflt (.int .i64))))=true:=h2
       subst e
       exact bself g
     · have g2:((List.getD a0 i0.toNat (dflt (.int .i64))) != (List.getD a1 i0.toNat (dflt (.int .i64))))=false:=h2
       have f2_0:(List.getD a0 i0.toNat (dflt (.int .i64)))=(List.getD a1 i0.toNat (dflt (.int .i64))):=(bneI g2)
       have s0:(List.getD a0 i0.toNat (dflt (.int .i64)))=(List.getD a1 i0.toNat (dflt (.int .i64))):=f2_0
       refine Vs (Vn hG rfl ?_)
       refine⟨rfl,?_⟩
       exact⟨eqStep (d:=dflt (.int .i64)) hI0 hl0 hb0 s0,(upStep hI0.1 hl0 hb0).2.2⟩
   · have hl0:¬i0<(List.length a0:Int):=oFa h1
     have e0:a0=a1:=eqEnd hI0 hl0
     refine Vx (Vm hG rfl (Vt ?_))
     refine⟨?_,trivial⟩
     exact eqC_yes e0
noncomputable def F87:Fun:=⟨[.pair (.int .i64) Y11,.pair (.int .i64) Y11],[.pure (.bool)],fun _=>True,fun x=>(eqC x.1 x.2.1,())⟩
theorem F87_ok:Meets Tryz.prog 87 F87:=by
 refine mZ (C:=mkC 24 [4] [0,1,2,3,4] [⟨152,_,F152_ok⟩]) (mO _ _ _ _) (fO _) Tryz.func87 rfl rfl rfl (by decide) rfl ?_
 rintro⟨a0,a1,_⟩ hwf hpre ⟨⟩ hG rfl rfl
 show Vc _ _ [(0,⟨0,0,.c Z26 a0⟩),(1,⟨0,0,.c Z26 a1⟩)] _
 refine Vm hG rfl (Vq ?_)
 refine Vr hG rfl ?_ ?_
 · repeat' (first | exact trivial | refine And.intro ?_ ?_ | intro _)
 refine Vt ?_
 refine⟨?_,trivial⟩
 refine eqC_by (fun e=>?_) (fun e=>?_)
 · have e:(pick2 (pick2 (a0.1==a1.1) (a0.2.2==a1.2.2) false) (eqC a0.2.1 a1.2.1) false)=true:=e
   have r_0:a0.1=a1.1:=(beqI2 (andT (andT e).1).1)
   have r_1:a0.2.2=a1.2.2:=(beqI2 (andT (andT e).1).2)
   have r_2:a0.2.1=a1.2.1:=(eqC_iff.1 (andT e).2)
   exact(Prod.ext r_0 (Prod.ext r_2 r_1))
 · have e:a0=a1:=e
   subst e
   exact(yesAnd (yesAnd beqSelf beqSelf) (eqC_self _))
noncomputable def F150:Fun:=⟨[.slice Y22,.pair (.int .i64) Y11],[.pure (.bool)],fun _=>True,fun x=>(hasF x.1 x.2.1,())⟩
theorem F150_ok:Meets Tryz.prog 150 F150:=by
 refine mZ (C:=mkC 17 [4] [0,1,3,4,6,7,8,9,10,15] [⟨87,_,F87_ok⟩]) (mO _ _ _ _) (fO _) Tryz.func150 rfl rfl rfl (by decide) rfl ?_
 rintro⟨a0,a1,_⟩ hwf hpre ⟨⟩ hG rfl rfl
 show Vc _ _ [(0,⟨0,0,.c Z32 a0⟩),(1,⟨0,0,.c Z26 a1⟩)] _
 have hb:List.length a0≤bigLen:=hwf.1.1
 refine Vm hG rfl (Vq (Vm hG rfl (Vb ?_)))
 refine Vc.loopF [(9,false,.pure (.int .i64))] [0,1,3,7,8] (fun v=>fInv (fun x=>eqC x a1) a0 v.1) (fun v=>((List.length a0:Int)-v.1).toNat) rfl ?_ ?_
 · exact fStart
 rintro⟨(i:Int),_⟩ hI
 have hI:fInv (fun x=>eqC x a1) a0 i:=hI
 refine Vm hG rfl (Vq ?_)
 refine Vk rfl ?_ ?_<;>intro h0
 · have hl:i<(List.length a0:Int):=oTr h0
   refine Vs (Vq (Vb (Vq ?_)))
   refine Vr hG rfl ?_ ?_
   · exact fRange hI hl
   refine Vm hG rfl ?_
   refine Vk rfl ?_ ?_<;>intro h1
   · have g1:(fun x=>eqC x a1) (List.getD a0 i.toNat (dflt Y22))=true:=h1
     refine Vm hG rfl (Vt ?_)
     refine⟨?_,trivial⟩
     exact hasYes hI hl g1
   · have g1:(fun x=>eqC x a1) (List.getD a0 i.toNat (dflt Y22))=false:=h1
     refine Vs (Vn hG rfl ?_)
     refine⟨rfl,?_⟩
     exact fStep hI hl hb g1
 · have hl:¬i<(List.length a0:Int):=oFa h0
   refine Vx (Vm hG rfl (Vt ?_))
   refine⟨?_,trivial⟩
   exact hasNo hI hl
noncomputable def F82:Fun:=⟨[.pair Y29 Y70],[.pure (.bool)],fun _=>True,fun x=>(strandF x.1,())⟩
theorem F82_ok:Meets Tryz.prog 82 F82:=by
 refine mZ (C:=mkC 65 [2] [0,1,2,3,4,5,6,17,19,20,21,22,31,34,35,36,37,63] [⟨51,_,F51_ok⟩,⟨150,_,F150_ok⟩]) (mO _ _ _ _) (fO _) Tryz.func82 rfl rfl rfl (by decide) rfl ?_
 rintro⟨a0,_⟩ hwf hpre ⟨⟩ hG rfl rfl
 show Vc _ _ [(0,⟨0,0,.c Z75 a0⟩)] _
 have hb0:List.length a0.1≤bigLen:=hwf.1.1.1
 have hb1:List.length a0.2≤bigLen:=hwf.1.2.1
 refine Vm hG rfl (Vq (Vq ?_))
 refine Vr hG rfl ?_ ?_
 · repeat' (first | exact trivial | refine And.intro ?_ ?_ | intro _)
 refine Vk rfl ?_ ?_<;>intro h0
 · have g0:pick2 (!(inRangeF (List.length a0.1:Int) 1 12)) true (decide ((List.length a0.2:Int)>8))=true:=h0
   refine Vm hG rfl (Vt ?_)
   refine⟨?_,trivial⟩
   refine boolC_no (P:=strandP a0) (fun h=>?_)
   exact noOr (nself h.1) (fun q=>absurd h.2.1 (Int.not_le.2 (oTr q))) g0
 · have g0:pick2 (!(inRangeF (List.length a0.1:Int) 1 12)) true (decide ((List.length a0.2:Int)>8))=false:=h0
   refine Vs (Vq (Vm hG rfl (Vb ?_)))
   refine Vc.loopF [(21,false,.pure (.int .i64))] [0,1,5,6,17,19,20,34,35,36,37,63] (fun v=>kInv (fun k=>newP a0 k) a0.1 v.1) (fun v=>((List.length a0.1:Int)-v.1).toNat) rfl ?_ ?_
   · exact kStart
   rintro⟨(i:Int),_⟩ hI0
   have hI0:kInv (fun k=>newP a0 k) a0.1 i:=hI0
   refine Vm hG rfl (Vq ?_)
   refine Vk rfl ?_ ?_<;>intro h1
   · have hl0:i<(List.length a0.1:Int):=oTr h1
     refine Vs (Vq (Vb (Vq ?_)))
     refine Vr hG rfl ?_ ?_
     · exact kRange hI0 hl0
     refine Vq ?_
     refine VrD mixed hG rfl (by kernel_rfl) ?_ ?_
     · exact⟨Int.le_refl _,(headCond hI0 hl0).2.1,(headCond hI0 hl0).2.2,trivial⟩
     refine Vk rfl ?_ ?_<;>intro h2
     · have g2:¬newP a0 i.toNat:=hasBad hI0 hl0 h2
       refine Vm hG rfl (Vt ?_)
       refine⟨?_,trivial⟩
       refine boolC_no (P:=strandP a0) (fun h=>?_)
       exact g2 (h.2.2.1 i.toNat (kLt hI0 hl0))
     · have g2:newP a0 i.toNat:=hasGood hI0 hl0 h2
       refine Vs (Vn hG rfl ?_)
       refine⟨rfl,?_⟩
       exact kStep hI0 hl0 hb0 g2
   · have hl0:¬i<(List.length a0.1:Int):=oFa h1
     refine Vx (Vq (Vm hG rfl (Vb ?_)))
     refine Vc.loopF [(36,false,.pure (.int .i64))] [0,1,3,4,17,19,20,21,22,31,34,35] (fun v=>kInv (fun k=>renP a0 k) a0.2 v.1) (fun v=>((List.length a0.2:Int)-v.1).toNat) rfl ?_ ?_
     · exact kStart
     rintro⟨(i:Int),_⟩ hI1
     have hI1:kInv (fun k=>renP a0 k) a0.2 i:=hI1
     refine Vm hG rfl (Vq ?_)
     refine Vk rfl ?_ ?_<;>intro h3
     · have hl1:i<(List.length a0.2:Int):=oTr h3
       refine Vs (Vq (Vb (Vq ?_)))
       refine Vr hG rfl ?_ ?_
       · exact kRange hI1 hl1
       refine Vq ?_
       refine VrD mixed hG rfl (by kernel_rfl) ?_ ?_
       · exact⟨trivial,fun h2=>backRange hI1 hl1 hb1 (oTr h2)⟩
       refine Vk rfl ?_ ?_<;>intro h4
       · have g4:renBadF a0 i=true:=h4
         refine Vm hG rfl (Vt ?_)
         refine⟨?_,trivial⟩
         refine boolC_no (P:=strandP a0) (fun h=>?_)
         exact renBad hI1 hl1 hb1 g4 (h.2.2.2 i.toNat (kLt hI1 hl1))
       · have g4:renBadF a0 i=false:=h4
         refine Vs (Vn hG rfl ?_)
         refine⟨rfl,?_⟩
         exact kStep hI1 hl1 hb1 (renGood hI1 hl1 hb1 g4)
     · have hl1:¬i<(List.length a0.2:Int):=oFa h3
       refine Vx (Vm hG rfl (Vt ?_))
       refine⟨?_,trivial⟩
       exact boolC_yes (P:=strandP a0) ⟨notF (orF g0).1,Int.not_lt.1 (oFa (orF g0).2),kEnd hI0 hl0,kEnd hI1 hl1⟩
noncomputable def F153:Fun:=⟨[.pair (.int .i64) Y56],[.own (.pure (.int .i64))],fun _=>True,fun x=>(sigIntsF x.1,())⟩
theorem F153_ok:Meets Tryz.prog 153 F153:=by
 refine mZ (C:=mkC 20 [2] [0,1,2] []) (mO _ _ _ _) (fO _) Tryz.func153 rfl rfl rfl (by decide) rfl ?_
 rintro⟨a0,_⟩ hwf hpre ⟨⟩ hG rfl rfl
 show Vc _ _ [(0,⟨0,0,.c Z63 a0⟩)] _
 refine Vm hG rfl (Vm hG rfl (Vt ?_))
 refine⟨?_,trivial⟩
 all_goals exact rfl
noncomputable def F88:Fun:=⟨[.pair (.int .i64) Y56],[.pair (.pure (.int .i64)) Z17],fun _=>True,fun x=>(signPieceF x.1,())⟩
theorem F88_ok:Meets Tryz.prog 88 F88:=by
 refine mZ (C:=mkC 10 [2] [0,1,2] [⟨153,_,F153_ok⟩]) (mO _ _ _ _) (fO _) Tryz.func88 rfl rfl rfl (by decide) rfl ?_
 rintro⟨a0,_⟩ hwf hpre ⟨⟩ hG rfl rfl
 show Vc _ _ [(0,⟨0,0,.c Z63 a0⟩)] _
 refine Vm hG rfl (Vq (VrD mixed hG rfl (by kernel_rfl) (by trivial) (Vt ?_)))
 refine⟨?_,trivial⟩
 all_goals exact rfl
noncomputable def F50:Fun:=⟨[.pair (.int .i64) Y84],[.pure (.bool)],fun _=>True,fun x=>(itemF x.1,())⟩
theorem F50_ok:Meets Tryz.prog 50 F50:=by
 refine mZ (C:=mkC 32 [2] [0,1,2] [⟨51,_,F51_ok⟩,⟨85,_,F85_ok⟩,⟨86,_,F86_ok⟩,⟨82,_,F82_ok⟩,⟨88,_,F88_ok⟩,⟨87,_,F87_ok⟩]) (mO _ _ _ _) (fO _) Tryz.func50 rfl rfl rfl (by decide) rfl ?_
 rintro⟨a0,_⟩ hwf hpre ⟨⟩ hG rfl rfl
 show Vc _ _ [(0,⟨0,0,.c Z86 a0⟩)] _
 refine Vm hG rfl (Vq ?_)
 refine VrD mixed hG rfl (by kernel_rfl) ?_ ?_
 · exact⟨trivial,fun _=>trivial,fun _=>trivial,fun _=>trivial,fun h=>strand0 h,fun _=>trivial,fun _=>trivial⟩
 refine Vt ?_
 refine⟨?_,trivial⟩
 all_goals exact rfl
noncomputable def F12:Fun:=⟨[.pair (.int .i64) Y87],[.pure (.bool)],fun _=>True,fun x=>(archF x.1,())⟩
theorem F12_ok:Meets Tryz.prog 12 F12:=by
 refine mZ (C:=mkC 42 [2] [0,1,2,3,4,6,7,8,9,31] [⟨50,_,F50_ok⟩,⟨51,_,F51_ok⟩]) (mO _ _ _ _) (fO _) Tryz.func12 rfl rfl rfl (by decide) rfl ?_
 rintro⟨a0,_⟩ hwf hpre ⟨⟩ hG rfl rfl
 show Vc _ _ [(0,⟨0,0,.c Z89 a0⟩)] _
 have hb0:List.length a0.2≤bigLen:=hwf.1.2.1
 refine Vm hG rfl (Vq (Vm hG rfl (Vb ?_)))
 refine Vc.loopF [(8,false,.pure (.int .i64))] [0,1,6,7] (fun v=>kInv (fun k=>goodP a0 k) a0.2 v.1) (fun v=>((List.length a0.2:Int)-v.1).toNat) rfl ?_ ?_
 · exact kStart
 rintro⟨(i:Int),_⟩ hI0
 have hI0:kInv (fun k=>goodP a0 k) a0.2 i:=hI0
 refine Vm hG rfl (Vq ?_)
 refine Vk rfl ?_ ?_<;>intro h0
 · have hl0:i<(List.length a0.2:Int):=oTr h0
   refine Vs (Vq (Vb (Vq ?_)))
   refine Vr hG rfl ?_ ?_
   · exact kRange hI0 hl0
   refine Vq ?_
   refine VrD mixed hG rfl (by kernel_rfl) ?_ ?_
   · exact⟨trivial,fun h2=>backRange hI0 hl0 hb0 (oTr h2)⟩
   refine Vk rfl ?_ ?_<;>intro h1
   · have g1:badF a0 i=true:=h1
     refine Vm hG rfl (Vt ?_)
     refine⟨?_,trivial⟩
     refine boolC_no (fun h=>?_)
     have q:=(goodIff hI0 hb0).2 (h.1 i.toNat (kLt hI0 hl0))
     rw[g1]at q;cases q
   · have g1:badF a0 i=false:=h1
     have s0:goodP a0 i.toNat:=(goodIff hI0 hb0).1 g1
     refine Vs (Vn hG rfl ?_)
     refine⟨rfl,?_⟩
     exact kStep hI0 hl0 hb0 s0
 · have hl0:¬i<(List.length a0.2:Int):=oFa h0
   refine Vx (Vq ?_)
   refine Vr hG rfl ?_ ?_
   · repeat' (first | exact trivial | refine And.intro ?_ ?_ | intro _)
   refine Vt ?_
   refine⟨?_,trivial⟩
   refine boolC_by (fun e=>?_) (fun h=>?_)
   · exact⟨kEnd hI0 hl0,(andT e).1,oTr (andT e).2⟩
   · exact yesAnd h.2.1 (decide_eq_true h.2.2)
noncomputable def F20:Fun:=⟨[.pair (.int .i64) Y87,.int .i64],[.pure (.int .i64)],fun _=>True,fun x=>((fun a0 a1=>findI (fun x=>x.1==a1) a0.2) x.1 x.2.1,())⟩
theorem F20_ok:Meets Tryz.prog 20 F20:=by
 refine mZ (C:=mkC 21 [4] [0,1,2,4,5,6,8,9,10,11,18] []) (mO _ _ _ _) (fO _) Tryz.func20 rfl rfl rfl (by decide) rfl ?_
 rintro⟨a0,(a1:Int),_⟩ hwf hpre ⟨⟩ hG rfl rfl
 show Vc _ _ [(0,⟨0,0,.c Z89 a0⟩),(1,⟨0,0,.c (.pure (.int .i64)) a1⟩)] _
 have hb:List.length a0.2≤bigLen:=hwf.1.2.1
 refine Vm hG rfl (Vq (Vm hG rfl (Vb ?_)))
 refine Vc.loopF [(10,false,.pure (.int .i64))] [0,1,2,8,9] (fun v=>fInv (fun x=>x.1==a1) a0.2 v.1) (fun v=>((List.length a0.2:Int)-v.1).toNat) rfl ?_ ?_
 · exact fStart
 rintro⟨(i:Int),_⟩ hI
 have hI:fInv (fun x=>x.1==a1) a0.2 i:=hI
 refine Vm hG rfl (Vq ?_)
 refine Vk rfl ?_ ?_<;>intro h0
 · have hl:i<(List.length a0.2:Int):=oTr h0
   refine Vs (Vq (Vb (Vq ?_)))
   refine Vr hG rfl ?_ ?_
   · exact fRange hI hl
   refine Vm hG rfl ?_
   refine Vk rfl ?_ ?_<;>intro h1
   · have g1:(fun x=>x.1==a1) (List.getD a0.2 i.toNat (dflt Y85))=true:=h1
     refine Vm hG rfl (Vt ?_)
     refine⟨?_,trivial⟩
     exact fHit hI hl g1
   · have g1:(fun x=>x.1==a1) (List.getD a0.2 i.toNat (dflt Y85))=false:=h1
     refine Vs (Vn hG rfl ?_)
     refine⟨rfl,?_⟩
     exact fStep hI hl hb g1
 · have hl:¬i<(List.length a0.2:Int):=oFa h0
   refine Vx (Vm hG rfl (Vt ?_))
   refine⟨?_,trivial⟩
   exact fEnd hI hl
noncomputable def F61:Fun:=⟨[.pair (.int .i64) Y84],[.pair (.own Z78) (.own Z44)],fun x=>Sm big20 Y85 x.1,fun x=>(itemEvF x.1,())⟩
theorem F61_ok:Meets Tryz.prog 61 F61:=by
 refine mZ (C:=mkC 8 [2] [0,1,2] [⟨71,_,F71_ok⟩]) (mO _ _ _ _) (fO _) Tryz.func61 rfl rfl rfl (by decide) rfl ?_
 rintro⟨a0,_⟩ hwf hpre ⟨⟩ hG rfl rfl
 show Vc _ _ [(0,⟨0,0,.c Z86 a0⟩)] _
 have hp:Sm big20 Y73 a0.2.2.2.2:=hpre.2.2.2.2
 refine Vm hG rfl (Vq ?_)
 refine Vr hG rfl ?_ ?_
 · exact hp
 refine Vt ?_
 refine⟨?_,trivial⟩
 all_goals exact rfl
noncomputable def F155:Fun:=⟨[.slice (.int .u8)],[.own (.pure (.int .i64))],fun x=>(fun(l:List Int)=>l.length≤40) x.1,fun x=>(bytesF x.1,())⟩
theorem F155_ok:Meets Tryz.prog 155 F155:=by
 refine mZ (C:=mkC 19 [2] [0,2,3,5,6,7,8,9] []) (mO _ _ _ _) (fO _) Tryz.func155 rfl rfl rfl (by decide) rfl ?_
 rintro⟨a0,_⟩ hwf hpre ⟨⟩ hG rfl rfl
 show Vc _ _ [(0,⟨0,0,.c Z1 a0⟩)] _
 have hp:List.length a0≤40:=hpre
 have hb:List.length a0≤bigLen:=hwf.1.1
 refine Vm hG rfl (Vm hG rfl (Vq (Vm hG rfl ?_)))
 refine Vb ?_
 refine Vc.loopF [(3,false,.own (.pure (.int .i64))),(8,false,.pure (.int .i64))] [0,2,6,7] (fun v=>gsInv (byteG a0) [] a0 v.1 v.2.1) (fun v=>((List.length a0:Int)-v.2.1).toNat) rfl ?_ ?_
 · exact gsStart
 rintro⟨acc,(i:Int),_⟩ hI
 have hI:gsInv (byteG a0) [] a0 acc i:=hI
 have hA:List.length acc≤40:=gsLen (c:=1) (m:=40) hI (fun _=>Nat.le_refl _) hp (by simp)
 refine Vm hG rfl (Vq ?_)
 refine Vk rfl ?_ ?_<;>intro h0
 · have hl:i<(List.length a0:Int):=oTr h0
   refine Vs (Vq (Vb (Vq ?_)))
   refine Vr hG rfl ?_ ?_
   · exact gsRange hI hl
   refine Vr hG rfl ?_ ?_
   · exact(show List.length acc+1≤maxApp from by unfold maxApp;omega)
   refine Vn hG rfl ?_
   refine⟨rfl,?_⟩
   exact gsStep hI hl hb rfl
 · have hl:¬i<(List.length a0:Int):=oFa h0
   refine Vx (Vm hG rfl (Vt ?_))
   refine⟨?_,trivial⟩
   exact gsEnd hI hl
noncomputable def F231:Fun:=⟨[.int .i64,.int .i64],[.pure (.int .i64)],fun _=>True,fun x=>(modF x.1 x.2.1,())⟩
theorem F231_ok:Meets Tryz.prog 231 F231:=by
 refine mZ (C:=mkC 15 [4] [0,1,4,7] [⟨51,_,F51_ok⟩]) (mO _ _ _ _) (fO _) Tryz.func231 rfl rfl rfl (by decide) rfl ?_
 rintro⟨(a0:Int),(a1:Int),_⟩ hwf hpre ⟨⟩ hG rfl rfl
 show Vc _ _ [(0,⟨0,0,.c (.pure (.int .i64)) a0⟩),(1,⟨0,0,.c (.pure (.int .i64)) a1⟩)] _
 refine Vm hG rfl (Vq (Vm hG rfl ?_))
 refine Vk rfl ?_ ?_<;>intro h0
 · have g0:(!(inRangeF a1 1 1000000000000))=true:=h0
   refine Vm hG rfl (Vt ?_)
   refine⟨?_,trivial⟩
   show (0:Int)=modF a0 a1
   unfold modF
   rw[if_neg (by simpa using g0)]
 · have g0:(!(inRangeF a1 1 1000000000000))=false:=h0
   refine Vs (Vq ?_)
   refine Vr hG rfl ?_ ?_
   · exact⟨inR_pos h0,inR_pos h0⟩
   refine Vt ?_
   refine⟨?_,trivial⟩
   show _=modF a0 a1
   unfold modF
   rw[if_pos (by simpa using g0)]
noncomputable def F154:Fun:=⟨[.slice (.int .i64)],[.pure (.int .i64)],fun _=>True,fun x=>(hashF x.1,())⟩
theorem F154_ok:Meets Tryz.prog 154 F154:=by
 refine mZ (C:=mkC 21 [2] [0,2,3,5,6,7,8,9] [⟨231,_,F231_ok⟩]) (mO _ _ _ _) (fO _) Tryz.func154 rfl rfl rfl (by decide) rfl ?_
 rintro⟨a0,_⟩ hwf hpre ⟨⟩ hG rfl rfl
 show Vc _ _ [(0,⟨0,0,.c Z3 a0⟩)] _
 have hb:List.length a0≤bigLen:=hwf.1.1
 refine Vm hG rfl (Vm hG rfl (Vq (Vm hG rfl ?_)))
 refine Vb ?_
 refine Vc.loopF [(3,false,.pure (.int .i64)),(8,false,.pure (.int .i64))] [0,2,6,7] (fun v=>foInv (hstep) (11) a0 v.1 v.2.1) (fun v=>((List.length a0:Int)-v.2.1).toNat) rfl ?_ ?_
 · exact foStart
 rintro⟨acc,(i:Int),_⟩ hI
 have hI:foInv (hstep) (11) a0 acc i:=hI
 refine Vm hG rfl (Vq ?_)
 refine Vk rfl ?_ ?_<;>intro h0
 · have hl:i<(List.length a0:Int):=oTr h0
   refine Vs (Vq (Vb (Vq ?_)))
   refine Vr hG rfl ?_ ?_
   · exact foRange hI hl
   refine Vr hG rfl ?_ ?_
   · exact⟨trivial,(show (2147483647:Int)≠0 by decide)⟩
   refine Vn hG rfl ?_
   refine⟨rfl,?_⟩
   exact foStep hI hl hb
 · have hl:¬i<(List.length a0:Int):=oFa h0
   refine Vx (Vm hG rfl (Vt ?_))
   refine⟨?_,trivial⟩
   exact foEnd hI hl
noncomputable def F89:Fun:=⟨[.int .i64,.slice (.int .i64)],[.pure (.int .i64)],fun x=>(fun(_:Int) (l:List Int)=>smallL l) x.1 x.2.1,fun x=>(digestF x.1 x.2.1,())⟩
theorem F89_ok:Meets Tryz.prog 89 F89:=by
 refine mZ (C:=mkC 10 [4] [0,1,4] [⟨154,_,F154_ok⟩]) (mO _ _ _ _) (fO _) Tryz.func89 rfl rfl rfl (by decide) rfl ?_
 rintro⟨(a0:Int),a1,_⟩ hwf hpre ⟨⟩ hG rfl rfl
 show Vc _ _ [(0,⟨0,0,.c (.pure (.int .i64)) a0⟩),(1,⟨0,0,.c Z3 a1⟩)] _
 have hp:List.length a1≤1000000000:=hpre
 refine Vm hG rfl (Vq ?_)
 refine Vr hG rfl ?_ ?_
 · refine⟨?_,trivial⟩
   show 2+List.length a1≤maxApp
   unfold maxApp;omega
 refine Vt ?_
 refine⟨?_,trivial⟩
 exact(digest_eq a0 a1).symm
noncomputable def F92:Fun:=⟨[.int .i64,.str,.int .i64],[.pure (.int .i64)],fun x=>(fun(_:Int) (s:List UInt8) (_:Int)=>s.length≤40) x.1 x.2.1 x.2.2.1,fun x=>(partF x.1 x.2.1 x.2.2.1,())⟩
theorem F92_ok:Meets Tryz.prog 92 F92:=by
 refine mZ (C:=mkC 15 [6] [0,1,2,6] [⟨155,_,F155_ok⟩,⟨89,_,F89_ok⟩]) (mO _ _ _ _) (fO _) Tryz.func92 rfl rfl rfl (by decide) rfl ?_
 rintro⟨(a0:Int),a1,(a2:Int),_⟩ hwf hpre ⟨⟩ hG rfl rfl
 show Vc _ _ [(0,⟨0,0,.c (.pure (.int .i64)) a0⟩),(1,⟨0,0,.c (.pure (.str)) a1⟩),(2,⟨0,0,.c (.pure (.int .i64)) a2⟩)] _
 have hp:List.length a1≤40:=hpre
 have hq:List.length (bytesF (bytesOf a1))=List.length a1:=bytesLen a1
 have hq2:List.length (bytesOf a1)=List.length a1:=List.length_map _
 refine Vm hG rfl (Vq ?_)
 refine Vr hG rfl ?_ ?_
 · exact⟨(show List.length a1≤maxNew from by unfold maxNew;omega),(show List.length (bytesOf a1)≤40 from by omega),(show 1+List.length (bytesF (bytesOf a1))≤maxApp from by unfold maxApp;omega),(show List.length ([a2]++bytesF (bytesOf a1))≤1000000000 from by rw[List.length_append,hq];simp;omega)⟩
 refine Vt ?_
 refine⟨?_,trivial⟩
 exact congrArg (fun l=>digestF a0 ([a2]++l)) (bytesEq a1)
noncomputable def F55:Fun:=⟨[.int .i64,.pair (.int .i64) Y14],[.pure (.int .i64)],fun _=>True,fun x=>(docDigF x.1 x.2.1,())⟩
theorem F55_ok:Meets Tryz.prog 55 F55:=by
 refine mZ (C:=mkC 37 [4] [0,1,3,4,5,6,7,10,15,16,17,18] [⟨86,_,F86_ok⟩,⟨92,_,F92_ok⟩,⟨89,_,F89_ok⟩]) (mO _ _ _ _) (fO _) Tryz.func55 rfl rfl rfl (by decide) rfl ?_
 rintro⟨(a0:Int),a1,_⟩ hwf hpre ⟨⟩ hG rfl rfl
 show Vc _ _ [(0,⟨0,0,.c (.pure (.int .i64)) a0⟩),(1,⟨0,0,.c Z31 a1⟩)] _
 have hb:List.length a1.2.1≤bigLen:=hwf.2.1.2.1.1
 refine Vm hG rfl (Vq (Vm hG rfl ?_))
 refine Vk rfl ?_ ?_<;>intro h0
 · have g0:(!(docF a1))=true:=h0
   refine Vm hG rfl (Vt ?_)
   refine⟨?_,trivial⟩
   exact docDig0 g0
 · have g0:(!(docF a1))=false:=h0
   have hd:=docP_of g0
   have h6:List.length a1.2.1≤6:=docN hd
   refine Vs (Vm hG rfl (Vq (Vm hG rfl ?_)))
   refine Vb ?_
   refine Vc.loopF [(5,false,.own (.pure (.int .i64))),(17,false,.pure (.int .i64))] [0,1,3,4,10,15,16] (fun v=>gsInv (docG a0 a1) [a1.1] a1.2.1 v.1 v.2.1) (fun v=>((List.length a1.2.1:Int)-v.2.1).toNat) rfl ?_ ?_
   · exact gsStart
   rintro⟨acc,(i:Int),_⟩ hI
   have hI:gsInv (docG a0 a1) [a1.1] a1.2.1 acc i:=hI
   have hA:List.length acc≤7:=gsLen (c:=1) (m:=6) hI (fun _=>Nat.le_refl _) h6 (by simp)
   refine Vm hG rfl (Vq ?_)
   refine Vk rfl ?_ ?_<;>intro h1
   · have hl:i<(List.length a1.2.1:Int):=oTr h1
     refine Vs (Vq (Vb (Vq ?_)))
     refine Vr hG rfl ?_ ?_
     · exact gsRange hI hl
     refine Vr hG rfl ?_ ?_
     · exact⟨docX hd hI hl,doc40 hd hI hl,(show List.length acc+1≤maxApp from by unfold maxApp;omega)⟩
     refine Vn hG rfl ?_
     refine⟨rfl,?_⟩
     exact gsStep hI hl hb rfl
   · have hl:¬i<(List.length a1.2.1:Int):=oFa h1
     refine Vx (Vq ?_)
     refine Vr hG rfl ?_ ?_
     · exact(show List.length acc≤1000000000 from by omega)
     refine Vt ?_
     refine⟨?_,trivial⟩
     have e:=docDig1 (id:=a0) (d:=a1) (acc:=acc) (i:=i) g0 hI hl
     exact e
noncomputable def F15:Fun:=⟨[.pair Y29 Y70,.pair (.int .i64) Y14],[.own (.pure (.int .i64))],fun x=>(fun(s:Strand) (_:Doc)=>List.length s.2≤2000000) x.1 x.2.1,fun x=>(docDigsF x.1 x.2.1,())⟩
theorem F15_ok:Meets Tryz.prog 15 F15:=by
 refine mZ (C:=mkC 24 [4] [0,1,2,3,4,5,7,9,10,11,12] [⟨55,_,F55_ok⟩]) (mO _ _ _ _) (fO _) Tryz.func15 rfl rfl rfl (by decide) rfl ?_
 rintro⟨a0,a1,_⟩ hwf hpre ⟨⟩ hG rfl rfl
 show Vc _ _ [(0,⟨0,0,.c Z75 a0⟩),(1,⟨0,0,.c Z31 a1⟩)] _
 have hs:List.length a0.2≤2000000:=hpre
 have hb:List.length a0.2≤bigLen:=hwf.1.2.1
 refine Vm hG rfl (Vm hG rfl (Vq (Vm hG rfl ?_)))
 refine Vb ?_
 refine Vc.loopF [(5,false,.own (.pure (.int .i64))),(11,false,.pure (.int .i64))] [0,1,2,3,4,9,10] (fun v=>pkInv (ddF a1) a0.2 v.1 v.2.1) (fun v=>((List.length a0.2:Int)-v.2.1).toNat) rfl ?_ ?_
 · exact pkStart
 rintro⟨acc,(i:Int),_⟩ hI
 have hI:pkInv (ddF a1) a0.2 acc i:=hI
 refine Vm hG rfl (Vq ?_)
 refine Vk rfl ?_ ?_<;>intro h0
 · have hl:i<(List.length a0.2:Int):=oTr h0
   refine Vs (Vq (Vb (Vq ?_)))
   refine Vr hG rfl ?_ ?_
   · exact pkRange hI hl
   refine Vr hG rfl ?_ ?_
   · exact⟨trivial,pkLen2 hI hs⟩
   refine Vn hG rfl ?_
   refine⟨rfl,?_⟩
   exact pkYes (d:=dflt Y67) hI hl hb rfl
 · have hl:¬i<(List.length a0.2:Int):=oFa h0
   refine Vx (Vm hG rfl (Vt ?_))
   refine⟨?_,trivial⟩
   exact pkEnd hI hl
noncomputable def F75:Fun:=⟨[.pair Y76 Y47,.pair (.int .i64) Y14],[.own Z0],fun x=>(fun(e:Evidence) (_:Doc)=>Sm big20 Y76 e.1) x.1 x.2.1,fun x=>(allDigsF x.1 x.2.1,())⟩
theorem F75_ok:Meets Tryz.prog 75 F75:=by
 refine mZ (C:=mkC 23 [4] [0,1,2,3,4,5,7,9,10,11,12] [⟨15,_,F15_ok⟩]) (mO _ _ _ _) (fO _) Tryz.func75 rfl rfl rfl (by decide) rfl ?_
 rintro⟨a0,a1,_⟩ hwf hpre ⟨⟩ hG rfl rfl
 show Vc _ _ [(0,⟨0,0,.c Z80 a0⟩),(1,⟨0,0,.c Z31 a1⟩)] _
 have hS:Sm big20 Y76 a0.1:=hpre
 have hs:List.length a0.1≤1048576:=hS.1
 have hb:List.length a0.1≤bigLen:=hwf.1.1.1
 refine Vm hG rfl (Vm hG rfl (Vq (Vm hG rfl ?_)))
 refine Vb ?_
 refine Vc.loopF [(5,false,.own Z0),(11,false,.pure (.int .i64))] [0,1,2,3,4,9,10] (fun v=>pkInv (adF a1) a0.1 v.1 v.2.1) (fun v=>((List.length a0.1:Int)-v.2.1).toNat) rfl ?_ ?_
 · exact pkStart
 rintro⟨acc,(i:Int),_⟩ hI
 have hI:pkInv (adF a1) a0.1 acc i:=hI
 refine Vm hG rfl (Vq ?_)
 refine Vk rfl ?_ ?_<;>intro h0
 · have hl:i<(List.length a0.1:Int):=oTr h0
   have r1:=pkRange hI hl
   have hE:List.length (List.getD a0.1 i.toNat (dflt Y73)).2≤2000000:=Nat.le_trans (hS.2 _ (getD_mem r1 _)).2.1 (by decide)
   refine Vs (Vq (Vb (Vq ?_)))
   refine Vr hG rfl ?_ ?_
   · exact pkRange hI hl
   refine Vr hG rfl ?_ ?_
   · exact⟨hE,pkLen hI hs⟩
   refine Vn hG rfl ?_
   refine⟨rfl,?_⟩
   exact pkYes (d:=dflt Y73) hI hl hb rfl
 · have hl:¬i<(List.length a0.1:Int):=oFa h0
   refine Vx (Vm hG rfl (Vt ?_))
   refine⟨?_,trivial⟩
   exact pkEnd hI hl
noncomputable def F324:Fun:=⟨[.int .i64],[.pure (.bool)],fun _=>True,fun x=>(validKeyF x.1,())⟩
theorem F324_ok:Meets Tryz.prog 324 F324:=by
 refine mZ (C:=mkC 5 [2] [0,2] [⟨51,_,F51_ok⟩]) (mO _ _ _ _) (fO _) Tryz.func324 rfl rfl rfl (by decide) rfl ?_
 rintro⟨(a0:Int),_⟩ hwf hpre ⟨⟩ hG rfl rfl
 show Vc _ _ [(0,⟨0,0,.c (.pure (.int .i64)) a0⟩)] _
 refine Vm hG rfl (Vm hG rfl (Vt ?_))
 refine⟨?_,trivial⟩
 all_goals exact rfl
noncomputable def F268:Fun:=⟨[.pair (.int .i64) Y30],[.pure (.bool)],fun _=>True,fun x=>(isKeyF x.1,())⟩
theorem F268_ok:Meets Tryz.prog 268 F268:=by
 refine mZ (C:=mkC 26 [2] [0,1,2] [⟨51,_,F51_ok⟩,⟨85,_,F85_ok⟩,⟨324,_,F324_ok⟩]) (mO _ _ _ _) (fO _) Tryz.func268 rfl rfl rfl (by decide) rfl ?_
 rintro⟨a0,_⟩ hwf hpre ⟨⟩ hG rfl rfl
 show Vc _ _ [(0,⟨0,0,.c Z42 a0⟩)] _
 refine Vm hG rfl (Vq ?_)
 refine Vr hG rfl ?_ ?_
 · repeat' (first | exact trivial | refine And.intro ?_ ?_ | intro _)
 refine Vt ?_
 refine⟨?_,trivial⟩
 all_goals exact rfl
noncomputable def F205:Fun:=⟨[.slice Y40],[.pure (.bool)],fun _=>True,fun x=>(areKeysF x.1,())⟩
theorem F205_ok:Meets Tryz.prog 205 F205:=by
 refine mZ (C:=mkC 34 [2] [0,2,3,4,5,6,7,8,29] [⟨268,_,F268_ok⟩]) (mO _ _ _ _) (fO _) Tryz.func205 rfl rfl rfl (by decide) rfl ?_
 rintro⟨a0,_⟩ hwf hpre ⟨⟩ hG rfl rfl
 show Vc _ _ [(0,⟨0,0,.c Z46 a0⟩)] _
 have hb:List.length a0≤bigLen:=hwf.1.1
 refine Vm hG rfl (Vq (Vm hG rfl (Vb ?_)))
 refine Vc.loopF [(7,false,.pure (.int .i64))] [0,5,6] (fun v=>kInv (areG isKeyF (fun k=>k.1) (dflt (TKey)) a0) a0 v.1) (fun v=>((List.length a0:Int)-v.1).toNat) rfl ?_ ?_
 · exact kStart
 rintro⟨(i:Int),_⟩ hI
 have hI:kInv (areG isKeyF (fun k=>k.1) (dflt (TKey)) a0) a0 i:=hI
 refine Vm hG rfl (Vq ?_)
 refine Vk rfl ?_ ?_<;>intro h0
 · have hl:i<(List.length a0:Int):=oTr h0
   refine Vs (Vq (Vb (Vq ?_)))
   refine Vr hG rfl ?_ ?_
   · exact kRange hI hl
   refine Vq ?_
   refine VrD mixed hG rfl (by kernel_rfl) ?_ ?_
   · repeat' (first | exact trivial | exact kRange hI hl | (intro _ h2;exact prevIdx (kRange hI hl) (oTr h2) hb) | (intro h2;exact prevIdx (kRange hI hl) (oTr h2) hb) | refine And.intro ?_ ?_ | intro _)
   refine Vk rfl ?_ ?_<;>intro h1
   · have g1:areT isKeyF (fun k=>k.1) (dflt (TKey)) a0 i=true:=h1
     refine Vm hG rfl (Vt ?_)
     refine⟨?_,trivial⟩
     exact areBad (m:=12) hI hl hb g1
   · have g1:areT isKeyF (fun k=>k.1) (dflt (TKey)) a0 i=false:=h1
     refine Vs (Vn hG rfl ?_)
     refine⟨rfl,?_⟩
     exact areStep hI hl hb g1
 · have hl:¬i<(List.length a0:Int):=oFa h0
   refine Vx (Vm hG rfl (Vt ?_))
   refine⟨?_,trivial⟩
   exact areEnd (m:=12) hI hl
noncomputable def F206:Fun:=⟨[.slice Y16],[.pure (.bool)],fun _=>True,fun x=>(areAuthsF x.1,())⟩
theorem F206_ok:Meets Tryz.prog 206 F206:=by
 refine mZ (C:=mkC 47 [2] [0,2,3,4,5,6,7,8,42] [⟨51,_,F51_ok⟩]) (mO _ _ _ _) (fO _) Tryz.func206 rfl rfl rfl (by decide) rfl ?_
 rintro⟨a0,_⟩ hwf hpre ⟨⟩ hG rfl rfl
 show Vc _ _ [(0,⟨0,0,.c Z27 a0⟩)] _
 have hb:List.length a0≤bigLen:=hwf.1.1
 refine Vm hG rfl (Vq (Vm hG rfl (Vb ?_)))
 refine Vc.loopF [(7,false,.pure (.int .i64))] [0,5,6] (fun v=>kInv (areG isAuthF (fun k=>k.1) (dflt (TAuth)) a0) a0 v.1) (fun v=>((List.length a0:Int)-v.1).toNat) rfl ?_ ?_
 · exact kStart
 rintro⟨(i:Int),_⟩ hI
 have hI:kInv (areG isAuthF (fun k=>k.1) (dflt (TAuth)) a0) a0 i:=hI
 refine Vm hG rfl (Vq ?_)
 refine Vk rfl ?_ ?_<;>intro h0
 · have hl:i<(List.length a0:Int):=oTr h0
   refine Vs (Vq (Vb (Vq ?_)))
   refine Vr hG rfl ?_ ?_
   · exact kRange hI hl
   refine Vq ?_
   refine VrD mixed hG rfl (by kernel_rfl) ?_ ?_
   · repeat' (first | exact trivial | exact kRange hI hl | (intro _ h2;exact prevIdx (kRange hI hl) (oTr h2) hb) | (intro h2;exact prevIdx (kRange hI hl) (oTr h2) hb) | refine And.intro ?_ ?_ | intro _)
   refine Vk rfl ?_ ?_<;>intro h1
   · have g1:areT isAuthF (fun k=>k.1) (dflt (TAuth)) a0 i=true:=(nor3 _ _ _ _).symm.trans h1
     refine Vm hG rfl (Vt ?_)
     refine⟨?_,trivial⟩
     exact areBad (m:=6) hI hl hb g1
   · have g1:areT isAuthF (fun k=>k.1) (dflt (TAuth)) a0 i=false:=(nor3 _ _ _ _).symm.trans h1
     refine Vs (Vn hG rfl ?_)
     refine⟨rfl,?_⟩
     exact areStep hI hl hb g1
 · have hl:¬i<(List.length a0:Int):=oFa h0
   refine Vx (Vm hG rfl (Vt ?_))
   refine⟨?_,trivial⟩
   exact areEnd (m:=6) hI hl
noncomputable def F269:Fun:=⟨[.pair (.int .i64) Y16],[.pure (.bool)],fun _=>True,fun x=>(isMethodF x.1,())⟩
theorem F269_ok:Meets Tryz.prog 269 F269:=by
 refine mZ (C:=mkC 35 [2] [0,1,2] [⟨51,_,F51_ok⟩,⟨85,_,F85_ok⟩]) (mO _ _ _ _) (fO _) Tryz.func269 rfl rfl rfl (by decide) rfl ?_
 rintro⟨a0,_⟩ hwf hpre ⟨⟩ hG rfl rfl
 show Vc _ _ [(0,⟨0,0,.c Z33 a0⟩)] _
 refine Vm hG rfl (Vq ?_)
 refine Vr hG rfl ?_ ?_
 · repeat' (first | exact trivial | refine And.intro ?_ ?_ | intro _)
 refine Vt ?_
 refine⟨?_,trivial⟩
 all_goals exact rfl
noncomputable def F207:Fun:=⟨[.slice Y30],[.pure (.bool)],fun _=>True,fun x=>(areMethodsF x.1,())⟩
theorem F207_ok:Meets Tryz.prog 207 F207:=by
 refine mZ (C:=mkC 34 [2] [0,2,3,4,5,6,7,8,29] [⟨269,_,F269_ok⟩]) (mO _ _ _ _) (fO _) Tryz.func207 rfl rfl rfl (by decide) rfl ?_
 rintro⟨a0,_⟩ hwf hpre ⟨⟩ hG rfl rfl
 show Vc _ _ [(0,⟨0,0,.c Z38 a0⟩)] _
 have hb:List.length a0≤bigLen:=hwf.1.1
 refine Vm hG rfl (Vq (Vm hG rfl (Vb ?_)))
 refine Vc.loopF [(7,false,.pure (.int .i64))] [0,5,6] (fun v=>kInv (areG isMethodF (fun k=>k.1) (dflt (TMethod)) a0) a0 v.1) (fun v=>((List.length a0:Int)-v.1).toNat) rfl ?_ ?_
 · exact kStart
 rintro⟨(i:Int),_⟩ hI
 have hI:kInv (areG isMethodF (fun k=>k.1) (dflt (TMethod)) a0) a0 i:=hI
 refine Vm hG rfl (Vq ?_)
 refine Vk rfl ?_ ?_<;>intro h0
 · have hl:i<(List.length a0:Int):=oTr h0
   refine Vs (Vq (Vb (Vq ?_)))
   refine Vr hG rfl ?_ ?_
   · exact kRange hI hl
   refine Vq ?_
   refine VrD mixed hG rfl (by kernel_rfl) ?_ ?_
   · repeat' (first | exact trivial | exact kRange hI hl | (intro _ h2;exact prevIdx (kRange hI hl) (oTr h2) hb) | (intro h2;exact prevIdx (kRange hI hl) (oTr h2) hb) | refine And.intro ?_ ?_ | intro _)
   refine Vk rfl ?_ ?_<;>intro h1
   · have g1:areT isMethodF (fun k=>k.1) (dflt (TMethod)) a0 i=true:=h1
     refine Vm hG rfl (Vt ?_)
     refine⟨?_,trivial⟩
     exact areBad (m:=8) hI hl hb g1
   · have g1:areT isMethodF (fun k=>k.1) (dflt (TMethod)) a0 i=false:=h1
     refine Vs (Vn hG rfl ?_)
     refine⟨rfl,?_⟩
     exact areStep hI hl hb g1
 · have hl:¬i<(List.length a0:Int):=oFa h0
   refine Vx (Vm hG rfl (Vt ?_))
   refine⟨?_,trivial⟩
   exact areEnd (m:=8) hI hl
noncomputable def F124:Fun:=⟨[.pair Y43 Y66],[.pure (.bool)],fun _=>True,fun x=>(isFrameF x.1,())⟩
theorem F124_ok:Meets Tryz.prog 124 F124:=by
 refine mZ (C:=mkC 26 [2] [0,1,2] [⟨205,_,F205_ok⟩,⟨206,_,F206_ok⟩,⟨207,_,F207_ok⟩,⟨51,_,F51_ok⟩,⟨85,_,F85_ok⟩]) (mO _ _ _ _) (fO _) Tryz.func124 rfl rfl rfl (by decide) rfl ?_
 rintro⟨a0,_⟩ hwf hpre ⟨⟩ hG rfl rfl
 show Vc _ _ [(0,⟨0,0,.c Z77 a0⟩)] _
 refine Vm hG rfl (Vq ?_)
 refine Vr hG rfl ?_ ?_
 · repeat' (first | exact trivial | refine And.intro ?_ ?_ | intro _)
 refine Vt ?_
 refine⟨?_,trivial⟩
 all_goals exact rfl
noncomputable def F125:Fun:=⟨[.int .i64],[.pure Y30],fun _=>True,fun x=>((fun(r:Int)=>((3,r,(0,0)):Verdict)) x.1,())⟩
theorem F125_ok:Meets Tryz.prog 125 F125:=by
 refine mZ (C:=mkC 5 [2] [0,2] []) (mO _ _ _ _) (fO _) Tryz.func125 rfl rfl rfl (by decide) rfl ?_
 rintro⟨(a0:Int),_⟩ hwf hpre ⟨⟩ hG rfl rfl
 show Vc _ _ [(0,⟨0,0,.c (.pure (.int .i64)) a0⟩)] _
 refine Vm hG rfl (Vm hG rfl (Vt ?_))
 refine⟨?_,trivial⟩
 all_goals exact rfl
noncomputable def F126:Fun:=⟨[.pair (.int .i64) Y56],[.pure (.bool)],fun _=>True,fun x=>(isSigF x.1,())⟩
theorem F126_ok:Meets Tryz.prog 126 F126:=by
 refine mZ (C:=mkC 41 [2] [0,1,2] [⟨51,_,F51_ok⟩]) (mO _ _ _ _) (fO _) Tryz.func126 rfl rfl rfl (by decide) rfl ?_
 rintro⟨a0,_⟩ hwf hpre ⟨⟩ hG rfl rfl
 show Vc _ _ [(0,⟨0,0,.c Z63 a0⟩)] _
 refine Vm hG rfl (Vq ?_)
 refine Vr hG rfl ?_ ?_
 · repeat' (first | exact trivial | refine And.intro ?_ ?_ | intro _)
 refine Vt ?_
 refine⟨?_,trivial⟩
 all_goals exact rfl
noncomputable def F127:Fun:=⟨[.int .i64],[.pure Y30],fun _=>True,fun x=>((fun(r:Int)=>((2,r,(0,0)):Verdict)) x.1,())⟩
theorem F127_ok:Meets Tryz.prog 127 F127:=by
 refine mZ (C:=mkC 5 [2] [0,2] []) (mO _ _ _ _) (fO _) Tryz.func127 rfl rfl rfl (by decide) rfl ?_
 rintro⟨(a0:Int),_⟩ hwf hpre ⟨⟩ hG rfl rfl
 show Vc _ _ [(0,⟨0,0,.c (.pure (.int .i64)) a0⟩)] _
 refine Vm hG rfl (Vm hG rfl (Vt ?_))
 refine⟨?_,trivial⟩
 all_goals exact rfl
noncomputable def F128:Fun:=⟨[.slice Y40,.int .i64],[.pure (.int .i64)],fun _=>True,fun x=>((fun a0 a1=>findI (fun x=>x.1==a1) a0) x.1 x.2.1,())⟩
theorem F128_ok:Meets Tryz.prog 128 F128:=by
 refine mZ (C:=mkC 20 [4] [0,1,4,5,6,7,8,9,10,17] []) (mO _ _ _ _) (fO _) Tryz.func128 rfl rfl rfl (by decide) rfl ?_
 rintro⟨a0,(a1:Int),_⟩ hwf hpre ⟨⟩ hG rfl rfl
 show Vc _ _ [(0,⟨0,0,.c Z46 a0⟩),(1,⟨0,0,.c (.pure (.int .i64)) a1⟩)] _
 have hb:List.length a0≤bigLen:=hwf.1.1
 refine Vm hG rfl (Vq (Vm hG rfl (Vb ?_)))
 refine Vc.loopF [(9,false,.pure (.int .i64))] [0,1,7,8] (fun v=>fInv (fun x=>x.1==a1) a0 v.1) (fun v=>((List.length a0:Int)-v.1).toNat) rfl ?_ ?_
 · exact fStart
 rintro⟨(i:Int),_⟩ hI
 have hI:fInv (fun x=>x.1==a1) a0 i:=hI
 refine Vm hG rfl (Vq ?_)
 refine Vk rfl ?_ ?_<;>intro h0
 · have hl:i<(List.length a0:Int):=oTr h0
   refine Vs (Vq (Vb (Vq ?_)))
   refine Vr hG rfl ?_ ?_
   · exact fRange hI hl
   refine Vm hG rfl ?_
   refine Vk rfl ?_ ?_<;>intro h1
   · have g1:(fun x=>x.1==a1) (List.getD a0 i.toNat (dflt Y40))=true:=h1
     refine Vm hG rfl (Vt ?_)
     refine⟨?_,trivial⟩
     exact fHit hI hl g1
   · have g1:(fun x=>x.1==a1) (List.getD a0 i.toNat (dflt Y40))=false:=h1
     refine Vs (Vn hG rfl ?_)
     refine⟨rfl,?_⟩
     exact fStep hI hl hb g1
 · have hl:¬i<(List.length a0:Int):=oFa h0
   refine Vx (Vm hG rfl (Vt ?_))
   refine⟨?_,trivial⟩
   exact fEnd hI hl
noncomputable def F341:Fun:=⟨[.int .i64,.slice (.int .i64)],[.pure (.int .i64)],fun x=>(fun(_:Int) (l:List Int)=>l.length≤1000000001) x.1 x.2.1,fun x=>(keyedF x.1 x.2.1,())⟩
theorem F341_ok:Meets Tryz.prog 341 F341:=by
 refine mZ (C:=mkC 13 [4] [0,1,4] [⟨154,_,F154_ok⟩]) (mO _ _ _ _) (fO _) Tryz.func341 rfl rfl rfl (by decide) rfl ?_
 rintro⟨(a0:Int),a1,_⟩ hwf hpre ⟨⟩ hG rfl rfl
 show Vc _ _ [(0,⟨0,0,.c (.pure (.int .i64)) a0⟩),(1,⟨0,0,.c Z3 a1⟩)] _
 have hp:List.length a1≤1000000001:=hpre
 refine Vm hG rfl (Vq ?_)
 refine Vr hG rfl ?_ ?_
 · refine⟨?_,?_,trivial⟩
   · show 1+List.length a1≤maxApp
     unfold maxApp;omega
   · show (List.length a1+1)+1≤maxApp
     unfold maxApp;omega
 refine Vt ?_
 refine⟨?_,trivial⟩
 all_goals exact rfl
noncomputable def F325:Fun:=⟨[.pair (.int .i64) Y30,.slice (.int .i64)],[.pure (.int .i64)],fun x=>(fun(_:Key) (l:List Int)=>smallL l) x.1 x.2.1,fun x=>(markWithF x.1 x.2.1,())⟩
theorem F325_ok:Meets Tryz.prog 325 F325:=by
 refine mZ (C:=mkC 13 [4] [0,1,2,4] [⟨341,_,F341_ok⟩]) (mO _ _ _ _) (fO _) Tryz.func325 rfl rfl rfl (by decide) rfl ?_
 rintro⟨a0,a1,_⟩ hwf hpre ⟨⟩ hG rfl rfl
 show Vc _ _ [(0,⟨0,0,.c Z42 a0⟩),(1,⟨0,0,.c Z3 a1⟩)] _
 have hp:List.length a1≤1000000000:=hpre
 refine Vm hG rfl (Vq ?_)
 refine VrD mixed hG rfl (by kernel_rfl) ?_ ?_
 · refine⟨?_,?_⟩
   · show 1+List.length a1≤maxApp
     unfold maxApp;omega
   · show List.length a1+1≤1000000001
     omega
 refine Vt ?_
 refine⟨?_,trivial⟩
 all_goals exact rfl
noncomputable def F270:Fun:=⟨[.slice Y40,.int .i64,.slice (.int .i64)],[.pure (.int .i64),.pure (.bool)],fun x=>(fun(_:List Key) (_:Int) (l:List Int)=>smallL l) x.1 x.2.1 x.2.2.1,fun x=>((markByF x.1 x.2.1 x.2.2.1).1,(markByF x.1 x.2.1 x.2.2.1).2,())⟩
theorem F270_ok:Meets Tryz.prog 270 F270:=by
 refine mZ (C:=mkC 20 [6,7] [0,1,2,6,7,8,13] [⟨128,_,F128_ok⟩,⟨325,_,F325_ok⟩]) (mO _ _ _ _) (fO _) Tryz.func270 rfl rfl rfl (by decide) rfl ?_
 rintro⟨a0,(a1:Int),a2,_⟩ hwf hpre ⟨⟩ hG rfl rfl
 show Vc _ _ [(0,⟨0,0,.c Z46 a0⟩),(1,⟨0,0,.c (.pure (.int .i64)) a1⟩),(2,⟨0,0,.c Z3 a2⟩)] _
 have hp:smallL a2:=hpre
 refine Vm hG rfl (Vm hG rfl (Vq (Vm hG rfl ?_)))
 refine Vk rfl ?_ ?_<;>intro h0
 · have g0:keyI a0 a1<0:=oTr h0
   refine Vm hG rfl (Vt ?_)
   have e:=markBy_no (l:=a2) g0
   refine⟨?_,?_,trivial⟩
   · exact(congrArg Prod.fst e).symm
   · exact(congrArg Prod.snd e).symm
 · have g0:¬keyI a0 a1<0:=oFa h0
   refine Vs (Vq ?_)
   refine Vr hG rfl ?_ ?_
   · exact⟨findRange g0,hp⟩
   refine Vt ?_
   have e:=markBy_yes (l:=a2) g0
   refine⟨?_,?_,trivial⟩
   · exact(congrArg Prod.fst e).symm
   · exact(congrArg Prod.snd e).symm
noncomputable def F208:Fun:=⟨[.slice Y40,.int .i64,.slice (.int .i64),.int .i64],[.pure (.bool)],fun x=>(fun(_:List Key) (_:Int) (l:List Int) (_:Int)=>smallL l) x.1 x.2.1 x.2.2.1 x.2.2.2.1,fun x=>(checkMarkF x.1 x.2.1 x.2.2.1 x.2.2.2.1,())⟩
theorem F208_ok:Meets Tryz.prog 208 F208:=by
 refine mZ (C:=mkC 24 [8] [0,1,2,3,8,9,10] [⟨270,_,F270_ok⟩]) (mO _ _ _ _) (fO _) Tryz.func208 rfl rfl rfl (by decide) rfl ?_
 rintro⟨a0,(a1:Int),a2,(a3:Int),_⟩ hwf hpre ⟨⟩ hG rfl rfl
 show Vc _ _ [(0,⟨0,0,.c Z46 a0⟩),(1,⟨0,0,.c (.pure (.int .i64)) a1⟩),(2,⟨0,0,.c Z3 a2⟩),(3,⟨0,0,.c (.pure (.int .i64)) a3⟩)] _
 have hp:smallL a2:=hpre
 refine Vm hG rfl (Vq ?_)
 refine Vr hG rfl ?_ ?_
 · exact hp
 refine Vm hG rfl (Vt ?_)
 refine⟨?_,trivial⟩
 exact checkMark_by a0 a1 a2 a3
noncomputable def F129:Fun:=⟨[.slice Y40,.pair (.int .i64) Y56],[.pure (.bool)],fun _=>True,fun x=>(checkSigF x.1 x.2.1,())⟩
theorem F129_ok:Meets Tryz.prog 129 F129:=by
 refine mZ (C:=mkC 17 [4] [0,1,3,4] [⟨126,_,F126_ok⟩,⟨153,_,F153_ok⟩,⟨208,_,F208_ok⟩]) (mO _ _ _ _) (fO _) Tryz.func129 rfl rfl rfl (by decide) rfl ?_
 rintro⟨a0,a1,_⟩ hwf hpre ⟨⟩ hG rfl rfl
 show Vc _ _ [(0,⟨0,0,.c Z46 a0⟩),(1,⟨0,0,.c Z63 a1⟩)] _
 refine Vm hG rfl (Vq ?_)
 refine VrD mixed hG rfl (by kernel_rfl) ?_ ?_
 · repeat' (first | exact trivial | exact smallLit (n:=9) rfl (by decide) | refine And.intro ?_ ?_ | intro _)
 refine Vt ?_
 refine⟨?_,trivial⟩
 all_goals exact rfl
noncomputable def F271:Fun:=⟨[.pair Y29 Y70,.pair (.int .i64) Y11],[.pure (.int .i64)],fun _=>True,fun x=>((fun a0 a1=>findI (fun x=>eqC x a1) a0.1) x.1 x.2.1,())⟩
theorem F271_ok:Meets Tryz.prog 271 F271:=by
 refine mZ (C:=mkC 20 [4] [0,1,2,3,4,5,6,8,9,10,11,17] [⟨87,_,F87_ok⟩]) (mO _ _ _ _) (fO _) Tryz.func271 rfl rfl rfl (by decide) rfl ?_
 rintro⟨a0,a1,_⟩ hwf hpre ⟨⟩ hG rfl rfl
 show Vc _ _ [(0,⟨0,0,.c Z75 a0⟩),(1,⟨0,0,.c Z26 a1⟩)] _
 have hb:List.length a0.1≤bigLen:=hwf.1.1.1
 refine Vm hG rfl (Vq (Vm hG rfl (Vb ?_)))
 refine Vc.loopF [(10,false,.pure (.int .i64))] [0,1,2,3,8,9] (fun v=>fInv (fun x=>eqC x a1) a0.1 v.1) (fun v=>((List.length a0.1:Int)-v.1).toNat) rfl ?_ ?_
 · exact fStart
 rintro⟨(i:Int),_⟩ hI
 have hI:fInv (fun x=>eqC x a1) a0.1 i:=hI
 refine Vm hG rfl (Vq ?_)
 refine Vk rfl ?_ ?_<;>intro h0
 · have hl:i<(List.length a0.1:Int):=oTr h0
   refine Vs (Vq (Vb (Vq ?_)))
   refine Vr hG rfl ?_ ?_
   · exact fRange hI hl
   refine Vm hG rfl ?_
   refine Vk rfl ?_ ?_<;>intro h1
   · have g1:(fun x=>eqC x a1) (List.getD a0.1 i.toNat (dflt Y22))=true:=h1
     refine Vm hG rfl (Vt ?_)
     refine⟨?_,trivial⟩
     exact fHit hI hl g1
   · have g1:(fun x=>eqC x a1) (List.getD a0.1 i.toNat (dflt Y22))=false:=h1
     refine Vs (Vn hG rfl ?_)
     refine⟨rfl,?_⟩
     exact fStep hI hl hb g1
 · have hl:¬i<(List.length a0.1:Int):=oFa h0
   refine Vx (Vm hG rfl (Vt ?_))
   refine⟨?_,trivial⟩
   exact fEnd hI hl
noncomputable def F280:Fun:=⟨[.slice Y16,.int .i64],[.pure (.int .i64)],fun _=>True,fun x=>((fun a0 a1=>findI (fun x=>x.1==a1) a0) x.1 x.2.1,())⟩
theorem F280_ok:Meets Tryz.prog 280 F280:=by
 refine mZ (C:=mkC 20 [4] [0,1,4,5,6,7,8,9,10,17] []) (mO _ _ _ _) (fO _) Tryz.func280 rfl rfl rfl (by decide) rfl ?_
 rintro⟨a0,(a1:Int),_⟩ hwf hpre ⟨⟩ hG rfl rfl
 show Vc _ _ [(0,⟨0,0,.c Z27 a0⟩),(1,⟨0,0,.c (.pure (.int .i64)) a1⟩)] _
 have hb:List.length a0≤bigLen:=hwf.1.1
 refine Vm hG rfl (Vq (Vm hG rfl (Vb ?_)))
 refine Vc.loopF [(9,false,.pure (.int .i64))] [0,1,7,8] (fun v=>fInv (fun x=>x.1==a1) a0 v.1) (fun v=>((List.length a0:Int)-v.1).toNat) rfl ?_ ?_
 · exact fStart
 rintro⟨(i:Int),_⟩ hI
 have hI:fInv (fun x=>x.1==a1) a0 i:=hI
 refine Vm hG rfl (Vq ?_)
 refine Vk rfl ?_ ?_<;>intro h0
 · have hl:i<(List.length a0:Int):=oTr h0
   refine Vs (Vq (Vb (Vq ?_)))
   refine Vr hG rfl ?_ ?_
   · exact fRange hI hl
   refine Vm hG rfl ?_
   refine Vk rfl ?_ ?_<;>intro h1
   · have g1:(fun x=>x.1==a1) (List.getD a0 i.toNat (dflt Y16))=true:=h1
     refine Vm hG rfl (Vt ?_)
     refine⟨?_,trivial⟩
     exact fHit hI hl g1
   · have g1:(fun x=>x.1==a1) (List.getD a0 i.toNat (dflt Y16))=false:=h1
     refine Vs (Vn hG rfl ?_)
     refine⟨rfl,?_⟩
     exact fStep hI hl hb g1
 · have hl:¬i<(List.length a0:Int):=oFa h0
   refine Vx (Vm hG rfl (Vt ?_))
   refine⟨?_,trivial⟩
   exact fEnd hI hl
noncomputable def F224:Fun:=⟨[.pair (.int .i64) (.int .i64)],[.pure (.bool)],fun _=>True,fun x=>(isSpanF x.1,())⟩
theorem F224_ok:Meets Tryz.prog 224 F224:=by
 refine mZ (C:=mkC 18 [2] [0,1,2] [⟨85,_,F85_ok⟩]) (mO _ _ _ _) (fO _) Tryz.func224 rfl rfl rfl (by decide) rfl ?_
 rintro⟨a0,_⟩ hwf hpre ⟨⟩ hG rfl rfl
 show Vc _ _ [(0,⟨0,0,.c Z10 a0⟩)] _
 refine Vm hG rfl (Vq ?_)
 refine Vr hG rfl ?_ ?_
 · repeat' (first | exact trivial | refine And.intro ?_ ?_ | intro _)
 refine Vt ?_
 refine⟨?_,trivial⟩
 all_goals exact rfl
noncomputable def F286:Fun:=⟨[.int .i64,.int .i64],[.pure Y5,.pure (.bool)],fun _=>True,fun x=>((makeSpanF x.1 x.2.1).1,(makeSpanF x.1 x.2.1).2,())⟩
theorem F286_ok:Meets Tryz.prog 286 F286:=by
 refine mZ (C:=mkC 22 [4,5] [0,1,4,5,6,19] [⟨224,_,F224_ok⟩]) (mO _ _ _ _) (fO _) Tryz.func286 rfl rfl rfl (by decide) rfl ?_
 rintro⟨(a0:Int),(a1:Int),_⟩ hwf hpre ⟨⟩ hG rfl rfl
 show Vc _ _ [(0,⟨0,0,.c (.pure (.int .i64)) a0⟩),(1,⟨0,0,.c (.pure (.int .i64)) a1⟩)] _
 refine Vm hG rfl (Vm hG rfl (Vq (Vq ?_)))
 refine Vr hG rfl ?_ ?_
 · repeat' (first | exact trivial | refine And.intro ?_ ?_ | intro _)
 refine Vk rfl ?_ ?_<;>intro h0
 · refine Vm hG rfl (Vt ?_)
   have e:=mkSpI0 h0
   refine⟨?_,?_,trivial⟩
   · exact(congrArg Prod.fst e).symm
   · exact(congrArg Prod.snd e).symm
 · refine Vs (Vm hG rfl (Vt ?_))
   have e:=mkSpI1 h0
   refine⟨?_,?_,trivial⟩
   · exact(congrArg Prod.fst e).symm
   · exact(congrArg Prod.snd e).symm
noncomputable def F281:Fun:=⟨[.slice Y16,.pair (.int .i64) Y30],[.pure Y5,.pure (.bool)],fun _=>True,fun x=>((stampSpanF x.1 x.2.1).1,(stampSpanF x.1 x.2.1).2,())⟩
theorem F281_ok:Meets Tryz.prog 281 F281:=by
 refine mZ (C:=mkC 47 [4,5] [0,1,3,4,5,6,26] [⟨280,_,F280_ok⟩,⟨85,_,F85_ok⟩,⟨286,_,F286_ok⟩]) (mO _ _ _ _) (fO _) Tryz.func281 rfl rfl rfl (by decide) rfl ?_
 rintro⟨a0,a1,_⟩ hwf hpre ⟨⟩ hG rfl rfl
 show Vc _ _ [(0,⟨0,0,.c Z27 a0⟩),(1,⟨0,0,.c Z42 a1⟩)] _
 refine Vm hG rfl (Vm hG rfl (Vq (Vq ?_)))
 refine Vr hG rfl ?_ ?_
 · exact⟨fun h=>findRange (oFa h),fun _=>trivial⟩
 refine Vk rfl ?_ ?_<;>intro h0
 · have g0:ssBad a0 a1=true:=h0
   refine Vm hG rfl (Vt ?_)
   have e:=ss0 g0
   refine⟨?_,?_,trivial⟩
   · exact(congrArg Prod.fst e).symm
   · exact(congrArg Prod.snd e).symm
 · have g0:ssBad a0 a1=false:=h0
   refine Vs (Vq ?_)
   refine VrD mixed hG rfl (by kernel_rfl) ?_ ?_
   · exact⟨ssIdx g0,ssIdx g0,trivial⟩
   refine Vt ?_
   have e:=ss1 g0
   refine⟨?_,?_,trivial⟩
   · exact(congrArg Prod.fst e).symm
   · exact(congrArg Prod.snd e).symm
noncomputable def F345:Fun:=⟨[.slice Y5,.int .i64],[.pure (.int .i64)],fun _=>True,fun x=>(countAtF x.1 x.2.1,())⟩
theorem F345_ok:Meets Tryz.prog 345 F345:=by
 refine mZ (C:=mkC 28 [4] [0,1,4,5,7,8,9,10,11,23] [⟨224,_,F224_ok⟩,⟨51,_,F51_ok⟩]) (mO _ _ _ _) (fO _) Tryz.func345 rfl rfl rfl (by decide) rfl ?_
 rintro⟨a0,(a1:Int),_⟩ hwf hpre ⟨⟩ hG rfl rfl
 show Vc _ _ [(0,⟨0,0,.c Z15 a0⟩),(1,⟨0,0,.c (.pure (.int .i64)) a1⟩)] _
 have hb:List.length a0≤bigLen:=hwf.1.1
 refine Vm hG rfl (Vm hG rfl (Vq (Vm hG rfl ?_)))
 refine Vb ?_
 refine Vc.loopF [(5,false,.pure (.int .i64)),(10,false,.pure (.int .i64))] [0,1,4,8,9] (fun v=>foInv (cntStep a1) 0 a0 v.1 v.2.1) (fun v=>((List.length a0:Int)-v.2.1).toNat) rfl ?_ ?_
 · exact foStart
 rintro⟨(acc:Int),(i:Int),_⟩ hI
 have hI:foInv (cntStep a1) 0 a0 acc i:=hI
 refine Vm hG rfl (Vq ?_)
 refine Vk rfl ?_ ?_<;>intro h0
 · have hl:i<(List.length a0:Int):=oTr h0
   refine Vs (Vq (Vb (Vq ?_)))
   refine Vr hG rfl ?_ ?_
   · exact foRange hI hl
   refine Vq ?_
   refine Vr hG rfl ?_ ?_
   · repeat' (first | exact trivial | refine And.intro ?_ ?_ | intro _)
   refine Vk rfl ?_ ?_<;>intro h1
   · have g1:inSp a1 (List.getD a0 i.toNat (dflt Y5))=true:=h1
     have st:=foStepE (d:=dflt Y5) hI hl hb (cntY (n:=acc) g1).symm
     refine Vn hG rfl (Vn hG rfl ?_)
     refine⟨rfl,?_⟩
     exact st
   · have g1:inSp a1 (List.getD a0 i.toNat (dflt Y5))=false:=h1
     have st:=foStepE (d:=dflt Y5) hI hl hb (cntN (n:=acc) g1).symm
     refine Vs (Vn hG rfl ?_)
     refine⟨rfl,?_⟩
     exact st
 · have hl:¬i<(List.length a0:Int):=oFa h0
   refine Vx (Vm hG rfl (Vt ?_))
   refine⟨?_,trivial⟩
   exact foEnd hI hl
noncomputable def F328:Fun:=⟨[.slice Y5,.int .i64,.int .i64],[.pure (.bool)],fun _=>True,fun x=>(supF x.1 x.2.1 x.2.2.1,())⟩
theorem F328_ok:Meets Tryz.prog 328 F328:=by
 refine mZ (C:=mkC 22 [6] [0,1,2,6] [⟨51,_,F51_ok⟩,⟨345,_,F345_ok⟩]) (mO _ _ _ _) (fO _) Tryz.func328 rfl rfl rfl (by decide) rfl ?_
 rintro⟨a0,(a1:Int),(a2:Int),_⟩ hwf hpre ⟨⟩ hG rfl rfl
 show Vc _ _ [(0,⟨0,0,.c Z15 a0⟩),(1,⟨0,0,.c (.pure (.int .i64)) a1⟩),(2,⟨0,0,.c (.pure (.int .i64)) a2⟩)] _
 refine Vm hG rfl (Vq ?_)
 refine Vr hG rfl ?_ ?_
 · repeat' (first | exact trivial | refine And.intro ?_ ?_ | intro _)
 refine Vt ?_
 refine⟨?_,trivial⟩
 all_goals exact rfl
noncomputable def F282:Fun:=⟨[.slice Y5,.int .i64],[.pure Y5,.pure (.bool)],fun _=>True,fun x=>((agreedF x.1 x.2.1).1,(agreedF x.1 x.2.1).2,())⟩
theorem F282_ok:Meets Tryz.prog 282 F282:=by
 refine mZ (C:=mkC 25 [4,5] [0,1,4,5,6,7,8,10,16,18] [⟨328,_,F328_ok⟩]) (mO _ _ _ _) (fO _) Tryz.func282 rfl rfl rfl (by decide) rfl ?_
 rintro⟨a0,(a1:Int),_⟩ hwf hpre ⟨⟩ hG rfl rfl
 show Vc _ _ [(0,⟨0,0,.c Z15 a0⟩),(1,⟨0,0,.c (.pure (.int .i64)) a1⟩)] _
 have hb:List.length a0≤bigLen:=hwf.1.1
 refine Vm hG rfl (Vm hG rfl (Vm hG rfl (Vq ?_)))
 refine Vm hG rfl (Vb ?_)
 refine Vc.loopF [(6,true,.pure Y5),(7,false,.pure (.bool)),(8,false,.pure (.int .i64))] [0,1,4,5] (fun v=>agInv a0 a1 v.1 v.2.1 v.2.2.1) (fun v=>((10001:Int)-v.2.2.1).toNat) rfl ?_ ?_
 · exact agStart
 rintro⟨s,fd,(t:Int),_⟩ hI
 have hI:agInv a0 a1 s fd t:=hI
 refine Vq (Vm hG rfl ?_)
 refine Vk rfl ?_ ?_<;>intro h0
 · have hl:t≤10000:=oTr h0
   refine Vs (Vq (Vb (Vm hG rfl ?_)))
   refine Vk rfl ?_ ?_<;>intro h1
   · have g1:supF a0 t a1=true:=h1
     refine Vq (Vm hG rfl ?_)
     refine Vk rfl ?_ ?_<;>intro h2
     · have g2:fd=false:=by simpa using h2
       have st:=agStep hI hl (s':=(t,t)) (found':=true) (by rw[if_pos g1,if_neg (by rw[g2];decide)])
       refine Vn hG rfl (Vm hG rfl (Vn hG rfl (Vn hG rfl ?_)))
       refine⟨rfl,?_⟩
       exact st
     · have g2:fd=true:=by simpa using h2
       have st:=agStep hI hl (s':=(s.1,t)) (found':=true) (by rw[if_pos g1,if_pos g2])
       refine Vs (Vm hG rfl (Vn hG rfl (Vn hG rfl ?_)))
       refine⟨rfl,?_⟩
       exact st
   · have g1:supF a0 t a1=false:=h1
     have st:=agStep hI hl (s':=s) (found':=fd) (by rw[if_neg (by rw[g1];decide)])
     refine Vs (Vn hG rfl ?_)
     refine⟨rfl,?_⟩
     exact st
 · have hl:¬t≤10000:=oFa h0
   refine Vx (Vm hG rfl (Vt ?_))
   have e:=agEnd hI hl
   refine⟨?_,?_,trivial⟩
   · exact congrArg (fun(q:Span×Bool)=>q.1) e
   · exact congrArg (fun(q:Span×Bool)=>q.2) e
noncomputable def F219:Fun:=⟨[.slice Y16,.slice Y40,.int .i64],[.pure Y5,.pure (.bool)],fun x=>(fun(_:List Authority) (a1:List Stamp) (_:Int)=>List.length a1≤1048576) x.1 x.2.1 x.2.2.1,fun x=>(((fun a0 a1 a2=>rsF a0 a1 a2) x.1 x.2.1 x.2.2.1).1,((fun a0 a1 a2=>rsF a0 a1 a2) x.1 x.2.1 x.2.2.1).2,())⟩
theorem F219_ok:Meets Tryz.prog 219 F219:=by
 refine mZ (C:=mkC 38 [6,7] [0,1,2,6,7,8,10,11,12,13,14,15,16,26] [⟨281,_,F281_ok⟩,⟨282,_,F282_ok⟩]) (mO _ _ _ _) (fO _) Tryz.func219 rfl rfl rfl (by decide) rfl ?_
 rintro⟨a0,a1,(a2:Int),_⟩ hwf hpre ⟨⟩ hG rfl rfl
 show Vc _ _ [(0,⟨0,0,.c Z27 a0⟩),(1,⟨0,0,.c Z46 a1⟩),(2,⟨0,0,.c (.pure (.int .i64)) a2⟩)] _
 have hs:List.length a1≤1048576:=hpre
 have hb:List.length a1≤bigLen:=by unfold bigLen;omega
 refine Vm hG rfl (Vm hG rfl (Vq (Vm hG rfl ?_)))
 refine Vb ?_
 refine Vc.loopF [(6,true,.pure Y5),(8,false,.own Z10),(15,false,.pure (.int .i64))] [0,1,2,13,14] (fun v=>rsInv a0 a1 v.2.1 v.2.2.1) (fun v=>((List.length a1:Int)-v.2.2.1).toNat) rfl ?_ ?_
 · exact rsStart
 rintro⟨r6,acc,(i:Int),_⟩ hI
 have hI:rsInv a0 a1 acc i:=hI
 have hA:List.length acc≤1048576:=Nat.le_trans (rsLen hI) hs
 refine Vm hG rfl (Vq ?_)
 refine Vk rfl ?_ ?_<;>intro h0
 · have hl:i<(List.length a1:Int):=oTr h0
   refine Vs (Vq (Vb (Vq ?_)))
   refine Vr hG rfl ?_ ?_
   · exact rsRange hI hl
   refine Vm hG rfl (Vq (Vm hG rfl ?_))
   refine Vk rfl ?_ ?_<;>intro h1
   · have g1:¬rsP a0 (List.getD a1 i.toNat (dflt TStamp)):=fun q=>nself q h1
     refine Vm hG rfl (Vt ?_)
     have e:=rsBad (d:=dflt TStamp) (liars:=a2) hI hl g1
     refine⟨?_,?_,trivial⟩
     · exact congrArg (fun(q:Span×Bool)=>q.1) e
     · exact congrArg (fun(q:Span×Bool)=>q.2) e
   · have g1:rsP a0 (List.getD a1 i.toNat (dflt TStamp)):=notF h1
     refine Vs ?_
     refine Vr hG rfl ?_ ?_
     · show List.length acc+1≤maxApp
       unfold maxApp;omega
     refine Vn hG rfl ?_
     refine⟨rfl,?_⟩
     exact rsStep (d:=dflt TStamp) hI hl hb g1
 · have hl:¬i<(List.length a1:Int):=oFa h0
   refine Vx (Vm hG rfl (Vt ?_))
   have e:=rsEnd (liars:=a2) hI hl
   refine⟨?_,?_,trivial⟩
   · exact congrArg (fun(q:Span×Bool)=>q.1) e
   · exact congrArg (fun(q:Span×Bool)=>q.2) e
noncomputable def F344:Fun:=⟨[.slice Y16,.pair (.int .i64) Y64,.int .i64],[.pure Y5,.pure (.bool)],fun x=>(fun(_:List Authority) (a1:Renewal) (_:Int)=>List.length a1.2.2.2.2≤1048576) x.1 x.2.1 x.2.2.1,fun x=>(((fun a0 a1 a2=>rsF a0 a1.2.2.2.2 a2) x.1 x.2.1 x.2.2.1).1,((fun a0 a1 a2=>rsF a0 a1.2.2.2.2 a2) x.1 x.2.1 x.2.2.1).2,())⟩
theorem F344_ok:Meets Tryz.prog 344 F344:=by
 refine mZ (C:=mkC 15 [6,7] [0,1,2,4,6,7] [⟨219,_,F219_ok⟩]) (mO _ _ _ _) (fO _) Tryz.func344 rfl rfl rfl (by decide) rfl ?_
 rintro⟨a0,a1,(a2:Int),_⟩ hwf hpre ⟨⟩ hG rfl rfl
 show Vc _ _ [(0,⟨0,0,.c Z27 a0⟩),(1,⟨0,0,.c Z69 a1⟩),(2,⟨0,0,.c (.pure (.int .i64)) a2⟩)] _
 have hs:List.length a1.2.2.2.2≤1048576:=hpre
 refine Vm hG rfl (Vq ?_)
 refine Vr hG rfl ?_ ?_
 · exact hs
 refine Vt ?_
 refine⟨?_,?_,trivial⟩
 all_goals exact rfl
noncomputable def F327:Fun:=⟨[.pair Y43 Y66,.pair (.int .i64) Y64],[.pure Y5,.pure (.bool)],fun x=>(fun(_:Frame) (r:Renewal)=>List.length r.2.2.2.2≤1048576) x.1 x.2.1,fun x=>((spanOfF x.1 x.2.1).1,(spanOfF x.1 x.2.1).2,())⟩
theorem F327_ok:Meets Tryz.prog 327 F327:=by
 refine mZ (C:=mkC 14 [4,5] [0,1,2,3,4,5] [⟨344,_,F344_ok⟩]) (mO _ _ _ _) (fO _) Tryz.func327 rfl rfl rfl (by decide) rfl ?_
 rintro⟨a0,a1,_⟩ hwf hpre ⟨⟩ hG rfl rfl
 show Vc _ _ [(0,⟨0,0,.c Z77 a0⟩),(1,⟨0,0,.c Z69 a1⟩)] _
 have hs:List.length a1.2.2.2.2≤1048576:=hpre
 refine Vm hG rfl (Vq ?_)
 refine Vr hG rfl ?_ ?_
 · exact hs
 refine Vt ?_
 refine⟨?_,?_,trivial⟩
 all_goals exact rfl
noncomputable def F90:Fun:=⟨[.pair (.int .i64) Y30],[.own (.pure (.int .i64))],fun _=>True,fun x=>(stampIntsF x.1,())⟩
theorem F90_ok:Meets Tryz.prog 90 F90:=by
 refine mZ (C:=mkC 12 [2] [0,1,2] []) (mO _ _ _ _) (fO _) Tryz.func90 rfl rfl rfl (by decide) rfl ?_
 rintro⟨a0,_⟩ hwf hpre ⟨⟩ hG rfl rfl
 show Vc _ _ [(0,⟨0,0,.c Z42 a0⟩)] _
 refine Vm hG rfl (Vm hG rfl (Vt ?_))
 refine⟨?_,trivial⟩
 all_goals exact rfl
end Fw
