/- Walks of functions of the program: what each computes. Conditions: those that each contract names. -/
import Derived.Test.YtacmkmcclbpolaaGreatW23T
namespace Fw
open Go Go.Proofs
set_option linter.unusedSimpArgs false
set_option maxRecDepth 100000
noncomputable def F281:Fun:=⟨[.slice (.int .i64)],[.own (.pure (.int .i64))],fun x=>(fun l=>List.length l≤4000000) x.1,fun x=>(id x.1,())⟩
theorem F281_ok:Meets Tryz.prog 281 F281:=by
 refine mZ (C:=mkC 6 [2] [0,2] []) (mO _ _ _ _) (fO _) Tryz.func281 rfl rfl rfl (by decide) rfl ?_
 rintro⟨a0,_⟩ hwf hpre ⟨⟩ hG rfl rfl
 show Vc _ _ [(0,⟨0,0,.c Z2 a0⟩)] _
 have hp:List.length a0≤4000000:=hpre
 refine Vm hG rfl (Vq ?_)
 refine Vr hG rfl ?_ ?_
 · exact appMore hp
 refine Vt ?_
 refine⟨?_,trivial⟩
 all_goals exact rfl
noncomputable def F210:Fun:=⟨[.pair (.int .i64) Y9],[.pair (.pure (.int .i64)) Z16],fun x=>Sm big20 Y19 x.1,fun x=>(id x.1,())⟩
theorem F210_ok:Meets Tryz.prog 210 F210:=by
 refine mZ (C:=mkC 8 [2] [0,1,2] [⟨281,_,F281_ok⟩]) (mO _ _ _ _) (fO _) Tryz.func210 rfl rfl rfl (by decide) rfl ?_
 rintro⟨a0,_⟩ hwf hpre ⟨⟩ hG rfl rfl
 show Vc _ _ [(0,⟨0,0,.c Z22 a0⟩)] _
 have hp:List.length a0.2.1≤4000000:=Nat.le_trans hpre.2.1.1 (by decide)
 refine Vm hG rfl (Vq ?_)
 refine Vr hG rfl ?_ ?_
 · exact hp
 refine Vm hG rfl (Vt ?_)
 refine⟨?_,trivial⟩
 all_goals exact rfl
noncomputable def F142:Fun:=⟨[.slice Y19],[.own Z29],fun x=>Sm big20 Y23 x.1,fun x=>(id x.1,())⟩
theorem F142_ok:Meets Tryz.prog 142 F142:=by
 refine mZ (C:=mkC 19 [2] [0,2,3,5,6,7,8,9] [⟨210,_,F210_ok⟩]) (mO _ _ _ _) (fO _) Tryz.func142 rfl rfl rfl (by decide) rfl ?_
 rintro⟨a0,_⟩ hwf hpre ⟨⟩ hG rfl rfl
 show Vc _ _ [(0,⟨0,0,.c Z26 a0⟩)] _
 have hp:_∧_:=hpre
 have hb:List.length a0≤bigLen:=hwf.1.1
 refine Vm hG rfl (Vm hG rfl (Vq (Vm hG rfl ?_)))
 refine Vb ?_
 refine Vc.loopF [(3,false,.own Z29),(8,false,.pure (.int .i64))] [0,2,6,7] (fun v=>cpInv a0 v.1 v.2.1) (fun v=>((List.length a0:Int)-v.2.1).toNat) rfl ?_ ?_
 · exact cpStart
 rintro⟨acc,(i:Int),_⟩ hI
 have hI:cpInv a0 acc i:=hI
 refine Vm hG rfl (Vq ?_)
 refine Vk rfl ?_ ?_<;>intro h0
 · have hl:i<(List.length a0:Int):=oTr h0
   have hE:Sm big20 Y19 (List.getD a0 i.toNat (dflt Y19)):=hp.2 _ (upElem hI.1 hl)
   refine Vs (Vq (Vb (Vq ?_)))
   refine Vr hG rfl ?_ ?_
   · exact cpRange hI hl
   refine Vr hG rfl ?_ ?_
   · exact⟨hE,cpLen hI hl hp.1⟩
   refine Vn hG rfl ?_
   refine⟨rfl,?_⟩
   exact cpStep (d:=dflt Y19) hI hl hb rfl
 · have hl:¬i<(List.length a0:Int):=oFa h0
   refine Vx (Vm hG rfl (Vt ?_))
   refine⟨?_,trivial⟩
   exact cpEnd hI hl
noncomputable def F90:Fun:=⟨[.slice Y32],[.own Z33],fun x=>(fun l=>List.length l≤4000000) x.1,fun x=>(id x.1,())⟩
theorem F90_ok:Meets Tryz.prog 90 F90:=by
 refine mZ (C:=mkC 6 [2] [0,2] []) (mO _ _ _ _) (fO _) Tryz.func90 rfl rfl rfl (by decide) rfl ?_
 rintro⟨a0,_⟩ hwf hpre ⟨⟩ hG rfl rfl
 show Vc _ _ [(0,⟨0,0,.c Z36 a0⟩)] _
 have hp:List.length a0≤4000000:=hpre
 refine Vm hG rfl (Vq ?_)
 refine Vr hG rfl ?_ ?_
 · exact appMore hp
 refine Vt ?_
 refine⟨?_,trivial⟩
 all_goals exact rfl
noncomputable def F143:Fun:=⟨[.pair (.int .i64) Y53],[.pair (.pure (.int .i64)) Z58],fun x=>Sm big20 Y56 x.1,fun x=>(id x.1,())⟩
theorem F143_ok:Meets Tryz.prog 143 F143:=by
 refine mZ (C:=mkC 13 [2] [0,1,2] [⟨90,_,F90_ok⟩]) (mO _ _ _ _) (fO _) Tryz.func143 rfl rfl rfl (by decide) rfl ?_
 rintro⟨a0,_⟩ hwf hpre ⟨⟩ hG rfl rfl
 show Vc _ _ [(0,⟨0,0,.c Z57 a0⟩)] _
 have hp1:List.length a0.2.2.2.1≤big20:=hpre.2.2.2.1.1
 have hp2:List.length a0.2.2.2.2≤4000000:=Nat.le_trans hpre.2.2.2.2.1 (by decide)
 refine Vm hG rfl (Vq ?_)
 refine Vr hG rfl ?_ ?_
 · exact appOk hp1
 refine Vq ?_
 refine Vr hG rfl ?_ ?_
 · exact hp2
 refine Vm hG rfl (Vt ?_)
 refine⟨?_,trivial⟩
 all_goals exact rfl
noncomputable def F89:Fun:=⟨[.pair Y23 Y59],[.pair Z31 Z62],fun x=>Sm big20 Y63 x.1,fun x=>(id x.1,())⟩
theorem F89_ok:Meets Tryz.prog 89 F89:=by
 refine mZ (C:=mkC 26 [2] [0,1,2,3,5,11,12,13,14] [⟨142,_,F142_ok⟩,⟨143,_,F143_ok⟩]) (mO _ _ _ _) (fO _) Tryz.func89 rfl rfl rfl (by decide) rfl ?_
 rintro⟨a0,_⟩ hwf hpre ⟨⟩ hG rfl rfl
 show Vc _ _ [(0,⟨0,0,.c Z65 a0⟩)] _
 have hp0:Sm big20 Y23 a0.1:=hpre.1
 have hp:_∧_:=hpre.2
 have hb:List.length a0.2≤bigLen:=hwf.1.2.1
 refine Vm hG rfl (Vq ?_)
 refine Vr hG rfl ?_ ?_
 · exact hp0
 refine Vq (Vm hG rfl (Vb ?_))
 refine Vc.loopF [(3,true,.pair Z31 Z62),(13,false,.pure (.int .i64))] [0,1,2,11,12] (fun v=>v.1.1=a0.1∧cpInv a0.2 v.1.2 v.2.1) (fun v=>((List.length a0.2:Int)-v.2.1).toNat) rfl ?_ ?_
 · exact⟨rfl,cpStart⟩
 rintro⟨acc,(i:Int),_⟩ hI
 have hI:acc.1=a0.1∧cpInv a0.2 acc.2 i:=hI
 refine Vm hG rfl (Vq ?_)
 refine Vk rfl ?_ ?_<;>intro h0
 · have hl:i<(List.length a0.2:Int):=oTr h0
   have hE:Sm big20 Y56 (List.getD a0.2 i.toNat (dflt Y56)):=hp.2 _ (upElem hI.2.1 hl)
   refine Vs (Vq (Vb (Vq ?_)))
   refine Vr hG rfl ?_ ?_
   · exact cpRange hI.2 hl
   refine VrD mixed hG rfl (by kernel_rfl) ?_ ?_
   · exact⟨hE,cpLen hI.2 hl hp.1⟩
   refine Vn hG rfl ?_
   refine⟨rfl,?_⟩
   have e:=cpStep (d:=dflt Y56) hI.2 hl hb rfl
   exact⟨⟨hI.1,e.1⟩,e.2⟩
 · have hl:¬i<(List.length a0.2:Int):=oFa h0
   refine Vx (Vm hG rfl (Vt ?_))
   refine⟨?_,trivial⟩
   exact Prod.ext hI.1 (cpEnd hI.2 hl)
noncomputable def F48:Fun:=⟨[.pair Y66 Y37],[.pair Z70 Z39],fun x=>Sm big20 Y71 x.1,fun x=>(id x.1,())⟩
theorem F48_ok:Meets Tryz.prog 48 F48:=by
 refine mZ (C:=mkC 39 [2] [0,1,2,3,5,7,9,10,11,12,24,25,26,27] [⟨89,_,F89_ok⟩,⟨90,_,F90_ok⟩]) (mO _ _ _ _) (fO _) Tryz.func48 rfl rfl rfl (by decide) rfl ?_
 rintro⟨a0,_⟩ hwf hpre ⟨⟩ hG rfl rfl
 show Vc _ _ [(0,⟨0,0,.c Z72 a0⟩)] _
 have hS:List.length a0.1≤big20∧∀ x∈a0.1,Sm big20 Y63 x:=hpre.1
 have hT:List.length a0.2≤big20∧∀ x∈a0.2,Sm big20 (.slice TStamp) x:=hpre.2
 have hb:List.length a0.1≤bigLen:=hwf.1.1.1
 have hb2:List.length a0.2≤bigLen:=hwf.1.2.1
 refine Vm hG rfl (Vm hG rfl (Vq (Vm hG rfl ?_)))
 refine Vb ?_
 refine Vc.loopF [(3,true,.pair Z70 Z39),(11,false,.pure (.int .i64))] [0,1,2,7,9,10,24,25,26,27] (fun v=>v.1.2=[]∧cpInv a0.1 v.1.1 v.2.1) (fun v=>((List.length a0.1:Int)-v.2.1).toNat) rfl ?_ ?_
 · exact⟨rfl,cpStart⟩
 rintro⟨ev,(i:Int),_⟩ hI
 have hI:ev.2=[]∧cpInv a0.1 ev.1 i:=hI
 refine Vm hG rfl (Vq ?_)
 refine Vk rfl ?_ ?_<;>intro h0
 · have hl:i<(List.length a0.1:Int):=oTr h0
   have r1:=cpRange hI.2 hl
   have hE:=hS.2 _ (getD_mem r1 (dflt Y63))
   have hA:=cpLen hI.2 hl hS.1
   refine Vs (Vq (Vb (Vq ?_)))
   refine Vr hG rfl ?_ ?_
   · exact r1
   refine VrD mixed hG rfl (by kernel_rfl) ?_ ?_
   · exact⟨hE,hA⟩
   refine Vn hG rfl ?_
   refine⟨rfl,?_⟩
   have e:=cpStep (d:=dflt Y63) hI.2 hl hb rfl
   exact⟨⟨hI.1,e.1⟩,e.2⟩
 · have hl:¬i<(List.length a0.1:Int):=oFa h0
   have eI:=cpEnd hI.2 hl
   refine Vx (Vq (Vm hG rfl (Vb ?_)))
   refine Vc.loopF [(3,true,.pair Z70 Z39),(26,false,.pure (.int .i64))] [0,1,2,5,9,10,11,12,24,25] (fun v=>v.1.1=a0.1∧cpInv a0.2 v.1.2 v.2.1) (fun v=>((List.length a0.2:Int)-v.2.1).toNat) rfl ?_ ?_
   · exact⟨eI,by rw[hI.1];exact cpStart⟩
   rintro⟨ev2,(j:Int),_⟩ hJ
   have hJ:ev2.1=a0.1∧cpInv a0.2 ev2.2 j:=hJ
   refine Vm hG rfl (Vq ?_)
   refine Vk rfl ?_ ?_<;>intro h1
   · have hj:j<(List.length a0.2:Int):=oTr h1
     have r2:=cpRange hJ.2 hj
     have hF:List.length (List.getD a0.2 j.toNat (dflt (.slice TStamp)))≤big20:=(hT.2 _ (getD_mem r2 (dflt (.slice TStamp)))).1
     have hF4:List.length (List.getD a0.2 j.toNat (dflt (.slice TStamp)))≤4000000:=Nat.le_trans hF (by decide)
     have hA2:=cpLen hJ.2 hj hT.1
     refine Vs (Vq (Vb (Vq ?_)))
     refine Vr hG rfl ?_ ?_
     · exact r2
     refine VrD mixed hG rfl (by kernel_rfl) ?_ ?_
     · exact⟨hF4,hA2⟩
     refine Vn hG rfl ?_
     refine⟨rfl,?_⟩
     have e:=cpStep (d:=dflt (.slice TStamp)) hJ.2 hj hb2 rfl
     exact⟨⟨hJ.1,e.1⟩,e.2⟩
   · have hj:¬j<(List.length a0.2:Int):=oFa h1
     refine Vx (Vm hG rfl (Vt ?_))
     refine⟨?_,trivial⟩
     exact Prod.ext hJ.1 (cpEnd hJ.2 hj)
noncomputable def F72:Fun:=⟨[.int .i64,.int .i64,.int .i64],[.pure (.bool)],fun _=>True,fun x=>(inRangeF x.1 x.2.1 x.2.2.1,())⟩
theorem F72_ok:Meets Tryz.prog 72 F72:=by
 refine mZ (C:=mkC 15 [6] [0,1,2,6] []) (mO _ _ _ _) (fO _) Tryz.func72 rfl rfl rfl (by decide) rfl ?_
 rintro⟨(a0:Int),(a1:Int),(a2:Int),_⟩ hwf hpre ⟨⟩ hG rfl rfl
 show Vc _ _ [(0,⟨0,0,.c (.pure (.int .i64)) a0⟩),(1,⟨0,0,.c (.pure (.int .i64)) a1⟩),(2,⟨0,0,.c (.pure (.int .i64)) a2⟩)] _
 refine Vm hG rfl (Vm hG rfl (Vt ?_))
 refine⟨?_,trivial⟩
 all_goals exact rfl
noncomputable def F163:Fun:=⟨[.pair (.int .i64) Y13],[.pure (.bool)],fun _=>True,fun x=>(docF x.1,())⟩
theorem F163_ok:Meets Tryz.prog 163 F163:=by
 refine mZ (C:=mkC 46 [2] [0,1,2,3,4,24,26,27,28,29,44] [⟨72,_,F72_ok⟩]) (mO _ _ _ _) (fO _) Tryz.func163 rfl rfl rfl (by decide) rfl ?_
 rintro⟨a0,_⟩ hwf hpre ⟨⟩ hG rfl rfl
 show Vc _ _ [(0,⟨0,0,.c Z25 a0⟩)] _
 have hb0:List.length a0.2.1≤bigLen:=hwf.1.2.1.1
 refine Vm hG rfl (Vq (Vq ?_))
 refine Vr hG rfl ?_ ?_
 · repeat' (first | exact trivial | refine And.intro ?_ ?_ | intro _)
 refine Vk rfl ?_ ?_<;>intro h0
 · have g0:pick2 (pick2 (!(inRangeF a0.1 0 999)) true (!(inRangeF (List.length a0.2.1:Int) 1 6))) true ((List.length a0.2.2:Int) != (List.length a0.2.1:Int))=true:=h0
   refine Vm hG rfl (Vt ?_)
   refine⟨?_,trivial⟩
   refine boolC_no (P:=docP a0) (fun h=>?_)
   exact noOr (noOr (nself h.1) (nself h.2.1)) (lenNe h.2.2.1) g0
 · have g0:pick2 (pick2 (!(inRangeF a0.1 0 999)) true (!(inRangeF (List.length a0.2.1:Int) 1 6))) true ((List.length a0.2.2:Int) != (List.length a0.2.1:Int))=false:=h0
   have f0:inRangeF a0.1 0 999=true∧inRangeF (List.length a0.2.1:Int) 1 6=true∧List.length a0.2.2=List.length a0.2.1:=⟨notF (orF (orF g0).1).1,notF (orF (orF g0).1).2,lenEq (orF g0).2⟩
   refine Vs (Vq (Vm hG rfl (Vb ?_)))
   refine Vc.loopF [(28,false,.pure (.int .i64))] [0,1,24,26,27] (fun v=>kInv (fun k=>(List.length (List.getD a0.2.1 k (dflt .str)):Int)≤40∧inRangeF (List.getD a0.2.2 k (dflt (.int .i64))) 1 1000000000000=true) a0.2.1 v.1) (fun v=>((List.length a0.2.1:Int)-v.1).toNat) rfl ?_ ?_
   · exact kStart
   rintro⟨(i:Int),_⟩ hI0
   have hI0:kInv (fun k=>(List.length (List.getD a0.2.1 k (dflt .str)):Int)≤40∧inRangeF (List.getD a0.2.2 k (dflt (.int .i64))) 1 1000000000000=true) a0.2.1 i:=hI0
   refine Vm hG rfl (Vq ?_)
   refine Vk rfl ?_ ?_<;>intro h1
   · have hl0:i<(List.length a0.2.1:Int):=oTr h1
     refine Vs (Vq (Vb (Vq ?_)))
     refine Vr hG rfl ?_ ?_
     · exact kRange hI0 hl0
     refine Vq ?_
     refine Vr hG rfl ?_ ?_
     · exact⟨fun _=>(show inRange i (List.length a0.2.2)from by rw[f0.2.2];exact kRange hI0 hl0),fun _=>trivial⟩
     refine Vk rfl ?_ ?_<;>intro h2
     · have g2:pick2 (decide ((List.length (List.getD a0.2.1 i.toNat (dflt .str)):Int)>40)) true (!(inRangeF (List.getD a0.2.2 i.toNat (dflt (.int .i64))) 1 1000000000000))=true:=h2
       refine Vm hG rfl (Vt ?_)
       refine⟨?_,trivial⟩
       refine boolC_no (P:=docP a0) (fun h=>?_)
       exact noOr (fun q=>absurd (h.2.2.2.1 i.toNat (kLt hI0 hl0)) (Int.not_le.2 (oTr q))) (nself (h.2.2.2.2 i.toNat (by rw[h.2.2.1];exact kLt hI0 hl0))) g2
     · have g2:pick2 (decide ((List.length (List.getD a0.2.1 i.toNat (dflt .str)):Int)>40)) true (!(inRangeF (List.getD a0.2.2 i.toNat (dflt (.int .i64))) 1 1000000000000))=false:=h2
       have s0:(fun k=>(List.length (List.getD a0.2.1 k (dflt .str)):Int)≤40∧inRangeF (List.getD a0.2.2 k (dflt (.int .i64))) 1 1000000000000=true) i.toNat:=⟨Int.not_lt.1 (oFa (orF g2).1),notF (orF g2).2⟩
       refine Vs (Vn hG rfl ?_)
       refine⟨rfl,?_⟩
       exact kStep hI0 hl0 hb0 s0
   · have hl0:¬i<(List.length a0.2.1:Int):=oFa h1
     refine Vx (Vm hG rfl (Vt ?_))
     refine⟨?_,trivial⟩
     exact boolC_yes (P:=docP a0) ⟨f0.1,f0.2.1,f0.2.2,fun k hk=>(kEnd hI0 hl0 k hk).1,fun k hk=>(kEnd hI0 hl0 k (by rw[←f0.2.2];exact hk)).2⟩
noncomputable def F235:Fun:=⟨[.slice (.int .u8)],[.own (.pure (.int .i64))],fun x=>(fun(l:List Int)=>l.length≤40) x.1,fun x=>(bytesF x.1,())⟩
theorem F235_ok:Meets Tryz.prog 235 F235:=by
 refine mZ (C:=mkC 19 [2] [0,2,3,5,6,7,8,9] []) (mO _ _ _ _) (fO _) Tryz.func235 rfl rfl rfl (by decide) rfl ?_
 rintro⟨a0,_⟩ hwf hpre ⟨⟩ hG rfl rfl
 show Vc _ _ [(0,⟨0,0,.c (.pure (.slice (.int .u8))) a0⟩)] _
 have hp:List.length a0≤40:=hpre
 have hb:List.length a0≤bigLen:=hwf.1.1
 refine Vm hG rfl (Vm hG rfl (Vq (Vm hG rfl ?_)))
 refine Vb ?_
 refine Vc.loopF [(3,false,.own (.pure (.int .i64))),(8,false,.pure (.int .i64))] [0,2,6,7] (fun v=>gsInv (byteG a0) [] a0 v.1 v.2.1) (fun v=>((List.length a0:Int)-v.2.1).toNat) rfl ?_ ?_
 · exact gsStart
 rintro⟨acc,(i:Int),_⟩ hI
 have hI:gsInv (byteG a0) [] a0 acc i:=hI
 have hA:List.length acc≤40:=gsLen (c:=1) (m:=40) hI (fun _=>Nat.le_refl _) hp (by simp)
 refine Vm hG rfl (Vq ?_)
 refine Vk rfl ?_ ?_<;>intro h0
 · have hl:i<(List.length a0:Int):=oTr h0
   refine Vs (Vq (Vb (Vq ?_)))
   refine Vr hG rfl ?_ ?_
   · exact gsRange hI hl
   refine Vr hG rfl ?_ ?_
   · exact(show List.length acc+1≤maxApp from by unfold maxApp;omega)
   refine Vn hG rfl ?_
   refine⟨rfl,?_⟩
   exact gsStep hI hl hb rfl
 · have hl:¬i<(List.length a0:Int):=oFa h0
   refine Vx (Vm hG rfl (Vt ?_))
   refine⟨?_,trivial⟩
   exact gsEnd hI hl
noncomputable def F305:Fun:=⟨[.int .i64,.int .i64],[.pure (.int .i64)],fun _=>True,fun x=>(modF x.1 x.2.1,())⟩
theorem F305_ok:Meets Tryz.prog 305 F305:=by
 refine mZ (C:=mkC 15 [4] [0,1,4,7] [⟨72,_,F72_ok⟩]) (mO _ _ _ _) (fO _) Tryz.func305 rfl rfl rfl (by decide) rfl ?_
 rintro⟨(a0:Int),(a1:Int),_⟩ hwf hpre ⟨⟩ hG rfl rfl
 show Vc _ _ [(0,⟨0,0,.c (.pure (.int .i64)) a0⟩),(1,⟨0,0,.c (.pure (.int .i64)) a1⟩)] _
 refine Vm hG rfl (Vq (Vm hG rfl ?_))
 refine Vk rfl ?_ ?_<;>intro h0
 · have g0:(!(inRangeF a1 1 1000000000000))=true:=h0
   refine Vm hG rfl (Vt ?_)
   refine⟨?_,trivial⟩
   show (0:Int)=modF a0 a1
   unfold modF
   rw[if_neg (by simpa using g0)]
 · have g0:(!(inRangeF a1 1 1000000000000))=false:=h0
   refine Vs (Vq ?_)
   refine Vr hG rfl ?_ ?_
   · exact⟨inR_pos h0,inR_pos h0⟩
   refine Vt ?_
   refine⟨?_,trivial⟩
   show _=modF a0 a1
   unfold modF
   rw[if_pos (by simpa using g0)]
noncomputable def F236:Fun:=⟨[.slice (.int .i64)],[.pure (.int .i64)],fun _=>True,fun x=>(hashF x.1,())⟩
theorem F236_ok:Meets Tryz.prog 236 F236:=by
 refine mZ (C:=mkC 21 [2] [0,2,3,5,6,7,8,9] [⟨305,_,F305_ok⟩]) (mO _ _ _ _) (fO _) Tryz.func236 rfl rfl rfl (by decide) rfl ?_
 rintro⟨a0,_⟩ hwf hpre ⟨⟩ hG rfl rfl
 show Vc _ _ [(0,⟨0,0,.c Z2 a0⟩)] _
 have hb:List.length a0≤bigLen:=hwf.1.1
 refine Vm hG rfl (Vm hG rfl (Vq (Vm hG rfl ?_)))
 refine Vb ?_
 refine Vc.loopF [(3,false,.pure (.int .i64)),(8,false,.pure (.int .i64))] [0,2,6,7] (fun v=>foInv (hstep) (11) a0 v.1 v.2.1) (fun v=>((List.length a0:Int)-v.2.1).toNat) rfl ?_ ?_
 · exact foStart
 rintro⟨acc,(i:Int),_⟩ hI
 have hI:foInv (hstep) (11) a0 acc i:=hI
 refine Vm hG rfl (Vq ?_)
 refine Vk rfl ?_ ?_<;>intro h0
 · have hl:i<(List.length a0:Int):=oTr h0
   refine Vs (Vq (Vb (Vq ?_)))
   refine Vr hG rfl ?_ ?_
   · exact foRange hI hl
   refine Vr hG rfl ?_ ?_
   · exact⟨trivial,(show (2147483647:Int)≠0 by decide)⟩
   refine Vn hG rfl ?_
   refine⟨rfl,?_⟩
   exact foStep hI hl hb
 · have hl:¬i<(List.length a0:Int):=oFa h0
   refine Vx (Vm hG rfl (Vt ?_))
   refine⟨?_,trivial⟩
   exact foEnd hI hl
noncomputable def F165:Fun:=⟨[.int .i64,.slice (.int .i64)],[.pure (.int .i64)],fun x=>(fun(_:Int) (l:List Int)=>smallL l) x.1 x.2.1,fun x=>(digestF x.1 x.2.1,())⟩
theorem F165_ok:Meets Tryz.prog 165 F165:=by
 refine mZ (C:=mkC 10 [4] [0,1,4] [⟨236,_,F236_ok⟩]) (mO _ _ _ _) (fO _) Tryz.func165 rfl rfl rfl (by decide) rfl ?_
 rintro⟨(a0:Int),a1,_⟩ hwf hpre ⟨⟩ hG rfl rfl
 show Vc _ _ [(0,⟨0,0,.c (.pure (.int .i64)) a0⟩),(1,⟨0,0,.c Z2 a1⟩)] _
 have hp:List.length a1≤1000000000:=hpre
 refine Vm hG rfl (Vq ?_)
 refine Vr hG rfl ?_ ?_
 · refine⟨?_,trivial⟩
   show 2+List.length a1≤maxApp
   unfold maxApp;omega
 refine Vt ?_
 refine⟨?_,trivial⟩
 exact(digest_eq a0 a1).symm
noncomputable def F164:Fun:=⟨[.int .i64,.str,.int .i64],[.pure (.int .i64)],fun x=>(fun(_:Int) (s:List UInt8) (_:Int)=>s.length≤40) x.1 x.2.1 x.2.2.1,fun x=>(partF x.1 x.2.1 x.2.2.1,())⟩
theorem F164_ok:Meets Tryz.prog 164 F164:=by
 refine mZ (C:=mkC 15 [6] [0,1,2,6] [⟨235,_,F235_ok⟩,⟨165,_,F165_ok⟩]) (mO _ _ _ _) (fO _) Tryz.func164 rfl rfl rfl (by decide) rfl ?_
 rintro⟨(a0:Int),a1,(a2:Int),_⟩ hwf hpre ⟨⟩ hG rfl rfl
 show Vc _ _ [(0,⟨0,0,.c (.pure (.int .i64)) a0⟩),(1,⟨0,0,.c (.pure (.str)) a1⟩),(2,⟨0,0,.c (.pure (.int .i64)) a2⟩)] _
 have hp:List.length a1≤40:=hpre
 have hq:List.length (bytesF (bytesOf a1))=List.length a1:=bytesLen a1
 have hq2:List.length (bytesOf a1)=List.length a1:=List.length_map _
 refine Vm hG rfl (Vq ?_)
 refine Vr hG rfl ?_ ?_
 · exact⟨(show List.length a1≤maxNew from by unfold maxNew;omega),(show List.length (bytesOf a1)≤40 from by omega),(show 1+List.length (bytesF (bytesOf a1))≤maxApp from by unfold maxApp;omega),(show List.length ([a2]++bytesF (bytesOf a1))≤1000000000 from by rw[List.length_append,hq];simp;omega)⟩
 refine Vt ?_
 refine⟨?_,trivial⟩
 exact congrArg (fun l=>digestF a0 ([a2]++l)) (bytesEq a1)
noncomputable def F93:Fun:=⟨[.int .i64,.pair (.int .i64) Y13],[.pure (.int .i64)],fun _=>True,fun x=>(docDigF x.1 x.2.1,())⟩
theorem F93_ok:Meets Tryz.prog 93 F93:=by
 refine mZ (C:=mkC 37 [4] [0,1,3,4,5,6,7,10,15,16,17,18] [⟨163,_,F163_ok⟩,⟨164,_,F164_ok⟩,⟨165,_,F165_ok⟩]) (mO _ _ _ _) (fO _) Tryz.func93 rfl rfl rfl (by decide) rfl ?_
 rintro⟨(a0:Int),a1,_⟩ hwf hpre ⟨⟩ hG rfl rfl
 show Vc _ _ [(0,⟨0,0,.c (.pure (.int .i64)) a0⟩),(1,⟨0,0,.c Z25 a1⟩)] _
 have hb:List.length a1.2.1≤bigLen:=hwf.2.1.2.1.1
 refine Vm hG rfl (Vq (Vm hG rfl ?_))
 refine Vk rfl ?_ ?_<;>intro h0
 · have g0:(!(docF a1))=true:=h0
   refine Vm hG rfl (Vt ?_)
   refine⟨?_,trivial⟩
   exact docDig0 g0
 · have g0:(!(docF a1))=false:=h0
   have hd:=docP_of g0
   have h6:List.length a1.2.1≤6:=docN hd
   refine Vs (Vm hG rfl (Vq (Vm hG rfl ?_)))
   refine Vb ?_
   refine Vc.loopF [(5,false,.own (.pure (.int .i64))),(17,false,.pure (.int .i64))] [0,1,3,4,10,15,16] (fun v=>gsInv (docG a0 a1) [a1.1] a1.2.1 v.1 v.2.1) (fun v=>((List.length a1.2.1:Int)-v.2.1).toNat) rfl ?_ ?_
   · exact gsStart
   rintro⟨acc,(i:Int),_⟩ hI
   have hI:gsInv (docG a0 a1) [a1.1] a1.2.1 acc i:=hI
   have hA:List.length acc≤7:=gsLen (c:=1) (m:=6) hI (fun _=>Nat.le_refl _) h6 (by simp)
   refine Vm hG rfl (Vq ?_)
   refine Vk rfl ?_ ?_<;>intro h1
   · have hl:i<(List.length a1.2.1:Int):=oTr h1
     refine Vs (Vq (Vb (Vq ?_)))
     refine Vr hG rfl ?_ ?_
     · exact gsRange hI hl
     refine Vr hG rfl ?_ ?_
     · exact⟨docX hd hI hl,doc40 hd hI hl,(show List.length acc+1≤maxApp from by unfold maxApp;omega)⟩
     refine Vn hG rfl ?_
     refine⟨rfl,?_⟩
     exact gsStep hI hl hb rfl
   · have hl:¬i<(List.length a1.2.1:Int):=oFa h1
     refine Vx (Vq ?_)
     refine Vr hG rfl ?_ ?_
     · exact(show List.length acc≤1000000000 from by omega)
     refine Vt ?_
     refine⟨?_,trivial⟩
     have e:=docDig1 (id:=a0) (d:=a1) (acc:=acc) (i:=i) g0 hI hl
     exact e
noncomputable def F162:Fun:=⟨[.pair Y23 Y59,.pair (.int .i64) Y13],[.own (.pure (.int .i64))],fun x=>(fun(s:Strand) (_:Doc)=>List.length s.2≤2000000) x.1 x.2.1,fun x=>(docDigsF x.1 x.2.1,())⟩
theorem F162_ok:Meets Tryz.prog 162 F162:=by
 refine mZ (C:=mkC 24 [4] [0,1,2,3,4,5,7,9,10,11,12] [⟨93,_,F93_ok⟩]) (mO _ _ _ _) (fO _) Tryz.func162 rfl rfl rfl (by decide) rfl ?_
 rintro⟨a0,a1,_⟩ hwf hpre ⟨⟩ hG rfl rfl
 show Vc _ _ [(0,⟨0,0,.c Z65 a0⟩),(1,⟨0,0,.c Z25 a1⟩)] _
 have hs:List.length a0.2≤2000000:=hpre
 have hb:List.length a0.2≤bigLen:=hwf.1.2.1
 refine Vm hG rfl (Vm hG rfl (Vq (Vm hG rfl ?_)))
 refine Vb ?_
 refine Vc.loopF [(5,false,.own (.pure (.int .i64))),(11,false,.pure (.int .i64))] [0,1,2,3,4,9,10] (fun v=>pkInv (ddF a1) a0.2 v.1 v.2.1) (fun v=>((List.length a0.2:Int)-v.2.1).toNat) rfl ?_ ?_
 · exact pkStart
 rintro⟨acc,(i:Int),_⟩ hI
 have hI:pkInv (ddF a1) a0.2 acc i:=hI
 refine Vm hG rfl (Vq ?_)
 refine Vk rfl ?_ ?_<;>intro h0
 · have hl:i<(List.length a0.2:Int):=oTr h0
   refine Vs (Vq (Vb (Vq ?_)))
   refine Vr hG rfl ?_ ?_
   · exact pkRange hI hl
   refine Vr hG rfl ?_ ?_
   · exact⟨trivial,pkLen2 hI hs⟩
   refine Vn hG rfl ?_
   refine⟨rfl,?_⟩
   exact pkYes (d:=dflt Y56) hI hl hb rfl
 · have hl:¬i<(List.length a0.2:Int):=oFa h0
   refine Vx (Vm hG rfl (Vt ?_))
   refine⟨?_,trivial⟩
   exact pkEnd hI hl
noncomputable def F92:Fun:=⟨[.pair Y66 Y37,.pair (.int .i64) Y13],[.own Z0],fun x=>(fun(e:Evidence) (_:Doc)=>Sm big20 Y66 e.1) x.1 x.2.1,fun x=>(allDigsF x.1 x.2.1,())⟩
theorem F92_ok:Meets Tryz.prog 92 F92:=by
 refine mZ (C:=mkC 23 [4] [0,1,2,3,4,5,7,9,10,11,12] [⟨162,_,F162_ok⟩]) (mO _ _ _ _) (fO _) Tryz.func92 rfl rfl rfl (by decide) rfl ?_
 rintro⟨a0,a1,_⟩ hwf hpre ⟨⟩ hG rfl rfl
 show Vc _ _ [(0,⟨0,0,.c Z72 a0⟩),(1,⟨0,0,.c Z25 a1⟩)] _
 have hS:Sm big20 Y66 a0.1:=hpre
 have hs:List.length a0.1≤1048576:=hS.1
 have hb:List.length a0.1≤bigLen:=hwf.1.1.1
 refine Vm hG rfl (Vm hG rfl (Vq (Vm hG rfl ?_)))
 refine Vb ?_
 refine Vc.loopF [(5,false,.own Z0),(11,false,.pure (.int .i64))] [0,1,2,3,4,9,10] (fun v=>pkInv (adF a1) a0.1 v.1 v.2.1) (fun v=>((List.length a0.1:Int)-v.2.1).toNat) rfl ?_ ?_
 · exact pkStart
 rintro⟨acc,(i:Int),_⟩ hI
 have hI:pkInv (adF a1) a0.1 acc i:=hI
 refine Vm hG rfl (Vq ?_)
 refine Vk rfl ?_ ?_<;>intro h0
 · have hl:i<(List.length a0.1:Int):=oTr h0
   have r1:=pkRange hI hl
   have hE:List.length (List.getD a0.1 i.toNat (dflt Y63)).2≤2000000:=Nat.le_trans (hS.2 _ (getD_mem r1 _)).2.1 (by decide)
   refine Vs (Vq (Vb (Vq ?_)))
   refine Vr hG rfl ?_ ?_
   · exact pkRange hI hl
   refine Vr hG rfl ?_ ?_
   · exact⟨hE,pkLen hI hs⟩
   refine Vn hG rfl ?_
   refine⟨rfl,?_⟩
   exact pkYes (d:=dflt Y63) hI hl hb rfl
 · have hl:¬i<(List.length a0.1:Int):=oFa h0
   refine Vx (Vm hG rfl (Vt ?_))
   refine⟨?_,trivial⟩
   exact pkEnd hI hl
noncomputable def F175:Fun:=⟨[.int .i64],[.pure (.bool)],fun _=>True,fun x=>(isTimeF x.1,())⟩
theorem F175_ok:Meets Tryz.prog 175 F175:=by
 refine mZ (C:=mkC 5 [2] [0,2] [⟨72,_,F72_ok⟩]) (mO _ _ _ _) (fO _) Tryz.func175 rfl rfl rfl (by decide) rfl ?_
 rintro⟨(a0:Int),_⟩ hwf hpre ⟨⟩ hG rfl rfl
 show Vc _ _ [(0,⟨0,0,.c (.pure (.int .i64)) a0⟩)] _
 refine Vm hG rfl (Vm hG rfl (Vt ?_))
 refine⟨?_,trivial⟩
 all_goals exact rfl
noncomputable def F331:Fun:=⟨[.int .i64],[.pure (.bool)],fun _=>True,fun x=>(validKeyF x.1,())⟩
theorem F331_ok:Meets Tryz.prog 331 F331:=by
 refine mZ (C:=mkC 5 [2] [0,2] [⟨72,_,F72_ok⟩]) (mO _ _ _ _) (fO _) Tryz.func331 rfl rfl rfl (by decide) rfl ?_
 rintro⟨(a0:Int),_⟩ hwf hpre ⟨⟩ hG rfl rfl
 show Vc _ _ [(0,⟨0,0,.c (.pure (.int .i64)) a0⟩)] _
 refine Vm hG rfl (Vm hG rfl (Vt ?_))
 refine⟨?_,trivial⟩
 all_goals exact rfl
noncomputable def F282:Fun:=⟨[.pair (.int .i64) Y24],[.pure (.bool)],fun _=>True,fun x=>(isKeyF x.1,())⟩
theorem F282_ok:Meets Tryz.prog 282 F282:=by
 refine mZ (C:=mkC 26 [2] [0,1,2] [⟨72,_,F72_ok⟩,⟨175,_,F175_ok⟩,⟨331,_,F331_ok⟩]) (mO _ _ _ _) (fO _) Tryz.func282 rfl rfl rfl (by decide) rfl ?_
 rintro⟨a0,_⟩ hwf hpre ⟨⟩ hG rfl rfl
 show Vc _ _ [(0,⟨0,0,.c Z33 a0⟩)] _
 refine Vm hG rfl (Vq ?_)
 refine Vr hG rfl ?_ ?_
 · repeat' (first | exact trivial | refine And.intro ?_ ?_ | intro _)
 refine Vt ?_
 refine⟨?_,trivial⟩
 all_goals exact rfl
noncomputable def F211:Fun:=⟨[.slice Y32],[.pure (.bool)],fun _=>True,fun x=>(areKeysF x.1,())⟩
theorem F211_ok:Meets Tryz.prog 211 F211:=by
 refine mZ (C:=mkC 34 [2] [0,2,3,4,5,6,7,8,29] [⟨282,_,F282_ok⟩]) (mO _ _ _ _) (fO _) Tryz.func211 rfl rfl rfl (by decide) rfl ?_
 rintro⟨a0,_⟩ hwf hpre ⟨⟩ hG rfl rfl
 show Vc _ _ [(0,⟨0,0,.c Z36 a0⟩)] _
 have hb:List.length a0≤bigLen:=hwf.1.1
 refine Vm hG rfl (Vq (Vm hG rfl (Vb ?_)))
 refine Vc.loopF [(7,false,.pure (.int .i64))] [0,5,6] (fun v=>kInv (areG isKeyF (fun k=>k.1) (dflt (TKey)) a0) a0 v.1) (fun v=>((List.length a0:Int)-v.1).toNat) rfl ?_ ?_
 · exact kStart
 rintro⟨(i:Int),_⟩ hI
 have hI:kInv (areG isKeyF (fun k=>k.1) (dflt (TKey)) a0) a0 i:=hI
 refine Vm hG rfl (Vq ?_)
 refine Vk rfl ?_ ?_<;>intro h0
 · have hl:i<(List.length a0:Int):=oTr h0
   refine Vs (Vq (Vb (Vq ?_)))
   refine Vr hG rfl ?_ ?_
   · exact kRange hI hl
   refine Vq ?_
   refine VrD mixed hG rfl (by kernel_rfl) ?_ ?_
   · repeat' (first | exact trivial | exact kRange hI hl | (intro _ h2;exact prevIdx (kRange hI hl) (oTr h2) hb) | (intro h2;exact prevIdx (kRange hI hl) (oTr h2) hb) | refine And.intro ?_ ?_ | intro _)
   refine Vk rfl ?_ ?_<;>intro h1
   · have g1:areT isKeyF (fun k=>k.1) (dflt (TKey)) a0 i=true:=h1
     refine Vm hG rfl (Vt ?_)
     refine⟨?_,trivial⟩
     exact areBad (m:=12) hI hl hb g1
   · have g1:areT isKeyF (fun k=>k.1) (dflt (TKey)) a0 i=false:=h1
     refine Vs (Vn hG rfl ?_)
     refine⟨rfl,?_⟩
     exact areStep hI hl hb g1
 · have hl:¬i<(List.length a0:Int):=oFa h0
   refine Vx (Vm hG rfl (Vt ?_))
   refine⟨?_,trivial⟩
   exact areEnd (m:=12) hI hl
noncomputable def F212:Fun:=⟨[.slice Y15],[.pure (.bool)],fun _=>True,fun x=>(areAuthsF x.1,())⟩
theorem F212_ok:Meets Tryz.prog 212 F212:=by
 refine mZ (C:=mkC 47 [2] [0,2,3,4,5,6,7,8,42] [⟨72,_,F72_ok⟩]) (mO _ _ _ _) (fO _) Tryz.func212 rfl rfl rfl (by decide) rfl ?_
 rintro⟨a0,_⟩ hwf hpre ⟨⟩ hG rfl rfl
 show Vc _ _ [(0,⟨0,0,.c Z21 a0⟩)] _
 have hb:List.length a0≤bigLen:=hwf.1.1
 refine Vm hG rfl (Vq (Vm hG rfl (Vb ?_)))
 refine Vc.loopF [(7,false,.pure (.int .i64))] [0,5,6] (fun v=>kInv (areG isAuthF (fun k=>k.1) (dflt (TAuth)) a0) a0 v.1) (fun v=>((List.length a0:Int)-v.1).toNat) rfl ?_ ?_
 · exact kStart
 rintro⟨(i:Int),_⟩ hI
 have hI:kInv (areG isAuthF (fun k=>k.1) (dflt (TAuth)) a0) a0 i:=hI
 refine Vm hG rfl (Vq ?_)
 refine Vk rfl ?_ ?_<;>intro h0
 · have hl:i<(List.length a0:Int):=oTr h0
   refine Vs (Vq (Vb (Vq ?_)))
   refine Vr hG rfl ?_ ?_
   · exact kRange hI hl
   refine Vq ?_
   refine VrD mixed hG rfl (by kernel_rfl) ?_ ?_
   · repeat' (first | exact trivial | exact kRange hI hl | (intro _ h2;exact prevIdx (kRange hI hl) (oTr h2) hb) | (intro h2;exact prevIdx (kRange hI hl) (oTr h2) hb) | refine And.intro ?_ ?_ | intro _)
   refine Vk rfl ?_ ?_<;>intro h1
   · have g1:areT isAuthF (fun k=>k.1) (dflt (TAuth)) a0 i=true:=(nor3 _ _ _ _).symm.trans h1
     refine Vm hG rfl (Vt ?_)
     refine⟨?_,trivial⟩
     exact areBad (m:=6) hI hl hb g1
   · have g1:areT isAuthF (fun k=>k.1) (dflt (TAuth)) a0 i=false:=(nor3 _ _ _ _).symm.trans h1
     refine Vs (Vn hG rfl ?_)
     refine⟨rfl,?_⟩
     exact areStep hI hl hb g1
 · have hl:¬i<(List.length a0:Int):=oFa h0
   refine Vx (Vm hG rfl (Vt ?_))
   refine⟨?_,trivial⟩
   exact areEnd (m:=6) hI hl
noncomputable def F283:Fun:=⟨[.pair (.int .i64) Y15],[.pure (.bool)],fun _=>True,fun x=>(isMethodF x.1,())⟩
theorem F283_ok:Meets Tryz.prog 283 F283:=by
 refine mZ (C:=mkC 35 [2] [0,1,2] [⟨72,_,F72_ok⟩,⟨175,_,F175_ok⟩]) (mO _ _ _ _) (fO _) Tryz.func283 rfl rfl rfl (by decide) rfl ?_
 rintro⟨a0,_⟩ hwf hpre ⟨⟩ hG rfl rfl
 show Vc _ _ [(0,⟨0,0,.c Z27 a0⟩)] _
 refine Vm hG rfl (Vq ?_)
 refine Vr hG rfl ?_ ?_
 · repeat' (first | exact trivial | refine And.intro ?_ ?_ | intro _)
 refine Vt ?_
 refine⟨?_,trivial⟩
 all_goals exact rfl
noncomputable def F213:Fun:=⟨[.slice Y24],[.pure (.bool)],fun _=>True,fun x=>(areMethodsF x.1,())⟩
theorem F213_ok:Meets Tryz.prog 213 F213:=by
 refine mZ (C:=mkC 34 [2] [0,2,3,4,5,6,7,8,29] [⟨283,_,F283_ok⟩]) (mO _ _ _ _) (fO _) Tryz.func213 rfl rfl rfl (by decide) rfl ?_
 rintro⟨a0,_⟩ hwf hpre ⟨⟩ hG rfl rfl
 show Vc _ _ [(0,⟨0,0,.c Z30 a0⟩)] _
 have hb:List.length a0≤bigLen:=hwf.1.1
 refine Vm hG rfl (Vq (Vm hG rfl (Vb ?_)))
 refine Vc.loopF [(7,false,.pure (.int .i64))] [0,5,6] (fun v=>kInv (areG isMethodF (fun k=>k.1) (dflt (TMethod)) a0) a0 v.1) (fun v=>((List.length a0:Int)-v.1).toNat) rfl ?_ ?_
 · exact kStart
 rintro⟨(i:Int),_⟩ hI
 have hI:kInv (areG isMethodF (fun k=>k.1) (dflt (TMethod)) a0) a0 i:=hI
 refine Vm hG rfl (Vq ?_)
 refine Vk rfl ?_ ?_<;>intro h0
 · have hl:i<(List.length a0:Int):=oTr h0
   refine Vs (Vq (Vb (Vq ?_)))
   refine Vr hG rfl ?_ ?_
   · exact kRange hI hl
   refine Vq ?_
   refine VrD mixed hG rfl (by kernel_rfl) ?_ ?_
   · repeat' (first | exact trivial | exact kRange hI hl | (intro _ h2;exact prevIdx (kRange hI hl) (oTr h2) hb) | (intro h2;exact prevIdx (kRange hI hl) (oTr h2) hb) | refine And.intro ?_ ?_ | intro _)
   refine Vk rfl ?_ ?_<;>intro h1
   · have g1:areT isMethodF (fun k=>k.1) (dflt (TMethod)) a0 i=true:=h1
     refine Vm hG rfl (Vt ?_)
     refine⟨?_,trivial⟩
     exact areBad (m:=8) hI hl hb g1
   · have g1:areT isMethodF (fun k=>k.1) (dflt (TMethod)) a0 i=false:=h1
     refine Vs (Vn hG rfl ?_)
     refine⟨rfl,?_⟩
     exact areStep hI hl hb g1
 · have hl:¬i<(List.length a0:Int):=oFa h0
   refine Vx (Vm hG rfl (Vt ?_))
   refine⟨?_,trivial⟩
   exact areEnd (m:=8) hI hl
noncomputable def F144:Fun:=⟨[.pair Y34 Y55],[.pure (.bool)],fun _=>True,fun x=>(isFrameF x.1,())⟩
theorem F144_ok:Meets Tryz.prog 144 F144:=by
 refine mZ (C:=mkC 26 [2] [0,1,2] [⟨211,_,F211_ok⟩,⟨212,_,F212_ok⟩,⟨213,_,F213_ok⟩,⟨72,_,F72_ok⟩,⟨175,_,F175_ok⟩]) (mO _ _ _ _) (fO _) Tryz.func144 rfl rfl rfl (by decide) rfl ?_
 rintro⟨a0,_⟩ hwf hpre ⟨⟩ hG rfl rfl
 show Vc _ _ [(0,⟨0,0,.c Z67 a0⟩)] _
 refine Vm hG rfl (Vq ?_)
 refine Vr hG rfl ?_ ?_
 · repeat' (first | exact trivial | refine And.intro ?_ ?_ | intro _)
 refine Vt ?_
 refine⟨?_,trivial⟩
 all_goals exact rfl
noncomputable def F145:Fun:=⟨[.int .i64],[.pure Y24],fun _=>True,fun x=>((fun(r:Int)=>((3,r,(0,0)):Verdict)) x.1,())⟩
theorem F145_ok:Meets Tryz.prog 145 F145:=by
 refine mZ (C:=mkC 5 [2] [0,2] []) (mO _ _ _ _) (fO _) Tryz.func145 rfl rfl rfl (by decide) rfl ?_
 rintro⟨(a0:Int),_⟩ hwf hpre ⟨⟩ hG rfl rfl
 show Vc _ _ [(0,⟨0,0,.c (.pure (.int .i64)) a0⟩)] _
 refine Vm hG rfl (Vm hG rfl (Vt ?_))
 refine⟨?_,trivial⟩
 all_goals exact rfl
noncomputable def F146:Fun:=⟨[.pair (.int .i64) Y48],[.pure (.bool)],fun _=>True,fun x=>(isSigF x.1,())⟩
theorem F146_ok:Meets Tryz.prog 146 F146:=by
 refine mZ (C:=mkC 41 [2] [0,1,2] [⟨72,_,F72_ok⟩]) (mO _ _ _ _) (fO _) Tryz.func146 rfl rfl rfl (by decide) rfl ?_
 rintro⟨a0,_⟩ hwf hpre ⟨⟩ hG rfl rfl
 show Vc _ _ [(0,⟨0,0,.c Z52 a0⟩)] _
 refine Vm hG rfl (Vq ?_)
 refine Vr hG rfl ?_ ?_
 · repeat' (first | exact trivial | refine And.intro ?_ ?_ | intro _)
 refine Vt ?_
 refine⟨?_,trivial⟩
 all_goals exact rfl
noncomputable def F147:Fun:=⟨[.int .i64],[.pure Y24],fun _=>True,fun x=>((fun(r:Int)=>((2,r,(0,0)):Verdict)) x.1,())⟩
theorem F147_ok:Meets Tryz.prog 147 F147:=by
 refine mZ (C:=mkC 5 [2] [0,2] []) (mO _ _ _ _) (fO _) Tryz.func147 rfl rfl rfl (by decide) rfl ?_
 rintro⟨(a0:Int),_⟩ hwf hpre ⟨⟩ hG rfl rfl
 show Vc _ _ [(0,⟨0,0,.c (.pure (.int .i64)) a0⟩)] _
 refine Vm hG rfl (Vm hG rfl (Vt ?_))
 refine⟨?_,trivial⟩
 all_goals exact rfl
noncomputable def F148:Fun:=⟨[.slice Y32,.int .i64],[.pure (.int .i64)],fun _=>True,fun x=>((fun a0 a1=>findI (fun x=>x.1==a1) a0) x.1 x.2.1,())⟩
theorem F148_ok:Meets Tryz.prog 148 F148:=by
 refine mZ (C:=mkC 20 [4] [0,1,4,5,6,7,8,9,10,17] []) (mO _ _ _ _) (fO _) Tryz.func148 rfl rfl rfl (by decide) rfl ?_
 rintro⟨a0,(a1:Int),_⟩ hwf hpre ⟨⟩ hG rfl rfl
 show Vc _ _ [(0,⟨0,0,.c Z36 a0⟩),(1,⟨0,0,.c (.pure (.int .i64)) a1⟩)] _
 have hb:List.length a0≤bigLen:=hwf.1.1
 refine Vm hG rfl (Vq (Vm hG rfl (Vb ?_)))
 refine Vc.loopF [(9,false,.pure (.int .i64))] [0,1,7,8] (fun v=>fInv (fun x=>x.1==a1) a0 v.1) (fun v=>((List.length a0:Int)-v.1).toNat) rfl ?_ ?_
 · exact fStart
 rintro⟨(i:Int),_⟩ hI
 have hI:fInv (fun x=>x.1==a1) a0 i:=hI
 refine Vm hG rfl (Vq ?_)
 refine Vk rfl ?_ ?_<;>intro h0
 · have hl:i<(List.length a0:Int):=oTr h0
   refine Vs (Vq (Vb (Vq ?_)))
   refine Vr hG rfl ?_ ?_
   · exact fRange hI hl
   refine Vm hG rfl ?_
   refine Vk rfl ?_ ?_<;>intro h1
   · have g1:(fun x=>x.1==a1) (List.getD a0 i.toNat (dflt Y32))=true:=h1
     refine Vm hG rfl (Vt ?_)
     refine⟨?_,trivial⟩
     exact fHit hI hl g1
   · have g1:(fun x=>x.1==a1) (List.getD a0 i.toNat (dflt Y32))=false:=h1
     refine Vs (Vn hG rfl ?_)
     refine⟨rfl,?_⟩
     exact fStep hI hl hb g1
 · have hl:¬i<(List.length a0:Int):=oFa h0
   refine Vx (Vm hG rfl (Vt ?_))
   refine⟨?_,trivial⟩
   exact fEnd hI hl
noncomputable def F215:Fun:=⟨[.pair (.int .i64) Y48],[.own (.pure (.int .i64))],fun _=>True,fun x=>(sigIntsF x.1,())⟩
theorem F215_ok:Meets Tryz.prog 215 F215:=by
 refine mZ (C:=mkC 20 [2] [0,1,2] []) (mO _ _ _ _) (fO _) Tryz.func215 rfl rfl rfl (by decide) rfl ?_
 rintro⟨a0,_⟩ hwf hpre ⟨⟩ hG rfl rfl
 show Vc _ _ [(0,⟨0,0,.c Z52 a0⟩)] _
 refine Vm hG rfl (Vm hG rfl (Vt ?_))
 refine⟨?_,trivial⟩
 all_goals exact rfl
noncomputable def F307:Fun:=⟨[.int .i64,.slice (.int .i64)],[.pure (.int .i64)],fun x=>(fun(_:Int) (l:List Int)=>l.length≤1000000001) x.1 x.2.1,fun x=>(keyedF x.1 x.2.1,())⟩
theorem F307_ok:Meets Tryz.prog 307 F307:=by
 refine mZ (C:=mkC 13 [4] [0,1,4] [⟨236,_,F236_ok⟩]) (mO _ _ _ _) (fO _) Tryz.func307 rfl rfl rfl (by decide) rfl ?_
 rintro⟨(a0:Int),a1,_⟩ hwf hpre ⟨⟩ hG rfl rfl
 show Vc _ _ [(0,⟨0,0,.c (.pure (.int .i64)) a0⟩),(1,⟨0,0,.c Z2 a1⟩)] _
 have hp:List.length a1≤1000000001:=hpre
 refine Vm hG rfl (Vq ?_)
 refine Vr hG rfl ?_ ?_
 · refine⟨?_,?_,trivial⟩
   · show 1+List.length a1≤maxApp
     unfold maxApp;omega
   · show (List.length a1+1)+1≤maxApp
     unfold maxApp;omega
 refine Vt ?_
 refine⟨?_,trivial⟩
 all_goals exact rfl
noncomputable def F239:Fun:=⟨[.pair (.int .i64) Y24,.slice (.int .i64)],[.pure (.int .i64)],fun x=>(fun(_:Key) (l:List Int)=>smallL l) x.1 x.2.1,fun x=>(markWithF x.1 x.2.1,())⟩
theorem F239_ok:Meets Tryz.prog 239 F239:=by
 refine mZ (C:=mkC 13 [4] [0,1,2,4] [⟨307,_,F307_ok⟩]) (mO _ _ _ _) (fO _) Tryz.func239 rfl rfl rfl (by decide) rfl ?_
 rintro⟨a0,a1,_⟩ hwf hpre ⟨⟩ hG rfl rfl
 show Vc _ _ [(0,⟨0,0,.c Z33 a0⟩),(1,⟨0,0,.c Z2 a1⟩)] _
 have hp:List.length a1≤1000000000:=hpre
 refine Vm hG rfl (Vq ?_)
 refine VrD mixed hG rfl (by kernel_rfl) ?_ ?_
 · refine⟨?_,?_⟩
   · show 1+List.length a1≤maxApp
     unfold maxApp;omega
   · show List.length a1+1≤1000000001
     omega
 refine Vt ?_
 refine⟨?_,trivial⟩
 all_goals exact rfl
noncomputable def F176:Fun:=⟨[.slice Y32,.int .i64,.slice (.int .i64)],[.pure (.int .i64),.pure (.bool)],fun x=>(fun(_:List Key) (_:Int) (l:List Int)=>smallL l) x.1 x.2.1 x.2.2.1,fun x=>((markByF x.1 x.2.1 x.2.2.1).1,(markByF x.1 x.2.1 x.2.2.1).2,())⟩
theorem F176_ok:Meets Tryz.prog 176 F176:=by
 refine mZ (C:=mkC 20 [6,7] [0,1,2,6,7,8,13] [⟨148,_,F148_ok⟩,⟨239,_,F239_ok⟩]) (mO _ _ _ _) (fO _) Tryz.func176 rfl rfl rfl (by decide) rfl ?_
 rintro⟨a0,(a1:Int),a2,_⟩ hwf hpre ⟨⟩ hG rfl rfl
 show Vc _ _ [(0,⟨0,0,.c Z36 a0⟩),(1,⟨0,0,.c (.pure (.int .i64)) a1⟩),(2,⟨0,0,.c Z2 a2⟩)] _
 have hp:smallL a2:=hpre
 refine Vm hG rfl (Vm hG rfl (Vq (Vm hG rfl ?_)))
 refine Vk rfl ?_ ?_<;>intro h0
 · have g0:keyI a0 a1<0:=oTr h0
   refine Vm hG rfl (Vt ?_)
   have e:=markBy_no (l:=a2) g0
   refine⟨?_,?_,trivial⟩
   · exact(congrArg Prod.fst e).symm
   · exact(congrArg Prod.snd e).symm
 · have g0:¬keyI a0 a1<0:=oFa h0
   refine Vs (Vq ?_)
   refine Vr hG rfl ?_ ?_
   · exact⟨findRange g0,hp⟩
   refine Vt ?_
   have e:=markBy_yes (l:=a2) g0
   refine⟨?_,?_,trivial⟩
   · exact(congrArg Prod.fst e).symm
   · exact(congrArg Prod.snd e).symm
noncomputable def F214:Fun:=⟨[.slice Y32,.int .i64,.slice (.int .i64),.int .i64],[.pure (.bool)],fun x=>(fun(_:List Key) (_:Int) (l:List Int) (_:Int)=>smallL l) x.1 x.2.1 x.2.2.1 x.2.2.2.1,fun x=>(checkMarkF x.1 x.2.1 x.2.2.1 x.2.2.2.1,())⟩
theorem F214_ok:Meets Tryz.prog 214 F214:=by
 refine mZ (C:=mkC 24 [8] [0,1,2,3,8,9,10] [⟨176,_,F176_ok⟩]) (mO _ _ _ _) (fO _) Tryz.func214 rfl rfl rfl (by decide) rfl ?_
 rintro⟨a0,(a1:Int),a2,(a3:Int),_⟩ hwf hpre ⟨⟩ hG rfl rfl
 show Vc _ _ [(0,⟨0,0,.c Z36 a0⟩),(1,⟨0,0,.c (.pure (.int .i64)) a1⟩),(2,⟨0,0,.c Z2 a2⟩),(3,⟨0,0,.c (.pure (.int .i64)) a3⟩)] _
 have hp:smallL a2:=hpre
 refine Vm hG rfl (Vq ?_)
 refine Vr hG rfl ?_ ?_
 · exact hp
 refine Vm hG rfl (Vt ?_)
 refine⟨?_,trivial⟩
 exact checkMark_by a0 a1 a2 a3
noncomputable def F149:Fun:=⟨[.slice Y32,.pair (.int .i64) Y48],[.pure (.bool)],fun _=>True,fun x=>(checkSigF x.1 x.2.1,())⟩
theorem F149_ok:Meets Tryz.prog 149 F149:=by
 refine mZ (C:=mkC 17 [4] [0,1,3,4] [⟨146,_,F146_ok⟩,⟨215,_,F215_ok⟩,⟨214,_,F214_ok⟩]) (mO _ _ _ _) (fO _) Tryz.func149 rfl rfl rfl (by decide) rfl ?_
 rintro⟨a0,a1,_⟩ hwf hpre ⟨⟩ hG rfl rfl
 show Vc _ _ [(0,⟨0,0,.c Z36 a0⟩),(1,⟨0,0,.c Z52 a1⟩)] _
 refine Vm hG rfl (Vq ?_)
 refine VrD mixed hG rfl (by kernel_rfl) ?_ ?_
 · repeat' (first | exact trivial | exact smallLit (n:=9) rfl (by decide) | refine And.intro ?_ ?_ | intro _)
 refine Vt ?_
 refine⟨?_,trivial⟩
 all_goals exact rfl
noncomputable def F151:Fun:=⟨[.pair (.int .i64) Y48],[.pair (.pure (.int .i64)) Z16],fun _=>True,fun x=>(signPieceF x.1,())⟩
theorem F151_ok:Meets Tryz.prog 151 F151:=by
 refine mZ (C:=mkC 10 [2] [0,1,2] [⟨215,_,F215_ok⟩]) (mO _ _ _ _) (fO _) Tryz.func151 rfl rfl rfl (by decide) rfl ?_
 rintro⟨a0,_⟩ hwf hpre ⟨⟩ hG rfl rfl
 show Vc _ _ [(0,⟨0,0,.c Z52 a0⟩)] _
 refine Vm hG rfl (Vq (VrD mixed hG rfl (by kernel_rfl) (by trivial) (Vt ?_)))
 refine⟨?_,trivial⟩
 all_goals exact rfl
noncomputable def F334:Fun:=⟨[.slice (.int .i64),.slice (.int .i64)],[.pure (.bool)],fun _=>True,fun x=>(eqC x.1 x.2.1,())⟩
theorem F334_ok:Meets Tryz.prog 334 F334:=by
 refine mZ (C:=mkC 26 [4] [0,1,4,5,10,12,13,14,24] []) (mO _ _ _ _) (fO _) Tryz.func334 rfl rfl rfl (by decide) rfl ?_
 rintro⟨a0,a1,_⟩ hwf hpre ⟨⟩ hG rfl rfl
 show Vc _ _ [(0,⟨0,0,.c Z2 a0⟩),(1,⟨0,0,.c Z2 a1⟩)] _
 have hb0:List.length a0≤bigLen:=hwf.1.1
 refine Vm hG rfl (Vq (Vm hG rfl ?_))
 refine Vk rfl ?_ ?_<;>intro h0
 · refine Vm hG rfl (Vt ?_)
   refine⟨?_,trivial⟩
   refine eqC_no (fun e=>?_)
   have e:a0=a1:=e
   have g:((List.length a0:Int) != (List.length a1:Int))=true:=h0
   subst e
   exact bself g
 · have g0:((List.length a0:Int) != (List.length a1:Int))=false:=h0
   have f0_0:List.length a0=List.length a1:=(lenEq g0)
   refine Vs (Vq (Vm hG rfl (Vb ?_)))
   refine Vc.loopF [(13,false,.pure (.int .i64))] [0,1,10,12] (fun v=>eqInv a0 a1 v.1) (fun v=>((List.length a0:Int)-v.1).toNat) rfl ?_ ?_
   · exact eqStart f0_0
   rintro⟨(i0:Int),_⟩ hI0
   have hI0:eqInv a0 a1 i0:=hI0
   refine Vm hG rfl (Vq ?_)
   refine Vk rfl ?_ ?_<;>intro h1
   · have hl0:i0<(List.length a0:Int):=oTr h1
     refine Vs (Vq (Vb (Vm hG rfl ?_)))
     refine Vq ?_
     refine VrD mixed hG rfl (by kernel_rfl) ?_ ?_
     · exact⟨(eqRange hI0 hl0).1,(eqRange hI0 hl0).2⟩
     refine Vk rfl ?_ ?_<;>intro h2
     · refine Vm hG rfl (Vt ?_)
       refine⟨?_,trivial⟩
       refine eqC_no (fun e=>?_)
       have e:a0=a1:=e
       have g:((List.getD a0 i0.toNat (dflt (.int .i64))) != (List.getD a1 i0.toNat (dflt (.int .i64))))=true:=h2
       subst e
       exact bself g
     · have g2:((List.getD a0 i0.toNat (dflt (.int .i64))) != (List.getD a1 i0.toNat (dflt (.int .i64))))=false:=h2
       have f2_0:(List.getD a0 i0.toNat (dflt (.int .i64)))=(List.getD a1 i0.toNat (dflt (.int .i64))):=(bneI g2)
       have s0:(List.getD a0 i0.toNat (dflt (.int .i64)))=(List.getD a1 i0.toNat (dflt (.int .i64))):=f2_0
       refine Vs (Vn hG rfl ?_)
       refine⟨rfl,?_⟩
       exact⟨eqStep (d:=dflt (.int .i64)) hI0 hl0 hb0 s0,(upStep hI0.1 hl0 hb0).2.2⟩
   · have hl0:¬i0<(List.length a0:Int):=oFa h1
     have e0:a0=a1:=eqEnd hI0 hl0
     refine Vx (Vm hG rfl (Vt ?_))
     refine⟨?_,trivial⟩
     exact eqC_yes e0
noncomputable def F286:Fun:=⟨[.pair (.int .i64) Y9,.pair (.int .i64) Y9],[.pure (.bool)],fun _=>True,fun x=>(eqC x.1 x.2.1,())⟩
theorem F286_ok:Meets Tryz.prog 286 F286:=by
 refine mZ (C:=mkC 24 [4] [0,1,2,3,4] [⟨334,_,F334_ok⟩]) (mO _ _ _ _) (fO _) Tryz.func286 rfl rfl rfl (by decide) rfl ?_
 rintro⟨a0,a1,_⟩ hwf hpre ⟨⟩ hG rfl rfl
 show Vc _ _ [(0,⟨0,0,.c Z22 a0⟩),(1,⟨0,0,.c Z22 a1⟩)] _
 refine Vm hG rfl (Vq ?_)
 refine Vr hG rfl ?_ ?_
 · repeat' (first | exact trivial | refine And.intro ?_ ?_ | intro _)
 refine Vt ?_
 refine⟨?_,trivial⟩
 refine eqC_by (fun e=>?_) (fun e=>?_)
 · have e:(pick2 (pick2 (a0.1==a1.1) (a0.2.2==a1.2.2) false) (eqC a0.2.1 a1.2.1) false)=true:=e
   have r_0:a0.1=a1.1:=(beqI2 (andT (andT e).1).1)
   have r_1:a0.2.2=a1.2.2:=(beqI2 (andT (andT e).1).2)
   have r_2:a0.2.1=a1.2.1:=(eqC_iff.1 (andT e).2)
   exact(Prod.ext r_0 (Prod.ext r_2 r_1))
 · have e:a0=a1:=e
   subst e
   exact(yesAnd (yesAnd beqSelf beqSelf) (eqC_self _))
noncomputable def F284:Fun:=⟨[.pair Y23 Y59,.pair (.int .i64) Y9],[.pure (.int .i64)],fun _=>True,fun x=>((fun a0 a1=>findI (fun x=>eqC x a1) a0.1) x.1 x.2.1,())⟩
theorem F284_ok:Meets Tryz.prog 284 F284:=by
 refine mZ (C:=mkC 20 [4] [0,1,2,3,4,5,6,8,9,10,11,17] [⟨286,_,F286_ok⟩]) (mO _ _ _ _) (fO _) Tryz.func284 rfl rfl rfl (by decide) rfl ?_
 rintro⟨a0,a1,_⟩ hwf hpre ⟨⟩ hG rfl rfl
 show Vc _ _ [(0,⟨0,0,.c Z65 a0⟩),(1,⟨0,0,.c Z22 a1⟩)] _
 have hb:List.length a0.1≤bigLen:=hwf.1.1.1
 refine Vm hG rfl (Vq (Vm hG rfl (Vb ?_)))
 refine Vc.loopF [(10,false,.pure (.int .i64))] [0,1,2,3,8,9] (fun v=>fInv (fun x=>eqC x a1) a0.1 v.1) (fun v=>((List.length a0.1:Int)-v.1).toNat) rfl ?_ ?_
 · exact fStart
 rintro⟨(i:Int),_⟩ hI
 have hI:fInv (fun x=>eqC x a1) a0.1 i:=hI
 refine Vm hG rfl (Vq ?_)
 refine Vk rfl ?_ ?_<;>intro h0
 · have hl:i<(List.length a0.1:Int):=oTr h0
   refine Vs (Vq (Vb (Vq ?_)))
   refine Vr hG rfl ?_ ?_
   · exact fRange hI hl
   refine Vm hG rfl ?_
   refine Vk rfl ?_ ?_<;>intro h1
   · have g1:(fun x=>eqC x a1) (List.getD a0.1 i.toNat (dflt Y19))=true:=h1
     refine Vm hG rfl (Vt ?_)
     refine⟨?_,trivial⟩
     exact fHit hI hl g1
   · have g1:(fun x=>eqC x a1) (List.getD a0.1 i.toNat (dflt Y19))=false:=h1
     refine Vs (Vn hG rfl ?_)
     refine⟨rfl,?_⟩
     exact fStep hI hl hb g1
 · have hl:¬i<(List.length a0.1:Int):=oFa h0
   refine Vx (Vm hG rfl (Vt ?_))
   refine⟨?_,trivial⟩
   exact fEnd hI hl
noncomputable def F174:Fun:=⟨[.slice Y15,.int .i64],[.pure (.int .i64)],fun _=>True,fun x=>((fun a0 a1=>findI (fun x=>x.1==a1) a0) x.1 x.2.1,())⟩
theorem F174_ok:Meets Tryz.prog 174 F174:=by
 refine mZ (C:=mkC 20 [4] [0,1,4,5,6,7,8,9,10,17] []) (mO _ _ _ _) (fO _) Tryz.func174 rfl rfl rfl (by decide) rfl ?_
 rintro⟨a0,(a1:Int),_⟩ hwf hpre ⟨⟩ hG rfl rfl
 show Vc _ _ [(0,⟨0,0,.c Z21 a0⟩),(1,⟨0,0,.c (.pure (.int .i64)) a1⟩)] _
 have hb:List.length a0≤bigLen:=hwf.1.1
 refine Vm hG rfl (Vq (Vm hG rfl (Vb ?_)))
 refine Vc.loopF [(9,false,.pure (.int .i64))] [0,1,7,8] (fun v=>fInv (fun x=>x.1==a1) a0 v.1) (fun v=>((List.length a0:Int)-v.1).toNat) rfl ?_ ?_
 · exact fStart
 rintro⟨(i:Int),_⟩ hI
 have hI:fInv (fun x=>x.1==a1) a0 i:=hI
 refine Vm hG rfl (Vq ?_)
 refine Vk rfl ?_ ?_<;>intro h0
 · have hl:i<(List.length a0:Int):=oTr h0
   refine Vs (Vq (Vb (Vq ?_)))
   refine Vr hG rfl ?_ ?_
   · exact fRange hI hl
   refine Vm hG rfl ?_
   refine Vk rfl ?_ ?_<;>intro h1
   · have g1:(fun x=>x.1==a1) (List.getD a0 i.toNat (dflt Y15))=true:=h1
     refine Vm hG rfl (Vt ?_)
     refine⟨?_,trivial⟩
     exact fHit hI hl g1
   · have g1:(fun x=>x.1==a1) (List.getD a0 i.toNat (dflt Y15))=false:=h1
     refine Vs (Vn hG rfl ?_)
     refine⟨rfl,?_⟩
     exact fStep hI hl hb g1
 · have hl:¬i<(List.length a0:Int):=oFa h0
   refine Vx (Vm hG rfl (Vt ?_))
   refine⟨?_,trivial⟩
   exact fEnd hI hl
noncomputable def F232:Fun:=⟨[.pair (.int .i64) (.int .i64)],[.pure (.bool)],fun _=>True,fun x=>(isSpanF x.1,())⟩
theorem F232_ok:Meets Tryz.prog 232 F232:=by
 refine mZ (C:=mkC 18 [2] [0,1,2] [⟨175,_,F175_ok⟩]) (mO _ _ _ _) (fO _) Tryz.func232 rfl rfl rfl (by decide) rfl ?_
 rintro⟨a0,_⟩ hwf hpre ⟨⟩ hG rfl rfl
 show Vc _ _ [(0,⟨0,0,.c Z8 a0⟩)] _
 refine Vm hG rfl (Vq ?_)
 refine Vr hG rfl ?_ ?_
 · repeat' (first | exact trivial | refine And.intro ?_ ?_ | intro _)
 refine Vt ?_
 refine⟨?_,trivial⟩
 all_goals exact rfl
noncomputable def F299:Fun:=⟨[.int .i64,.int .i64],[.pure Y4,.pure (.bool)],fun _=>True,fun x=>((makeSpanF x.1 x.2.1).1,(makeSpanF x.1 x.2.1).2,())⟩
theorem F299_ok:Meets Tryz.prog 299 F299:=by
 refine mZ (C:=mkC 22 [4,5] [0,1,4,5,6,19] [⟨232,_,F232_ok⟩]) (mO _ _ _ _) (fO _) Tryz.func299 rfl rfl rfl (by decide) rfl ?_
 rintro⟨(a0:Int),(a1:Int),_⟩ hwf hpre ⟨⟩ hG rfl rfl
 show Vc _ _ [(0,⟨0,0,.c (.pure (.int .i64)) a0⟩),(1,⟨0,0,.c (.pure (.int .i64)) a1⟩)] _
 refine Vm hG rfl (Vm hG rfl (Vq (Vq ?_)))
 refine Vr hG rfl ?_ ?_
 · repeat' (first | exact trivial | refine And.intro ?_ ?_ | intro _)
 refine Vk rfl ?_ ?_<;>intro h0
 · refine Vm hG rfl (Vt ?_)
   have e:=mkSpI0 h0
   refine⟨?_,?_,trivial⟩
   · exact(congrArg Prod.fst e).symm
   · exact(congrArg Prod.snd e).symm
 · refine Vs (Vm hG rfl (Vt ?_))
   have e:=mkSpI1 h0
   refine⟨?_,?_,trivial⟩
   · exact(congrArg Prod.fst e).symm
   · exact(congrArg Prod.snd e).symm
noncomputable def F294:Fun:=⟨[.slice Y15,.pair (.int .i64) Y24],[.pure Y4,.pure (.bool)],fun _=>True,fun x=>((stampSpanF x.1 x.2.1).1,(stampSpanF x.1 x.2.1).2,())⟩
theorem F294_ok:Meets Tryz.prog 294 F294:=by
 refine mZ (C:=mkC 47 [4,5] [0,1,3,4,5,6,26] [⟨174,_,F174_ok⟩,⟨175,_,F175_ok⟩,⟨299,_,F299_ok⟩]) (mO _ _ _ _) (fO _) Tryz.func294 rfl rfl rfl (by decide) rfl ?_
 rintro⟨a0,a1,_⟩ hwf hpre ⟨⟩ hG rfl rfl
 show Vc _ _ [(0,⟨0,0,.c Z21 a0⟩),(1,⟨0,0,.c Z33 a1⟩)] _
 refine Vm hG rfl (Vm hG rfl (Vq (Vq ?_)))
 refine Vr hG rfl ?_ ?_
 · exact⟨fun h=>findRange (oFa h),fun _=>trivial⟩
 refine Vk rfl ?_ ?_<;>intro h0
 · have g0:ssBad a0 a1=true:=h0
   refine Vm hG rfl (Vt ?_)
   have e:=ss0 g0
   refine⟨?_,?_,trivial⟩
   · exact(congrArg Prod.fst e).symm
   · exact(congrArg Prod.snd e).symm
 · have g0:ssBad a0 a1=false:=h0
   refine Vs (Vq ?_)
   refine VrD mixed hG rfl (by kernel_rfl) ?_ ?_
   · exact⟨ssIdx g0,ssIdx g0,trivial⟩
   refine Vt ?_
   have e:=ss1 g0
   refine⟨?_,?_,trivial⟩
   · exact(congrArg Prod.fst e).symm
   · exact(congrArg Prod.snd e).symm
noncomputable def F359:Fun:=⟨[.slice Y4,.int .i64],[.pure (.int .i64)],fun _=>True,fun x=>(countAtF x.1 x.2.1,())⟩
theorem F359_ok:Meets Tryz.prog 359 F359:=by
 refine mZ (C:=mkC 28 [4] [0,1,4,5,7,8,9,10,11,23] [⟨232,_,F232_ok⟩,⟨72,_,F72_ok⟩]) (mO _ _ _ _) (fO _) Tryz.func359 rfl rfl rfl (by decide) rfl ?_
 rintro⟨a0,(a1:Int),_⟩ hwf hpre ⟨⟩ hG rfl rfl
 show Vc _ _ [(0,⟨0,0,.c Z14 a0⟩),(1,⟨0,0,.c (.pure (.int .i64)) a1⟩)] _
 have hb:List.length a0≤bigLen:=hwf.1.1
 refine Vm hG rfl (Vm hG rfl (Vq (Vm hG rfl ?_)))
 refine Vb ?_
 refine Vc.loopF [(5,false,.pure (.int .i64)),(10,false,.pure (.int .i64))] [0,1,4,8,9] (fun v=>foInv (cntStep a1) 0 a0 v.1 v.2.1) (fun v=>((List.length a0:Int)-v.2.1).toNat) rfl ?_ ?_
 · exact foStart
 rintro⟨(acc:Int),(i:Int),_⟩ hI
 have hI:foInv (cntStep a1) 0 a0 acc i:=hI
 refine Vm hG rfl (Vq ?_)
 refine Vk rfl ?_ ?_<;>intro h0
 · have hl:i<(List.length a0:Int):=oTr h0
   refine Vs (Vq (Vb (Vq ?_)))
   refine Vr hG rfl ?_ ?_
   · exact foRange hI hl
   refine Vq ?_
   refine Vr hG rfl ?_ ?_
   · repeat' (first | exact trivial | refine And.intro ?_ ?_ | intro _)
   refine Vk rfl ?_ ?_<;>intro h1
   · have g1:inSp a1 (List.getD a0 i.toNat (dflt Y4))=true:=h1
     have st:=foStepE (d:=dflt Y4) hI hl hb (cntY (n:=acc) g1).symm
     refine Vn hG rfl (Vn hG rfl ?_)
     refine⟨rfl,?_⟩
     exact st
   · have g1:inSp a1 (List.getD a0 i.toNat (dflt Y4))=false:=h1
     have st:=foStepE (d:=dflt Y4) hI hl hb (cntN (n:=acc) g1).symm
     refine Vs (Vn hG rfl ?_)
     refine⟨rfl,?_⟩
     exact st
 · have hl:¬i<(List.length a0:Int):=oFa h0
   refine Vx (Vm hG rfl (Vt ?_))
   refine⟨?_,trivial⟩
   exact foEnd hI hl
noncomputable def F335:Fun:=⟨[.slice Y4,.int .i64,.int .i64],[.pure (.bool)],fun _=>True,fun x=>(supF x.1 x.2.1 x.2.2.1,())⟩
theorem F335_ok:Meets Tryz.prog 335 F335:=by
 refine mZ (C:=mkC 22 [6] [0,1,2,6] [⟨72,_,F72_ok⟩,⟨359,_,F359_ok⟩]) (mO _ _ _ _) (fO _) Tryz.func335 rfl rfl rfl (by decide) rfl ?_
 rintro⟨a0,(a1:Int),(a2:Int),_⟩ hwf hpre ⟨⟩ hG rfl rfl
 show Vc _ _ [(0,⟨0,0,.c Z14 a0⟩),(1,⟨0,0,.c (.pure (.int .i64)) a1⟩),(2,⟨0,0,.c (.pure (.int .i64)) a2⟩)] _
 refine Vm hG rfl (Vq ?_)
 refine Vr hG rfl ?_ ?_
 · repeat' (first | exact trivial | refine And.intro ?_ ?_ | intro _)
 refine Vt ?_
 refine⟨?_,trivial⟩
 all_goals exact rfl
noncomputable def F295:Fun:=⟨[.slice Y4,.int .i64],[.pure Y4,.pure (.bool)],fun _=>True,fun x=>((agreedF x.1 x.2.1).1,(agreedF x.1 x.2.1).2,())⟩
theorem F295_ok:Meets Tryz.prog 295 F295:=by
 refine mZ (C:=mkC 25 [4,5] [0,1,4,5,6,7,8,10,16,18] [⟨335,_,F335_ok⟩]) (mO _ _ _ _) (fO _) Tryz.func295 rfl rfl rfl (by decide) rfl ?_
 rintro⟨a0,(a1:Int),_⟩ hwf hpre ⟨⟩ hG rfl rfl
 show Vc _ _ [(0,⟨0,0,.c Z14 a0⟩),(1,⟨0,0,.c (.pure (.int .i64)) a1⟩)] _
 have hb:List.length a0≤bigLen:=hwf.1.1
 refine Vm hG rfl (Vm hG rfl (Vm hG rfl (Vq ?_)))
 refine Vm hG rfl (Vb ?_)
 refine Vc.loopF [(6,true,.pure Y4),(7,false,.pure (.bool)),(8,false,.pure (.int .i64))] [0,1,4,5] (fun v=>agInv a0 a1 v.1 v.2.1 v.2.2.1) (fun v=>((10001:Int)-v.2.2.1).toNat) rfl ?_ ?_
 · exact agStart
 rintro⟨s,fd,(t:Int),_⟩ hI
 have hI:agInv a0 a1 s fd t:=hI
 refine Vq (Vm hG rfl ?_)
 refine Vk rfl ?_ ?_<;>intro h0
 · have hl:t≤10000:=oTr h0
   refine Vs (Vq (Vb (Vm hG rfl ?_)))
   refine Vk rfl ?_ ?_<;>intro h1
   · have g1:supF a0 t a1=true:=h1
     refine Vq (Vm hG rfl ?_)
     refine Vk rfl ?_ ?_<;>intro h2
     · have g2:fd=false:=by simpa using h2
       have st:=agStep hI hl (s':=(t,t)) (found':=true) (by rw[if_pos g1,if_neg (by rw[g2];decide)])
       refine Vn hG rfl (Vm hG rfl (Vn hG rfl (Vn hG rfl ?_)))
       refine⟨rfl,?_⟩
       exact st
     · have g2:fd=true:=by simpa using h2
       have st:=agStep hI hl (s':=(s.1,t)) (found':=true) (by rw[if_pos g1,if_pos g2])
       refine Vs (Vm hG rfl (Vn hG rfl (Vn hG rfl ?_)))
       refine⟨rfl,?_⟩
       exact st
   · have g1:supF a0 t a1=false:=h1
     have st:=agStep hI hl (s':=s) (found':=fd) (by rw[if_neg (by rw[g1];decide)])
     refine Vs (Vn hG rfl ?_)
     refine⟨rfl,?_⟩
     exact st
 · have hl:¬t≤10000:=oFa h0
   refine Vx (Vm hG rfl (Vt ?_))
   have e:=agEnd hI hl
   refine⟨?_,?_,trivial⟩
   · exact congrArg (fun(q:Span×Bool)=>q.1) e
   · exact congrArg (fun(q:Span×Bool)=>q.2) e
noncomputable def F227:Fun:=⟨[.slice Y15,.slice Y32,.int .i64],[.pure Y4,.pure (.bool)],fun x=>(fun(_:List Authority) (a1:List Stamp) (_:Int)=>List.length a1≤1048576) x.1 x.2.1 x.2.2.1,fun x=>(((fun a0 a1 a2=>rsF a0 a1 a2) x.1 x.2.1 x.2.2.1).1,((fun a0 a1 a2=>rsF a0 a1 a2) x.1 x.2.1 x.2.2.1).2,())⟩
theorem F227_ok:Meets Tryz.prog 227 F227:=by
 refine mZ (C:=mkC 38 [6,7] [0,1,2,6,7,8,10,11,12,13,14,15,16,26] [⟨294,_,F294_ok⟩,⟨295,_,F295_ok⟩]) (mO _ _ _ _) (fO _) Tryz.func227 rfl rfl rfl (by decide) rfl ?_
 rintro⟨a0,a1,(a2:Int),_⟩ hwf hpre ⟨⟩ hG rfl rfl
 show Vc _ _ [(0,⟨0,0,.c Z21 a0⟩),(1,⟨0,0,.c Z36 a1⟩),(2,⟨0,0,.c (.pure (.int .i64)) a2⟩)] _
 have hs:List.length a1≤1048576:=hpre
 have hb:List.length a1≤bigLen:=by unfold bigLen;omega
 refine Vm hG rfl (Vm hG rfl (Vq (Vm hG rfl ?_)))
 refine Vb ?_
 refine Vc.loopF [(6,true,.pure Y4),(8,false,.own Z8),(15,false,.pure (.int .i64))] [0,1,2,13,14] (fun v=>rsInv a0 a1 v.2.1 v.2.2.1) (fun v=>((List.length a1:Int)-v.2.2.1).toNat) rfl ?_ ?_
 · exact rsStart
 rintro⟨r6,acc,(i:Int),_⟩ hI
 have hI:rsInv a0 a1 acc i:=hI
 have hA:List.length acc≤1048576:=Nat.le_trans (rsLen hI) hs
 refine Vm hG rfl (Vq ?_)
 refine Vk rfl ?_ ?_<;>intro h0
 · have hl:i<(List.length a1:Int):=oTr h0
   refine Vs (Vq (Vb (Vq ?_)))
   refine Vr hG rfl ?_ ?_
   · exact rsRange hI hl
   refine Vm hG rfl (Vq (Vm hG rfl ?_))
   refine Vk rfl ?_ ?_<;>intro h1
   · have g1:¬rsP a0 (List.getD a1 i.toNat (dflt TStamp)):=fun q=>nself q h1
     refine Vm hG rfl (Vt ?_)
     have e:=rsBad (d:=dflt TStamp) (liars:=a2) hI hl g1
     refine⟨?_,?_,trivial⟩
     · exact congrArg (fun(q:Span×Bool)=>q.1) e
     · exact congrArg (fun(q:Span×Bool)=>q.2) e
   · have g1:rsP a0 (List.getD a1 i.toNat (dflt TStamp)):=notF h1
     refine Vs ?_
     refine Vr hG rfl ?_ ?_
     · show List.length acc+1≤maxApp
       unfold maxApp;omega
     refine Vn hG rfl ?_
     refine⟨rfl,?_⟩
     exact rsStep (d:=dflt TStamp) hI hl hb g1
 · have hl:¬i<(List.length a1:Int):=oFa h0
   refine Vx (Vm hG rfl (Vt ?_))
   have e:=rsEnd (liars:=a2) hI hl
   refine⟨?_,?_,trivial⟩
   · exact congrArg (fun(q:Span×Bool)=>q.1) e
   · exact congrArg (fun(q:Span×Bool)=>q.2) e
noncomputable def F358:Fun:=⟨[.slice Y15,.pair (.int .i64) Y53,.int .i64],[.pure Y4,.pure (.bool)],fun x=>(fun(_:List Authority) (a1:Renewal) (_:Int)=>List.length a1.2.2.2.2≤1048576) x.1 x.2.1 x.2.2.1,fun x=>(((fun a0 a1 a2=>rsF a0 a1.2.2.2.2 a2) x.1 x.2.1 x.2.2.1).1,((fun a0 a1 a2=>rsF a0 a1.2.2.2.2 a2) x.1 x.2.1 x.2.2.1).2,())⟩
theorem F358_ok:Meets Tryz.prog 358 F358:=by
 refine mZ (C:=mkC 15 [6,7] [0,1,2,4,6,7] [⟨227,_,F227_ok⟩]) (mO _ _ _ _) (fO _) Tryz.func358 rfl rfl rfl (by decide) rfl ?_
 rintro⟨a0,a1,(a2:Int),_⟩ hwf hpre ⟨⟩ hG rfl rfl
 show Vc _ _ [(0,⟨0,0,.c Z21 a0⟩),(1,⟨0,0,.c Z57 a1⟩),(2,⟨0,0,.c (.pure (.int .i64)) a2⟩)] _
 have hs:List.length a1.2.2.2.2≤1048576:=hpre
 refine Vm hG rfl (Vq ?_)
 refine Vr hG rfl ?_ ?_
 · exact hs
 refine Vt ?_
 refine⟨?_,?_,trivial⟩
 all_goals exact rfl
noncomputable def F333:Fun:=⟨[.pair Y34 Y55,.pair (.int .i64) Y53],[.pure Y4,.pure (.bool)],fun x=>(fun(_:Frame) (r:Renewal)=>List.length r.2.2.2.2≤1048576) x.1 x.2.1,fun x=>((spanOfF x.1 x.2.1).1,(spanOfF x.1 x.2.1).2,())⟩
theorem F333_ok:Meets Tryz.prog 333 F333:=by
 refine mZ (C:=mkC 14 [4,5] [0,1,2,3,4,5] [⟨358,_,F358_ok⟩]) (mO _ _ _ _) (fO _) Tryz.func333 rfl rfl rfl (by decide) rfl ?_
 rintro⟨a0,a1,_⟩ hwf hpre ⟨⟩ hG rfl rfl
 show Vc _ _ [(0,⟨0,0,.c Z67 a0⟩),(1,⟨0,0,.c Z57 a1⟩)] _
 have hs:List.length a1.2.2.2.2≤1048576:=hpre
 refine Vm hG rfl (Vq ?_)
 refine Vr hG rfl ?_ ?_
 · exact hs
 refine Vt ?_
 refine⟨?_,?_,trivial⟩
 all_goals exact rfl
noncomputable def F177:Fun:=⟨[.pair (.int .i64) Y24],[.own (.pure (.int .i64))],fun _=>True,fun x=>(stampIntsF x.1,())⟩
theorem F177_ok:Meets Tryz.prog 177 F177:=by
 refine mZ (C:=mkC 12 [2] [0,1,2] []) (mO _ _ _ _) (fO _) Tryz.func177 rfl rfl rfl (by decide) rfl ?_
 rintro⟨a0,_⟩ hwf hpre ⟨⟩ hG rfl rfl
 show Vc _ _ [(0,⟨0,0,.c Z33 a0⟩)] _
 refine Vm hG rfl (Vm hG rfl (Vt ?_))
 refine⟨?_,trivial⟩
 all_goals exact rfl
noncomputable def F367:Fun:=⟨[.int .i64,.pair (.int .i64) Y53],[.pure (.int .i64)],fun x=>(fun(_:Int) (r:Renewal)=>Sm big20 TRen r) x.1 x.2.1,fun x=>(renDigF x.1 x.2.1,())⟩
theorem F367_ok:Meets Tryz.prog 367 F367:=by
 refine mZ (C:=mkC 59 [4] [0,1,3,4,5,7,8,10,19,20,21,22,26,41,42,43,44] [⟨177,_,F177_ok⟩,⟨165,_,F165_ok⟩]) (mO _ _ _ _) (fO _) Tryz.func367 rfl rfl rfl (by decide) rfl ?_
 rintro⟨(a0:Int),a1,_⟩ hwf hpre ⟨⟩ hG rfl rfl
 show Vc _ _ [(0,⟨0,0,.c (.pure (.int .i64)) a0⟩),(1,⟨0,0,.c Z57 a1⟩)] _
 have hp:Sm big20 TRen a1:=hpre
 have h3:List.length a1.2.2.2.1≤1048576:=hp.2.2.2.1.1
 have h4:List.length a1.2.2.2.2≤1048576:=hp.2.2.2.2.1
 have hb0:List.length a1.2.2.2.1≤bigLen:=hwf.2.1.2.2.2.1.1
 have hb1:List.length a1.2.2.2.2≤bigLen:=hwf.2.1.2.2.2.2.1
 refine Vm hG rfl (Vm hG rfl (Vq (Vm hG rfl ?_)))
 refine Vb ?_
 refine Vc.loopF [(5,false,.own (.pure (.int .i64))),(21,false,.pure (.int .i64))] [0,1,3,4,10,19,20,41,42,43,44] (fun v=>gsInv (stepG a1) [4,a1.1,a1.2.1,a1.2.2.1] a1.2.2.2.1 v.1 v.2.1) (fun v=>((List.length a1.2.2.2.1:Int)-v.2.1).toNat) rfl ?_ ?_
 · exact gsStart
 rintro⟨acc,(i:Int),_⟩ hI0
 have hI0:gsInv (stepG a1) [4,a1.1,a1.2.1,a1.2.2.1] a1.2.2.2.1 acc i:=hI0
 have hA:List.length acc≤2097156:=gsLen (c:=2) (m:=1048576) hI0 (fun _=>Nat.le_refl _) h3 (by simp)
 refine Vm hG rfl (Vq ?_)
 refine Vk rfl ?_ ?_<;>intro h0
 · have hl0:i<(List.length a1.2.2.2.1:Int):=oTr h0
   refine Vs (Vq (Vb (Vq ?_)))
   refine Vr hG rfl ?_ ?_
   · exact gsRange hI0 hl0
   refine Vm hG rfl (Vq (Vm hG rfl ?_))
   refine Vk rfl ?_ ?_<;>intro h1
   · have g1:(List.getD a1.2.2.2.1 i.toNat (dflt TStep)).2=true:=h1
     refine Vn hG rfl ?_
     refine Vr hG rfl ?_ ?_
     · exact(show List.length acc+2≤maxApp from by unfold maxApp;omega)
     refine Vn hG rfl ?_
     refine⟨rfl,?_⟩
     first | exact gsStep hI0 hl0 hb0 (stepYesI g1) | exact gsStep hI0 hl0 hb0 (stepNoI g1)
   · have g1:(List.getD a1.2.2.2.1 i.toNat (dflt TStep)).2=false:=h1
     refine Vs ?_
     refine Vr hG rfl ?_ ?_
     · exact(show List.length acc+2≤maxApp from by unfold maxApp;omega)
     refine Vn hG rfl ?_
     refine⟨rfl,?_⟩
     first | exact gsStep hI0 hl0 hb0 (stepYesI g1) | exact gsStep hI0 hl0 hb0 (stepNoI g1)
 · have hl0:¬i<(List.length a1.2.2.2.1:Int):=oFa h0
   refine Vx (Vq ?_)
   refine Vr hG rfl ?_ ?_
   · exact(show List.length acc+1≤maxApp from by unfold maxApp;omega)
   refine Vq (Vm hG rfl (Vb ?_))
   refine Vc.loopF [(5,false,.own (.pure (.int .i64))),(43,false,.pure (.int .i64))] [0,1,3,4,7,8,19,20,21,22,26,41,42] (fun v=>gsInv (stmpG a1) (renMid a1) a1.2.2.2.2 v.1 v.2.1) (fun v=>((List.length a1.2.2.2.2:Int)-v.2.1).toNat) rfl ?_ ?_
   · exact gsStart2 (renMidEq hI0 hl0)
   rintro⟨acc2,(i:Int),_⟩ hI1
   have hI1:gsInv (stmpG a1) (renMid a1) a1.2.2.2.2 acc2 i:=hI1
   have hA2:List.length acc2≤8388613:=gsLen (c:=6) (m:=1048576) hI1 (fun _=>Nat.le_refl _) h4 (by have:=midLen h3;omega)
   refine Vm hG rfl (Vq ?_)
   refine Vk rfl ?_ ?_<;>intro h2
   · have hl1:i<(List.length a1.2.2.2.2:Int):=oTr h2
     refine Vs (Vq (Vb (Vq ?_)))
     refine Vr hG rfl ?_ ?_
     · exact gsRange hI1 hl1
     refine VrD mixed hG rfl (by kernel_rfl) ?_ ?_
     · exact⟨trivial,(show List.length acc2+5≤maxApp from by unfold maxApp;omega),(by show List.length (acc2++stampIntsF (List.getD a1.2.2.2.2 i.toNat (dflt TStamp)))+1≤maxApp;rw[List.length_append];show List.length acc2+5+1≤maxApp;unfold maxApp;omega)⟩
     refine Vn hG rfl ?_
     refine⟨rfl,?_⟩
     exact gsStep hI1 hl1 hb1 stmpEq
   · have hl1:¬i<(List.length a1.2.2.2.2:Int):=oFa h2
     refine Vx (Vq ?_)
     refine Vr hG rfl ?_ ?_
     · exact(show List.length acc2≤1000000000 from by omega)
     refine Vt ?_
     refine⟨?_,trivial⟩
     have e:=congrArg (digestF a0) (gsEnd hI1 hl1)
     exact e
noncomputable def F375:Fun:=⟨[.int .i64,.slice Y19],[.pure (.int .i64)],fun x=>(fun(_:Int) (l:List Piece)=>Sm big20 (.slice TPiece) l) x.1 x.2.1,fun x=>(piecesF x.1 x.2.1,())⟩
theorem F375_ok:Meets Tryz.prog 375 F375:=by
 refine mZ (C:=mkC 32 [4] [0,1,4,5,7,9,10,11,12] [⟨165,_,F165_ok⟩]) (mO _ _ _ _) (fO _) Tryz.func375 rfl rfl rfl (by decide) rfl ?_
 rintro⟨(a0:Int),a1,_⟩ hwf hpre ⟨⟩ hG rfl rfl
 show Vc _ _ [(0,⟨0,0,.c (.pure (.int .i64)) a0⟩),(1,⟨0,0,.c Z26 a1⟩)] _
 have hp:List.length a1≤big20∧∀ x∈a1,Sm big20 TPiece x:=hpre
 have hL:List.length a1≤1048576:=hp.1
 have hb:List.length a1≤bigLen:=hwf.2.1.1
 refine Vm hG rfl (Vm hG rfl (Vq (Vm hG rfl ?_)))
 refine Vb ?_
 refine Vc.loopF [(5,false,.own (.pure (.int .i64))),(11,false,.pure (.int .i64))] [0,1,4,9,10] (fun v=>gsInv (piecesG a0 a1) [2] a1 v.1 v.2.1) (fun v=>((List.length a1:Int)-v.2.1).toNat) rfl ?_ ?_
 · exact gsStart
 rintro⟨acc,(i:Int),_⟩ hI
 have hI:gsInv (piecesG a0 a1) [2] a1 acc i:=hI
 have hA:List.length acc≤1048577:=gsLen (c:=1) (m:=1048576) hI (fun _=>Nat.le_refl _) hL (by simp)
 refine Vm hG rfl (Vq ?_)
 refine Vk rfl ?_ ?_<;>intro h0
 · have hl:i<(List.length a1:Int):=oTr h0
   have hE:List.length (List.getD a1 i.toNat (dflt TPiece)).2.1≤1048576:=(hp.2 _ (upElem hI.1 hl)).2.1.1
   refine Vs (Vq (Vb (Vq ?_)))
   refine Vr hG rfl ?_ ?_
   · exact gsRange hI hl
   refine Vr hG rfl ?_ ?_
   · exact⟨(show 2+List.length (List.getD a1 i.toNat (dflt TPiece)).2.1≤maxApp from by unfold maxApp;omega),(show List.length (List.getD a1 i.toNat (dflt TPiece)).2.1+2≤1000000000 from by omega),(show List.length acc+1≤maxApp from by unfold maxApp;omega)⟩
   refine Vn hG rfl ?_
   refine⟨rfl,?_⟩
   exact gsStep hI hl hb rfl
 · have hl:¬i<(List.length a1:Int):=oFa h0
   refine Vx (Vq ?_)
   refine Vr hG rfl ?_ ?_
   · exact(show List.length acc≤1000000000 from by omega)
   refine Vt ?_
   refine⟨?_,trivial⟩
   have e:=congrArg (digestF a0) (gsEnd hI hl)
   exact e
noncomputable def F368:Fun:=⟨[.int .i64,.int .i64,.slice Y19,.int .i64],[.pure (.int .i64)],fun x=>(fun(_ _:Int) (l:List Piece) (_:Int)=>Sm big20 (.slice TPiece) l) x.1 x.2.1 x.2.2.1 x.2.2.2.1,fun x=>(leafOfF x.1 x.2.1 x.2.2.1 x.2.2.2.1,())⟩
theorem F368_ok:Meets Tryz.prog 368 F368:=by
 refine mZ (C:=mkC 17 [8] [0,1,2,3,8] [⟨375,_,F375_ok⟩,⟨165,_,F165_ok⟩]) (mO _ _ _ _) (fO _) Tryz.func368 rfl rfl rfl (by decide) rfl ?_
 rintro⟨(a0:Int),(a1:Int),a2,(a3:Int),_⟩ hwf hpre ⟨⟩ hG rfl rfl
 show Vc _ _ [(0,⟨0,0,.c (.pure (.int .i64)) a0⟩),(1,⟨0,0,.c (.pure (.int .i64)) a1⟩),(2,⟨0,0,.c Z26 a2⟩),(3,⟨0,0,.c (.pure (.int .i64)) a3⟩)] _
 have hp:Sm big20 (.slice TPiece) a2:=hpre
 refine Vm hG rfl (Vq ?_)
 refine Vr hG rfl ?_ ?_
 · exact⟨hp,smallLit (n:=4) rfl (by decide)⟩
 refine Vt ?_
 refine⟨?_,trivial⟩
 all_goals exact rfl
noncomputable def F356:Fun:=⟨[.pair Y23 Y59,.slice (.int .i64),.int .i64],[.pure (.int .i64)],fun x=>(fun(s:Strand) (_:List Int) (_:Int)=>Sm big20 (.slice TPiece) s.1∧∀ r∈s.2,Sm big20 TRen r) x.1 x.2.1 x.2.2.1,fun x=>(leafAtF x.1 x.2.1 x.2.2.1,())⟩
theorem F356_ok:Meets Tryz.prog 356 F356:=by
 refine mZ (C:=mkC 66 [6] [0,1,2,3,6,7,8,36,43] [⟨72,_,F72_ok⟩,⟨367,_,F367_ok⟩,⟨368,_,F368_ok⟩]) (mO _ _ _ _) (fO _) Tryz.func356 rfl rfl rfl (by decide) rfl ?_
 rintro⟨a0,a1,(a2:Int),_⟩ hwf hpre ⟨⟩ hG rfl rfl
 show Vc _ _ [(0,⟨0,0,.c Z65 a0⟩),(1,⟨0,0,.c Z2 a1⟩),(2,⟨0,0,.c (.pure (.int .i64)) a2⟩)] _
 have hP:Sm big20 (.slice TPiece) a0.1:=hpre.1
 have hR:∀ r∈a0.2,Sm big20 TRen r:=hpre.2
 have hb:List.length a0.2≤bigLen:=hwf.1.2.1
 refine Vm hG rfl (Vq (Vq ?_))
 refine VrD mixed hG rfl (by kernel_rfl) ?_ ?_
 · exact⟨trivial,fun h=>laIdx (orF h).1 hb,fun _=>trivial⟩
 refine Vk rfl ?_ ?_<;>intro h0
 · have g0:leafAtBad a0 a1 a2=true:=h0
   refine Vm hG rfl (Vt ?_)
   refine⟨?_,trivial⟩
   exact la0 g0
 · have g0:leafAtBad a0 a1 a2=false:=h0
   have k1:=laIdx (orF (orF g0).1).1 hb
   have k2:(List.length a1:Int)=(List.length a0.2:Int):=bneI (orF (orF g0).1).2
   have k3:=rg (orF g0).2
   have k4:inRange a2 (List.length a1):=⟨k1.1,by have:=k1.2;omega⟩
   refine Vs (Vq ?_)
   refine Vr hG rfl ?_ ?_
   · exact k1
   refine Vm hG rfl (Vq (Vm hG rfl ?_))
   refine Vk rfl ?_ ?_<;>intro h1
   · have g1:a2>0:=oTr h1
     refine VrD mixed hG rfl (by kernel_rfl) ?_ ?_
     · exact⟨prevIdx k1 g1 hb,hR _ (getD_mem (prevIdx k1 g1 hb) (dflt TRen))⟩
     refine Vq ?_
     refine VrD mixed hG rfl (by kernel_rfl) ?_ ?_
     · exact⟨k4,Int.le_refl _,k3.1,k3.2,subL_sm hP⟩
     refine Vt ?_
     refine⟨?_,trivial⟩
     exact la1 g0 g1
   · have g1:¬a2>0:=oFa h1
     refine Vs (Vq ?_)
     refine VrD mixed hG rfl (by kernel_rfl) ?_ ?_
     · exact⟨k4,Int.le_refl _,k3.1,k3.2,subL_sm hP⟩
     refine Vt ?_
     refine⟨?_,trivial⟩
     exact la2 g0 g1
noncomputable def F374:Fun:=⟨[.int .i64,.int .i64,.int .i64],[.pure (.int .i64)],fun _=>True,fun x=>(pairDF x.1 x.2.1 x.2.2.1,())⟩
theorem F374_ok:Meets Tryz.prog 374 F374:=by
 refine mZ (C:=mkC 12 [6] [0,1,2,6] [⟨165,_,F165_ok⟩]) (mO _ _ _ _) (fO _) Tryz.func374 rfl rfl rfl (by decide) rfl ?_
 rintro⟨(a0:Int),(a1:Int),(a2:Int),_⟩ hwf hpre ⟨⟩ hG rfl rfl
 show Vc _ _ [(0,⟨0,0,.c (.pure (.int .i64)) a0⟩),(1,⟨0,0,.c (.pure (.int .i64)) a1⟩),(2,⟨0,0,.c (.pure (.int .i64)) a2⟩)] _
 refine Vm hG rfl (Vq ?_)
 refine Vr hG rfl ?_ ?_
 · exact smallLit (n:=3) rfl (by decide)
 refine Vt ?_
 refine⟨?_,trivial⟩
 all_goals exact rfl
noncomputable def F366:Fun:=⟨[.int .i64,.int .i64,.slice Y1],[.pure (.int .i64)],fun _=>True,fun x=>(followF x.1 x.2.1 x.2.2.1,())⟩
theorem F366_ok:Meets Tryz.prog 366 F366:=by
 refine mZ (C:=mkC 29 [6] [0,1,2,6,8,9,10,11,12,16] [⟨374,_,F374_ok⟩]) (mO _ _ _ _) (fO _) Tryz.func366 rfl rfl rfl (by decide) rfl ?_
 rintro⟨(a0:Int),(a1:Int),a2,_⟩ hwf hpre ⟨⟩ hG rfl rfl
 show Vc _ _ [(0,⟨0,0,.c (.pure (.int .i64)) a0⟩),(1,⟨0,0,.c (.pure (.int .i64)) a1⟩),(2,⟨0,0,.c Z12 a2⟩)] _
 have hb:List.length a2≤bigLen:=hwf.2.2.1.1
 refine Vm hG rfl (Vq (Vm hG rfl (Vb ?_)))
 refine Vc.loopF [(1,false,.pure (.int .i64)),(11,false,.pure (.int .i64))] [0,2,6,9,10] (fun v=>foInv (flStep a0) a1 a2 v.1 v.2.1) (fun v=>((List.length a2:Int)-v.2.1).toNat) rfl ?_ ?_
 · exact foStart
 rintro⟨(acc:Int),(i:Int),_⟩ hI
 have hI:foInv (flStep a0) a1 a2 acc i:=hI
 refine Vm hG rfl (Vq ?_)
 refine Vk rfl ?_ ?_<;>intro h0
 · have hl:i<(List.length a2:Int):=oTr h0
   refine Vs (Vq (Vb (Vq ?_)))
   refine Vr hG rfl ?_ ?_
   · exact foRange hI hl
   refine Vm hG rfl ?_
   refine Vk rfl ?_ ?_<;>intro h1
   · have g1:(List.getD a2 i.toNat (dflt (.pair TI .bool))).2=true:=h1
     have st:=foStepE (d:=dflt (.pair TI .bool)) hI hl hb (flL (m:=a0) (x:=acc) g1).symm
     refine Vn hG rfl (Vn hG rfl ?_)
     refine⟨rfl,?_⟩
     exact st
   · have g1:(List.getD a2 i.toNat (dflt (.pair TI .bool))).2=false:=h1
     have st:=foStepE (d:=dflt (.pair TI .bool)) hI hl hb (flR (m:=a0) (x:=acc) g1).symm
     refine Vn hG rfl (Vn hG rfl ?_)
     refine⟨rfl,?_⟩
     exact st
 · have hl:¬i<(List.length a2:Int):=oFa h0
   refine Vx (Vm hG rfl (Vt ?_))
   refine⟨?_,trivial⟩
   exact foEnd hI hl
noncomputable def F223:Fun:=⟨[.slice Y32],[.pure (.bool)],fun _=>True,fun x=>(riseF x.1,())⟩
theorem F223_ok:Meets Tryz.prog 223 F223:=by
 refine mZ (C:=mkC 22 [2] [0,2,3,7,21] []) (mO _ _ _ _) (fO _) Tryz.func223 rfl rfl rfl (by decide) rfl ?_
 rintro⟨a0,_⟩ hwf hpre ⟨⟩ hG rfl rfl
 show Vc _ _ [(0,⟨0,0,.c Z36 a0⟩)] _
 have hb:List.length a0≤bigLen:=hwf.1.1
 refine Vm hG rfl (Vq (Vm hG rfl (Vb ?_)))
 refine Vc.loopF [(3,false,.pure (.int .i64))] [0] (fun v=>riInv a0 v.1) (fun v=>((List.length a0:Int)-v.1).toNat) rfl ?_ ?_
 · exact riStart
 rintro⟨(i:Int),_⟩ hI
 have hI:riInv a0 i:=hI
 refine Vq (Vm hG rfl ?_)
 refine Vk rfl ?_ ?_<;>intro h0
 · have hl:i<(List.length a0:Int):=oTr h0
   refine Vs (Vq (Vb (Vq ?_)))
   refine VrD mixed hG rfl (by kernel_rfl) ?_ ?_
   · exact⟨riPrev hI hl hb,riRange hI hl⟩
   refine Vk rfl ?_ ?_<;>intro h1
   · have g1:=riseBad hI.1 hl hb h1
     refine Vm hG rfl (Vt ?_)
     refine⟨?_,trivial⟩
     exact riBad hI hl g1
   · have g1:=riseGood hI.1 hl hb h1
     refine Vs (Vn hG rfl ?_)
     refine⟨rfl,?_⟩
     exact riStep hI hl hb g1
 · have hl:¬i<(List.length a0:Int):=oFa h0
   refine Vx (Vm hG rfl (Vt ?_))
   refine⟨?_,trivial⟩
   exact riEnd hI hl
end Fw
