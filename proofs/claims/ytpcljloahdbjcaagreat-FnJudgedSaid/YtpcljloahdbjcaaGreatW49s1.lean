/- Walks of functions of the program: what each computes. Conditions: those that each contract names. -/
import Derived.Test.YtpcljloahdbjcaaGreatW49T
import Derived.Test.YtpcljloahdbjcaaGreatW49s0
namespace Fw
open Go Go.Proofs
set_option linter.unusedSimpArgs false
set_option maxRecDepth 100000
noncomputable def F311:Fun:=⟨[.pair Y26 Y59,.pair (.int .i64) Y10],[.pure (.int .i64)],fun _=>True,fun x=>((fun a0 a1=>findI (fun x=>eqC x a1) a0.1) x.1 x.2.1,())⟩
theorem F311_ok:Meets Tryz.prog 311 F311:=by
 refine mZ (C:=mkC 21 [4] [0,1,2,3,4,5,10,19] [⟨303,_,F303_ok⟩]) (mO _ _ _ _) (fO _) Tryz.func311 rfl rfl rfl (by decide) rfl ?_
 rintro⟨a0,a1,_⟩ hwf hpre ⟨⟩ hG rfl rfl
 show Vc _ _ [(0,⟨0,0,.c Z64 a0⟩),(1,⟨0,0,.c Z25 a1⟩)] _
 have hb:List.length a0.1≤bigLen:=hwf.1.1.1
 refine Vm hG rfl (Vq (Vm hG rfl (Vb ?_)))
 refine Vc.loopF [(5,false,.pure (.int .i64))] [0,1,2,3] (fun v=>fInv (fun x=>eqC x a1) a0.1 v.1) (fun v=>((List.length a0.1:Int)-v.1).toNat) rfl ?_ ?_
 · exact fStart
 rintro⟨(i:Int),_⟩ hI
 have hI:fInv (fun x=>eqC x a1) a0.1 i:=hI
 refine Vq (Vm hG rfl ?_)
 refine Vk rfl ?_ ?_<;>intro h0
 · have hl:i<(List.length a0.1:Int):=oTr h0
   refine Vs (Vq (Vb (Vq ?_)))
   refine VrD mixed hG rfl (by kernel_rfl) ?_ ?_
   · exact⟨fRange hI hl,trivial⟩
   refine Vk rfl ?_ ?_<;>intro h1
   · have g1:(fun x=>eqC x a1) (List.getD a0.1 i.toNat (dflt Y20))=true:=h1
     refine Vm hG rfl (Vt ?_)
     refine⟨?_,trivial⟩
     exact fHit hI hl g1
   · have g1:(fun x=>eqC x a1) (List.getD a0.1 i.toNat (dflt Y20))=false:=h1
     refine Vs (Vn hG rfl ?_)
     refine⟨rfl,?_⟩
     exact fStep hI hl hb g1
 · have hl:¬i<(List.length a0.1:Int):=oFa h0
   refine Vx (Vm hG rfl (Vt ?_))
   refine⟨?_,trivial⟩
   exact fEnd hI hl
noncomputable def F249:Fun:=⟨[.pair Y26 Y59],[.pure (.bool)],fun _=>True,fun x=>(strandF x.1,())⟩
theorem F249_ok:Meets Tryz.prog 249 F249:=by
 refine mZ (C:=mkC 69 [2] [0,1,2,3,4,9,20,25,58] [⟨311,_,F311_ok⟩,⟨232,_,F232_ok⟩]) (mO _ _ _ _) (fO _) Tryz.func249 rfl rfl rfl (by decide) rfl ?_
 rintro⟨a0,_⟩ hwf hpre ⟨⟩ hG rfl rfl
 show Vc _ _ [(0,⟨0,0,.c Z64 a0⟩)] _
 have hb0:List.length a0.1≤bigLen:=hwf.1.1.1
 have hb1:List.length a0.2≤bigLen:=hwf.1.2.1
 refine Vm hG rfl (Vq (Vm hG rfl (Vb ?_)))
 refine Vc.loopF [(3,false,.pure (.int .i64))] [0,1,4,25,58] (fun v=>kInv (fun k=>newP a0 k) a0.1 v.1) (fun v=>((List.length a0.1:Int)-v.1).toNat) rfl ?_ ?_
 · exact kStart
 rintro⟨(i:Int),_⟩ hI0
 have hI0:kInv (fun k=>newP a0 k) a0.1 i:=hI0
 refine Vq (Vm hG rfl ?_)
 refine Vk rfl ?_ ?_<;>intro h0
 · have hl0:i<(List.length a0.1:Int):=oTr h0
   refine Vs (Vq (Vb (Vq ?_)))
   refine VrD mixed hG rfl (by kernel_rfl) ?_ ?_
   · exact⟨kRange hI0 hl0,trivial⟩
   refine Vk rfl ?_ ?_<;>intro h1
   · have g1:¬newP a0 i.toNat:=newBad hI0 hl0 (oTr h1)
     refine Vm hG rfl (Vt ?_)
     refine⟨?_,trivial⟩
     refine boolC_no (P:=strandP a0) (fun h=>?_)
     exact g1 (h.2.2.1 i.toNat (kLt hI0 hl0))
   · have g1:newP a0 i.toNat:=newGood hI0 hl0 (oFa h1)
     refine Vs (Vn hG rfl ?_)
     refine⟨rfl,?_⟩
     exact kStep hI0 hl0 hb0 g1
 · have hl0:¬i<(List.length a0.1:Int):=oFa h0
   refine Vx (Vq (Vm hG rfl (Vb ?_)))
   refine Vc.loopF [(4,false,.pure (.int .i64))] [0,1,3,9,20] (fun v=>kInv (fun k=>renP a0 k) a0.2 v.1) (fun v=>((List.length a0.2:Int)-v.1).toNat) rfl ?_ ?_
   · exact kStart
   rintro⟨(i:Int),_⟩ hI1
   have hI1:kInv (fun k=>renP a0 k) a0.2 i:=hI1
   refine Vq (Vm hG rfl ?_)
   refine Vk rfl ?_ ?_<;>intro h2
   · have hl1:i<(List.length a0.2:Int):=oTr h2
     refine Vs (Vq (Vb (Vq ?_)))
     refine VrD mixed hG rfl (by kernel_rfl) ?_ ?_
     · exact⟨kRange hI1 hl1,trivial,fun h2=>backRange hI1 hl1 hb1 (oTr h2),fun _=>kRange hI1 hl1⟩
     refine Vk rfl ?_ ?_<;>intro h3
     · have g3:renBadF a0 i=true:=h3
       refine Vm hG rfl (Vt ?_)
       refine⟨?_,trivial⟩
       refine boolC_no (P:=strandP a0) (fun h=>?_)
       exact renBad hI1 hl1 hb1 g3 (h.2.2.2 i.toNat (kLt hI1 hl1))
     · have g3:renBadF a0 i=false:=h3
       refine Vs (Vn hG rfl ?_)
       refine⟨rfl,?_⟩
       exact kStep hI1 hl1 hb1 (renGood hI1 hl1 hb1 g3)
   · have hl1:¬i<(List.length a0.2:Int):=oFa h2
     refine Vx (Vq ?_)
     refine Vr hG rfl ?_ ?_
     · repeat' (first | exact trivial | refine And.intro ?_ ?_ | intro _)
     refine Vt ?_
     refine⟨?_,trivial⟩
     refine boolC_by (P:=strandP a0) (fun e=>?_) (fun h=>?_)
     · exact⟨(andT e).1,oTr (andT e).2,kEnd hI0 hl0,kEnd hI1 hl1⟩
     · exact yesAnd h.1 (decide_eq_true h.2.1)
noncomputable def F162:Fun:=⟨[.pair Y26 Y59,.pair (.int .i64) Y10],[.pair Z34 Z61,.pure (.bool)],fun x=>(fun(s:Strand) (p:Piece)=>Sm big20 Y62 s∧Sm big20 Y20 p) x.1 x.2.1,fun x=>((addPieceF x.1 x.2.1).1,(addPieceF x.1 x.2.1).2,())⟩
theorem F162_ok:Meets Tryz.prog 162 F162:=by
 refine mZ (C:=mkC 22 [4,5] [0,1,2,3,4,5,6,18] [⟨160,_,F160_ok⟩,⟨248,_,F248_ok⟩,⟨249,_,F249_ok⟩]) (mO _ _ _ _) (fO _) Tryz.func162 rfl rfl rfl (by decide) rfl ?_
 rintro⟨a0,a1,_⟩ hwf hpre ⟨⟩ hG rfl rfl
 show Vc _ _ [(0,⟨0,0,.c Z64 a0⟩),(1,⟨0,0,.c Z25 a1⟩)] _
 have hp1:Sm big20 Y62 a0:=hpre.1
 have hp2:Sm big20 Y20 a1:=hpre.2
 refine Vm hG rfl (Vq ?_)
 refine Vr hG rfl ?_ ?_
 · exact hp1
 refine Vq ?_
 refine VrD mixed hG rfl (by kernel_rfl) ?_ ?_
 · exact⟨hp2,apLen hp1.1.1⟩
 refine Vq (Vm hG rfl ?_)
 refine Vk rfl ?_ ?_<;>intro h0
 · have g0:(!(strandF (a0.1++[a1],a0.2)))=true:=h0
   refine Vq ?_
   refine Vr hG rfl ?_ ?_
   · exact hp1
   refine Vt ?_
   have e:=ap0 g0
   refine⟨?_,?_,trivial⟩
   · exact(congrArg Prod.fst e).symm
   · exact(congrArg Prod.snd e).symm
 · have g0:(!(strandF (a0.1++[a1],a0.2)))=false:=h0
   refine Vs (Vm hG rfl (Vt ?_))
   have e:=ap1 g0
   refine⟨?_,?_,trivial⟩
   · exact(congrArg Prod.fst e).symm
   · exact(congrArg Prod.snd e).symm
noncomputable def F162o:Fun:=⟨[.pair Y26 Y59,.pair (.int .i64) Y10],[.pure Y62,.pure (.bool)],fun x=>(fun(s:Strand) (p:Piece)=>Sm big20 Y62 s∧Sm big20 Y20 p) x.1 x.2.1,fun x=>((addPieceF x.1 x.2.1).1,(addPieceF x.1 x.2.1).2,())⟩
theorem F162o_ok:Meets Tryz.prog 162 F162o:=by
 refine mZ (C:=mkC 22 [4,5] [0,1,2,3,4,5,6,18] [⟨160,_,F160_ok⟩,⟨248,_,F248_ok⟩,⟨249,_,F249_ok⟩]) (mO _ _ _ _) (fO _) Tryz.func162 rfl rfl rfl (by decide) rfl ?_
 rintro⟨a0,a1,_⟩ hwf hpre ⟨⟩ hG rfl rfl
 show Vc _ _ [(0,⟨0,0,.c Z64 a0⟩),(1,⟨0,0,.c Z25 a1⟩)] _
 have hp1:Sm big20 Y62 a0:=hpre.1
 have hp2:Sm big20 Y20 a1:=hpre.2
 refine Vm hG rfl (Vq ?_)
 refine Vr hG rfl ?_ ?_
 · exact hp1
 refine Vq ?_
 refine VrD mixed hG rfl (by kernel_rfl) ?_ ?_
 · exact⟨hp2,apLen hp1.1.1⟩
 refine Vq (Vm hG rfl ?_)
 refine Vk rfl ?_ ?_<;>intro h0
 · have g0:(!(strandF (a0.1++[a1],a0.2)))=true:=h0
   refine Vq ?_
   refine Vr hG rfl ?_ ?_
   · exact hp1
   refine Vc.frz 4 rfl ?_
   refine Vt ?_
   have e:=ap0 g0
   refine⟨?_,?_,trivial⟩
   · exact(congrArg Prod.fst e).symm
   · exact(congrArg Prod.snd e).symm
 · have g0:(!(strandF (a0.1++[a1],a0.2)))=false:=h0
   refine Vs (Vm hG rfl ?_)
   refine Vc.frz 4 rfl ?_
   refine Vt ?_
   have e:=ap1 g0
   refine⟨?_,?_,trivial⟩
   · exact(congrArg Prod.fst e).symm
   · exact(congrArg Prod.snd e).symm
noncomputable def P273:PFun:=⟨.pure Y18,[],[.pure Y35],fun x _=>curOk x,fun x _=>(statD x).2,fun x _=>((statD x).1,())⟩
theorem P273_ok:MeetsP Tryz.prog 273 P273:=by
 refine meetsP_of_vc (C:=mkCP 29 [2] [0,2,3,4,16] [⟨76,_,F76_ok⟩,⟨161,_,F161_ok⟩] [] [] [⟨74,_,P74_ok⟩,⟨79,_,P79_ok⟩] [0]) (mkCP_ok _ _ _ _ _ _ _ _) (fO _) Tryz.func273 rfl rfl rfl (by decide) rfl rfl rfl ?_ rfl
 rintro c ⟨_⟩ hwc hwf hpre ⟨⟩ hG rfl rfl
 show Vc _ _ [(0,⟨0,0,.c (.ref Z23) c⟩)] _
 refine Vm hG rfl (Vq ?_)
 refine Vr hG rfl ?_ ?_
 · repeat' (first | exact trivial | exact hpre | exact below_ok hpre | exact below_ok (below_ok hpre) | exact below_ok (below_ok (below_ok hpre)) | exact dst4_ok hpre | refine And.intro ?_ ?_ | intro _)
 refine Vq ?_
 refine Vr hG rfl ?_ ?_
 · repeat' (first | exact trivial | exact hpre | exact below_ok hpre | exact below_ok (below_ok hpre) | exact below_ok (below_ok (below_ok hpre)) | exact dst4_ok hpre | refine And.intro ?_ ?_ | intro _)
 refine Vq (Vq ?_)
 refine Vr hG rfl ?_ ?_
 · repeat' (first | exact trivial | exact hpre | exact below_ok hpre | exact below_ok (below_ok hpre) | exact below_ok (below_ok (below_ok hpre)) | exact dst4_ok hpre | refine And.intro ?_ ?_ | intro _)
 refine Vk rfl ?_ ?_<;>intro h0
 · refine Vr hG rfl ?_ ?_
   · repeat' (first | exact trivial | exact hpre | exact below_ok hpre | exact below_ok (below_ok hpre) | exact below_ok (below_ok (below_ok hpre)) | exact dst4_ok hpre | refine And.intro ?_ ?_ | intro _)
   refine Vq ?_
   refine VrD mixed hG rfl (by kernel_rfl) ?_ ?_
   · repeat' (first | exact trivial | exact hpre | exact below_ok hpre | exact below_ok (below_ok hpre) | exact below_ok (below_ok (below_ok hpre)) | exact dst4_ok hpre | refine And.intro ?_ ?_ | intro _)
   refine Vm hG rfl (Vt ?_)
   have e:statD c=_:=(cT h0)
   refine⟨⟨?_,trivial⟩,?_,trivial⟩
   · exact(congrArg Prod.snd e).symm
   · exact(congrArg (fun r=>r.1) e).symm
 · refine Vs (Vq ?_)
   refine VrD mixed hG rfl (by kernel_rfl) ?_ ?_
   · repeat' (first | exact trivial | exact hpre | exact below_ok hpre | exact below_ok (below_ok hpre) | exact below_ok (below_ok (below_ok hpre)) | exact dst4_ok hpre | refine And.intro ?_ ?_ | intro _)
   refine Vm hG rfl (Vt ?_)
   have e:statD c=_:=(cF h0)
   refine⟨⟨?_,trivial⟩,?_,trivial⟩
   · exact(congrArg Prod.snd e).symm
   · exact(congrArg (fun r=>r.1) e).symm
noncomputable def F228:Fun:=⟨[.slice Y15,.int .i64],[.pure (.int .i64)],fun _=>True,fun x=>((fun a0 a1=>findI (fun x=>x.1==a1) a0) x.1 x.2.1,())⟩
theorem F228_ok:Meets Tryz.prog 228 F228:=by
 refine mZ (C:=mkC 20 [4] [0,1,4,5,9,18] []) (mO _ _ _ _) (fO _) Tryz.func228 rfl rfl rfl (by decide) rfl ?_
 rintro⟨a0,(a1:Int),_⟩ hwf hpre ⟨⟩ hG rfl rfl
 show Vc _ _ [(0,⟨0,0,.c Z24 a0⟩),(1,⟨0,0,.c (.pure (.int .i64)) a1⟩)] _
 have hb:List.length a0≤bigLen:=hwf.1.1
 refine Vm hG rfl (Vq (Vm hG rfl (Vb ?_)))
 refine Vc.loopF [(5,false,.pure (.int .i64))] [0,1] (fun v=>fInv (fun x=>x.1==a1) a0 v.1) (fun v=>((List.length a0:Int)-v.1).toNat) rfl ?_ ?_
 · exact fStart
 rintro⟨(i:Int),_⟩ hI
 have hI:fInv (fun x=>x.1==a1) a0 i:=hI
 refine Vq (Vm hG rfl ?_)
 refine Vk rfl ?_ ?_<;>intro h0
 · have hl:i<(List.length a0:Int):=oTr h0
   refine Vs (Vq (Vb (Vq ?_)))
   refine Vr hG rfl ?_ ?_
   · exact fRange hI hl
   refine Vk rfl ?_ ?_<;>intro h1
   · have g1:(fun x=>x.1==a1) (List.getD a0 i.toNat (dflt Y15))=true:=h1
     refine Vm hG rfl (Vt ?_)
     refine⟨?_,trivial⟩
     exact fHit hI hl g1
   · have g1:(fun x=>x.1==a1) (List.getD a0 i.toNat (dflt Y15))=false:=h1
     refine Vs (Vn hG rfl ?_)
     refine⟨rfl,?_⟩
     exact fStep hI hl hb g1
 · have hl:¬i<(List.length a0:Int):=oFa h0
   refine Vx (Vm hG rfl (Vt ?_))
   refine⟨?_,trivial⟩
   exact fEnd hI hl
noncomputable def F231:Fun:=⟨[.pair (.int .i64) Y27],[.own (.pure (.int .i64))],fun _=>True,fun x=>(stampIntsF x.1,())⟩
theorem F231_ok:Meets Tryz.prog 231 F231:=by
 refine mZ (C:=mkC 12 [2] [0,1,2] []) (mO _ _ _ _) (fO _) Tryz.func231 rfl rfl rfl (by decide) rfl ?_
 rintro⟨a0,_⟩ hwf hpre ⟨⟩ hG rfl rfl
 show Vc _ _ [(0,⟨0,0,.c Z36 a0⟩)] _
 refine Vm hG rfl (Vm hG rfl (Vt ?_))
 refine⟨?_,trivial⟩
 all_goals exact rfl
noncomputable def F149:Fun:=⟨[.slice Y35,.slice Y15,.pair (.int .i64) Y27],[.pure Y35,.pure (.bool)],fun _=>True,fun x=>((makeStampF x.1 x.2.1 x.2.2.1).1,(makeStampF x.1 x.2.1 x.2.2.1).2,())⟩
theorem F149_ok:Meets Tryz.prog 149 F149:=by
 refine mZ (C:=mkC 47 [6,7] [0,1,2,5,6,7,8,9,26,36] [⟨228,_,F228_ok⟩,⟨229,_,F229_ok⟩,⟨209,_,F209_ok⟩,⟨231,_,F231_ok⟩,⟨230,_,F230_ok⟩]) (mO _ _ _ _) (fO _) Tryz.func149 rfl rfl rfl (by decide) rfl ?_
 rintro⟨a0,a1,a2,_⟩ hwf hpre ⟨⟩ hG rfl rfl
 show Vc _ _ [(0,⟨0,0,.c Z39 a0⟩),(1,⟨0,0,.c Z24 a1⟩),(2,⟨0,0,.c Z36 a2⟩)] _
 refine Vm hG rfl (Vm hG rfl (Vq (Vq ?_)))
 refine Vr hG rfl ?_ ?_
 · intro _;exact trivial
 refine Vk rfl ?_ ?_<;>intro h0
 · have g0:stampBad a1 a2=true:=h0
   refine Vm hG rfl (Vt ?_)
   have e:=ms_1 (keys:=a0) g0
   refine⟨?_,?_,trivial⟩
   · exact(congrArg Prod.fst e).symm
   · exact(congrArg Prod.snd e).symm
 · have g0:stampBad a1 a2=false:=h0
   refine Vs (Vq ?_)
   refine Vr hG rfl ?_ ?_
   · exact⟨bad_idx g0,trivial⟩
   refine Vq (Vm hG rfl ?_)
   refine Vk rfl ?_ ?_<;>intro h1
   · have g1:keyI a0 (authAt a1 a2.1).2.1<0:=oTr h1
     refine Vm hG rfl (Vt ?_)
     have e:=ms_2 (keys:=a0) g0 g1
     refine⟨?_,?_,trivial⟩
     · exact(congrArg Prod.fst e).symm
     · exact(congrArg Prod.snd e).symm
   · have g1:¬keyI a0 (authAt a1 a2.1).2.1<0:=oFa h1
     refine Vs (Vq ?_)
     refine VrD mixed hG rfl (by kernel_rfl) ?_ ?_
     · exact⟨findRange g1,trivial,smallLit (n:=5) rfl (by decide)⟩
     refine Vm hG rfl (Vt ?_)
     have e:=ms_3 (keys:=a0) g0 g1
     refine⟨?_,?_,trivial⟩
     · exact(congrArg Prod.fst e).symm
     · exact(congrArg Prod.snd e).symm
noncomputable def P259:PFun:=⟨.pure Y18,[],[.pure Y35],fun x _=>curOk x,fun x _=>(stampD x).2,fun x _=>((stampD x).1,())⟩
theorem P259_ok:MeetsP Tryz.prog 259 P259:=by
 refine meetsP_of_vc (C:=mkCP 22 [2] [0,2,3] [⟨76,_,F76_ok⟩,⟨77,_,F77_ok⟩,⟨149,_,F149_ok⟩] [] [] [⟨74,_,P74_ok⟩] [0]) (mkCP_ok _ _ _ _ _ _ _ _) (fO _) Tryz.func259 rfl rfl rfl (by decide) rfl rfl rfl ?_ rfl
 rintro c ⟨_⟩ hwc hwf hpre ⟨⟩ hG rfl rfl
 show Vc _ _ [(0,⟨0,0,.c (.ref Z23) c⟩)] _
 refine Vm hG rfl (Vq ?_)
 refine Vr hG rfl ?_ ?_
 · repeat' (first | exact trivial | exact hpre | exact below_ok hpre | exact below_ok (below_ok hpre) | exact below_ok (below_ok (below_ok hpre)) | refine And.intro ?_ ?_ | intro _)
 refine Vm hG rfl (Vt ?_)
 refine⟨⟨?_,trivial⟩,?_,trivial⟩
 all_goals exact rfl
noncomputable def F274:Fun:=⟨[.slice Y15,.pair (.int .i64) Y27],[.pure (.int .i64)],fun _=>True,fun x=>(stampKeyF x.1 x.2.1,())⟩
theorem F274_ok:Meets Tryz.prog 274 F274:=by
 refine mZ (C:=mkC 17 [4] [0,1,3,4,5,11] [⟨228,_,F228_ok⟩]) (mO _ _ _ _) (fO _) Tryz.func274 rfl rfl rfl (by decide) rfl ?_
 rintro⟨a0,a1,_⟩ hwf hpre ⟨⟩ hG rfl rfl
 show Vc _ _ [(0,⟨0,0,.c Z24 a0⟩),(1,⟨0,0,.c Z36 a1⟩)] _
 refine Vm hG rfl (Vm hG rfl (Vq (Vm hG rfl ?_)))
 refine Vk rfl ?_ ?_<;>intro h0
 · have g0:authI a0 a1.1<0:=oTr h0
   refine Vm hG rfl (Vt ?_)
   refine⟨?_,trivial⟩
   exact stampKey0 g0
 · have g0:¬authI a0 a1.1<0:=oFa h0
   refine Vs (Vq ?_)
   refine Vr hG rfl ?_ ?_
   · exact findRange g0
   refine Vt ?_
   refine⟨?_,trivial⟩
   exact stampKey1 g0
noncomputable def F240:Fun:=⟨[.int .i64,.pair (.int .i64) Y27],[.pair (.pure (.int .i64)) Z16],fun _=>True,fun x=>(stampPieceF x.1 x.2.1,())⟩
theorem F240_ok:Meets Tryz.prog 240 F240:=by
 refine mZ (C:=mkC 11 [4] [0,1,3,4] [⟨231,_,F231_ok⟩]) (mO _ _ _ _) (fO _) Tryz.func240 rfl rfl rfl (by decide) rfl ?_
 rintro⟨(a0:Int),a1,_⟩ hwf hpre ⟨⟩ hG rfl rfl
 show Vc _ _ [(0,⟨0,0,.c (.pure (.int .i64)) a0⟩),(1,⟨0,0,.c Z36 a1⟩)] _
 refine Vm hG rfl (Vq (VrD mixed hG rfl (by kernel_rfl) (by trivial) (Vt ?_)))
 refine⟨?_,trivial⟩
 all_goals exact rfl
noncomputable def F309:Fun:=⟨[.pair (.int .i64) Y35],[.pure (.bool)],fun _=>True,fun x=>(isMandF x.1,())⟩
theorem F309_ok:Meets Tryz.prog 309 F309:=by
 refine mZ (C:=mkC 24 [2] [0,1,2] [⟨232,_,F232_ok⟩,⟨299,_,F299_ok⟩]) (mO _ _ _ _) (fO _) Tryz.func309 rfl rfl rfl (by decide) rfl ?_
 rintro⟨a0,_⟩ hwf hpre ⟨⟩ hG rfl rfl
 show Vc _ _ [(0,⟨0,0,.c Z43 a0⟩)] _
 refine Vm hG rfl (Vq ?_)
 refine Vr hG rfl ?_ ?_
 · repeat' (first | exact trivial | refine And.intro ?_ ?_ | intro _)
 refine Vt ?_
 refine⟨?_,trivial⟩
 all_goals exact rfl
noncomputable def F310:Fun:=⟨[.pair (.int .i64) Y35],[.own (.pure (.int .i64))],fun _=>True,fun x=>(mandIntsF x.1,())⟩
theorem F310_ok:Meets Tryz.prog 310 F310:=by
 refine mZ (C:=mkC 14 [2] [0,1,2] []) (mO _ _ _ _) (fO _) Tryz.func310 rfl rfl rfl (by decide) rfl ?_
 rintro⟨a0,_⟩ hwf hpre ⟨⟩ hG rfl rfl
 show Vc _ _ [(0,⟨0,0,.c Z43 a0⟩)] _
 refine Vm hG rfl (Vm hG rfl (Vt ?_))
 refine⟨?_,trivial⟩
 all_goals exact rfl
noncomputable def F241:Fun:=⟨[.slice Y35,.pair (.int .i64) Y35],[.pure Y41,.pure (.bool)],fun _=>True,fun x=>((makeMandF x.1 x.2.1).1,(makeMandF x.1 x.2.1).2,())⟩
theorem F241_ok:Meets Tryz.prog 241 F241:=by
 refine mZ (C:=mkC 28 [4,5] [0,1,3,4,5,6,17] [⟨209,_,F209_ok⟩,⟨309,_,F309_ok⟩,⟨310,_,F310_ok⟩,⟨230,_,F230_ok⟩]) (mO _ _ _ _) (fO _) Tryz.func241 rfl rfl rfl (by decide) rfl ?_
 rintro⟨a0,a1,_⟩ hwf hpre ⟨⟩ hG rfl rfl
 show Vc _ _ [(0,⟨0,0,.c Z39 a0⟩),(1,⟨0,0,.c Z43 a1⟩)] _
 refine Vm hG rfl (Vq ?_)
 refine Vr hG rfl ?_ ?_
 · repeat' (first | exact trivial | exact sgRange h0 | exact smallLit (n:=6) rfl (by decide) | refine And.intro ?_ ?_ | intro _)
 refine Vq (Vq ?_)
 refine Vr hG rfl ?_ ?_
 · repeat' (first | exact trivial | exact sgRange h0 | exact smallLit (n:=6) rfl (by decide) | refine And.intro ?_ ?_ | intro _)
 refine Vk rfl ?_ ?_<;>intro h0
 · refine Vm hG rfl (Vt ?_)
   have e:makeMandF a0 a1=_:=(cT h0)
   refine⟨?_,?_,trivial⟩
   · exact(congrArg (fun r=>r.1) e).symm
   · exact(congrArg (fun r=>r.2) e).symm
 · refine Vs (Vq ?_)
   refine VrD mixed hG rfl (by kernel_rfl) ?_ ?_
   · repeat' (first | exact trivial | exact sgRange h0 | exact smallLit (n:=6) rfl (by decide) | refine And.intro ?_ ?_ | intro _)
   refine Vm hG rfl (Vt ?_)
   have e:makeMandF a0 a1=_:=(cF h0)
   refine⟨?_,?_,trivial⟩
   · exact(congrArg (fun r=>r.1) e).symm
   · exact(congrArg (fun r=>r.2) e).symm
noncomputable def P276:PFun:=⟨.pure Y18,[],[.pure Y41],fun x _=>curOk x,fun x _=>(mandD x).2,fun x _=>((mandD x).1,())⟩
theorem P276_ok:MeetsP Tryz.prog 276 P276:=by
 refine meetsP_of_vc (C:=mkCP 23 [2] [0,2,3,4] [⟨76,_,F76_ok⟩,⟨241,_,F241_ok⟩] [] [] [⟨74,_,P74_ok⟩] [0]) (mkCP_ok _ _ _ _ _ _ _ _) (fO _) Tryz.func276 rfl rfl rfl (by decide) rfl rfl rfl ?_ rfl
 rintro c ⟨_⟩ hwc hwf hpre ⟨⟩ hG rfl rfl
 show Vc _ _ [(0,⟨0,0,.c (.ref Z23) c⟩)] _
 refine Vm hG rfl (Vq ?_)
 refine Vr hG rfl ?_ ?_
 · repeat' (first | exact trivial | exact hpre | exact below_ok hpre | exact below_ok (below_ok hpre) | exact below_ok (below_ok (below_ok hpre)) | refine And.intro ?_ ?_ | intro _)
 refine Vq ?_
 refine Vr hG rfl ?_ ?_
 · repeat' (first | exact trivial | exact hpre | exact below_ok hpre | exact below_ok (below_ok hpre) | exact below_ok (below_ok (below_ok hpre)) | refine And.intro ?_ ?_ | intro _)
 refine Vm hG rfl (Vt ?_)
 refine⟨⟨?_,trivial⟩,?_,trivial⟩
 all_goals exact rfl
noncomputable def F243:Fun:=⟨[.pair (.int .i64) Y35],[.pair (.pure (.int .i64)) Z16],fun _=>True,fun x=>(mandPieceF x.1,())⟩
theorem F243_ok:Meets Tryz.prog 243 F243:=by
 refine mZ (C:=mkC 10 [2] [0,1,2] [⟨310,_,F310_ok⟩]) (mO _ _ _ _) (fO _) Tryz.func243 rfl rfl rfl (by decide) rfl ?_
 rintro⟨a0,_⟩ hwf hpre ⟨⟩ hG rfl rfl
 show Vc _ _ [(0,⟨0,0,.c Z43 a0⟩)] _
 refine Vm hG rfl (Vq (VrD mixed hG rfl (by kernel_rfl) (by trivial) (Vt ?_)))
 refine⟨?_,trivial⟩
 all_goals exact rfl
noncomputable def P201:PFun:=⟨.pure Y18,[],[.pair (.pure (.int .i64)) Z16],fun x _=>curOk x,fun x _=>(pieceD x).2,fun x _=>((pieceD x).1,())⟩
theorem P201_ok:MeetsP Tryz.prog 201 P201:=by
 refine meetsP_of_vc (C:=mkCP 42 [2] [0,2,3,4,7,8,16,21,30] [⟨272,_,F272_ok⟩,⟨271,_,F271_ok⟩,⟨163,_,F163_ok⟩,⟨77,_,F77_ok⟩,⟨274,_,F274_ok⟩,⟨240,_,F240_ok⟩,⟨208,_,F208_ok⟩,⟨243,_,F243_ok⟩] [] [] [⟨74,_,P74_ok⟩,⟨273,_,P273_ok⟩,⟨259,_,P259_ok⟩,⟨275,_,P275_ok⟩,⟨276,_,P276_ok⟩] [0]) (mkCP_ok _ _ _ _ _ _ _ _) (fO _) Tryz.func201 rfl rfl rfl (by decide) rfl rfl rfl ?_ rfl
 rintro c ⟨_⟩ hwc hwf hpre ⟨⟩ hG rfl rfl
 show Vc _ _ [(0,⟨0,0,.c (.ref Z23) c⟩)] _
 refine Vm hG rfl (Vq (Vq ?_))
 refine Vr hG rfl ?_ ?_
 · repeat' (first | exact trivial | exact hpre | exact below_ok hpre | exact certIdx _ | refine And.intro ?_ ?_ | intro _)
 refine Vb (Vm hG rfl ?_)
 refine Vk rfl ?_ ?_<;>intro h0
 · refine Vq ?_
   refine Vr hG rfl ?_ ?_
   · repeat' (first | exact trivial | exact hpre | exact below_ok hpre | exact certIdx _ | refine And.intro ?_ ?_ | intro _)
   refine Vt ?_
   have e:pieceD c=_:=(cT h0)
   refine⟨⟨?_,trivial⟩,?_,trivial⟩
   · exact(congrArg Prod.snd e).symm
   · exact(congrArg (fun r=>r.1) e).symm
 · refine Vm hG rfl ?_
   refine Vk rfl ?_ ?_<;>intro h1
   · refine Vq ?_
     refine Vr hG rfl ?_ ?_
     · repeat' (first | exact trivial | exact hpre | exact below_ok hpre | exact certIdx _ | refine And.intro ?_ ?_ | intro _)
     refine Vt ?_
     have e:pieceD c=_:=((cF h0).trans (cT h1))
     refine⟨⟨?_,trivial⟩,?_,trivial⟩
     · exact(congrArg Prod.snd e).symm
     · exact(congrArg (fun r=>r.1) e).symm
   · refine Vm hG rfl ?_
     refine Vk rfl ?_ ?_<;>intro h2
     · refine Vq ?_
       refine Vr hG rfl ?_ ?_
       · repeat' (first | exact trivial | exact hpre | exact below_ok hpre | exact certIdx _ | refine And.intro ?_ ?_ | intro _)
       refine Vq ?_
       refine VrD mixed hG rfl (by kernel_rfl) ?_ ?_
       · repeat' (first | exact trivial | exact hpre | exact below_ok hpre | exact certIdx _ | refine And.intro ?_ ?_ | intro _)
       refine Vt ?_
       have e:pieceD c=_:=((cF h0).trans ((cF h1).trans (cT h2)))
       refine⟨⟨?_,trivial⟩,?_,trivial⟩
       · exact(congrArg Prod.snd e).symm
       · exact(congrArg (fun r=>r.1) e).symm
     · refine Vm hG rfl ?_
       refine Vk rfl ?_ ?_<;>intro h3
       · refine Vq ?_
         refine Vr hG rfl ?_ ?_
         · repeat' (first | exact trivial | exact hpre | exact below_ok hpre | exact certIdx _ | refine And.intro ?_ ?_ | intro _)
         refine Vq ?_
         refine Vr hG rfl ?_ ?_
         · repeat' (first | exact trivial | exact hpre | exact below_ok hpre | exact certIdx _ | refine And.intro ?_ ?_ | intro _)
         refine Vt ?_
         have e:pieceD c=_:=((cF h0).trans ((cF h1).trans ((cF h2).trans (cT h3))))
         refine⟨⟨?_,trivial⟩,?_,trivial⟩
         · exact(congrArg Prod.snd e).symm
         · exact(congrArg (fun r=>r.1) e).symm
       · refine Vs (Vq ?_)
         refine Vr hG rfl ?_ ?_
         · repeat' (first | exact trivial | exact hpre | exact below_ok hpre | exact certIdx _ | refine And.intro ?_ ?_ | intro _)
         refine Vt ?_
         have e:pieceD c=_:=((cF h0).trans ((cF h1).trans ((cF h2).trans (cF h3))))
         refine⟨⟨?_,trivial⟩,?_,trivial⟩
         · exact(congrArg Prod.snd e).symm
         · exact(congrArg (fun r=>r.1) e).symm
noncomputable def P237:PFun:=⟨.pure Y18,[],[.pair Z34 Z61,.pair (.pure (.int .i64)) Z17,.pure Y51],fun x _=>curOk x,fun x _=>(signedD x).2,fun x _=>((signedD x).1.1,(signedD x).1.2.1,(signedD x).1.2.2,())⟩
theorem P237_ok:MeetsP Tryz.prog 237 P237:=by
 refine meetsP_of_vc (C:=mkCP 66 [2,3,4] [0,2,3,4,5,6,7,8,46,55] [⟨208,_,F208_ok⟩,⟨272,_,F272_ok⟩,⟨271,_,F271_ok⟩,⟨76,_,F76_ok⟩,⟨161,_,F161_ok⟩,⟨163,_,F163_ok⟩,⟨162,_,F162_ok⟩] [] [] [⟨275,_,P275_ok⟩,⟨138,_,P138_ok⟩,⟨79,_,P79_ok⟩,⟨201,_,P201_ok⟩] [0]) (mkCP_ok _ _ _ _ _ _ _ _) (fO _) Tryz.func237 rfl rfl rfl (by decide) rfl rfl rfl ?_ rfl
 rintro c ⟨_⟩ hwc hwf hpre ⟨⟩ hG rfl rfl
 show Vc _ _ [(0,⟨0,0,.c (.ref Z23) c⟩)] _
 refine Vm hG rfl (Vq ?_)
 refine Vr hG rfl ?_ ?_
 · exact hpre
 refine Vq ?_
 refine VrD mixed hG rfl (by kernel_rfl) ?_ ?_
 · repeat' (first | exact trivial | exact signD_idx hpre | refine And.intro ?_ ?_ | intro _)
 refine Vq ?_
 refine VrD mixed hG rfl (by kernel_rfl) ?_ ?_
 · repeat' (first | exact trivial | exact signD_idx hpre | exact signD_ok hpre | exact Nat.succ_pos _ | refine And.intro ?_ ?_ | intro _)
 refine Vq (Vq ?_)
 refine Vr hG rfl ?_ ?_
 · exact sg2_ok hpre
 refine Vk rfl ?_ ?_<;>intro h0
 · refine VrL mixed hG rfl (by kernel_rfl) ?_ ?_
   · exact⟨trivial,sgS_sm c,statPiece_sm _⟩
   refine Vq (Vq ?_)
   refine Vr hG rfl ?_ ?_
   · exact sg3_ok hpre
   refine Vk rfl ?_ ?_<;>intro h1
   · refine VrL mixed hG rfl (by kernel_rfl) ?_ ?_
     · first
         | exact⟨sg4_ok hpre,sgS2_sm c,pieceD_sm _⟩
         | exact⟨sg4_ok hpre,sgS_sm c,pieceD_sm _⟩
     refine Vq (VrD mixed hG rfl (by kernel_rfl) (by trivial) (Vt ?_))
     have e:signedD c=_:=((signed_eq c).trans ((cT h0).trans (cT h1)))
     refine⟨⟨?_,trivial⟩,?_,?_,?_,trivial⟩
     · exact(congrArg Prod.snd e).symm
     · exact(congrArg (fun r=>r.1.1) e).symm
     · exact(congrArg (fun r=>r.1.2.1) e).symm
     · exact(congrArg (fun r=>r.1.2.2) e).symm
   · refine Vs (Vq (VrD mixed hG rfl (by kernel_rfl) (by trivial) (Vt ?_)))
     have e:signedD c=_:=((signed_eq c).trans ((cT h0).trans (cF h1)))
     refine⟨⟨?_,trivial⟩,?_,?_,?_,trivial⟩
     · exact(congrArg Prod.snd e).symm
     · exact(congrArg (fun r=>r.1.1) e).symm
     · exact(congrArg (fun r=>r.1.2.1) e).symm
     · exact(congrArg (fun r=>r.1.2.2) e).symm
 · refine Vs (Vq (Vq ?_))
   refine Vr hG rfl ?_ ?_
   · exact sg3_ok hpre
   refine Vk rfl ?_ ?_<;>intro h2
   · refine VrL mixed hG rfl (by kernel_rfl) ?_ ?_
     · first
         | exact⟨sg4_ok hpre,sgS2_sm c,pieceD_sm _⟩
         | exact⟨sg4_ok hpre,sgS_sm c,pieceD_sm _⟩
     refine Vq (VrD mixed hG rfl (by kernel_rfl) (by trivial) (Vt ?_))
     have e:signedD c=_:=((signed_eq c).trans ((cF h0).trans (cT h2)))
     refine⟨⟨?_,trivial⟩,?_,?_,?_,trivial⟩
     · exact(congrArg Prod.snd e).symm
     · exact(congrArg (fun r=>r.1.1) e).symm
     · exact(congrArg (fun r=>r.1.2.1) e).symm
     · exact(congrArg (fun r=>r.1.2.2) e).symm
   · refine Vs (Vq (VrD mixed hG rfl (by kernel_rfl) (by trivial) (Vt ?_)))
     have e:signedD c=_:=((signed_eq c).trans ((cF h0).trans (cF h2)))
     refine⟨⟨?_,trivial⟩,?_,?_,?_,trivial⟩
     · exact(congrArg Prod.snd e).symm
     · exact(congrArg (fun r=>r.1.1) e).symm
     · exact(congrArg (fun r=>r.1.2.1) e).symm
     · exact(congrArg (fun r=>r.1.2.2) e).symm
noncomputable def F165:Fun:=⟨[.int .i64],[.own Z36],fun _=>True,fun x=>(freshD x.1,())⟩
theorem F165_ok:Meets Tryz.prog 165 F165:=by
 refine mZ (C:=mkC 26 [2] [0,2,3,4,5,9] [⟨76,_,F76_ok⟩,⟨77,_,F77_ok⟩,⟨149,_,F149_ok⟩]) (mO _ _ _ _) (fO _) Tryz.func165 rfl rfl rfl (by decide) rfl ?_
 rintro⟨(a0:Int),_⟩ hwf hpre ⟨⟩ hG rfl rfl
 show Vc _ _ [(0,⟨0,0,.c (.pure (.int .i64)) a0⟩)] _
 refine Vm hG rfl (Vm hG rfl (Vq (Vm hG rfl ?_)))
 refine Vb ?_
 refine Vc.loopF [(3,false,.own Z36),(4,false,.pure (.int .i64))] [0,2] (fun v=>fzInv a0 v.1 v.2.1) (fun v=>(5-v.2.1:Int).toNat) rfl ?_ ?_
 · exact fzStart
 rintro⟨acc,(id:Int),_⟩ hI
 have hI:fzInv a0 acc id:=hI
 refine Vq (Vm hG rfl ?_)
 refine Vk rfl ?_ ?_<;>intro h0
 · have hl:id≤4:=oTr h0
   refine Vs (Vq (Vb (Vm hG rfl ?_)))
   refine Vr hG rfl ?_ ?_
   · exact fzLen hI
   refine Vn hG rfl ?_
   refine⟨rfl,?_⟩
   exact fzStep hI hl rfl
 · have hl:¬id≤4:=oFa h0
   refine Vx (Vm hG rfl (Vt ?_))
   refine⟨?_,trivial⟩
   exact fzEnd hI hl
noncomputable def F238:Fun:=⟨[.int .i64,.slice Y35],[.pure (.int .i64)],fun x=>(fun(_:Int) (l:List Stamp)=>List.length l≤1048576) x.1 x.2.1,fun x=>(stampsDgF x.1 x.2.1,())⟩
theorem F238_ok:Meets Tryz.prog 238 F238:=by
 refine mZ (C:=mkC 29 [4] [0,1,4,5,6,9,14] [⟨223,_,F223_ok⟩,⟨294,_,F294_ok⟩]) (mO _ _ _ _) (fO _) Tryz.func238 rfl rfl rfl (by decide) rfl ?_
 rintro⟨(a0:Int),a1,_⟩ hwf hpre ⟨⟩ hG rfl rfl
 show Vc _ _ [(0,⟨0,0,.c (.pure (.int .i64)) a0⟩),(1,⟨0,0,.c Z39 a1⟩)] _
 have hs:List.length a1≤1048576:=hpre
 have hb:List.length a1≤bigLen:=hwf.2.1.1
 refine Vm hG rfl (Vq (Vm hG rfl ?_))
 refine Vk rfl ?_ ?_<;>intro h0
 · have g0:(List.length a1:Int)=0:=beqI2 h0
   refine Vm hG rfl (Vt ?_)
   refine⟨?_,trivial⟩
   exact sd0 g0
 · have g0:¬(List.length a1:Int)=0:=bneI' h0
   refine Vs (Vm hG rfl (Vq (Vm hG rfl ?_)))
   refine Vb ?_
   refine Vc.loopF [(5,false,.own (.pure (.int .i64))),(6,false,.pure (.int .i64))] [0,1,4,9] (fun v=>gsInv (mkG a1) [] a1 v.1 v.2.1) (fun v=>((List.length a1:Int)-v.2.1).toNat) rfl ?_ ?_
   · exact gsStart
   rintro⟨acc,(i:Int),_⟩ hI
   have hI:gsInv (mkG a1) [] a1 acc i:=hI
   have hA:List.length acc≤1048576:=gsLen (c:=1) (m:=1048576) hI (fun _=>Nat.le_refl _) hs (by simp)
   refine Vq (Vm hG rfl ?_)
   refine Vk rfl ?_ ?_<;>intro h1
   · have hl:i<(List.length a1:Int):=oTr h1
     refine Vs (Vq (Vb ?_))
     refine Vr hG rfl ?_ ?_
     · exact⟨gsRange hI hl,(show List.length acc+1≤maxApp from by unfold maxApp;omega)⟩
     refine Vn hG rfl ?_
     refine⟨rfl,?_⟩
     exact gsStep hI hl hb rfl
   · have hl:¬i<(List.length a1:Int):=oFa h1
     refine Vx (Vq ?_)
     refine Vr hG rfl ?_ ?_
     · exact⟨(show List.length acc≤1000000000 from by omega),trivial⟩
     refine Vt ?_
     refine⟨?_,trivial⟩
     exact(congrArg (fun l=>max 1 (digestF a0 l)) (gsEnd hI hl)).trans (sd1 g0)
noncomputable def F242:Fun:=⟨[.slice Y35,.int .i64],[.pure (.int .i64)],fun _=>True,fun x=>(ownerF x.1 x.2.1,())⟩
theorem F242_ok:Meets Tryz.prog 242 F242:=by
 refine mZ (C:=mkC 16 [4] [0,1,4,5,10] [⟨209,_,F209_ok⟩]) (mO _ _ _ _) (fO _) Tryz.func242 rfl rfl rfl (by decide) rfl ?_
 rintro⟨a0,(a1:Int),_⟩ hwf hpre ⟨⟩ hG rfl rfl
 show Vc _ _ [(0,⟨0,0,.c Z39 a0⟩),(1,⟨0,0,.c (.pure (.int .i64)) a1⟩)] _
 refine Vm hG rfl (Vm hG rfl (Vq (Vm hG rfl ?_)))
 refine Vk rfl ?_ ?_<;>intro h0
 · have g0:keyI a0 a1<0:=oTr h0
   refine Vm hG rfl (Vt ?_)
   refine⟨?_,trivial⟩
   exact owner0 g0
 · have g0:¬keyI a0 a1<0:=oFa h0
   refine Vs (Vq ?_)
   refine Vr hG rfl ?_ ?_
   · exact findRange g0
   refine Vt ?_
   refine⟨?_,trivial⟩
   exact owner1 g0
noncomputable def F250:Fun:=⟨[.pair Y26 Y59,.pair (.int .i64) Y53],[.pair Z34 Z61,.pure (.bool)],fun x=>(fun(s:Strand) (r:Renewal)=>Sm big20 Y62 s∧Sm big20 Y56 r) x.1 x.2.1,fun x=>((addRenF x.1 x.2.1).1,(addRenF x.1 x.2.1).2,())⟩
theorem F250_ok:Meets Tryz.prog 250 F250:=by
 refine mZ (C:=mkC 22 [4,5] [0,1,2,3,4,5,6,18] [⟨160,_,F160_ok⟩,⟨245,_,F245_ok⟩,⟨249,_,F249_ok⟩]) (mO _ _ _ _) (fO _) Tryz.func250 rfl rfl rfl (by decide) rfl ?_
 rintro⟨a0,a1,_⟩ hwf hpre ⟨⟩ hG rfl rfl
 show Vc _ _ [(0,⟨0,0,.c Z64 a0⟩),(1,⟨0,0,.c Z57 a1⟩)] _
 have hp1:Sm big20 Y62 a0:=hpre.1
 have hp2:Sm big20 Y56 a1:=hpre.2
 refine Vm hG rfl (Vq ?_)
 refine Vr hG rfl ?_ ?_
 · exact hp1
 refine Vq ?_
 refine VrD mixed hG rfl (by kernel_rfl) ?_ ?_
 · exact⟨hp2,arLen hp1.2.1⟩
 refine Vq (Vm hG rfl ?_)
 refine Vk rfl ?_ ?_<;>intro h0
 · have g0:(!(strandF (a0.1,a0.2++[a1])))=true:=h0
   refine Vq ?_
   refine Vr hG rfl ?_ ?_
   · exact hp1
   refine Vt ?_
   have e:=ar0 g0
   refine⟨?_,?_,trivial⟩
   · exact(congrArg Prod.fst e).symm
   · exact(congrArg Prod.snd e).symm
 · have g0:(!(strandF (a0.1,a0.2++[a1])))=false:=h0
   refine Vs (Vm hG rfl (Vt ?_))
   have e:=ar1 g0
   refine⟨?_,?_,trivial⟩
   · exact(congrArg Prod.fst e).symm
   · exact(congrArg Prod.snd e).symm
noncomputable def F220:Fun:=⟨[.pair Y26 Y59,.pair (.int .i64) Y13],[.own (.pure (.int .i64))],fun x=>(fun(s:Strand) (_:Doc)=>List.length s.2≤2000000) x.1 x.2.1,fun x=>(docDigsF x.1 x.2.1,())⟩
theorem F220_ok:Meets Tryz.prog 220 F220:=by
 refine mZ (C:=mkC 27 [4] [0,1,2,3,4,5,6,12] [⟨145,_,F145_ok⟩]) (mO _ _ _ _) (fO _) Tryz.func220 rfl rfl rfl (by decide) rfl ?_
 rintro⟨a0,a1,_⟩ hwf hpre ⟨⟩ hG rfl rfl
 show Vc _ _ [(0,⟨0,0,.c Z64 a0⟩),(1,⟨0,0,.c Z28 a1⟩)] _
 have hs:List.length a0.2≤2000000:=hpre
 have hb:List.length a0.2≤bigLen:=hwf.1.2.1
 refine Vm hG rfl (Vm hG rfl (Vq (Vm hG rfl ?_)))
 refine Vb ?_
 refine Vc.loopF [(5,false,.own (.pure (.int .i64))),(6,false,.pure (.int .i64))] [0,1,2,3,4] (fun v=>pkInv (ddF a1) a0.2 v.1 v.2.1) (fun v=>((List.length a0.2:Int)-v.2.1).toNat) rfl ?_ ?_
 · exact pkStart
 rintro⟨acc,(i:Int),_⟩ hI
 have hI:pkInv (ddF a1) a0.2 acc i:=hI
 refine Vq (Vm hG rfl ?_)
 refine Vk rfl ?_ ?_<;>intro h0
 · have hl:i<(List.length a0.2:Int):=oTr h0
   refine Vs (Vq (Vb ?_))
   refine VrD mixed hG rfl (by kernel_rfl) ?_ ?_
   · exact⟨pkRange hI hl,trivial,pkLen2 hI hs⟩
   refine Vn hG rfl ?_
   refine⟨rfl,?_⟩
   exact pkYes (d:=dflt Y56) hI hl hb rfl
 · have hl:¬i<(List.length a0.2:Int):=oFa h0
   refine Vx (Vm hG rfl (Vt ?_))
   refine⟨?_,trivial⟩
   exact pkEnd hI hl
noncomputable def F307:Fun:=⟨[.int .i64,.pair (.int .i64) Y53],[.pure (.int .i64)],fun x=>(fun(_:Int) (r:Renewal)=>Sm big20 TRen r) x.1 x.2.1,fun x=>(renDigF x.1 x.2.1,())⟩
theorem F307_ok:Meets Tryz.prog 307 F307:=by
 refine mZ (C:=mkC 75 [4] [0,1,3,4,5,6,7,19,36,53] [⟨231,_,F231_ok⟩,⟨223,_,F223_ok⟩]) (mO _ _ _ _) (fO _) Tryz.func307 rfl rfl rfl (by decide) rfl ?_
 rintro⟨(a0:Int),a1,_⟩ hwf hpre ⟨⟩ hG rfl rfl
 show Vc _ _ [(0,⟨0,0,.c (.pure (.int .i64)) a0⟩),(1,⟨0,0,.c Z57 a1⟩)] _
 have hp:Sm big20 TRen a1:=hpre
 have h3:List.length a1.2.2.2.1≤1048576:=hp.2.2.2.1.1
 have h4:List.length a1.2.2.2.2≤1048576:=hp.2.2.2.2.1
 have hb0:List.length a1.2.2.2.1≤bigLen:=hwf.2.1.2.2.2.1.1
 have hb1:List.length a1.2.2.2.2≤bigLen:=hwf.2.1.2.2.2.2.1
 refine Vm hG rfl (Vm hG rfl (Vq (Vm hG rfl ?_)))
 refine Vb ?_
 refine Vc.loopF [(5,false,.own (.pure (.int .i64))),(6,false,.pure (.int .i64))] [0,1,3,4,7,53] (fun v=>gsInv (stepG a1) [4,a1.1,a1.2.1,a1.2.2.1] a1.2.2.2.1 v.1 v.2.1) (fun v=>((List.length a1.2.2.2.1:Int)-v.2.1).toNat) rfl ?_ ?_
 · exact gsStart
 rintro⟨acc,(i:Int),_⟩ hI0
 have hI0:gsInv (stepG a1) [4,a1.1,a1.2.1,a1.2.2.1] a1.2.2.2.1 acc i:=hI0
 have hA:List.length acc≤2097156:=gsLen (c:=2) (m:=1048576) hI0 (fun _=>Nat.le_refl _) h3 (by simp)
 refine Vq (Vm hG rfl ?_)
 refine Vk rfl ?_ ?_<;>intro h0
 · have hl0:i<(List.length a1.2.2.2.1:Int):=oTr h0
   refine Vs (Vq (Vb (Vq ?_)))
   refine Vr hG rfl ?_ ?_
   · exact⟨gsRange hI0 hl0,(show List.length acc+1≤maxApp from by unfold maxApp;omega)⟩
   refine Vq ?_
   refine Vr hG rfl ?_ ?_
   · exact gsRange hI0 hl0
   refine Vk rfl ?_ ?_<;>intro h1
   · have g1:(List.getD a1.2.2.2.1 i.toNat (dflt TStep)).2=true:=h1
     refine Vr hG rfl ?_ ?_
     · exact(by show List.length (acc++[(List.getD a1.2.2.2.1 i.toNat (dflt TStep)).1])+1≤maxApp;rw[List.length_append];show List.length acc+1+1≤maxApp;unfold maxApp;omega)
     refine Vn hG rfl ?_
     refine⟨rfl,?_⟩
     first | exact gsStep hI0 hl0 hb0 (stepYes g1) | exact gsStep hI0 hl0 hb0 (stepNo g1)
   · have g1:(List.getD a1.2.2.2.1 i.toNat (dflt TStep)).2=false:=h1
     refine Vr hG rfl ?_ ?_
     · exact(by show List.length (acc++[(List.getD a1.2.2.2.1 i.toNat (dflt TStep)).1])+1≤maxApp;rw[List.length_append];show List.length acc+1+1≤maxApp;unfold maxApp;omega)
     refine Vn hG rfl ?_
     refine⟨rfl,?_⟩
     first | exact gsStep hI0 hl0 hb0 (stepYes g1) | exact gsStep hI0 hl0 hb0 (stepNo g1)
 · have hl0:¬i<(List.length a1.2.2.2.1:Int):=oFa h0
   refine Vx (Vq ?_)
   refine Vr hG rfl ?_ ?_
   · exact(show List.length acc+1≤maxApp from by unfold maxApp;omega)
   refine Vq (Vm hG rfl (Vb ?_))
   refine Vc.loopF [(5,false,.own (.pure (.int .i64))),(7,false,.pure (.int .i64))] [0,1,3,4,6,19,36] (fun v=>gsInv (stmpG a1) (renMid a1) a1.2.2.2.2 v.1 v.2.1) (fun v=>((List.length a1.2.2.2.2:Int)-v.2.1).toNat) rfl ?_ ?_
   · exact gsStart2 (renMidEq hI0 hl0)
   rintro⟨acc2,(i:Int),_⟩ hI1
   have hI1:gsInv (stmpG a1) (renMid a1) a1.2.2.2.2 acc2 i:=hI1
   have hA2:List.length acc2≤8388613:=gsLen (c:=6) (m:=1048576) hI1 (fun _=>Nat.le_refl _) h4 (by have:=midLen h3;omega)
   refine Vq (Vm hG rfl ?_)
   refine Vk rfl ?_ ?_<;>intro h2
   · have hl1:i<(List.length a1.2.2.2.2:Int):=oTr h2
     refine Vs (Vq (Vb ?_))
     refine VrD mixed hG rfl (by kernel_rfl) ?_ ?_
     · exact⟨gsRange hI1 hl1,trivial,(show List.length acc2+5≤maxApp from by unfold maxApp;omega),gsRange hI1 hl1,(by show List.length (acc2++stampIntsF (List.getD a1.2.2.2.2 i.toNat (dflt TStamp)))+1≤maxApp;rw[List.length_append];show List.length acc2+5+1≤maxApp;unfold maxApp;omega)⟩
     refine Vn hG rfl ?_
     refine⟨rfl,?_⟩
     exact gsStep hI1 hl1 hb1 stmpEq
   · have hl1:¬i<(List.length a1.2.2.2.2:Int):=oFa h2
     refine Vx (Vq ?_)
     refine Vr hG rfl ?_ ?_
     · exact(show List.length acc2≤1000000000 from by omega)
     refine Vt ?_
     refine⟨?_,trivial⟩
     have e:=congrArg (digestF a0) (gsEnd hI1 hl1)
     exact e
noncomputable def F350:Fun:=⟨[.int .i64,.slice Y20],[.pure (.int .i64)],fun x=>(fun(_:Int) (l:List Piece)=>Sm big20 (.slice TPiece) l) x.1 x.2.1,fun x=>(piecesF x.1 x.2.1,())⟩
theorem F350_ok:Meets Tryz.prog 350 F350:=by
 refine mZ (C:=mkC 39 [4] [0,1,4,5,6,11] [⟨223,_,F223_ok⟩]) (mO _ _ _ _) (fO _) Tryz.func350 rfl rfl rfl (by decide) rfl ?_
 rintro⟨(a0:Int),a1,_⟩ hwf hpre ⟨⟩ hG rfl rfl
 show Vc _ _ [(0,⟨0,0,.c (.pure (.int .i64)) a0⟩),(1,⟨0,0,.c Z29 a1⟩)] _
 have hp:List.length a1≤big20∧∀ x∈a1,Sm big20 TPiece x:=hpre
 have hL:List.length a1≤1048576:=hp.1
 have hb:List.length a1≤bigLen:=hwf.2.1.1
 refine Vm hG rfl (Vm hG rfl (Vq (Vm hG rfl ?_)))
 refine Vb ?_
 refine Vc.loopF [(5,false,.own (.pure (.int .i64))),(6,false,.pure (.int .i64))] [0,1,4] (fun v=>gsInv (piecesG a0 a1) [2] a1 v.1 v.2.1) (fun v=>((List.length a1:Int)-v.2.1).toNat) rfl ?_ ?_
 · exact gsStart
 rintro⟨acc,(i:Int),_⟩ hI
 have hI:gsInv (piecesG a0 a1) [2] a1 acc i:=hI
 have hA:List.length acc≤1048577:=gsLen (c:=1) (m:=1048576) hI (fun _=>Nat.le_refl _) hL (by simp)
 refine Vq (Vm hG rfl ?_)
 refine Vk rfl ?_ ?_<;>intro h0
 · have hl:i<(List.length a1:Int):=oTr h0
   have hE:List.length (List.getD a1 i.toNat (dflt TPiece)).2.1≤1048576:=(hp.2 _ (upElem hI.1 hl)).2.1.1
   refine Vs (Vq (Vb ?_))
   refine VrD mixed hG rfl (by kernel_rfl) ?_ ?_
   · exact⟨gsRange hI hl,gsRange hI hl,gsRange hI hl,(show 2+List.length (List.getD a1 i.toNat (dflt TPiece)).2.1≤maxApp from by unfold maxApp;omega),(show List.length (List.getD a1 i.toNat (dflt TPiece)).2.1+2≤1000000000 from by omega),(show List.length acc+1≤maxApp from by unfold maxApp;omega)⟩
   refine Vn hG rfl ?_
   refine⟨rfl,?_⟩
   exact gsStep hI hl hb rfl
 · have hl:¬i<(List.length a1:Int):=oFa h0
   refine Vx (Vq ?_)
   refine Vr hG rfl ?_ ?_
   · exact(show List.length acc≤1000000000 from by omega)
   refine Vt ?_
   refine⟨?_,trivial⟩
   have e:=congrArg (digestF a0) (gsEnd hI hl)
   exact e
noncomputable def F308:Fun:=⟨[.int .i64,.int .i64,.slice Y20,.int .i64],[.pure (.int .i64)],fun x=>(fun(_ _:Int) (l:List Piece) (_:Int)=>Sm big20 (.slice TPiece) l) x.1 x.2.1 x.2.2.1 x.2.2.2.1,fun x=>(leafOfF x.1 x.2.1 x.2.2.1 x.2.2.2.1,())⟩
theorem F308_ok:Meets Tryz.prog 308 F308:=by
 refine mZ (C:=mkC 17 [8] [0,1,2,3,8] [⟨350,_,F350_ok⟩,⟨223,_,F223_ok⟩]) (mO _ _ _ _) (fO _) Tryz.func308 rfl rfl rfl (by decide) rfl ?_
 rintro⟨(a0:Int),(a1:Int),a2,(a3:Int),_⟩ hwf hpre ⟨⟩ hG rfl rfl
 show Vc _ _ [(0,⟨0,0,.c (.pure (.int .i64)) a0⟩),(1,⟨0,0,.c (.pure (.int .i64)) a1⟩),(2,⟨0,0,.c Z29 a2⟩),(3,⟨0,0,.c (.pure (.int .i64)) a3⟩)] _
 have hp:Sm big20 (.slice TPiece) a2:=hpre
 refine Vm hG rfl (Vq ?_)
 refine Vr hG rfl ?_ ?_
 · exact⟨hp,smallLit (n:=4) rfl (by decide)⟩
 refine Vt ?_
 refine⟨?_,trivial⟩
 all_goals exact rfl
noncomputable def F234:Fun:=⟨[.pair Y26 Y59,.slice (.int .i64),.int .i64],[.pure (.int .i64)],fun x=>(fun(s:Strand) (_:List Int) (_:Int)=>Sm big20 (.slice TPiece) s.1∧∀ r∈s.2,Sm big20 TRen r) x.1 x.2.1 x.2.2.1,fun x=>(leafAtF x.1 x.2.1 x.2.2.1,())⟩
theorem F234_ok:Meets Tryz.prog 234 F234:=by
 refine mZ (C:=mkC 69 [6] [0,1,2,3,6,7,8,36,44] [⟨232,_,F232_ok⟩,⟨307,_,F307_ok⟩,⟨308,_,F308_ok⟩]) (mO _ _ _ _) (fO _) Tryz.func234 rfl rfl rfl (by decide) rfl ?_
 rintro⟨a0,a1,(a2:Int),_⟩ hwf hpre ⟨⟩ hG rfl rfl
 show Vc _ _ [(0,⟨0,0,.c Z64 a0⟩),(1,⟨0,0,.c Z3 a1⟩),(2,⟨0,0,.c (.pure (.int .i64)) a2⟩)] _
 have hP:Sm big20 (.slice TPiece) a0.1:=hpre.1
 have hR:∀ r∈a0.2,Sm big20 TRen r:=hpre.2
 have hb:List.length a0.2≤bigLen:=hwf.1.2.1
 refine Vm hG rfl (Vq (Vq ?_))
 refine VrD mixed hG rfl (by kernel_rfl) ?_ ?_
 · exact⟨trivial,fun h=>laIdx (orF h).1 hb,fun _=>trivial⟩
 refine Vk rfl ?_ ?_<;>intro h0
 · have g0:leafAtBad a0 a1 a2=true:=h0
   refine Vm hG rfl (Vt ?_)
   refine⟨?_,trivial⟩
   exact la0 g0
 · have g0:leafAtBad a0 a1 a2=false:=h0
   have k1:=laIdx (orF (orF g0).1).1 hb
   have k2:(List.length a1:Int)=(List.length a0.2:Int):=bneI (orF (orF g0).1).2
   have k3:=rg (orF g0).2
   have k4:inRange a2 (List.length a1):=⟨k1.1,by have:=k1.2;omega⟩
   refine Vs (Vq ?_)
   refine Vr hG rfl ?_ ?_
   · exact k1
   refine Vm hG rfl (Vq (Vm hG rfl ?_))
   refine Vk rfl ?_ ?_<;>intro h1
   · have g1:a2>0:=oTr h1
     refine Vr hG rfl ?_ ?_
     · exact⟨prevIdx k1 g1 hb,hR _ (getD_mem (prevIdx k1 g1 hb) (dflt TRen))⟩
     refine Vq ?_
     refine VrD mixed hG rfl (by kernel_rfl) ?_ ?_
     · exact⟨k4,k1,Int.le_refl _,k3.1,k3.2,subL_sm hP⟩
     refine Vt ?_
     refine⟨?_,trivial⟩
     exact la1 g0 g1
   · have g1:¬a2>0:=oFa h1
     refine Vs (Vq ?_)
     refine VrD mixed hG rfl (by kernel_rfl) ?_ ?_
     · exact⟨k4,k1,Int.le_refl _,k3.1,k3.2,subL_sm hP⟩
     refine Vt ?_
     refine⟨?_,trivial⟩
     exact la2 g0 g1
noncomputable def P252:PFun:=⟨.pure Y18,[.int .i64],[.own (.pure (.int .i64))],fun x xs=>(fun c (m:Int)=>curOk c∧0<m∧m≤1000) x xs.1,fun x xs=>(leavesD x xs.1).2,fun x xs=>((leavesD x xs.1).1,())⟩
theorem P252_ok:MeetsP Tryz.prog 252 P252:=by
 refine meetsP_of_vc (C:=mkCP 21 [4] [0,1,4,5,6,12] [] [] [] [⟨74,_,P74_ok⟩] [0]) (mkCP_ok _ _ _ _ _ _ _ _) (fO _) Tryz.func252 rfl rfl rfl (by decide) rfl rfl rfl ?_ rfl
 rintro c ⟨(a1:Int),_⟩ hwc hwf hpre ⟨⟩ hG rfl rfl
 show Vc _ _ [(0,⟨0,0,.c (.ref Z23) c⟩),(1,⟨0,0,.c (.pure (.int .i64)) a1⟩)] _
 refine Vm hG rfl (Vm hG rfl (Vq (Vq ?_)))
 refine Vr hG rfl ?_ ?_
 · exact hpre.1
 refine Vb ?_
 refine Vc.loopF [(0,true,.pure Y18),(5,false,.own (.pure (.int .i64))),(6,false,.pure (.int .i64))] [1,4] (fun v=>dnInv leafS ((belowF c a1).2,[]) (belowF c a1).1 (v.1,v.2.1) v.2.2.1) (fun v=>(v.2.2.1:Int).toNat) rfl ?_ ?_
 · exact dnStart (belN hpre.2.1 (Int.le_trans hpre.2.2 (by decide)))
 rintro⟨c2,acc,(i:Int),_⟩ hI
 have hI:dnInv leafS ((belowF c a1).2,[]) (belowF c a1).1 (c2,acc) i:=hI
 obtain⟨k,hk,hc2,hlen⟩:=dnP leafP ⟨below_ok hpre.1,rfl⟩ leafS_P hI
 have hlen:List.length acc=k:=hlen
 have hc2:curOk c2:=hc2
 have hn:=(belN (c:=c) hpre.2.1 (Int.le_trans hpre.2.2 (by decide))).2
 refine Vq (Vm hG rfl ?_)
 refine Vk rfl ?_ ?_<;>intro h0
 · have hl:i>0:=oTr h0
   refine Vs (Vq (Vb ?_))
   refine Vr hG rfl ?_ ?_
   · exact⟨hc2,dnApp hlen hk hn⟩
   refine Vn hG rfl ?_
   refine⟨rfl,?_⟩
   exact dnStep hI hl
 · have hl:¬i>0:=oFa h0
   have hE:=dnEnd hI hl
   refine Vx (Vm hG rfl (Vt ?_))
   have e:=leaves_leaf hE
   refine⟨⟨?_,trivial⟩,?_,trivial⟩
   · exact(congrArg Prod.snd e).symm
   · exact(congrArg Prod.fst e).symm
noncomputable def F306:Fun:=⟨[.int .i64,.int .i64,.int .i64],[.pure (.int .i64)],fun _=>True,fun x=>(pairDF x.1 x.2.1 x.2.2.1,())⟩
theorem F306_ok:Meets Tryz.prog 306 F306:=by
 refine mZ (C:=mkC 12 [6] [0,1,2,6] [⟨223,_,F223_ok⟩]) (mO _ _ _ _) (fO _) Tryz.func306 rfl rfl rfl (by decide) rfl ?_
 rintro⟨(a0:Int),(a1:Int),(a2:Int),_⟩ hwf hpre ⟨⟩ hG rfl rfl
 show Vc _ _ [(0,⟨0,0,.c (.pure (.int .i64)) a0⟩),(1,⟨0,0,.c (.pure (.int .i64)) a1⟩),(2,⟨0,0,.c (.pure (.int .i64)) a2⟩)] _
 refine Vm hG rfl (Vq ?_)
 refine Vr hG rfl ?_ ?_
 · exact smallLit (n:=3) rfl (by decide)
 refine Vt ?_
 refine⟨?_,trivial⟩
 all_goals exact rfl
noncomputable def F233:Fun:=⟨[.int .i64,.slice (.int .i64)],[.own (.pure (.int .i64))],fun x=>(fun(_:Int) (l:List Int)=>List.length l≤1048576) x.1 x.2.1,fun x=>(upF x.1 x.2.1,())⟩
theorem F233_ok:Meets Tryz.prog 233 F233:=by
 refine mZ (C:=mkC 41 [4] [0,1,4,5,6,11,18] [⟨306,_,F306_ok⟩]) (mO _ _ _ _) (fO _) Tryz.func233 rfl rfl rfl (by decide) rfl ?_
 rintro⟨(a0:Int),a1,_⟩ hwf hpre ⟨⟩ hG rfl rfl
 show Vc _ _ [(0,⟨0,0,.c (.pure (.int .i64)) a0⟩),(1,⟨0,0,.c Z3 a1⟩)] _
 have hs:List.length a1≤1048576:=hpre
 refine Vm hG rfl (Vm hG rfl (Vq (Vm hG rfl ?_)))
 refine Vb ?_
 refine Vc.loopF [(5,false,.own (.pure (.int .i64))),(6,false,.pure (.int .i64))] [0,1,4] (fun v=>liInv a0 a1 v.1 v.2.1) (fun v=>((List.length a1:Int)-v.2.1).toNat) rfl ?_ ?_
 · exact liStart
 rintro⟨out,(i:Int),_⟩ hI
 have hI:liInv a0 a1 out i:=hI
 refine Vq (Vm hG rfl ?_)
 refine Vk rfl ?_ ?_<;>intro h0
 · have hl:i<(List.length a1:Int):=oTr h0
   refine Vs (Vq (Vb (Vm hG rfl ?_)))
   refine Vk rfl ?_ ?_<;>intro h1
   · have g1:IntKind.i64.wrap (i+1)<(List.length a1:Int):=oTr h1
     refine VrD mixed hG rfl (by kernel_rfl) ?_ ?_
     · exact⟨liRange hI hl,liRange1 hI g1 hs hl,trivial,liLen hI hs hl⟩
     refine Vn hG rfl ?_
     refine⟨rfl,?_⟩
     first
       | exact li2 hI hl hs g1
       | exact li1 hI hl hs g1
   · have g1:¬IntKind.i64.wrap (i+1)<(List.length a1:Int):=oFa h1
     refine Vr hG rfl ?_ ?_
     · exact⟨liRange hI hl,liLen hI hs hl⟩
     refine Vn hG rfl ?_
     refine⟨rfl,?_⟩
     first
       | exact li2 hI hl hs g1
       | exact li1 hI hl hs g1
 · have hl:¬i<(List.length a1:Int):=oFa h0
   refine Vx (Vm hG rfl (Vt ?_))
   refine⟨?_,trivial⟩
   exact liEnd hI hl
noncomputable def F150:Fun:=⟨[.int .i64,.slice (.int .i64)],[.pure (.int .i64)],fun _=>True,fun x=>(treeF x.1 x.2.1,())⟩
theorem F150_ok:Meets Tryz.prog 150 F150:=by
 refine mZ (C:=mkC 22 [4] [0,1,4,5,9,15] [⟨232,_,F232_ok⟩,⟨233,_,F233_ok⟩]) (mO _ _ _ _) (fO _) Tryz.func150 rfl rfl rfl (by decide) rfl ?_
 rintro⟨(a0:Int),a1,_⟩ hwf hpre ⟨⟩ hG rfl rfl
 show Vc _ _ [(0,⟨0,0,.c (.pure (.int .i64)) a0⟩),(1,⟨0,0,.c Z3 a1⟩)] _
 refine Vm hG rfl (Vq (Vm hG rfl ?_))
 refine Vk rfl ?_ ?_<;>intro h0
 · have g0:(!(inRangeF (List.length a1:Int) 1 16))=true:=h0
   refine Vm hG rfl (Vt ?_)
   refine⟨?_,trivial⟩
   exact tree0 g0
 · have g0:(!(inRangeF (List.length a1:Int) 1 16))=false:=h0
   have gr:=rg g0
   refine Vs (Vq ?_)
   refine Vr hG rfl ?_ ?_
   · show 0+List.length a1≤maxApp
     unfold maxApp
     omega
   refine Vq (Vb ?_)
   refine Vc.loopF [(5,false,.own (.pure (.int .i64)))] [0,1,4,9] (fun v=>trInv a0 a1 v.1) (fun v=>List.length v.1) rfl ?_ ?_
   · exact trStart gr
   rintro⟨l,_⟩ hI
   have hI:trInv a0 a1 l:=hI
   refine Vq (Vm hG rfl ?_)
   refine Vk rfl ?_ ?_<;>intro h1
   · have g1:(List.length l:Int)>1:=oTr h1
     refine Vs (Vb ?_)
     refine Vr hG rfl ?_ ?_
     · exact trSmall hI
     refine⟨rfl,?_⟩
     exact trStep hI g1
   · have g1:¬(List.length l:Int)>1:=oFa h1
     refine Vx (Vq ?_)
     refine Vr hG rfl ?_ ?_
     · exact trIdx hI
     refine Vt ?_
     refine⟨?_,trivial⟩
     exact trEnd hI g1 g0
noncomputable def F312:Fun:=⟨[.int .i64,.slice (.int .i64),.int .i64],[.own Z6],fun _=>True,fun x=>(pathF x.1 x.2.1 x.2.2.1,())⟩
theorem F312_ok:Meets Tryz.prog 312 F312:=by
 refine mZ (C:=mkC 60 [6] [0,1,2,6,7,8,20,27,30,44] [⟨232,_,F232_ok⟩,⟨233,_,F233_ok⟩]) (mO _ _ _ _) (fO _) Tryz.func312 rfl rfl rfl (by decide) rfl ?_
 rintro⟨(a0:Int),a1,(a2:Int),_⟩ hwf hpre ⟨⟩ hG rfl rfl
 show Vc _ _ [(0,⟨0,0,.c (.pure (.int .i64)) a0⟩),(1,⟨0,0,.c Z3 a1⟩),(2,⟨0,0,.c (.pure (.int .i64)) a2⟩)] _
 have hb:List.length a1≤bigLen:=hwf.2.1.1
 refine Vm hG rfl (Vm hG rfl (Vq (Vq ?_)))
 refine Vr hG rfl ?_ ?_
 · repeat' (first | exact trivial | refine And.intro ?_ ?_ | intro _)
 refine Vk rfl ?_ ?_<;>intro h0
 · have g0:=pt0s (m:=a0) (i:=a2) (l:=a1) hb h0
   refine Vm hG rfl (Vt ?_)
   refine⟨?_,trivial⟩
   exact g0
 · have g0:=ptGos (i:=a2) (l:=a1) hb h0
   refine Vs (Vq ?_)
   refine Vr hG rfl ?_ ?_
   · show 0+List.length a1≤maxApp
     unfold maxApp
     have:=g0.2.2
     omega
   refine Vq (Vb ?_)
   refine Vc.loopF [(2,false,.pure (.int .i64)),(7,false,.own Z6),(8,false,.own (.pure (.int .i64)))] [0,1,6,20] (fun v=>ptInv a0 a1 a2 v.2.2.1 v.1 v.2.1) (fun v=>List.length v.2.2.1) rfl ?_ ?_
   · exact ptStart g0
   rintro⟨(i:Int),out,l,_⟩ hI
   have hI:ptInv a0 a1 a2 l i out:=hI
   refine Vq (Vm hG rfl ?_)
   refine Vk rfl ?_ ?_<;>intro h1
   · have g1:(List.length l:Int)>1:=oTr h1
     refine Vs (Vb (Vq (Vq ?_)))
     refine Vr hG rfl ?_ ?_
     · show (2:Int)≠0
       decide
     refine Vk rfl ?_ ?_<;>intro h2
     · have g2:(i.tmod 2==1)=true:=h2
       have r1:=(ptOdd hI.2.1 hI.2.2.1 hI.2.2.2.1 g2).2
       have st:=ptA hI g1 g2
       refine Vr hG rfl ?_ ?_
       · exact⟨r1,ptLen hI⟩
       refine Vq ?_
       refine Vr hG rfl ?_ ?_
       · exact ptSm hI
       refine Vr hG rfl ?_ ?_
       · show (2:Int)≠0
         decide
       refine⟨rfl,?_⟩
       exact st
     · have g2:(i.tmod 2==1)=false:=h2
       refine Vm hG rfl ?_
       refine Vk rfl ?_ ?_<;>intro h3
       · have g3:IntKind.i64.wrap (i+1)<(List.length l:Int):=oTr h3
         have r2:=(ptEven hI.2.1 hI.2.2.1 hI.2.2.2.1 g2 g3).2
         have st:=ptB hI g1 g2 g3
         refine Vr hG rfl ?_ ?_
         · exact⟨r2,ptLen hI⟩
         refine Vq ?_
         refine Vr hG rfl ?_ ?_
         · exact ptSm hI
         refine Vr hG rfl ?_ ?_
         · show (2:Int)≠0
           decide
         refine⟨rfl,?_⟩
         exact st
       · have g3:¬IntKind.i64.wrap (i+1)<(List.length l:Int):=oFa h3
         have st:=ptC hI g1 g2 g3
         refine Vs (Vq ?_)
         refine Vr hG rfl ?_ ?_
         · exact ptSm hI
         refine Vr hG rfl ?_ ?_
         · show (2:Int)≠0
           decide
         refine⟨rfl,?_⟩
         exact st
   · have g1:¬(List.length l:Int)>1:=oFa h1
     refine Vx (Vm hG rfl (Vt ?_))
     refine⟨?_,trivial⟩
     exact ptEnd hI g1 g0
noncomputable def F251:Fun:=⟨[.slice Y35,.slice Y15,.int .i64,.int .i64,.slice (.int .i64),.int .i64,.slice (.int .i64),.int .i64,.int .i64],[.pair (.pure (.int .i64)) Z58],fun x=>(fun(_:List Key) (_:List Authority) (_ _:Int) (o:List Int) (_:Int) (ids:List Int) (_ _:Int)=>List.length o≤1000∧List.length ids≤1000) x.1 x.2.1 x.2.2.1 x.2.2.2.1 x.2.2.2.2.1 x.2.2.2.2.2.1 x.2.2.2.2.2.2.1 x.2.2.2.2.2.2.2.1 x.2.2.2.2.2.2.2.2.1,fun x=>(renMakeF x.1 x.2.1 x.2.2.1 x.2.2.2.1 x.2.2.2.2.1 x.2.2.2.2.2.1 x.2.2.2.2.2.2.1 x.2.2.2.2.2.2.2.1 x.2.2.2.2.2.2.2.2.1,())⟩
theorem F251_ok:Meets Tryz.prog 251 F251:=by
 refine mZ (C:=mkC 71 [18] [0,1,2,3,4,5,6,7,8,18,19,20,21,22,23,45,63] [⟨150,_,F150_ok⟩,⟨312,_,F312_ok⟩,⟨149,_,F149_ok⟩]) (mO _ _ _ _) (fO _) Tryz.func251 rfl rfl rfl (by decide) rfl ?_
 rintro⟨a0,a1,(a2:Int),(a3:Int),a4,(a5:Int),a6,(a7:Int),(a8:Int),_⟩ hwf hpre ⟨⟩ hG rfl rfl
 show Vc _ _ [(0,⟨0,0,.c Z39 a0⟩),(1,⟨0,0,.c Z24 a1⟩),(2,⟨0,0,.c (.pure (.int .i64)) a2⟩),(3,⟨0,0,.c (.pure (.int .i64)) a3⟩),(4,⟨0,0,.c Z3 a4⟩),(5,⟨0,0,.c (.pure (.int .i64)) a5⟩),(6,⟨0,0,.c Z3 a6⟩),(7,⟨0,0,.c (.pure (.int .i64)) a7⟩),(8,⟨0,0,.c (.pure (.int .i64)) a8⟩)] _
 have hs:List.length a6≤1048576:=Nat.le_trans hpre.2 (by decide)
 have hb:List.length a6≤bigLen:=Nat.le_trans hpre.2 (by decide)
 have ho:List.length a4≤1000:=hpre.1
 refine Vm hG rfl (Vq ?_)
 refine Vr hG rfl ?_ ?_
 · exact rmApp ho
 refine Vm hG rfl (Vq (Vm hG rfl (Vb ?_)))
 refine Vc.loopF [(20,true,.pair (.pure (.int .i64)) Z58),(21,false,.pure (.int .i64))] [0,1,2,3,4,5,6,7,8,18,19] (fun v=>∃ acc,v.1=rmBase a2 a3 a4 a5 acc∧pkInv (rmG a0 a1 a2 a3 a4 a7 a8) a6 acc v.2.1) (fun v=>((List.length a6:Int)-v.2.1).toNat) rfl ?_ ?_
 · exact⟨[],rfl,pkStart⟩
 rintro⟨r,(i:Int),_⟩ ⟨acc,e0,hI⟩
 have e0:r=rmBase a2 a3 a4 a5 acc:=e0
 subst e0
 have hI:pkInv (rmG a0 a1 a2 a3 a4 a7 a8) a6 acc i:=hI
 refine Vq (Vm hG rfl ?_)
 refine Vk rfl ?_ ?_<;>intro h0
 · have hl:i<(List.length a6:Int):=oTr h0
   refine Vs (Vq (Vb (Vq ?_)))
   refine VrD mixed hG rfl (by kernel_rfl) ?_ ?_
   · repeat' (first | exact trivial | exact pkRange hI hl | refine And.intro ?_ ?_ | intro _)
   refine Vm hG rfl ?_
   refine Vk rfl ?_ ?_<;>intro h1
   · have g1:((rmG a0 a1 a2 a3 a4 a7 a8) (List.getD a6 i.toNat (dflt TI))).2=true:=h1
     have st:=pkYes (d:=dflt TI) hI hl hb g1
     refine Vr hG rfl ?_ ?_
     · exact pkLen hI hs
     refine Vn hG rfl ?_
     refine⟨rfl,?_⟩
     exact⟨⟨_,rfl,st.1⟩,st.2⟩
   · have g1:((rmG a0 a1 a2 a3 a4 a7 a8) (List.getD a6 i.toNat (dflt TI))).2=false:=h1
     have st:=pkNo (d:=dflt TI) hI hl hb g1
     refine Vs (Vn hG rfl ?_)
     refine⟨rfl,?_⟩
     exact⟨⟨_,rfl,st.1⟩,st.2⟩
 · have hl:¬i<(List.length a6:Int):=oFa h0
   refine Vx (Vm hG rfl (Vt ?_))
   refine⟨?_,trivial⟩
   exact congrArg (rmBase a2 a3 a4 a5) (pkEnd hI hl)
end Fw
