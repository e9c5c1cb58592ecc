/- Walks of functions of the program: what each computes. Conditions: those that each contract names. -/
import Derived.Test.YtacmkmcclbpolaaGreatW23T
namespace Fw
open Go Go.Proofs
set_option linter.unusedSimpArgs false
set_option maxRecDepth 100000
noncomputable def F32:Fun:=⟨[.slice Y32,.int .i64],[.pure (.int .i64)],fun x=>szPre x.1 x.2.1,fun x=>(szF Y34 x.1 x.2.1,())⟩
theorem F32_ok:Meets Tryz.prog 32 F32:=by
 refine mZ (C:=mkC 12 [4] [0,1,4,10] []) (mO _ _ _ _) (fO _) Tryz.func32 rfl rfl rfl (by decide) rfl ?_
 rintro⟨a0,(a1:Int),_⟩ hwf hpre ⟨⟩ hG rfl rfl
 show Vc _ _ [(0,⟨0,0,.c Z36 a0⟩),(1,⟨0,0,.c (.pure (.int .i64)) a1⟩)] _
 have q0:(0:Int)≤a1∧a1≤(big20:Int):=hpre
 have hb:List.length a0≤bigLen:=hwf.1.1
 have hw:IntKind.i64.wrap (a1-(List.length a0:Int))=a1-(List.length a0:Int):=subW hpre hb
 refine Vm hG rfl (Vm hG rfl (Vq (Vm hG rfl ?_)))
 refine Vk rfl ?_ ?_<;>intro h0
 · have g0:a1-(List.length a0:Int)<0:=by rw[←hw];exact oTr h0
   refine Vm hG rfl (Vt ?_)
   refine⟨?_,trivial⟩
   show (-1:Int)=if a1-(List.length a0:Int)<0 then -1 else szL (szF Y32) a0 (a1-(List.length a0:Int))
   rw[if_pos g0]
 · have g0:¬a1-(List.length a0:Int)<0:=by rw[←hw];exact oFa h0
   refine Vs (Vm hG rfl (Vt ?_))
   refine⟨?_,trivial⟩
   show IntKind.i64.wrap (a1-(List.length a0:Int))=if a1-(List.length a0:Int)<0 then -1 else szL (szF Y32) a0 (a1-(List.length a0:Int))
   rw[if_neg g0,hw,szL_id (fun x l hl=>szF_id Y32 rfl x l hl) a0 _ (show (0:Int)≤a1-(List.length a0:Int)from by omega)]
noncomputable def F33:Fun:=⟨[.slice Y15,.int .i64],[.pure (.int .i64)],fun x=>szPre x.1 x.2.1,fun x=>(szF Y18 x.1 x.2.1,())⟩
theorem F33_ok:Meets Tryz.prog 33 F33:=by
 refine mZ (C:=mkC 12 [4] [0,1,4,10] []) (mO _ _ _ _) (fO _) Tryz.func33 rfl rfl rfl (by decide) rfl ?_
 rintro⟨a0,(a1:Int),_⟩ hwf hpre ⟨⟩ hG rfl rfl
 show Vc _ _ [(0,⟨0,0,.c Z21 a0⟩),(1,⟨0,0,.c (.pure (.int .i64)) a1⟩)] _
 have q0:(0:Int)≤a1∧a1≤(big20:Int):=hpre
 have hb:List.length a0≤bigLen:=hwf.1.1
 have hw:IntKind.i64.wrap (a1-(List.length a0:Int))=a1-(List.length a0:Int):=subW hpre hb
 refine Vm hG rfl (Vm hG rfl (Vq (Vm hG rfl ?_)))
 refine Vk rfl ?_ ?_<;>intro h0
 · have g0:a1-(List.length a0:Int)<0:=by rw[←hw];exact oTr h0
   refine Vm hG rfl (Vt ?_)
   refine⟨?_,trivial⟩
   show (-1:Int)=if a1-(List.length a0:Int)<0 then -1 else szL (szF Y15) a0 (a1-(List.length a0:Int))
   rw[if_pos g0]
 · have g0:¬a1-(List.length a0:Int)<0:=by rw[←hw];exact oFa h0
   refine Vs (Vm hG rfl (Vt ?_))
   refine⟨?_,trivial⟩
   show IntKind.i64.wrap (a1-(List.length a0:Int))=if a1-(List.length a0:Int)<0 then -1 else szL (szF Y15) a0 (a1-(List.length a0:Int))
   rw[if_neg g0,hw,szL_id (fun x l hl=>szF_id Y15 rfl x l hl) a0 _ (show (0:Int)≤a1-(List.length a0:Int)from by omega)]
noncomputable def F34:Fun:=⟨[.slice Y24,.int .i64],[.pure (.int .i64)],fun x=>szPre x.1 x.2.1,fun x=>(szF Y28 x.1 x.2.1,())⟩
theorem F34_ok:Meets Tryz.prog 34 F34:=by
 refine mZ (C:=mkC 12 [4] [0,1,4,10] []) (mO _ _ _ _) (fO _) Tryz.func34 rfl rfl rfl (by decide) rfl ?_
 rintro⟨a0,(a1:Int),_⟩ hwf hpre ⟨⟩ hG rfl rfl
 show Vc _ _ [(0,⟨0,0,.c Z30 a0⟩),(1,⟨0,0,.c (.pure (.int .i64)) a1⟩)] _
 have q0:(0:Int)≤a1∧a1≤(big20:Int):=hpre
 have hb:List.length a0≤bigLen:=hwf.1.1
 have hw:IntKind.i64.wrap (a1-(List.length a0:Int))=a1-(List.length a0:Int):=subW hpre hb
 refine Vm hG rfl (Vm hG rfl (Vq (Vm hG rfl ?_)))
 refine Vk rfl ?_ ?_<;>intro h0
 · have g0:a1-(List.length a0:Int)<0:=by rw[←hw];exact oTr h0
   refine Vm hG rfl (Vt ?_)
   refine⟨?_,trivial⟩
   show (-1:Int)=if a1-(List.length a0:Int)<0 then -1 else szL (szF Y24) a0 (a1-(List.length a0:Int))
   rw[if_pos g0]
 · have g0:¬a1-(List.length a0:Int)<0:=by rw[←hw];exact oFa h0
   refine Vs (Vm hG rfl (Vt ?_))
   refine⟨?_,trivial⟩
   show IntKind.i64.wrap (a1-(List.length a0:Int))=if a1-(List.length a0:Int)<0 then -1 else szL (szF Y24) a0 (a1-(List.length a0:Int))
   rw[if_neg g0,hw,szL_id (fun x l hl=>szF_id Y24 rfl x l hl) a0 _ (show (0:Int)≤a1-(List.length a0:Int)from by omega)]
noncomputable def F5:Fun:=⟨[.pair Y34 Y55,.int .i64],[.pure (.int .i64)],fun x=>szPre x.1 x.2.1,fun x=>(szF Y64 x.1 x.2.1,())⟩
theorem F5_ok:Meets Tryz.prog 5 F5:=by
 refine mZ (C:=mkC 24 [4] [0,1,2,4,10,16,22] [⟨32,_,F32_ok⟩,⟨33,_,F33_ok⟩,⟨34,_,F34_ok⟩]) (mO _ _ _ _) (fO _) Tryz.func5 rfl rfl rfl (by decide) rfl ?_
 rintro⟨a0,(a1:Int),_⟩ hwf hpre ⟨⟩ hG rfl rfl
 show Vc _ _ [(0,⟨0,0,.c Z67 a0⟩),(1,⟨0,0,.c (.pure (.int .i64)) a1⟩)] _
 have q0:(0:Int)≤a1∧a1≤(big20:Int):=hpre
 refine Vm hG rfl (Vq ?_)
 refine Vr hG rfl ?_ ?_
 · exact(show (0:Int)≤a1∧a1≤(big20:Int)from⟨by omega,by omega⟩)
 refine Vq (Vm hG rfl ?_)
 refine Vk rfl ?_ ?_<;>intro h0
 · have m0:=szF_m1 Y34 rfl a0.1 (a1) (show (0:Int)≤a1 from by omega)
   have g0:szF Y34 a0.1 (a1)<0:=oTr h0
   refine Vm hG rfl (Vt ?_)
   refine⟨?_,trivial⟩
   show (-1:Int)=szF Y64 a0 a1
   refine Eq.trans ?_ (szSpine _ _ (show szF Y64 a0 a1=(if szF Y34 a0.1 (a1)<0 then -1 else(if szF Y18 a0.2.1 (szF Y34 a0.1 (a1))<0 then -1 else(if szF Y28 a0.2.2.1 (szF Y18 a0.2.1 (szF Y34 a0.1 (a1)))<0 then -1 else(if szF (.int .i64) a0.2.2.2.1 (szF Y28 a0.2.2.1 (szF Y18 a0.2.1 (szF Y34 a0.1 (a1))))<0 then -1 else szF (.int .i64) a0.2.2.2.2 (szF (.int .i64) a0.2.2.2.1 (szF Y28 a0.2.2.1 (szF Y18 a0.2.1 (szF Y34 a0.1 (a1)))))))))from rfl))
   rw[if_pos g0]
 · have m0:=szF_m1 Y34 rfl a0.1 (a1) (show (0:Int)≤a1 from by omega)
   have g0:¬szF Y34 a0.1 (a1)<0:=oFa h0
   have k0:=szF_le Y34 a0.1 (a1)
   refine Vs (Vq ?_)
   refine Vr hG rfl ?_ ?_
   · exact(show (0:Int)≤szF Y34 a0.1 (a1)∧szF Y34 a0.1 (a1)≤(big20:Int)from⟨by omega,by omega⟩)
   refine Vq (Vm hG rfl ?_)
   refine Vk rfl ?_ ?_<;>intro h1
   · have m1:=szF_m1 Y18 rfl a0.2.1 (szF Y34 a0.1 (a1)) (show (0:Int)≤szF Y34 a0.1 (a1)from by omega)
     have g1:szF Y18 a0.2.1 (szF Y34 a0.1 (a1))<0:=oTr h1
     refine Vm hG rfl (Vt ?_)
     refine⟨?_,trivial⟩
     show (-1:Int)=szF Y64 a0 a1
     refine Eq.trans ?_ (szSpine _ _ (show szF Y64 a0 a1=(if szF Y34 a0.1 (a1)<0 then -1 else(if szF Y18 a0.2.1 (szF Y34 a0.1 (a1))<0 then -1 else(if szF Y28 a0.2.2.1 (szF Y18 a0.2.1 (szF Y34 a0.1 (a1)))<0 then -1 else(if szF (.int .i64) a0.2.2.2.1 (szF Y28 a0.2.2.1 (szF Y18 a0.2.1 (szF Y34 a0.1 (a1))))<0 then -1 else szF (.int .i64) a0.2.2.2.2 (szF (.int .i64) a0.2.2.2.1 (szF Y28 a0.2.2.1 (szF Y18 a0.2.1 (szF Y34 a0.1 (a1)))))))))from rfl))
     rw[if_neg g0]
     rw[if_pos g1]
   · have m1:=szF_m1 Y18 rfl a0.2.1 (szF Y34 a0.1 (a1)) (show (0:Int)≤szF Y34 a0.1 (a1)from by omega)
     have g1:¬szF Y18 a0.2.1 (szF Y34 a0.1 (a1))<0:=oFa h1
     have k1:=szF_le Y18 a0.2.1 (szF Y34 a0.1 (a1))
     refine Vs (Vq ?_)
     refine Vr hG rfl ?_ ?_
     · exact(show (0:Int)≤szF Y18 a0.2.1 (szF Y34 a0.1 (a1))∧szF Y18 a0.2.1 (szF Y34 a0.1 (a1))≤(big20:Int)from⟨by omega,by omega⟩)
     refine Vq (Vm hG rfl ?_)
     refine Vk rfl ?_ ?_<;>intro h2
     · have m2:=szF_m1 Y28 rfl a0.2.2.1 (szF Y18 a0.2.1 (szF Y34 a0.1 (a1))) (show (0:Int)≤szF Y18 a0.2.1 (szF Y34 a0.1 (a1))from by omega)
       have g2:szF Y28 a0.2.2.1 (szF Y18 a0.2.1 (szF Y34 a0.1 (a1)))<0:=oTr h2
       refine Vm hG rfl (Vt ?_)
       refine⟨?_,trivial⟩
       show (-1:Int)=szF Y64 a0 a1
       refine Eq.trans ?_ (szSpine _ _ (show szF Y64 a0 a1=(if szF Y34 a0.1 (a1)<0 then -1 else(if szF Y18 a0.2.1 (szF Y34 a0.1 (a1))<0 then -1 else(if szF Y28 a0.2.2.1 (szF Y18 a0.2.1 (szF Y34 a0.1 (a1)))<0 then -1 else(if szF (.int .i64) a0.2.2.2.1 (szF Y28 a0.2.2.1 (szF Y18 a0.2.1 (szF Y34 a0.1 (a1))))<0 then -1 else szF (.int .i64) a0.2.2.2.2 (szF (.int .i64) a0.2.2.2.1 (szF Y28 a0.2.2.1 (szF Y18 a0.2.1 (szF Y34 a0.1 (a1)))))))))from rfl))
       rw[if_neg g0]
       rw[if_neg g1]
       rw[if_pos g2]
     · have m2:=szF_m1 Y28 rfl a0.2.2.1 (szF Y18 a0.2.1 (szF Y34 a0.1 (a1))) (show (0:Int)≤szF Y18 a0.2.1 (szF Y34 a0.1 (a1))from by omega)
       have g2:¬szF Y28 a0.2.2.1 (szF Y18 a0.2.1 (szF Y34 a0.1 (a1)))<0:=oFa h2
       have k2:=szF_le Y28 a0.2.2.1 (szF Y18 a0.2.1 (szF Y34 a0.1 (a1)))
       refine Vs (Vm hG rfl (Vt ?_))
       refine⟨?_,trivial⟩
       show szF Y28 a0.2.2.1 (szF Y18 a0.2.1 (szF Y34 a0.1 (a1)))=szF Y64 a0 a1
       refine Eq.trans ?_ (szSpine _ _ (show szF Y64 a0 a1=(if szF Y34 a0.1 (a1)<0 then -1 else(if szF Y18 a0.2.1 (szF Y34 a0.1 (a1))<0 then -1 else(if szF Y28 a0.2.2.1 (szF Y18 a0.2.1 (szF Y34 a0.1 (a1)))<0 then -1 else(if szF (.int .i64) a0.2.2.2.1 (szF Y28 a0.2.2.1 (szF Y18 a0.2.1 (szF Y34 a0.1 (a1))))<0 then -1 else szF (.int .i64) a0.2.2.2.2 (szF (.int .i64) a0.2.2.2.1 (szF Y28 a0.2.2.1 (szF Y18 a0.2.1 (szF Y34 a0.1 (a1)))))))))from rfl))
       rw[if_neg g0]
       rw[if_neg g1]
       rw[if_neg g2]
       rw[szF_id (.int .i64) rfl a0.2.2.2.1 (szF Y28 a0.2.2.1 (szF Y18 a0.2.1 (szF Y34 a0.1 (a1)))) (show (0:Int)≤szF Y28 a0.2.2.1 (szF Y18 a0.2.1 (szF Y34 a0.1 (a1)))from by omega)]
       rw[if_neg (show ¬szF Y28 a0.2.2.1 (szF Y18 a0.2.1 (szF Y34 a0.1 (a1)))<0 from by omega)]
       rw[szF_id (.int .i64) rfl a0.2.2.2.2 (szF Y28 a0.2.2.1 (szF Y18 a0.2.1 (szF Y34 a0.1 (a1)))) (show (0:Int)≤szF Y28 a0.2.2.1 (szF Y18 a0.2.1 (szF Y34 a0.1 (a1)))from by omega)]
noncomputable def F38:Fun:=⟨[.slice (.int .i64),.int .i64],[.pure (.int .i64)],fun x=>szPre x.1 x.2.1,fun x=>(szF (.slice (.int .i64)) x.1 x.2.1,())⟩
theorem F38_ok:Meets Tryz.prog 38 F38:=by
 refine mZ (C:=mkC 12 [4] [0,1,4,10] []) (mO _ _ _ _) (fO _) Tryz.func38 rfl rfl rfl (by decide) rfl ?_
 rintro⟨a0,(a1:Int),_⟩ hwf hpre ⟨⟩ hG rfl rfl
 show Vc _ _ [(0,⟨0,0,.c Z2 a0⟩),(1,⟨0,0,.c (.pure (.int .i64)) a1⟩)] _
 have q0:(0:Int)≤a1∧a1≤(big20:Int):=hpre
 have hb:List.length a0≤bigLen:=hwf.1.1
 have hw:IntKind.i64.wrap (a1-(List.length a0:Int))=a1-(List.length a0:Int):=subW hpre hb
 refine Vm hG rfl (Vm hG rfl (Vq (Vm hG rfl ?_)))
 refine Vk rfl ?_ ?_<;>intro h0
 · have g0:a1-(List.length a0:Int)<0:=by rw[←hw];exact oTr h0
   refine Vm hG rfl (Vt ?_)
   refine⟨?_,trivial⟩
   show (-1:Int)=if a1-(List.length a0:Int)<0 then -1 else szL (szF (.int .i64)) a0 (a1-(List.length a0:Int))
   rw[if_pos g0]
 · have g0:¬a1-(List.length a0:Int)<0:=by rw[←hw];exact oFa h0
   refine Vs (Vm hG rfl (Vt ?_))
   refine⟨?_,trivial⟩
   show IntKind.i64.wrap (a1-(List.length a0:Int))=if a1-(List.length a0:Int)<0 then -1 else szL (szF (.int .i64)) a0 (a1-(List.length a0:Int))
   rw[if_neg g0,hw,szL_id (fun x l hl=>szF_id (.int .i64) rfl x l hl) a0 _ (show (0:Int)≤a1-(List.length a0:Int)from by omega)]
noncomputable def F182:Fun:=⟨[.pair (.int .i64) Y9,.int .i64],[.pure (.int .i64)],fun x=>szPre x.1 x.2.1,fun x=>(szF Y19 x.1 x.2.1,())⟩
theorem F182_ok:Meets Tryz.prog 182 F182:=by
 refine mZ (C:=mkC 12 [4] [0,1,2,4,10] [⟨38,_,F38_ok⟩]) (mO _ _ _ _) (fO _) Tryz.func182 rfl rfl rfl (by decide) rfl ?_
 rintro⟨a0,(a1:Int),_⟩ hwf hpre ⟨⟩ hG rfl rfl
 show Vc _ _ [(0,⟨0,0,.c Z22 a0⟩),(1,⟨0,0,.c (.pure (.int .i64)) a1⟩)] _
 have q0:(0:Int)≤a1∧a1≤(big20:Int):=hpre
 refine Vm hG rfl (Vq ?_)
 refine Vr hG rfl ?_ ?_
 · exact(show (0:Int)≤a1∧a1≤(big20:Int)from⟨by omega,by omega⟩)
 refine Vq (Vm hG rfl ?_)
 refine Vk rfl ?_ ?_<;>intro h0
 · have m0:=szF_m1 (.slice (.int .i64)) rfl a0.2.1 (a1) (show (0:Int)≤a1 from by omega)
   have g0:szF (.slice (.int .i64)) a0.2.1 (a1)<0:=oTr h0
   refine Vm hG rfl (Vt ?_)
   refine⟨?_,trivial⟩
   show (-1:Int)=szF Y19 a0 a1
   refine Eq.trans ?_ (szSpine _ _ (show szF Y19 a0 a1=(if szF (.int .i64) a0.1 (a1)<0 then -1 else(if szF (.slice (.int .i64)) a0.2.1 (szF (.int .i64) a0.1 (a1))<0 then -1 else szF (.int .i64) a0.2.2 (szF (.slice (.int .i64)) a0.2.1 (szF (.int .i64) a0.1 (a1)))))from rfl))
   rw[szF_id (.int .i64) rfl a0.1 (a1) (show (0:Int)≤a1 from by omega)]
   rw[if_neg (show ¬a1<0 from by omega)]
   rw[if_pos g0]
 · have m0:=szF_m1 (.slice (.int .i64)) rfl a0.2.1 (a1) (show (0:Int)≤a1 from by omega)
   have g0:¬szF (.slice (.int .i64)) a0.2.1 (a1)<0:=oFa h0
   have k0:=szF_le (.slice (.int .i64)) a0.2.1 (a1)
   refine Vs (Vm hG rfl (Vt ?_))
   refine⟨?_,trivial⟩
   show szF (.slice (.int .i64)) a0.2.1 (a1)=szF Y19 a0 a1
   refine Eq.trans ?_ (szSpine _ _ (show szF Y19 a0 a1=(if szF (.int .i64) a0.1 (a1)<0 then -1 else(if szF (.slice (.int .i64)) a0.2.1 (szF (.int .i64) a0.1 (a1))<0 then -1 else szF (.int .i64) a0.2.2 (szF (.slice (.int .i64)) a0.2.1 (szF (.int .i64) a0.1 (a1)))))from rfl))
   rw[szF_id (.int .i64) rfl a0.1 (a1) (show (0:Int)≤a1 from by omega)]
   rw[if_neg (show ¬a1<0 from by omega)]
   rw[if_neg g0]
   rw[szF_id (.int .i64) rfl a0.2.2 (szF (.slice (.int .i64)) a0.2.1 (a1)) (show (0:Int)≤szF (.slice (.int .i64)) a0.2.1 (a1)from by omega)]
noncomputable def F118:Fun:=⟨[.slice Y19,.int .i64],[.pure (.int .i64)],fun x=>szPre x.1 x.2.1,fun x=>(szF Y23 x.1 x.2.1,())⟩
theorem F118_ok:Meets Tryz.prog 118 F118:=by
 refine mZ (C:=mkC 27 [4] [0,1,4,5,11,15,25] [⟨182,_,F182_ok⟩]) (mO _ _ _ _) (fO _) Tryz.func118 rfl rfl rfl (by decide) rfl ?_
 rintro⟨a0,(a1:Int),_⟩ hwf hpre ⟨⟩ hG rfl rfl
 show Vc _ _ [(0,⟨0,0,.c Z26 a0⟩),(1,⟨0,0,.c (.pure (.int .i64)) a1⟩)] _
 have q0:(0:Int)≤a1∧a1≤(big20:Int):=hpre
 have hb:List.length a0≤bigLen:=hwf.1.1
 have hw:IntKind.i64.wrap (a1-(List.length a0:Int))=a1-(List.length a0:Int):=subW hpre hb
 refine Vm hG rfl (Vm hG rfl (Vq (Vm hG rfl ?_)))
 refine Vk rfl ?_ ?_<;>intro h0
 · have g0:a1-(List.length a0:Int)<0:=by rw[←hw];exact oTr h0
   refine Vm hG rfl (Vt ?_)
   refine⟨?_,trivial⟩
   show (-1:Int)=if a1-(List.length a0:Int)<0 then -1 else szL (szF Y19) a0 (a1-(List.length a0:Int))
   rw[if_pos g0]
 · have g0:¬a1-(List.length a0:Int)<0:=by rw[←hw];exact oFa h0
   refine Vs (Vq (Vm hG rfl (Vb ?_)))
   refine Vc.loopF [(1,false,.pure (.int .i64)),(5,false,.pure (.int .i64))] [0,11] (fun v=>szInv (szF Y19) a0 (a1-(List.length a0:Int)) v.1 v.2.1) (fun v=>((List.length a0:Int)-v.2.1).toNat) rfl ?_ ?_
   · show szInv (szF Y19) a0 (a1-(List.length a0:Int)) (IntKind.i64.wrap (a1-(List.length a0:Int))) 0
     rw[hw]
     exact szStart (by omega) (by omega)
   rintro⟨(l:Int),(i:Int),_⟩ hI
   have hI:szInv (szF Y19) a0 (a1-(List.length a0:Int)) l i:=hI
   refine Vq (Vm hG rfl ?_)
   refine Vk rfl ?_ ?_<;>intro h1
   · have hl:i<(List.length a0:Int):=oTr h1
     refine Vs (Vq (Vb (Vq ?_)))
     refine Vr hG rfl ?_ ?_
     · exact⟨upRange hI.1 hl,⟨hI.2.1,hI.2.2.1⟩⟩
     refine Vm hG rfl ?_
     refine Vk rfl ?_ ?_<;>intro h2
     · have g2:szF Y19 (List.getD a0 i.toNat (dflt Y19)) l<0:=oTr h2
       refine Vm hG rfl (Vt ?_)
       refine⟨?_,trivial⟩
       show (-1:Int)=if a1-(List.length a0:Int)<0 then -1 else szL (szF Y19) a0 (a1-(List.length a0:Int))
       rw[if_neg g0,(szStep (d:=dflt Y19) hI (szF_le Y19) hl hb).1 g2]
     · have g2:¬szF Y19 (List.getD a0 i.toNat (dflt Y19)) l<0:=oFa h2
       refine Vs (Vn hG rfl ?_)
       refine⟨rfl,?_⟩
       exact⟨(szStep (d:=dflt Y19) hI (szF_le Y19) hl hb).2 g2,(upStep hI.1 hl hb).2.2⟩
   · have hl:¬i<(List.length a0:Int):=oFa h1
     refine Vx (Vm hG rfl (Vt ?_))
     refine⟨?_,trivial⟩
     show l=if a1-(List.length a0:Int)<0 then -1 else szL (szF Y19) a0 (a1-(List.length a0:Int))
     rw[if_neg g0,szEnd hI hl]
noncomputable def F253:Fun:=⟨[.slice Y1,.int .i64],[.pure (.int .i64)],fun x=>szPre x.1 x.2.1,fun x=>(szF Y6 x.1 x.2.1,())⟩
theorem F253_ok:Meets Tryz.prog 253 F253:=by
 refine mZ (C:=mkC 12 [4] [0,1,4,10] []) (mO _ _ _ _) (fO _) Tryz.func253 rfl rfl rfl (by decide) rfl ?_
 rintro⟨a0,(a1:Int),_⟩ hwf hpre ⟨⟩ hG rfl rfl
 show Vc _ _ [(0,⟨0,0,.c Z12 a0⟩),(1,⟨0,0,.c (.pure (.int .i64)) a1⟩)] _
 have q0:(0:Int)≤a1∧a1≤(big20:Int):=hpre
 have hb:List.length a0≤bigLen:=hwf.1.1
 have hw:IntKind.i64.wrap (a1-(List.length a0:Int))=a1-(List.length a0:Int):=subW hpre hb
 refine Vm hG rfl (Vm hG rfl (Vq (Vm hG rfl ?_)))
 refine Vk rfl ?_ ?_<;>intro h0
 · have g0:a1-(List.length a0:Int)<0:=by rw[←hw];exact oTr h0
   refine Vm hG rfl (Vt ?_)
   refine⟨?_,trivial⟩
   show (-1:Int)=if a1-(List.length a0:Int)<0 then -1 else szL (szF Y1) a0 (a1-(List.length a0:Int))
   rw[if_pos g0]
 · have g0:¬a1-(List.length a0:Int)<0:=by rw[←hw];exact oFa h0
   refine Vs (Vm hG rfl (Vt ?_))
   refine⟨?_,trivial⟩
   show IntKind.i64.wrap (a1-(List.length a0:Int))=if a1-(List.length a0:Int)<0 then -1 else szL (szF Y1) a0 (a1-(List.length a0:Int))
   rw[if_neg g0,hw,szL_id (fun x l hl=>szF_id Y1 rfl x l hl) a0 _ (show (0:Int)≤a1-(List.length a0:Int)from by omega)]
noncomputable def F79:Fun:=⟨[.slice Y32,.int .i64],[.pure (.int .i64)],fun x=>szPre x.1 x.2.1,fun x=>(szF Y34 x.1 x.2.1,())⟩
theorem F79_ok:Meets Tryz.prog 79 F79:=by
 refine mZ (C:=mkC 12 [4] [0,1,4,10] []) (mO _ _ _ _) (fO _) Tryz.func79 rfl rfl rfl (by decide) rfl ?_
 rintro⟨a0,(a1:Int),_⟩ hwf hpre ⟨⟩ hG rfl rfl
 show Vc _ _ [(0,⟨0,0,.c Z36 a0⟩),(1,⟨0,0,.c (.pure (.int .i64)) a1⟩)] _
 have q0:(0:Int)≤a1∧a1≤(big20:Int):=hpre
 have hb:List.length a0≤bigLen:=hwf.1.1
 have hw:IntKind.i64.wrap (a1-(List.length a0:Int))=a1-(List.length a0:Int):=subW hpre hb
 refine Vm hG rfl (Vm hG rfl (Vq (Vm hG rfl ?_)))
 refine Vk rfl ?_ ?_<;>intro h0
 · have g0:a1-(List.length a0:Int)<0:=by rw[←hw];exact oTr h0
   refine Vm hG rfl (Vt ?_)
   refine⟨?_,trivial⟩
   show (-1:Int)=if a1-(List.length a0:Int)<0 then -1 else szL (szF Y32) a0 (a1-(List.length a0:Int))
   rw[if_pos g0]
 · have g0:¬a1-(List.length a0:Int)<0:=by rw[←hw];exact oFa h0
   refine Vs (Vm hG rfl (Vt ?_))
   refine⟨?_,trivial⟩
   show IntKind.i64.wrap (a1-(List.length a0:Int))=if a1-(List.length a0:Int)<0 then -1 else szL (szF Y32) a0 (a1-(List.length a0:Int))
   rw[if_neg g0,hw,szL_id (fun x l hl=>szF_id Y32 rfl x l hl) a0 _ (show (0:Int)≤a1-(List.length a0:Int)from by omega)]
noncomputable def F183:Fun:=⟨[.pair (.int .i64) Y53,.int .i64],[.pure (.int .i64)],fun x=>szPre x.1 x.2.1,fun x=>(szF Y56 x.1 x.2.1,())⟩
theorem F183_ok:Meets Tryz.prog 183 F183:=by
 refine mZ (C:=mkC 18 [4] [0,1,2,4,10,16] [⟨253,_,F253_ok⟩,⟨79,_,F79_ok⟩]) (mO _ _ _ _) (fO _) Tryz.func183 rfl rfl rfl (by decide) rfl ?_
 rintro⟨a0,(a1:Int),_⟩ hwf hpre ⟨⟩ hG rfl rfl
 show Vc _ _ [(0,⟨0,0,.c Z57 a0⟩),(1,⟨0,0,.c (.pure (.int .i64)) a1⟩)] _
 have q0:(0:Int)≤a1∧a1≤(big20:Int):=hpre
 refine Vm hG rfl (Vq ?_)
 refine Vr hG rfl ?_ ?_
 · exact(show (0:Int)≤a1∧a1≤(big20:Int)from⟨by omega,by omega⟩)
 refine Vq (Vm hG rfl ?_)
 refine Vk rfl ?_ ?_<;>intro h0
 · have m0:=szF_m1 Y6 rfl a0.2.2.2.1 (a1) (show (0:Int)≤a1 from by omega)
   have g0:szF Y6 a0.2.2.2.1 (a1)<0:=oTr h0
   refine Vm hG rfl (Vt ?_)
   refine⟨?_,trivial⟩
   show (-1:Int)=szF Y56 a0 a1
   refine Eq.trans ?_ (szSpine _ _ (show szF Y56 a0 a1=(if szF (.int .i64) a0.1 (a1)<0 then -1 else(if szF (.int .i64) a0.2.1 (szF (.int .i64) a0.1 (a1))<0 then -1 else(if szF (.int .i64) a0.2.2.1 (szF (.int .i64) a0.2.1 (szF (.int .i64) a0.1 (a1)))<0 then -1 else(if szF Y6 a0.2.2.2.1 (szF (.int .i64) a0.2.2.1 (szF (.int .i64) a0.2.1 (szF (.int .i64) a0.1 (a1))))<0 then -1 else szF Y34 a0.2.2.2.2 (szF Y6 a0.2.2.2.1 (szF (.int .i64) a0.2.2.1 (szF (.int .i64) a0.2.1 (szF (.int .i64) a0.1 (a1)))))))))from rfl))
   rw[szF_id (.int .i64) rfl a0.1 (a1) (show (0:Int)≤a1 from by omega)]
   rw[if_neg (show ¬a1<0 from by omega)]
   rw[szF_id (.int .i64) rfl a0.2.1 (a1) (show (0:Int)≤a1 from by omega)]
   rw[if_neg (show ¬a1<0 from by omega)]
   rw[szF_id (.int .i64) rfl a0.2.2.1 (a1) (show (0:Int)≤a1 from by omega)]
   rw[if_neg (show ¬a1<0 from by omega)]
   rw[if_pos g0]
 · have m0:=szF_m1 Y6 rfl a0.2.2.2.1 (a1) (show (0:Int)≤a1 from by omega)
   have g0:¬szF Y6 a0.2.2.2.1 (a1)<0:=oFa h0
   have k0:=szF_le Y6 a0.2.2.2.1 (a1)
   refine Vs (Vq ?_)
   refine Vr hG rfl ?_ ?_
   · exact(show (0:Int)≤szF Y6 a0.2.2.2.1 (a1)∧szF Y6 a0.2.2.2.1 (a1)≤(big20:Int)from⟨by omega,by omega⟩)
   refine Vq (Vm hG rfl ?_)
   refine Vk rfl ?_ ?_<;>intro h1
   · have m1:=szF_m1 Y34 rfl a0.2.2.2.2 (szF Y6 a0.2.2.2.1 (a1)) (show (0:Int)≤szF Y6 a0.2.2.2.1 (a1)from by omega)
     have g1:szF Y34 a0.2.2.2.2 (szF Y6 a0.2.2.2.1 (a1))<0:=oTr h1
     refine Vm hG rfl (Vt ?_)
     refine⟨?_,trivial⟩
     show (-1:Int)=szF Y56 a0 a1
     refine Eq.trans ?_ (szSpine _ _ (show szF Y56 a0 a1=(if szF (.int .i64) a0.1 (a1)<0 then -1 else(if szF (.int .i64) a0.2.1 (szF (.int .i64) a0.1 (a1))<0 then -1 else(if szF (.int .i64) a0.2.2.1 (szF (.int .i64) a0.2.1 (szF (.int .i64) a0.1 (a1)))<0 then -1 else(if szF Y6 a0.2.2.2.1 (szF (.int .i64) a0.2.2.1 (szF (.int .i64) a0.2.1 (szF (.int .i64) a0.1 (a1))))<0 then -1 else szF Y34 a0.2.2.2.2 (szF Y6 a0.2.2.2.1 (szF (.int .i64) a0.2.2.1 (szF (.int .i64) a0.2.1 (szF (.int .i64) a0.1 (a1)))))))))from rfl))
     rw[szF_id (.int .i64) rfl a0.1 (a1) (show (0:Int)≤a1 from by omega)]
     rw[if_neg (show ¬a1<0 from by omega)]
     rw[szF_id (.int .i64) rfl a0.2.1 (a1) (show (0:Int)≤a1 from by omega)]
     rw[if_neg (show ¬a1<0 from by omega)]
     rw[szF_id (.int .i64) rfl a0.2.2.1 (a1) (show (0:Int)≤a1 from by omega)]
     rw[if_neg (show ¬a1<0 from by omega)]
     rw[if_neg g0]
     omega
   · have m1:=szF_m1 Y34 rfl a0.2.2.2.2 (szF Y6 a0.2.2.2.1 (a1)) (show (0:Int)≤szF Y6 a0.2.2.2.1 (a1)from by omega)
     have g1:¬szF Y34 a0.2.2.2.2 (szF Y6 a0.2.2.2.1 (a1))<0:=oFa h1
     have k1:=szF_le Y34 a0.2.2.2.2 (szF Y6 a0.2.2.2.1 (a1))
     refine Vs (Vm hG rfl (Vt ?_))
     refine⟨?_,trivial⟩
     show szF Y34 a0.2.2.2.2 (szF Y6 a0.2.2.2.1 (a1))=szF Y56 a0 a1
     refine Eq.trans ?_ (szSpine _ _ (show szF Y56 a0 a1=(if szF (.int .i64) a0.1 (a1)<0 then -1 else(if szF (.int .i64) a0.2.1 (szF (.int .i64) a0.1 (a1))<0 then -1 else(if szF (.int .i64) a0.2.2.1 (szF (.int .i64) a0.2.1 (szF (.int .i64) a0.1 (a1)))<0 then -1 else(if szF Y6 a0.2.2.2.1 (szF (.int .i64) a0.2.2.1 (szF (.int .i64) a0.2.1 (szF (.int .i64) a0.1 (a1))))<0 then -1 else szF Y34 a0.2.2.2.2 (szF Y6 a0.2.2.2.1 (szF (.int .i64) a0.2.2.1 (szF (.int .i64) a0.2.1 (szF (.int .i64) a0.1 (a1)))))))))from rfl))
     rw[szF_id (.int .i64) rfl a0.1 (a1) (show (0:Int)≤a1 from by omega)]
     rw[if_neg (show ¬a1<0 from by omega)]
     rw[szF_id (.int .i64) rfl a0.2.1 (a1) (show (0:Int)≤a1 from by omega)]
     rw[if_neg (show ¬a1<0 from by omega)]
     rw[szF_id (.int .i64) rfl a0.2.2.1 (a1) (show (0:Int)≤a1 from by omega)]
     rw[if_neg (show ¬a1<0 from by omega)]
     rw[if_neg g0]
noncomputable def F119:Fun:=⟨[.slice Y56,.int .i64],[.pure (.int .i64)],fun x=>szPre x.1 x.2.1,fun x=>(szF Y59 x.1 x.2.1,())⟩
theorem F119_ok:Meets Tryz.prog 119 F119:=by
 refine mZ (C:=mkC 27 [4] [0,1,4,5,11,15,25] [⟨183,_,F183_ok⟩]) (mO _ _ _ _) (fO _) Tryz.func119 rfl rfl rfl (by decide) rfl ?_
 rintro⟨a0,(a1:Int),_⟩ hwf hpre ⟨⟩ hG rfl rfl
 show Vc _ _ [(0,⟨0,0,.c Z60 a0⟩),(1,⟨0,0,.c (.pure (.int .i64)) a1⟩)] _
 have q0:(0:Int)≤a1∧a1≤(big20:Int):=hpre
 have hb:List.length a0≤bigLen:=hwf.1.1
 have hw:IntKind.i64.wrap (a1-(List.length a0:Int))=a1-(List.length a0:Int):=subW hpre hb
 refine Vm hG rfl (Vm hG rfl (Vq (Vm hG rfl ?_)))
 refine Vk rfl ?_ ?_<;>intro h0
 · have g0:a1-(List.length a0:Int)<0:=by rw[←hw];exact oTr h0
   refine Vm hG rfl (Vt ?_)
   refine⟨?_,trivial⟩
   show (-1:Int)=if a1-(List.length a0:Int)<0 then -1 else szL (szF Y56) a0 (a1-(List.length a0:Int))
   rw[if_pos g0]
 · have g0:¬a1-(List.length a0:Int)<0:=by rw[←hw];exact oFa h0
   refine Vs (Vq (Vm hG rfl (Vb ?_)))
   refine Vc.loopF [(1,false,.pure (.int .i64)),(5,false,.pure (.int .i64))] [0,11] (fun v=>szInv (szF Y56) a0 (a1-(List.length a0:Int)) v.1 v.2.1) (fun v=>((List.length a0:Int)-v.2.1).toNat) rfl ?_ ?_
   · show szInv (szF Y56) a0 (a1-(List.length a0:Int)) (IntKind.i64.wrap (a1-(List.length a0:Int))) 0
     rw[hw]
     exact szStart (by omega) (by omega)
   rintro⟨(l:Int),(i:Int),_⟩ hI
   have hI:szInv (szF Y56) a0 (a1-(List.length a0:Int)) l i:=hI
   refine Vq (Vm hG rfl ?_)
   refine Vk rfl ?_ ?_<;>intro h1
   · have hl:i<(List.length a0:Int):=oTr h1
     refine Vs (Vq (Vb (Vq ?_)))
     refine Vr hG rfl ?_ ?_
     · exact⟨upRange hI.1 hl,⟨hI.2.1,hI.2.2.1⟩⟩
     refine Vm hG rfl ?_
     refine Vk rfl ?_ ?_<;>intro h2
     · have g2:szF Y56 (List.getD a0 i.toNat (dflt Y56)) l<0:=oTr h2
       refine Vm hG rfl (Vt ?_)
       refine⟨?_,trivial⟩
       show (-1:Int)=if a1-(List.length a0:Int)<0 then -1 else szL (szF Y56) a0 (a1-(List.length a0:Int))
       rw[if_neg g0,(szStep (d:=dflt Y56) hI (szF_le Y56) hl hb).1 g2]
     · have g2:¬szF Y56 (List.getD a0 i.toNat (dflt Y56)) l<0:=oFa h2
       refine Vs (Vn hG rfl ?_)
       refine⟨rfl,?_⟩
       exact⟨(szStep (d:=dflt Y56) hI (szF_le Y56) hl hb).2 g2,(upStep hI.1 hl hb).2.2⟩
   · have hl:¬i<(List.length a0:Int):=oFa h1
     refine Vx (Vm hG rfl (Vt ?_))
     refine⟨?_,trivial⟩
     show l=if a1-(List.length a0:Int)<0 then -1 else szL (szF Y56) a0 (a1-(List.length a0:Int))
     rw[if_neg g0,szEnd hI hl]
noncomputable def F78:Fun:=⟨[.pair Y23 Y59,.int .i64],[.pure (.int .i64)],fun x=>szPre x.1 x.2.1,fun x=>(szF Y63 x.1 x.2.1,())⟩
theorem F78_ok:Meets Tryz.prog 78 F78:=by
 refine mZ (C:=mkC 18 [4] [0,1,2,4,10,16] [⟨118,_,F118_ok⟩,⟨119,_,F119_ok⟩]) (mO _ _ _ _) (fO _) Tryz.func78 rfl rfl rfl (by decide) rfl ?_
 rintro⟨a0,(a1:Int),_⟩ hwf hpre ⟨⟩ hG rfl rfl
 show Vc _ _ [(0,⟨0,0,.c Z65 a0⟩),(1,⟨0,0,.c (.pure (.int .i64)) a1⟩)] _
 have q0:(0:Int)≤a1∧a1≤(big20:Int):=hpre
 refine Vm hG rfl (Vq ?_)
 refine Vr hG rfl ?_ ?_
 · exact(show (0:Int)≤a1∧a1≤(big20:Int)from⟨by omega,by omega⟩)
 refine Vq (Vm hG rfl ?_)
 refine Vk rfl ?_ ?_<;>intro h0
 · have m0:=szF_m1 Y23 rfl a0.1 (a1) (show (0:Int)≤a1 from by omega)
   have g0:szF Y23 a0.1 (a1)<0:=oTr h0
   refine Vm hG rfl (Vt ?_)
   refine⟨?_,trivial⟩
   show (-1:Int)=szF Y63 a0 a1
   refine Eq.trans ?_ (szSpine _ _ (show szF Y63 a0 a1=(if szF Y23 a0.1 (a1)<0 then -1 else szF Y59 a0.2 (szF Y23 a0.1 (a1)))from rfl))
   rw[if_pos g0]
 · have m0:=szF_m1 Y23 rfl a0.1 (a1) (show (0:Int)≤a1 from by omega)
   have g0:¬szF Y23 a0.1 (a1)<0:=oFa h0
   have k0:=szF_le Y23 a0.1 (a1)
   refine Vs (Vq ?_)
   refine Vr hG rfl ?_ ?_
   · exact(show (0:Int)≤szF Y23 a0.1 (a1)∧szF Y23 a0.1 (a1)≤(big20:Int)from⟨by omega,by omega⟩)
   refine Vq (Vm hG rfl ?_)
   refine Vk rfl ?_ ?_<;>intro h1
   · have m1:=szF_m1 Y59 rfl a0.2 (szF Y23 a0.1 (a1)) (show (0:Int)≤szF Y23 a0.1 (a1)from by omega)
     have g1:szF Y59 a0.2 (szF Y23 a0.1 (a1))<0:=oTr h1
     refine Vm hG rfl (Vt ?_)
     refine⟨?_,trivial⟩
     show (-1:Int)=szF Y63 a0 a1
     refine Eq.trans ?_ (szSpine _ _ (show szF Y63 a0 a1=(if szF Y23 a0.1 (a1)<0 then -1 else szF Y59 a0.2 (szF Y23 a0.1 (a1)))from rfl))
     rw[if_neg g0]
     omega
   · have m1:=szF_m1 Y59 rfl a0.2 (szF Y23 a0.1 (a1)) (show (0:Int)≤szF Y23 a0.1 (a1)from by omega)
     have g1:¬szF Y59 a0.2 (szF Y23 a0.1 (a1))<0:=oFa h1
     have k1:=szF_le Y59 a0.2 (szF Y23 a0.1 (a1))
     refine Vs (Vm hG rfl (Vt ?_))
     refine⟨?_,trivial⟩
     show szF Y59 a0.2 (szF Y23 a0.1 (a1))=szF Y63 a0 a1
     refine Eq.trans ?_ (szSpine _ _ (show szF Y63 a0 a1=(if szF Y23 a0.1 (a1)<0 then -1 else szF Y59 a0.2 (szF Y23 a0.1 (a1)))from rfl))
     rw[if_neg g0]
noncomputable def F35:Fun:=⟨[.slice Y63,.int .i64],[.pure (.int .i64)],fun x=>szPre x.1 x.2.1,fun x=>(szF Y66 x.1 x.2.1,())⟩
theorem F35_ok:Meets Tryz.prog 35 F35:=by
 refine mZ (C:=mkC 27 [4] [0,1,4,5,11,15,25] [⟨78,_,F78_ok⟩]) (mO _ _ _ _) (fO _) Tryz.func35 rfl rfl rfl (by decide) rfl ?_
 rintro⟨a0,(a1:Int),_⟩ hwf hpre ⟨⟩ hG rfl rfl
 show Vc _ _ [(0,⟨0,0,.c Z68 a0⟩),(1,⟨0,0,.c (.pure (.int .i64)) a1⟩)] _
 have q0:(0:Int)≤a1∧a1≤(big20:Int):=hpre
 have hb:List.length a0≤bigLen:=hwf.1.1
 have hw:IntKind.i64.wrap (a1-(List.length a0:Int))=a1-(List.length a0:Int):=subW hpre hb
 refine Vm hG rfl (Vm hG rfl (Vq (Vm hG rfl ?_)))
 refine Vk rfl ?_ ?_<;>intro h0
 · have g0:a1-(List.length a0:Int)<0:=by rw[←hw];exact oTr h0
   refine Vm hG rfl (Vt ?_)
   refine⟨?_,trivial⟩
   show (-1:Int)=if a1-(List.length a0:Int)<0 then -1 else szL (szF Y63) a0 (a1-(List.length a0:Int))
   rw[if_pos g0]
 · have g0:¬a1-(List.length a0:Int)<0:=by rw[←hw];exact oFa h0
   refine Vs (Vq (Vm hG rfl (Vb ?_)))
   refine Vc.loopF [(1,false,.pure (.int .i64)),(5,false,.pure (.int .i64))] [0,11] (fun v=>szInv (szF Y63) a0 (a1-(List.length a0:Int)) v.1 v.2.1) (fun v=>((List.length a0:Int)-v.2.1).toNat) rfl ?_ ?_
   · show szInv (szF Y63) a0 (a1-(List.length a0:Int)) (IntKind.i64.wrap (a1-(List.length a0:Int))) 0
     rw[hw]
     exact szStart (by omega) (by omega)
   rintro⟨(l:Int),(i:Int),_⟩ hI
   have hI:szInv (szF Y63) a0 (a1-(List.length a0:Int)) l i:=hI
   refine Vq (Vm hG rfl ?_)
   refine Vk rfl ?_ ?_<;>intro h1
   · have hl:i<(List.length a0:Int):=oTr h1
     refine Vs (Vq (Vb (Vq ?_)))
     refine Vr hG rfl ?_ ?_
     · exact⟨upRange hI.1 hl,⟨hI.2.1,hI.2.2.1⟩⟩
     refine Vm hG rfl ?_
     refine Vk rfl ?_ ?_<;>intro h2
     · have g2:szF Y63 (List.getD a0 i.toNat (dflt Y63)) l<0:=oTr h2
       refine Vm hG rfl (Vt ?_)
       refine⟨?_,trivial⟩
       show (-1:Int)=if a1-(List.length a0:Int)<0 then -1 else szL (szF Y63) a0 (a1-(List.length a0:Int))
       rw[if_neg g0,(szStep (d:=dflt Y63) hI (szF_le Y63) hl hb).1 g2]
     · have g2:¬szF Y63 (List.getD a0 i.toNat (dflt Y63)) l<0:=oFa h2
       refine Vs (Vn hG rfl ?_)
       refine⟨rfl,?_⟩
       exact⟨(szStep (d:=dflt Y63) hI (szF_le Y63) hl hb).2 g2,(upStep hI.1 hl hb).2.2⟩
   · have hl:¬i<(List.length a0:Int):=oFa h1
     refine Vx (Vm hG rfl (Vt ?_))
     refine⟨?_,trivial⟩
     show l=if a1-(List.length a0:Int)<0 then -1 else szL (szF Y63) a0 (a1-(List.length a0:Int))
     rw[if_neg g0,szEnd hI hl]
noncomputable def F36:Fun:=⟨[.slice Y34,.int .i64],[.pure (.int .i64)],fun x=>szPre x.1 x.2.1,fun x=>(szF Y37 x.1 x.2.1,())⟩
theorem F36_ok:Meets Tryz.prog 36 F36:=by
 refine mZ (C:=mkC 27 [4] [0,1,4,5,11,15,25] [⟨79,_,F79_ok⟩]) (mO _ _ _ _) (fO _) Tryz.func36 rfl rfl rfl (by decide) rfl ?_
 rintro⟨a0,(a1:Int),_⟩ hwf hpre ⟨⟩ hG rfl rfl
 show Vc _ _ [(0,⟨0,0,.c Z40 a0⟩),(1,⟨0,0,.c (.pure (.int .i64)) a1⟩)] _
 have q0:(0:Int)≤a1∧a1≤(big20:Int):=hpre
 have hb:List.length a0≤bigLen:=hwf.1.1
 have hw:IntKind.i64.wrap (a1-(List.length a0:Int))=a1-(List.length a0:Int):=subW hpre hb
 refine Vm hG rfl (Vm hG rfl (Vq (Vm hG rfl ?_)))
 refine Vk rfl ?_ ?_<;>intro h0
 · have g0:a1-(List.length a0:Int)<0:=by rw[←hw];exact oTr h0
   refine Vm hG rfl (Vt ?_)
   refine⟨?_,trivial⟩
   show (-1:Int)=if a1-(List.length a0:Int)<0 then -1 else szL (szF Y34) a0 (a1-(List.length a0:Int))
   rw[if_pos g0]
 · have g0:¬a1-(List.length a0:Int)<0:=by rw[←hw];exact oFa h0
   refine Vs (Vq (Vm hG rfl (Vb ?_)))
   refine Vc.loopF [(1,false,.pure (.int .i64)),(5,false,.pure (.int .i64))] [0,11] (fun v=>szInv (szF Y34) a0 (a1-(List.length a0:Int)) v.1 v.2.1) (fun v=>((List.length a0:Int)-v.2.1).toNat) rfl ?_ ?_
   · show szInv (szF Y34) a0 (a1-(List.length a0:Int)) (IntKind.i64.wrap (a1-(List.length a0:Int))) 0
     rw[hw]
     exact szStart (by omega) (by omega)
   rintro⟨(l:Int),(i:Int),_⟩ hI
   have hI:szInv (szF Y34) a0 (a1-(List.length a0:Int)) l i:=hI
   refine Vq (Vm hG rfl ?_)
   refine Vk rfl ?_ ?_<;>intro h1
   · have hl:i<(List.length a0:Int):=oTr h1
     refine Vs (Vq (Vb (Vq ?_)))
     refine Vr hG rfl ?_ ?_
     · exact⟨upRange hI.1 hl,⟨hI.2.1,hI.2.2.1⟩⟩
     refine Vm hG rfl ?_
     refine Vk rfl ?_ ?_<;>intro h2
     · have g2:szF Y34 (List.getD a0 i.toNat (dflt Y34)) l<0:=oTr h2
       refine Vm hG rfl (Vt ?_)
       refine⟨?_,trivial⟩
       show (-1:Int)=if a1-(List.length a0:Int)<0 then -1 else szL (szF Y34) a0 (a1-(List.length a0:Int))
       rw[if_neg g0,(szStep (d:=dflt Y34) hI (szF_le Y34) hl hb).1 g2]
     · have g2:¬szF Y34 (List.getD a0 i.toNat (dflt Y34)) l<0:=oFa h2
       refine Vs (Vn hG rfl ?_)
       refine⟨rfl,?_⟩
       exact⟨(szStep (d:=dflt Y34) hI (szF_le Y34) hl hb).2 g2,(upStep hI.1 hl hb).2.2⟩
   · have hl:¬i<(List.length a0:Int):=oFa h1
     refine Vx (Vm hG rfl (Vt ?_))
     refine⟨?_,trivial⟩
     show l=if a1-(List.length a0:Int)<0 then -1 else szL (szF Y34) a0 (a1-(List.length a0:Int))
     rw[if_neg g0,szEnd hI hl]
noncomputable def F6:Fun:=⟨[.pair Y66 Y37,.int .i64],[.pure (.int .i64)],fun x=>szPre x.1 x.2.1,fun x=>(szF Y71 x.1 x.2.1,())⟩
theorem F6_ok:Meets Tryz.prog 6 F6:=by
 refine mZ (C:=mkC 18 [4] [0,1,2,4,10,16] [⟨35,_,F35_ok⟩,⟨36,_,F36_ok⟩]) (mO _ _ _ _) (fO _) Tryz.func6 rfl rfl rfl (by decide) rfl ?_
 rintro⟨a0,(a1:Int),_⟩ hwf hpre ⟨⟩ hG rfl rfl
 show Vc _ _ [(0,⟨0,0,.c Z72 a0⟩),(1,⟨0,0,.c (.pure (.int .i64)) a1⟩)] _
 have q0:(0:Int)≤a1∧a1≤(big20:Int):=hpre
 refine Vm hG rfl (Vq ?_)
 refine Vr hG rfl ?_ ?_
 · exact(show (0:Int)≤a1∧a1≤(big20:Int)from⟨by omega,by omega⟩)
 refine Vq (Vm hG rfl ?_)
 refine Vk rfl ?_ ?_<;>intro h0
 · have m0:=szF_m1 Y66 rfl a0.1 (a1) (show (0:Int)≤a1 from by omega)
   have g0:szF Y66 a0.1 (a1)<0:=oTr h0
   refine Vm hG rfl (Vt ?_)
   refine⟨?_,trivial⟩
   show (-1:Int)=szF Y71 a0 a1
   refine Eq.trans ?_ (szSpine _ _ (show szF Y71 a0 a1=(if szF Y66 a0.1 (a1)<0 then -1 else szF Y37 a0.2 (szF Y66 a0.1 (a1)))from rfl))
   rw[if_pos g0]
 · have m0:=szF_m1 Y66 rfl a0.1 (a1) (show (0:Int)≤a1 from by omega)
   have g0:¬szF Y66 a0.1 (a1)<0:=oFa h0
   have k0:=szF_le Y66 a0.1 (a1)
   refine Vs (Vq ?_)
   refine Vr hG rfl ?_ ?_
   · exact(show (0:Int)≤szF Y66 a0.1 (a1)∧szF Y66 a0.1 (a1)≤(big20:Int)from⟨by omega,by omega⟩)
   refine Vq (Vm hG rfl ?_)
   refine Vk rfl ?_ ?_<;>intro h1
   · have m1:=szF_m1 Y37 rfl a0.2 (szF Y66 a0.1 (a1)) (show (0:Int)≤szF Y66 a0.1 (a1)from by omega)
     have g1:szF Y37 a0.2 (szF Y66 a0.1 (a1))<0:=oTr h1
     refine Vm hG rfl (Vt ?_)
     refine⟨?_,trivial⟩
     show (-1:Int)=szF Y71 a0 a1
     refine Eq.trans ?_ (szSpine _ _ (show szF Y71 a0 a1=(if szF Y66 a0.1 (a1)<0 then -1 else szF Y37 a0.2 (szF Y66 a0.1 (a1)))from rfl))
     rw[if_neg g0]
     omega
   · have m1:=szF_m1 Y37 rfl a0.2 (szF Y66 a0.1 (a1)) (show (0:Int)≤szF Y66 a0.1 (a1)from by omega)
     have g1:¬szF Y37 a0.2 (szF Y66 a0.1 (a1))<0:=oFa h1
     have k1:=szF_le Y37 a0.2 (szF Y66 a0.1 (a1))
     refine Vs (Vm hG rfl (Vt ?_))
     refine⟨?_,trivial⟩
     show szF Y37 a0.2 (szF Y66 a0.1 (a1))=szF Y71 a0 a1
     refine Eq.trans ?_ (szSpine _ _ (show szF Y71 a0 a1=(if szF Y66 a0.1 (a1)<0 then -1 else szF Y37 a0.2 (szF Y66 a0.1 (a1)))from rfl))
     rw[if_neg g0]
noncomputable def F37:Fun:=⟨[.slice (.str),.int .i64],[.pure (.int .i64)],fun x=>szPre x.1 x.2.1,fun x=>(szF (.slice (.str)) x.1 x.2.1,())⟩
theorem F37_ok:Meets Tryz.prog 37 F37:=by
 refine mZ (C:=mkC 28 [4] [0,1,4,5,11,15,26] []) (mO _ _ _ _) (fO _) Tryz.func37 rfl rfl rfl (by decide) rfl ?_
 rintro⟨a0,(a1:Int),_⟩ hwf hpre ⟨⟩ hG rfl rfl
 show Vc _ _ [(0,⟨0,0,.c (.pure (.slice (.str))) a0⟩),(1,⟨0,0,.c (.pure (.int .i64)) a1⟩)] _
 have q0:(0:Int)≤a1∧a1≤(big20:Int):=hpre
 have hb:List.length a0≤bigLen:=hwf.1.1
 have hw:IntKind.i64.wrap (a1-(List.length a0:Int))=a1-(List.length a0:Int):=subW hpre hb
 refine Vm hG rfl (Vm hG rfl (Vq (Vm hG rfl ?_)))
 refine Vk rfl ?_ ?_<;>intro h0
 · have g0:a1-(List.length a0:Int)<0:=by rw[←hw];exact oTr h0
   refine Vm hG rfl (Vt ?_)
   refine⟨?_,trivial⟩
   show (-1:Int)=if a1-(List.length a0:Int)<0 then -1 else szL (szF (.str)) a0 (a1-(List.length a0:Int))
   rw[if_pos g0]
 · have g0:¬a1-(List.length a0:Int)<0:=by rw[←hw];exact oFa h0
   refine Vs (Vq (Vm hG rfl (Vb ?_)))
   refine Vc.loopF [(1,false,.pure (.int .i64)),(5,false,.pure (.int .i64))] [0,11] (fun v=>szInv (szF (.str)) a0 (a1-(List.length a0:Int)) v.1 v.2.1) (fun v=>((List.length a0:Int)-v.2.1).toNat) rfl ?_ ?_
   · show szInv (szF (.str)) a0 (a1-(List.length a0:Int)) (IntKind.i64.wrap (a1-(List.length a0:Int))) 0
     rw[hw]
     exact szStart (by omega) (by omega)
   rintro⟨(l:Int),(i:Int),_⟩ hI
   have hI:szInv (szF (.str)) a0 (a1-(List.length a0:Int)) l i:=hI
   refine Vq (Vm hG rfl ?_)
   refine Vk rfl ?_ ?_<;>intro h1
   · have hl:i<(List.length a0:Int):=oTr h1
     refine Vs (Vq (Vb (Vq ?_)))
     refine Vr hG rfl ?_ ?_
     · exact upRange hI.1 hl
     refine Vm hG rfl ?_
     refine Vk rfl ?_ ?_<;>intro h2
     · have hs:List.length (List.getD a0 i.toNat (dflt .str))≤bigLen:=hwf.1.2 _ (upElem hI.1 hl)
       have hw2:IntKind.i64.wrap (l-(List.length (List.getD a0 i.toNat (dflt .str)):Int))=l-(List.length (List.getD a0 i.toNat (dflt .str)):Int):=subW ⟨hI.2.1,hI.2.2.1⟩ hs
       have g2:szF (.str) (List.getD a0 i.toNat (dflt (.str))) l<0:=by show l-_<0;rw[←hw2];exact oTr h2
       refine Vm hG rfl (Vt ?_)
       refine⟨?_,trivial⟩
       show (-1:Int)=if a1-(List.length a0:Int)<0 then -1 else szL (szF (.str)) a0 (a1-(List.length a0:Int))
       rw[if_neg g0,(szStep (d:=dflt (.str)) hI (szF_le (.str)) hl hb).1 g2]
     · have hs:List.length (List.getD a0 i.toNat (dflt .str))≤bigLen:=hwf.1.2 _ (upElem hI.1 hl)
       have hw2:IntKind.i64.wrap (l-(List.length (List.getD a0 i.toNat (dflt .str)):Int))=l-(List.length (List.getD a0 i.toNat (dflt .str)):Int):=subW ⟨hI.2.1,hI.2.2.1⟩ hs
       have g2:¬szF (.str) (List.getD a0 i.toNat (dflt (.str))) l<0:=by show ¬l-_<0;rw[←hw2];exact oFa h2
       refine Vs (Vn hG rfl ?_)
       refine⟨rfl,?_⟩
       show szInv (szF (.str)) a0 (a1-(List.length a0:Int)) (IntKind.i64.wrap (l-(List.length (List.getD a0 i.toNat (dflt .str)):Int))) (IntKind.i64.wrap (i+1))∧_
       rw[hw2]
       exact⟨(szStep (d:=dflt (.str)) hI (szF_le (.str)) hl hb).2 g2,(upStep hI.1 hl hb).2.2⟩
   · have hl:¬i<(List.length a0:Int):=oFa h1
     refine Vx (Vm hG rfl (Vt ?_))
     refine⟨?_,trivial⟩
     show l=if a1-(List.length a0:Int)<0 then -1 else szL (szF (.str)) a0 (a1-(List.length a0:Int))
     rw[if_neg g0,szEnd hI hl]
noncomputable def F7:Fun:=⟨[.pair (.int .i64) Y13,.int .i64],[.pure (.int .i64)],fun x=>szPre x.1 x.2.1,fun x=>(szF Y20 x.1 x.2.1,())⟩
theorem F7_ok:Meets Tryz.prog 7 F7:=by
 refine mZ (C:=mkC 18 [4] [0,1,2,4,10,16] [⟨37,_,F37_ok⟩,⟨38,_,F38_ok⟩]) (mO _ _ _ _) (fO _) Tryz.func7 rfl rfl rfl (by decide) rfl ?_
 rintro⟨a0,(a1:Int),_⟩ hwf hpre ⟨⟩ hG rfl rfl
 show Vc _ _ [(0,⟨0,0,.c Z25 a0⟩),(1,⟨0,0,.c (.pure (.int .i64)) a1⟩)] _
 have q0:(0:Int)≤a1∧a1≤(big20:Int):=hpre
 refine Vm hG rfl (Vq ?_)
 refine Vr hG rfl ?_ ?_
 · exact(show (0:Int)≤a1∧a1≤(big20:Int)from⟨by omega,by omega⟩)
 refine Vq (Vm hG rfl ?_)
 refine Vk rfl ?_ ?_<;>intro h0
 · have m0:=szF_m1 (.slice (.str)) rfl a0.2.1 (a1) (show (0:Int)≤a1 from by omega)
   have g0:szF (.slice (.str)) a0.2.1 (a1)<0:=oTr h0
   refine Vm hG rfl (Vt ?_)
   refine⟨?_,trivial⟩
   show (-1:Int)=szF Y20 a0 a1
   refine Eq.trans ?_ (szSpine _ _ (show szF Y20 a0 a1=(if szF (.int .i64) a0.1 (a1)<0 then -1 else(if szF (.slice (.str)) a0.2.1 (szF (.int .i64) a0.1 (a1))<0 then -1 else szF (.slice (.int .i64)) a0.2.2 (szF (.slice (.str)) a0.2.1 (szF (.int .i64) a0.1 (a1)))))from rfl))
   rw[szF_id (.int .i64) rfl a0.1 (a1) (show (0:Int)≤a1 from by omega)]
   rw[if_neg (show ¬a1<0 from by omega)]
   rw[if_pos g0]
 · have m0:=szF_m1 (.slice (.str)) rfl a0.2.1 (a1) (show (0:Int)≤a1 from by omega)
   have g0:¬szF (.slice (.str)) a0.2.1 (a1)<0:=oFa h0
   have k0:=szF_le (.slice (.str)) a0.2.1 (a1)
   refine Vs (Vq ?_)
   refine Vr hG rfl ?_ ?_
   · exact(show (0:Int)≤szF (.slice (.str)) a0.2.1 (a1)∧szF (.slice (.str)) a0.2.1 (a1)≤(big20:Int)from⟨by omega,by omega⟩)
   refine Vq (Vm hG rfl ?_)
   refine Vk rfl ?_ ?_<;>intro h1
   · have m1:=szF_m1 (.slice (.int .i64)) rfl a0.2.2 (szF (.slice (.str)) a0.2.1 (a1)) (show (0:Int)≤szF (.slice (.str)) a0.2.1 (a1)from by omega)
     have g1:szF (.slice (.int .i64)) a0.2.2 (szF (.slice (.str)) a0.2.1 (a1))<0:=oTr h1
     refine Vm hG rfl (Vt ?_)
     refine⟨?_,trivial⟩
     show (-1:Int)=szF Y20 a0 a1
     refine Eq.trans ?_ (szSpine _ _ (show szF Y20 a0 a1=(if szF (.int .i64) a0.1 (a1)<0 then -1 else(if szF (.slice (.str)) a0.2.1 (szF (.int .i64) a0.1 (a1))<0 then -1 else szF (.slice (.int .i64)) a0.2.2 (szF (.slice (.str)) a0.2.1 (szF (.int .i64) a0.1 (a1)))))from rfl))
     rw[szF_id (.int .i64) rfl a0.1 (a1) (show (0:Int)≤a1 from by omega)]
     rw[if_neg (show ¬a1<0 from by omega)]
     rw[if_neg g0]
     omega
   · have m1:=szF_m1 (.slice (.int .i64)) rfl a0.2.2 (szF (.slice (.str)) a0.2.1 (a1)) (show (0:Int)≤szF (.slice (.str)) a0.2.1 (a1)from by omega)
     have g1:¬szF (.slice (.int .i64)) a0.2.2 (szF (.slice (.str)) a0.2.1 (a1))<0:=oFa h1
     have k1:=szF_le (.slice (.int .i64)) a0.2.2 (szF (.slice (.str)) a0.2.1 (a1))
     refine Vs (Vm hG rfl (Vt ?_))
     refine⟨?_,trivial⟩
     show szF (.slice (.int .i64)) a0.2.2 (szF (.slice (.str)) a0.2.1 (a1))=szF Y20 a0 a1
     refine Eq.trans ?_ (szSpine _ _ (show szF Y20 a0 a1=(if szF (.int .i64) a0.1 (a1)<0 then -1 else(if szF (.slice (.str)) a0.2.1 (szF (.int .i64) a0.1 (a1))<0 then -1 else szF (.slice (.int .i64)) a0.2.2 (szF (.slice (.str)) a0.2.1 (szF (.int .i64) a0.1 (a1)))))from rfl))
     rw[szF_id (.int .i64) rfl a0.1 (a1) (show (0:Int)≤a1 from by omega)]
     rw[if_neg (show ¬a1<0 from by omega)]
     rw[if_neg g0]
noncomputable def F84:Fun:=⟨[.pair (.int .i64) Y24],[.pure Y32],fun _=>True,fun x=>(id x.1,())⟩
theorem F84_ok:Meets Tryz.prog 84 F84:=by
 refine mZ (C:=mkC 20 [2] [0,1,2,3] []) (mO _ _ _ _) (fO _) Tryz.func84 rfl rfl rfl (by decide) rfl ?_
 rintro⟨a0,_⟩ hwf hpre ⟨⟩ hG rfl rfl
 show Vc _ _ [(0,⟨0,0,.c Z33 a0⟩)] _
 refine Vm hG rfl (Vm hG rfl (Vm hG rfl (Vm hG rfl ?_)))
 refine Vm hG rfl (Vm hG rfl (Vm hG rfl (Vm hG rfl ?_)))
 refine Vt ?_
 refine⟨?_,trivial⟩
 all_goals exact rfl
noncomputable def F41:Fun:=⟨[.slice Y32],[.own Z33],fun x=>Sm big20 Y34 x.1,fun x=>(id x.1,())⟩
theorem F41_ok:Meets Tryz.prog 41 F41:=by
 refine mZ (C:=mkC 23 [2] [0,2,3,4,11] [⟨84,_,F84_ok⟩]) (mO _ _ _ _) (fO _) Tryz.func41 rfl rfl rfl (by decide) rfl ?_
 rintro⟨a0,_⟩ hwf hpre ⟨⟩ hG rfl rfl
 show Vc _ _ [(0,⟨0,0,.c Z36 a0⟩)] _
 have hp:_∧_:=hpre
 have hb:List.length a0≤bigLen:=hwf.1.1
 refine Vm hG rfl (Vq ?_)
 refine Vr hG rfl ?_ ?_
 · exact⟨rfl,Int.natCast_nonneg _,mkSmall hp.1⟩
 refine Vq (Vm hG rfl (Vb ?_))
 refine Vc.loopF [(3,false,.own Z33),(4,false,.pure (.int .i64))] [0,2] (fun v=>toInv a0 (dflt Y32) v.1 v.2.1) (fun v=>((List.length a0:Int)-v.2.1).toNat) rfl ?_ ?_
 · exact toStart
 rintro⟨ys,(i:Int),_⟩ hI
 have hI:toInv a0 (dflt Y32) ys i:=hI
 refine Vq (Vm hG rfl ?_)
 refine Vk rfl ?_ ?_<;>intro h0
 · have hl:i<(List.length a0:Int):=oTr h0
   refine Vs (Vq (Vb ?_))
   refine Vr hG rfl ?_ ?_
   · exact⟨(toRange hI hl).1,trivial,(toRange hI hl).2⟩
   refine Vn hG rfl ?_
   refine⟨rfl,?_⟩
   exact⟨toStep hI hl hb,toMu hI hl hb⟩
 · have hl:¬i<(List.length a0:Int):=oFa h0
   refine Vx (Vm hG rfl (Vt ?_))
   refine⟨?_,trivial⟩
   exact toEnd hI hl
noncomputable def F85:Fun:=⟨[.pair (.int .i64) Y4],[.pure Y15],fun _=>True,fun x=>(id x.1,())⟩
theorem F85_ok:Meets Tryz.prog 85 F85:=by
 refine mZ (C:=mkC 14 [2] [0,1,2,3] []) (mO _ _ _ _) (fO _) Tryz.func85 rfl rfl rfl (by decide) rfl ?_
 rintro⟨a0,_⟩ hwf hpre ⟨⟩ hG rfl rfl
 show Vc _ _ [(0,⟨0,0,.c Z17 a0⟩)] _
 refine Vm hG rfl (Vm hG rfl (Vm hG rfl (Vm hG rfl ?_)))
 refine Vm hG rfl (Vm hG rfl (Vt ?_))
 refine⟨?_,trivial⟩
 all_goals exact rfl
noncomputable def F42:Fun:=⟨[.slice Y15],[.own Z17],fun x=>Sm big20 Y18 x.1,fun x=>(id x.1,())⟩
theorem F42_ok:Meets Tryz.prog 42 F42:=by
 refine mZ (C:=mkC 23 [2] [0,2,3,4,11] [⟨85,_,F85_ok⟩]) (mO _ _ _ _) (fO _) Tryz.func42 rfl rfl rfl (by decide) rfl ?_
 rintro⟨a0,_⟩ hwf hpre ⟨⟩ hG rfl rfl
 show Vc _ _ [(0,⟨0,0,.c Z21 a0⟩)] _
 have hp:_∧_:=hpre
 have hb:List.length a0≤bigLen:=hwf.1.1
 refine Vm hG rfl (Vq ?_)
 refine Vr hG rfl ?_ ?_
 · exact⟨rfl,Int.natCast_nonneg _,mkSmall hp.1⟩
 refine Vq (Vm hG rfl (Vb ?_))
 refine Vc.loopF [(3,false,.own Z17),(4,false,.pure (.int .i64))] [0,2] (fun v=>toInv a0 (dflt Y15) v.1 v.2.1) (fun v=>((List.length a0:Int)-v.2.1).toNat) rfl ?_ ?_
 · exact toStart
 rintro⟨ys,(i:Int),_⟩ hI
 have hI:toInv a0 (dflt Y15) ys i:=hI
 refine Vq (Vm hG rfl ?_)
 refine Vk rfl ?_ ?_<;>intro h0
 · have hl:i<(List.length a0:Int):=oTr h0
   refine Vs (Vq (Vb ?_))
   refine Vr hG rfl ?_ ?_
   · exact⟨(toRange hI hl).1,trivial,(toRange hI hl).2⟩
   refine Vn hG rfl ?_
   refine⟨rfl,?_⟩
   exact⟨toStep hI hl hb,toMu hI hl hb⟩
 · have hl:¬i<(List.length a0:Int):=oFa h0
   refine Vx (Vm hG rfl (Vt ?_))
   refine⟨?_,trivial⟩
   exact toEnd hI hl
noncomputable def F86:Fun:=⟨[.pair (.int .i64) Y15],[.pure Y24],fun _=>True,fun x=>(id x.1,())⟩
theorem F86_ok:Meets Tryz.prog 86 F86:=by
 refine mZ (C:=mkC 17 [2] [0,1,2,3] []) (mO _ _ _ _) (fO _) Tryz.func86 rfl rfl rfl (by decide) rfl ?_
 rintro⟨a0,_⟩ hwf hpre ⟨⟩ hG rfl rfl
 show Vc _ _ [(0,⟨0,0,.c Z27 a0⟩)] _
 refine Vm hG rfl (Vm hG rfl (Vm hG rfl (Vm hG rfl ?_)))
 refine Vm hG rfl (Vm hG rfl (Vm hG rfl (Vt ?_)))
 refine⟨?_,trivial⟩
 all_goals exact rfl
noncomputable def F43:Fun:=⟨[.slice Y24],[.own Z27],fun x=>Sm big20 Y28 x.1,fun x=>(id x.1,())⟩
theorem F43_ok:Meets Tryz.prog 43 F43:=by
 refine mZ (C:=mkC 23 [2] [0,2,3,4,11] [⟨86,_,F86_ok⟩]) (mO _ _ _ _) (fO _) Tryz.func43 rfl rfl rfl (by decide) rfl ?_
 rintro⟨a0,_⟩ hwf hpre ⟨⟩ hG rfl rfl
 show Vc _ _ [(0,⟨0,0,.c Z30 a0⟩)] _
 have hp:_∧_:=hpre
 have hb:List.length a0≤bigLen:=hwf.1.1
 refine Vm hG rfl (Vq ?_)
 refine Vr hG rfl ?_ ?_
 · exact⟨rfl,Int.natCast_nonneg _,mkSmall hp.1⟩
 refine Vq (Vm hG rfl (Vb ?_))
 refine Vc.loopF [(3,false,.own Z27),(4,false,.pure (.int .i64))] [0,2] (fun v=>toInv a0 (dflt Y24) v.1 v.2.1) (fun v=>((List.length a0:Int)-v.2.1).toNat) rfl ?_ ?_
 · exact toStart
 rintro⟨ys,(i:Int),_⟩ hI
 have hI:toInv a0 (dflt Y24) ys i:=hI
 refine Vq (Vm hG rfl ?_)
 refine Vk rfl ?_ ?_<;>intro h0
 · have hl:i<(List.length a0:Int):=oTr h0
   refine Vs (Vq (Vb ?_))
   refine Vr hG rfl ?_ ?_
   · exact⟨(toRange hI hl).1,trivial,(toRange hI hl).2⟩
   refine Vn hG rfl ?_
   refine⟨rfl,?_⟩
   exact⟨toStep hI hl hb,toMu hI hl hb⟩
 · have hl:¬i<(List.length a0:Int):=oFa h0
   refine Vx (Vm hG rfl (Vt ?_))
   refine⟨?_,trivial⟩
   exact toEnd hI hl
noncomputable def F9:Fun:=⟨[.pair Y34 Y55],[.pair Z35 (.pair (.own Z17) (.pair (.own Z27) Z8))],fun x=>Sm big20 Y64 x.1,fun x=>(id x.1,())⟩
theorem F9_ok:Meets Tryz.prog 9 F9:=by
 refine mZ (C:=mkC 23 [2] [0,1,2,3] [⟨41,_,F41_ok⟩,⟨42,_,F42_ok⟩,⟨43,_,F43_ok⟩]) (mO _ _ _ _) (fO _) Tryz.func9 rfl rfl rfl (by decide) rfl ?_
 rintro⟨a0,_⟩ hwf hpre ⟨⟩ hG rfl rfl
 show Vc _ _ [(0,⟨0,0,.c Z67 a0⟩)] _
 have hp0:_∧_:=hpre
 have hp1:_∧_:=hp0.2
 have hp2:_∧_:=hp1.2
 have hp3:_∧_:=hp2.2
 refine Vm hG rfl (Vm hG rfl (Vq ?_))
 refine Vr hG rfl ?_ ?_
 · exact hp0.1
 refine Vq ?_
 refine Vr hG rfl ?_ ?_
 · exact hp1.1
 refine Vq ?_
 refine Vr hG rfl ?_ ?_
 · exact hp2.1
 refine Vm hG rfl (Vm hG rfl (Vm hG rfl (Vt ?_)))
 refine⟨?_,trivial⟩
 all_goals exact rfl
noncomputable def F47:Fun:=⟨[.slice (.int .i64)],[.own (.pure (.int .i64))],fun x=>Sm big20 (.slice (.int .i64)) x.1,fun x=>(id x.1,())⟩
theorem F47_ok:Meets Tryz.prog 47 F47:=by
 refine mZ (C:=mkC 22 [2] [0,2,3,4,11] []) (mO _ _ _ _) (fO _) Tryz.func47 rfl rfl rfl (by decide) rfl ?_
 rintro⟨a0,_⟩ hwf hpre ⟨⟩ hG rfl rfl
 show Vc _ _ [(0,⟨0,0,.c Z2 a0⟩)] _
 have hp:_∧_:=hpre
 have hb:List.length a0≤bigLen:=hwf.1.1
 refine Vm hG rfl (Vq ?_)
 refine Vr hG rfl ?_ ?_
 · exact⟨rfl,Int.natCast_nonneg _,mkSmall hp.1⟩
 refine Vq (Vm hG rfl (Vb ?_))
 refine Vc.loopF [(3,false,.own (.pure (.int .i64))),(4,false,.pure (.int .i64))] [0,2] (fun v=>toInv a0 (dflt (.int .i64)) v.1 v.2.1) (fun v=>((List.length a0:Int)-v.2.1).toNat) rfl ?_ ?_
 · exact toStart
 rintro⟨ys,(i:Int),_⟩ hI
 have hI:toInv a0 (dflt (.int .i64)) ys i:=hI
 refine Vq (Vm hG rfl ?_)
 refine Vk rfl ?_ ?_<;>intro h0
 · have hl:i<(List.length a0:Int):=oTr h0
   refine Vs (Vq (Vb ?_))
   refine Vr hG rfl ?_ ?_
   · exact⟨(toRange hI hl).1,(toRange hI hl).2⟩
   refine Vn hG rfl ?_
   refine⟨rfl,?_⟩
   exact⟨toStep hI hl hb,toMu hI hl hb⟩
 · have hl:¬i<(List.length a0:Int):=oFa h0
   refine Vx (Vm hG rfl (Vt ?_))
   refine⟨?_,trivial⟩
   exact toEnd hI hl
noncomputable def F208:Fun:=⟨[.pair (.int .i64) Y9],[.pair (.pure (.int .i64)) Z16],fun x=>Sm big20 Y19 x.1,fun x=>(id x.1,())⟩
theorem F208_ok:Meets Tryz.prog 208 F208:=by
 refine mZ (C:=mkC 15 [2] [0,1,2,3] [⟨47,_,F47_ok⟩]) (mO _ _ _ _) (fO _) Tryz.func208 rfl rfl rfl (by decide) rfl ?_
 rintro⟨a0,_⟩ hwf hpre ⟨⟩ hG rfl rfl
 show Vc _ _ [(0,⟨0,0,.c Z22 a0⟩)] _
 have hp0:_∧_:=hpre
 have hp1:_∧_:=hp0.2
 refine Vm hG rfl (Vm hG rfl (Vm hG rfl (Vq ?_)))
 refine Vr hG rfl ?_ ?_
 · exact hp1.1
 refine Vm hG rfl (Vm hG rfl (Vt ?_))
 refine⟨?_,trivial⟩
 all_goals exact rfl
noncomputable def F139:Fun:=⟨[.slice Y19],[.own Z29],fun x=>Sm big20 Y23 x.1,fun x=>(id x.1,())⟩
theorem F139_ok:Meets Tryz.prog 139 F139:=by
 refine mZ (C:=mkC 23 [2] [0,2,3,4,11] [⟨208,_,F208_ok⟩]) (mO _ _ _ _) (fO _) Tryz.func139 rfl rfl rfl (by decide) rfl ?_
 rintro⟨a0,_⟩ hwf hpre ⟨⟩ hG rfl rfl
 show Vc _ _ [(0,⟨0,0,.c Z26 a0⟩)] _
 have hp:_∧_:=hpre
 have hb:List.length a0≤bigLen:=hwf.1.1
 refine Vm hG rfl (Vq ?_)
 refine Vr hG rfl ?_ ?_
 · exact⟨rfl,Int.natCast_nonneg _,mkSmall hp.1⟩
 refine Vq (Vm hG rfl (Vb ?_))
 refine Vc.loopF [(3,false,.own Z29),(4,false,.pure (.int .i64))] [0,2] (fun v=>toInv a0 (dflt Y19) v.1 v.2.1) (fun v=>((List.length a0:Int)-v.2.1).toNat) rfl ?_ ?_
 · exact toStart
 rintro⟨ys,(i:Int),_⟩ hI
 have hI:toInv a0 (dflt Y19) ys i:=hI
 refine Vq (Vm hG rfl ?_)
 refine Vk rfl ?_ ?_<;>intro h0
 · have hl:i<(List.length a0:Int):=oTr h0
   refine Vs (Vq (Vb ?_))
   refine Vr hG rfl ?_ ?_
   · exact⟨(toRange hI hl).1,hp.2 _ (toElem hI hl),(toRange hI hl).2⟩
   refine Vn hG rfl ?_
   refine⟨rfl,?_⟩
   exact⟨toStep hI hl hb,toMu hI hl hb⟩
 · have hl:¬i<(List.length a0:Int):=oFa h0
   refine Vx (Vm hG rfl (Vt ?_))
   refine⟨?_,trivial⟩
   exact toEnd hI hl
noncomputable def F330:Fun:=⟨[.pair (.int .i64) (.bool)],[.pure Y1],fun _=>True,fun x=>(id x.1,())⟩
theorem F330_ok:Meets Tryz.prog 330 F330:=by
 refine mZ (C:=mkC 11 [2] [0,1,2,3] []) (mO _ _ _ _) (fO _) Tryz.func330 rfl rfl rfl (by decide) rfl ?_
 rintro⟨a0,_⟩ hwf hpre ⟨⟩ hG rfl rfl
 show Vc _ _ [(0,⟨0,0,.c Z5 a0⟩)] _
 refine Vm hG rfl (Vm hG rfl (Vm hG rfl (Vm hG rfl ?_)))
 refine Vm hG rfl (Vt ?_)
 refine⟨?_,trivial⟩
 all_goals exact rfl
noncomputable def F280:Fun:=⟨[.slice Y1],[.own Z5],fun x=>Sm big20 Y6 x.1,fun x=>(id x.1,())⟩
theorem F280_ok:Meets Tryz.prog 280 F280:=by
 refine mZ (C:=mkC 23 [2] [0,2,3,4,11] [⟨330,_,F330_ok⟩]) (mO _ _ _ _) (fO _) Tryz.func280 rfl rfl rfl (by decide) rfl ?_
 rintro⟨a0,_⟩ hwf hpre ⟨⟩ hG rfl rfl
 show Vc _ _ [(0,⟨0,0,.c Z12 a0⟩)] _
 have hp:_∧_:=hpre
 have hb:List.length a0≤bigLen:=hwf.1.1
 refine Vm hG rfl (Vq ?_)
 refine Vr hG rfl ?_ ?_
 · exact⟨rfl,Int.natCast_nonneg _,mkSmall hp.1⟩
 refine Vq (Vm hG rfl (Vb ?_))
 refine Vc.loopF [(3,false,.own Z5),(4,false,.pure (.int .i64))] [0,2] (fun v=>toInv a0 (dflt Y1) v.1 v.2.1) (fun v=>((List.length a0:Int)-v.2.1).toNat) rfl ?_ ?_
 · exact toStart
 rintro⟨ys,(i:Int),_⟩ hI
 have hI:toInv a0 (dflt Y1) ys i:=hI
 refine Vq (Vm hG rfl ?_)
 refine Vk rfl ?_ ?_<;>intro h0
 · have hl:i<(List.length a0:Int):=oTr h0
   refine Vs (Vq (Vb ?_))
   refine Vr hG rfl ?_ ?_
   · exact⟨(toRange hI hl).1,trivial,(toRange hI hl).2⟩
   refine Vn hG rfl ?_
   refine⟨rfl,?_⟩
   exact⟨toStep hI hl hb,toMu hI hl hb⟩
 · have hl:¬i<(List.length a0:Int):=oFa h0
   refine Vx (Vm hG rfl (Vt ?_))
   refine⟨?_,trivial⟩
   exact toEnd hI hl
noncomputable def F141:Fun:=⟨[.pair (.int .i64) Y24],[.pure Y32],fun _=>True,fun x=>(id x.1,())⟩
theorem F141_ok:Meets Tryz.prog 141 F141:=by
 refine mZ (C:=mkC 20 [2] [0,1,2,3] []) (mO _ _ _ _) (fO _) Tryz.func141 rfl rfl rfl (by decide) rfl ?_
 rintro⟨a0,_⟩ hwf hpre ⟨⟩ hG rfl rfl
 show Vc _ _ [(0,⟨0,0,.c Z33 a0⟩)] _
 refine Vm hG rfl (Vm hG rfl (Vm hG rfl (Vm hG rfl ?_)))
 refine Vm hG rfl (Vm hG rfl (Vm hG rfl (Vm hG rfl ?_)))
 refine Vt ?_
 refine⟨?_,trivial⟩
 all_goals exact rfl
noncomputable def F88:Fun:=⟨[.slice Y32],[.own Z33],fun x=>Sm big20 Y34 x.1,fun x=>(id x.1,())⟩
theorem F88_ok:Meets Tryz.prog 88 F88:=by
 refine mZ (C:=mkC 23 [2] [0,2,3,4,11] [⟨141,_,F141_ok⟩]) (mO _ _ _ _) (fO _) Tryz.func88 rfl rfl rfl (by decide) rfl ?_
 rintro⟨a0,_⟩ hwf hpre ⟨⟩ hG rfl rfl
 show Vc _ _ [(0,⟨0,0,.c Z36 a0⟩)] _
 have hp:_∧_:=hpre
 have hb:List.length a0≤bigLen:=hwf.1.1
 refine Vm hG rfl (Vq ?_)
 refine Vr hG rfl ?_ ?_
 · exact⟨rfl,Int.natCast_nonneg _,mkSmall hp.1⟩
 refine Vq (Vm hG rfl (Vb ?_))
 refine Vc.loopF [(3,false,.own Z33),(4,false,.pure (.int .i64))] [0,2] (fun v=>toInv a0 (dflt Y32) v.1 v.2.1) (fun v=>((List.length a0:Int)-v.2.1).toNat) rfl ?_ ?_
 · exact toStart
 rintro⟨ys,(i:Int),_⟩ hI
 have hI:toInv a0 (dflt Y32) ys i:=hI
 refine Vq (Vm hG rfl ?_)
 refine Vk rfl ?_ ?_<;>intro h0
 · have hl:i<(List.length a0:Int):=oTr h0
   refine Vs (Vq (Vb ?_))
   refine Vr hG rfl ?_ ?_
   · exact⟨(toRange hI hl).1,trivial,(toRange hI hl).2⟩
   refine Vn hG rfl ?_
   refine⟨rfl,?_⟩
   exact⟨toStep hI hl hb,toMu hI hl hb⟩
 · have hl:¬i<(List.length a0:Int):=oFa h0
   refine Vx (Vm hG rfl (Vt ?_))
   refine⟨?_,trivial⟩
   exact toEnd hI hl
noncomputable def F209:Fun:=⟨[.pair (.int .i64) Y53],[.pair (.pure (.int .i64)) Z58],fun x=>Sm big20 Y56 x.1,fun x=>(id x.1,())⟩
theorem F209_ok:Meets Tryz.prog 209 F209:=by
 refine mZ (C:=mkC 22 [2] [0,1,2,3] [⟨280,_,F280_ok⟩,⟨88,_,F88_ok⟩]) (mO _ _ _ _) (fO _) Tryz.func209 rfl rfl rfl (by decide) rfl ?_
 rintro⟨a0,_⟩ hwf hpre ⟨⟩ hG rfl rfl
 show Vc _ _ [(0,⟨0,0,.c Z57 a0⟩)] _
 have hp0:_∧_:=hpre
 have hp1:_∧_:=hp0.2
 have hp2:_∧_:=hp1.2
 have hp3:_∧_:=hp2.2
 refine Vm hG rfl (Vm hG rfl (Vm hG rfl (Vm hG rfl ?_)))
 refine Vm hG rfl (Vq ?_)
 refine Vr hG rfl ?_ ?_
 · exact hp3.1
 refine Vq ?_
 refine Vr hG rfl ?_ ?_
 · exact hp3.2
 refine Vm hG rfl (Vt ?_)
 refine⟨?_,trivial⟩
 all_goals exact rfl
noncomputable def F140:Fun:=⟨[.slice Y56],[.own Z61],fun x=>Sm big20 Y59 x.1,fun x=>(id x.1,())⟩
theorem F140_ok:Meets Tryz.prog 140 F140:=by
 refine mZ (C:=mkC 23 [2] [0,2,3,4,11] [⟨209,_,F209_ok⟩]) (mO _ _ _ _) (fO _) Tryz.func140 rfl rfl rfl (by decide) rfl ?_
 rintro⟨a0,_⟩ hwf hpre ⟨⟩ hG rfl rfl
 show Vc _ _ [(0,⟨0,0,.c Z60 a0⟩)] _
 have hp:_∧_:=hpre
 have hb:List.length a0≤bigLen:=hwf.1.1
 refine Vm hG rfl (Vq ?_)
 refine Vr hG rfl ?_ ?_
 · exact⟨rfl,Int.natCast_nonneg _,mkSmall hp.1⟩
 refine Vq (Vm hG rfl (Vb ?_))
 refine Vc.loopF [(3,false,.own Z61),(4,false,.pure (.int .i64))] [0,2] (fun v=>toInv a0 (dflt Y56) v.1 v.2.1) (fun v=>((List.length a0:Int)-v.2.1).toNat) rfl ?_ ?_
 · exact toStart
 rintro⟨ys,(i:Int),_⟩ hI
 have hI:toInv a0 (dflt Y56) ys i:=hI
 refine Vq (Vm hG rfl ?_)
 refine Vk rfl ?_ ?_<;>intro h0
 · have hl:i<(List.length a0:Int):=oTr h0
   refine Vs (Vq (Vb ?_))
   refine Vr hG rfl ?_ ?_
   · exact⟨(toRange hI hl).1,hp.2 _ (toElem hI hl),(toRange hI hl).2⟩
   refine Vn hG rfl ?_
   refine⟨rfl,?_⟩
   exact⟨toStep hI hl hb,toMu hI hl hb⟩
 · have hl:¬i<(List.length a0:Int):=oFa h0
   refine Vx (Vm hG rfl (Vt ?_))
   refine⟨?_,trivial⟩
   exact toEnd hI hl
noncomputable def F87:Fun:=⟨[.pair Y23 Y59],[.pair Z31 Z62],fun x=>Sm big20 Y63 x.1,fun x=>(id x.1,())⟩
theorem F87_ok:Meets Tryz.prog 87 F87:=by
 refine mZ (C:=mkC 13 [2] [0,1,2,3] [⟨139,_,F139_ok⟩,⟨140,_,F140_ok⟩]) (mO _ _ _ _) (fO _) Tryz.func87 rfl rfl rfl (by decide) rfl ?_
 rintro⟨a0,_⟩ hwf hpre ⟨⟩ hG rfl rfl
 show Vc _ _ [(0,⟨0,0,.c Z65 a0⟩)] _
 have hp0:_∧_:=hpre
 refine Vm hG rfl (Vm hG rfl (Vq ?_))
 refine Vr hG rfl ?_ ?_
 · exact hp0.1
 refine Vq ?_
 refine Vr hG rfl ?_ ?_
 · exact hp0.2
 refine Vm hG rfl (Vt ?_)
 refine⟨?_,trivial⟩
 all_goals exact rfl
noncomputable def F44:Fun:=⟨[.slice Y63],[.own Z69],fun x=>Sm big20 Y66 x.1,fun x=>(id x.1,())⟩
theorem F44_ok:Meets Tryz.prog 44 F44:=by
 refine mZ (C:=mkC 23 [2] [0,2,3,4,11] [⟨87,_,F87_ok⟩]) (mO _ _ _ _) (fO _) Tryz.func44 rfl rfl rfl (by decide) rfl ?_
 rintro⟨a0,_⟩ hwf hpre ⟨⟩ hG rfl rfl
 show Vc _ _ [(0,⟨0,0,.c Z68 a0⟩)] _
 have hp:_∧_:=hpre
 have hb:List.length a0≤bigLen:=hwf.1.1
 refine Vm hG rfl (Vq ?_)
 refine Vr hG rfl ?_ ?_
 · exact⟨rfl,Int.natCast_nonneg _,mkSmall hp.1⟩
 refine Vq (Vm hG rfl (Vb ?_))
 refine Vc.loopF [(3,false,.own Z69),(4,false,.pure (.int .i64))] [0,2] (fun v=>toInv a0 (dflt Y63) v.1 v.2.1) (fun v=>((List.length a0:Int)-v.2.1).toNat) rfl ?_ ?_
 · exact toStart
 rintro⟨ys,(i:Int),_⟩ hI
 have hI:toInv a0 (dflt Y63) ys i:=hI
 refine Vq (Vm hG rfl ?_)
 refine Vk rfl ?_ ?_<;>intro h0
 · have hl:i<(List.length a0:Int):=oTr h0
   refine Vs (Vq (Vb ?_))
   refine Vr hG rfl ?_ ?_
   · exact⟨(toRange hI hl).1,hp.2 _ (toElem hI hl),(toRange hI hl).2⟩
   refine Vn hG rfl ?_
   refine⟨rfl,?_⟩
   exact⟨toStep hI hl hb,toMu hI hl hb⟩
 · have hl:¬i<(List.length a0:Int):=oFa h0
   refine Vx (Vm hG rfl (Vt ?_))
   refine⟨?_,trivial⟩
   exact toEnd hI hl
noncomputable def F45:Fun:=⟨[.slice Y34],[.own Z35],fun x=>Sm big20 Y37 x.1,fun x=>(id x.1,())⟩
theorem F45_ok:Meets Tryz.prog 45 F45:=by
 refine mZ (C:=mkC 23 [2] [0,2,3,4,11] [⟨88,_,F88_ok⟩]) (mO _ _ _ _) (fO _) Tryz.func45 rfl rfl rfl (by decide) rfl ?_
 rintro⟨a0,_⟩ hwf hpre ⟨⟩ hG rfl rfl
 show Vc _ _ [(0,⟨0,0,.c Z40 a0⟩)] _
 have hp:_∧_:=hpre
 have hb:List.length a0≤bigLen:=hwf.1.1
 refine Vm hG rfl (Vq ?_)
 refine Vr hG rfl ?_ ?_
 · exact⟨rfl,Int.natCast_nonneg _,mkSmall hp.1⟩
 refine Vq (Vm hG rfl (Vb ?_))
 refine Vc.loopF [(3,false,.own Z35),(4,false,.pure (.int .i64))] [0,2] (fun v=>toInv a0 (dflt Y34) v.1 v.2.1) (fun v=>((List.length a0:Int)-v.2.1).toNat) rfl ?_ ?_
 · exact toStart
 rintro⟨ys,(i:Int),_⟩ hI
 have hI:toInv a0 (dflt Y34) ys i:=hI
 refine Vq (Vm hG rfl ?_)
 refine Vk rfl ?_ ?_<;>intro h0
 · have hl:i<(List.length a0:Int):=oTr h0
   refine Vs (Vq (Vb ?_))
   refine Vr hG rfl ?_ ?_
   · exact⟨(toRange hI hl).1,hp.2 _ (toElem hI hl),(toRange hI hl).2⟩
   refine Vn hG rfl ?_
   refine⟨rfl,?_⟩
   exact⟨toStep hI hl hb,toMu hI hl hb⟩
 · have hl:¬i<(List.length a0:Int):=oFa h0
   refine Vx (Vm hG rfl (Vt ?_))
   refine⟨?_,trivial⟩
   exact toEnd hI hl
noncomputable def F10:Fun:=⟨[.pair Y66 Y37],[.pair Z70 Z39],fun x=>Sm big20 Y71 x.1,fun x=>(id x.1,())⟩
theorem F10_ok:Meets Tryz.prog 10 F10:=by
 refine mZ (C:=mkC 13 [2] [0,1,2,3] [⟨44,_,F44_ok⟩,⟨45,_,F45_ok⟩]) (mO _ _ _ _) (fO _) Tryz.func10 rfl rfl rfl (by decide) rfl ?_
 rintro⟨a0,_⟩ hwf hpre ⟨⟩ hG rfl rfl
 show Vc _ _ [(0,⟨0,0,.c Z72 a0⟩)] _
 have hp0:_∧_:=hpre
 refine Vm hG rfl (Vm hG rfl (Vq ?_))
 refine Vr hG rfl ?_ ?_
 · exact hp0.1
 refine Vq ?_
 refine Vr hG rfl ?_ ?_
 · exact hp0.2
 refine Vm hG rfl (Vt ?_)
 refine⟨?_,trivial⟩
 all_goals exact rfl
noncomputable def F46:Fun:=⟨[.slice (.str)],[.own (.pure (.str))],fun x=>Sm big20 (.slice (.str)) x.1,fun x=>(id x.1,())⟩
theorem F46_ok:Meets Tryz.prog 46 F46:=by
 refine mZ (C:=mkC 22 [2] [0,2,3,4,11] []) (mO _ _ _ _) (fO _) Tryz.func46 rfl rfl rfl (by decide) rfl ?_
 rintro⟨a0,_⟩ hwf hpre ⟨⟩ hG rfl rfl
 show Vc _ _ [(0,⟨0,0,.c (.pure (.slice (.str))) a0⟩)] _
 have hp:_∧_:=hpre
 have hb:List.length a0≤bigLen:=hwf.1.1
 refine Vm hG rfl (Vq ?_)
 refine Vr hG rfl ?_ ?_
 · exact⟨rfl,Int.natCast_nonneg _,mkSmall hp.1⟩
 refine Vq (Vm hG rfl (Vb ?_))
 refine Vc.loopF [(3,false,.own (.pure (.str))),(4,false,.pure (.int .i64))] [0,2] (fun v=>toInv a0 (dflt (.str)) v.1 v.2.1) (fun v=>((List.length a0:Int)-v.2.1).toNat) rfl ?_ ?_
 · exact toStart
 rintro⟨ys,(i:Int),_⟩ hI
 have hI:toInv a0 (dflt (.str)) ys i:=hI
 refine Vq (Vm hG rfl ?_)
 refine Vk rfl ?_ ?_<;>intro h0
 · have hl:i<(List.length a0:Int):=oTr h0
   refine Vs (Vq (Vb ?_))
   refine Vr hG rfl ?_ ?_
   · exact⟨(toRange hI hl).1,(toRange hI hl).2⟩
   refine Vn hG rfl ?_
   refine⟨rfl,?_⟩
   exact⟨toStep hI hl hb,toMu hI hl hb⟩
 · have hl:¬i<(List.length a0:Int):=oFa h0
   refine Vx (Vm hG rfl (Vt ?_))
   refine⟨?_,trivial⟩
   exact toEnd hI hl
noncomputable def F11:Fun:=⟨[.pair (.int .i64) Y13],[.pair (.pure (.int .i64)) (.pair (.own (.pure (.str))) Z0)],fun x=>Sm big20 Y20 x.1,fun x=>(id x.1,())⟩
theorem F11_ok:Meets Tryz.prog 11 F11:=by
 refine mZ (C:=mkC 16 [2] [0,1,2,3] [⟨46,_,F46_ok⟩,⟨47,_,F47_ok⟩]) (mO _ _ _ _) (fO _) Tryz.func11 rfl rfl rfl (by decide) rfl ?_
 rintro⟨a0,_⟩ hwf hpre ⟨⟩ hG rfl rfl
 show Vc _ _ [(0,⟨0,0,.c Z25 a0⟩)] _
 have hp0:_∧_:=hpre
 have hp1:_∧_:=hp0.2
 refine Vm hG rfl (Vm hG rfl (Vm hG rfl (Vq ?_)))
 refine Vr hG rfl ?_ ?_
 · exact hp1.1
 refine Vq ?_
 refine Vr hG rfl ?_ ?_
 · exact hp1.2
 refine Vm hG rfl (Vt ?_)
 refine⟨?_,trivial⟩
 all_goals exact rfl
noncomputable def F12:Fun:=⟨[.pair (.int .i64) Y48],[.pure Y51],fun _=>True,fun x=>(id x.1,())⟩
theorem F12_ok:Meets Tryz.prog 12 F12:=by
 refine mZ (C:=mkC 32 [2] [0,1,2,3] []) (mO _ _ _ _) (fO _) Tryz.func12 rfl rfl rfl (by decide) rfl ?_
 rintro⟨a0,_⟩ hwf hpre ⟨⟩ hG rfl rfl
 show Vc _ _ [(0,⟨0,0,.c Z52 a0⟩)] _
 refine Vm hG rfl (Vm hG rfl (Vm hG rfl (Vm hG rfl ?_)))
 refine Vm hG rfl (Vm hG rfl (Vm hG rfl (Vm hG rfl ?_)))
 refine Vm hG rfl (Vm hG rfl (Vm hG rfl (Vm hG rfl ?_)))
 refine Vt ?_
 refine⟨?_,trivial⟩
 all_goals exact rfl
noncomputable def F56:Fun:=⟨[.slice (.int .i64),.slice (.int .i64)],[.pure (.bool)],fun _=>True,fun x=>(eqC x.1 x.2.1,())⟩
theorem F56_ok:Meets Tryz.prog 56 F56:=by
 refine mZ (C:=mkC 26 [4] [0,1,4,5,10,14,25] []) (mO _ _ _ _) (fO _) Tryz.func56 rfl rfl rfl (by decide) rfl ?_
 rintro⟨a0,a1,_⟩ hwf hpre ⟨⟩ hG rfl rfl
 show Vc _ _ [(0,⟨0,0,.c Z2 a0⟩),(1,⟨0,0,.c Z2 a1⟩)] _
 have hb:List.length a0≤bigLen:=hwf.1.1
 refine Vm hG rfl (Vq (Vm hG rfl ?_))
 refine Vk rfl ?_ ?_<;>intro h0
 · refine Vm hG rfl (Vt ?_)
   refine⟨?_,trivial⟩
   exact eqC_no (fun e=>absurd (show ((List.length a0:Int) != (List.length a1:Int))=true from h0) (by have e:a0=a1:=e;rw[e];simp))
 · have g0:List.length a0=List.length a1:=lenEq h0
   refine Vs (Vq (Vm hG rfl (Vb ?_)))
   refine Vc.loopF [(5,false,.pure (.int .i64))] [0,1,10] (fun v=>eqInv a0 a1 v.1) (fun v=>((List.length a0:Int)-v.1).toNat) rfl ?_ ?_
   · exact eqStart g0
   rintro⟨(i:Int),_⟩ hI
   have hI:eqInv a0 a1 i:=hI
   refine Vq (Vm hG rfl ?_)
   refine Vk rfl ?_ ?_<;>intro h1
   · have hl:i<(List.length a0:Int):=oTr h1
     refine Vs (Vq (Vb (Vq ?_)))
     refine VrD mixed hG rfl (by kernel_rfl) ?_ ?_
     · exact⟨(eqRange hI hl).1,(eqRange hI hl).2⟩
     refine Vk rfl ?_ ?_<;>intro h2
     · have g2:((List.getD a0 i.toNat (dflt (.int .i64))) != (List.getD a1 i.toNat (dflt (.int .i64))))=true:=h2
       refine Vm hG rfl (Vt ?_)
       refine⟨?_,trivial⟩
       exact eqNo (d:=dflt (.int .i64)) (i:=i) (fun e=>by rw[e]at g2;simp at g2)
     · have g2:(List.getD a0 i.toNat (dflt (.int .i64)))=(List.getD a1 i.toNat (dflt (.int .i64))):=bneI h2
       refine Vs (Vn hG rfl ?_)
       refine⟨rfl,?_⟩
       exact⟨eqStep (d:=dflt (.int .i64)) hI hl hb g2,(upStep hI.1 hl hb).2.2⟩
   · have hl:¬i<(List.length a0:Int):=oFa h1
     refine Vx (Vm hG rfl (Vt ?_))
     refine⟨?_,trivial⟩
     exact eqC_yes (eqEnd hI hl)
noncomputable def F237:Fun:=⟨[.pair (.int .i64) Y9,.pair (.int .i64) Y9],[.pure (.bool)],fun _=>True,fun x=>(eqC x.1 x.2.1,())⟩
theorem F237_ok:Meets Tryz.prog 237 F237:=by
 refine mZ (C:=mkC 21 [4] [0,1,2,3,4,9,15,20] [⟨56,_,F56_ok⟩]) (mO _ _ _ _) (fO _) Tryz.func237 rfl rfl rfl (by decide) rfl ?_
 rintro⟨a0,a1,_⟩ hwf hpre ⟨⟩ hG rfl rfl
 show Vc _ _ [(0,⟨0,0,.c Z22 a0⟩),(1,⟨0,0,.c Z22 a1⟩)] _
 refine Vm hG rfl (Vq (Vm hG rfl ?_))
 refine Vk rfl ?_ ?_<;>intro h0
 · refine Vm hG rfl (Vt ?_)
   refine⟨?_,trivial⟩
   exact eqC_no (fun e=>absurd (show (a0.1 != a1.1)=true from h0) (by have e:a0=a1:=e;rw[e];simp))
 · have g0:a0.1=a1.1:=bneI h0
   refine Vs (Vq (Vm hG rfl ?_))
   refine Vk rfl ?_ ?_<;>intro h1
   · refine Vm hG rfl (Vt ?_)
     refine⟨?_,trivial⟩
     exact eqC_no (fun e=>absurd (show (!(eqC a0.2.1 a1.2.1))=true from h1) (by have e:a0=a1:=e;rw[e,eqC_self];decide))
   · have g1:a0.2.1=a1.2.1:=notC h1
     refine Vs (Vq (Vm hG rfl ?_))
     refine Vk rfl ?_ ?_<;>intro h2
     · refine Vm hG rfl (Vt ?_)
       refine⟨?_,trivial⟩
       exact eqC_no (fun e=>absurd (show (a0.2.2 != a1.2.2)=true from h2) (by have e:a0=a1:=e;rw[e];simp))
     · have g2:a0.2.2=a1.2.2:=bneI h2
       refine Vs (Vm hG rfl (Vt ?_))
       refine⟨?_,trivial⟩
       exact eqC_yes (Prod.ext g0 (Prod.ext g1 g2))
noncomputable def F166:Fun:=⟨[.slice Y19,.slice Y19],[.pure (.bool)],fun _=>True,fun x=>(eqC x.1 x.2.1,())⟩
theorem F166_ok:Meets Tryz.prog 166 F166:=by
 refine mZ (C:=mkC 27 [4] [0,1,4,5,10,14,26] [⟨237,_,F237_ok⟩]) (mO _ _ _ _) (fO _) Tryz.func166 rfl rfl rfl (by decide) rfl ?_
 rintro⟨a0,a1,_⟩ hwf hpre ⟨⟩ hG rfl rfl
 show Vc _ _ [(0,⟨0,0,.c Z26 a0⟩),(1,⟨0,0,.c Z26 a1⟩)] _
 have hb:List.length a0≤bigLen:=hwf.1.1
 refine Vm hG rfl (Vq (Vm hG rfl ?_))
 refine Vk rfl ?_ ?_<;>intro h0
 · refine Vm hG rfl (Vt ?_)
   refine⟨?_,trivial⟩
   exact eqC_no (fun e=>absurd (show ((List.length a0:Int) != (List.length a1:Int))=true from h0) (by have e:a0=a1:=e;rw[e];simp))
 · have g0:List.length a0=List.length a1:=lenEq h0
   refine Vs (Vq (Vm hG rfl (Vb ?_)))
   refine Vc.loopF [(5,false,.pure (.int .i64))] [0,1,10] (fun v=>eqInv a0 a1 v.1) (fun v=>((List.length a0:Int)-v.1).toNat) rfl ?_ ?_
   · exact eqStart g0
   rintro⟨(i:Int),_⟩ hI
   have hI:eqInv a0 a1 i:=hI
   refine Vq (Vm hG rfl ?_)
   refine Vk rfl ?_ ?_<;>intro h1
   · have hl:i<(List.length a0:Int):=oTr h1
     refine Vs (Vq (Vb (Vq ?_)))
     refine VrD mixed hG rfl (by kernel_rfl) ?_ ?_
     · exact⟨(eqRange hI hl).1,(eqRange hI hl).2,trivial⟩
     refine Vk rfl ?_ ?_<;>intro h2
     · have g2:(!(eqC (List.getD a0 i.toNat (dflt Y19)) (List.getD a1 i.toNat (dflt Y19))))=true:=h2
       refine Vm hG rfl (Vt ?_)
       refine⟨?_,trivial⟩
       exact eqNo (d:=dflt Y19) (i:=i) (fun e=>by rw[e,eqC_self]at g2;cases g2)
     · have g2:(List.getD a0 i.toNat (dflt Y19))=(List.getD a1 i.toNat (dflt Y19)):=notC h2
       refine Vs (Vn hG rfl ?_)
       refine⟨rfl,?_⟩
       exact⟨eqStep (d:=dflt Y19) hI hl hb g2,(upStep hI.1 hl hb).2.2⟩
   · have hl:¬i<(List.length a0:Int):=oFa h1
     refine Vx (Vm hG rfl (Vt ?_))
     refine⟨?_,trivial⟩
     exact eqC_yes (eqEnd hI hl)
noncomputable def F340:Fun:=⟨[.pair (.int .i64) (.bool),.pair (.int .i64) (.bool)],[.pure (.bool)],fun _=>True,fun x=>(eqC x.1 x.2.1,())⟩
theorem F340_ok:Meets Tryz.prog 340 F340:=by
 refine mZ (C:=mkC 15 [4] [0,1,2,3,4,9,14] []) (mO _ _ _ _) (fO _) Tryz.func340 rfl rfl rfl (by decide) rfl ?_
 rintro⟨a0,a1,_⟩ hwf hpre ⟨⟩ hG rfl rfl
 show Vc _ _ [(0,⟨0,0,.c Z5 a0⟩),(1,⟨0,0,.c Z5 a1⟩)] _
 refine Vm hG rfl (Vq (Vm hG rfl ?_))
 refine Vk rfl ?_ ?_<;>intro h0
 · refine Vm hG rfl (Vt ?_)
   refine⟨?_,trivial⟩
   exact eqC_no (fun e=>absurd (show (a0.1 != a1.1)=true from h0) (by have e:a0=a1:=e;rw[e];simp))
 · have g0:a0.1=a1.1:=bneI h0
   refine Vs (Vq (Vm hG rfl ?_))
   refine Vk rfl ?_ ?_<;>intro h1
   · refine Vm hG rfl (Vt ?_)
     refine⟨?_,trivial⟩
     exact eqC_no (fun e=>absurd (show (a0.2 != a1.2)=true from h1) (by have e:a0=a1:=e;rw[e];simp))
   · have g1:a0.2=a1.2:=bneB h1
     refine Vs (Vm hG rfl (Vt ?_))
     refine⟨?_,trivial⟩
     exact eqC_yes (Prod.ext g0 g1)
end Fw
