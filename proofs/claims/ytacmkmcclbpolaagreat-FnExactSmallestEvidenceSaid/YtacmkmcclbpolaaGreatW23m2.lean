/- Walks of functions of the program: what each computes. Conditions: those that each contract names. -/
import Derived.Test.YtacmkmcclbpolaaGreatW23T
import Derived.Test.YtacmkmcclbpolaaGreatW23m1
namespace Fw
open Go Go.Proofs
set_option linter.unusedSimpArgs false
set_option maxRecDepth 100000
@[reducible] noncomputable def M100:MFun:=mF (.own (.pair (.pure (.int .i64)) (.pair (.pure (.int .i64)) (.pair (.pure (.int .i64)) (.pair (.own (.pure (.pair (.int .i64) (.bool)))) (.own (.pure (.pair (.int .i64) (.pair (.int .i64) (.pair (.int .i64) (.pair (.int .i64) (.int .i64))))))))))))
set_option maxHeartbeats 2000000 in
theorem M100_ok:MeetsM Tryz.prog 100 M100:=by
 refine meetsM_of_vc (C:=mkCM 48 [4] [0,1,4,5,9] [] [⟨169,_,M169_ok⟩,⟨101,_,M101_ok⟩] [] [0]) (mkCM_ok _ _ _ _ _ _ _) (fO _) Tryz.func100 rfl rfl rfl (by decide) rfl rfl rfl rfl ?_
 rintro a0 (a1:Int) hwf hin hpre ⟨⟩ hG rfl rfl
 show Vc _ _ [(0,⟨0,0,.c (.own (.pair (.pure (.int .i64)) (.pair (.pure (.int .i64)) (.pair (.pure (.int .i64)) (.pair (.own (.pure (.pair (.int .i64) (.bool)))) (.own (.pure (.pair (.int .i64) (.pair (.int .i64) (.pair (.int .i64) (.pair (.int .i64) (.int .i64)))))))))))) a0⟩),(1,⟨0,0,.c (.pure (.int .i64)) a1⟩)] _
 have hb:List.length a0≤bigLen:=hwf.1
 have hp0:0≤a1:=hpre.1
 have hp1:a1+((cellsL (cellsC (.pair (.int .i64) (.pair (.int .i64) (.pair (.int .i64) (.pair (.slice (.pair (.int .i64) (.bool))) (.slice (.pair (.int .i64) (.pair (.int .i64) (.pair (.int .i64) (.pair (.int .i64) (.int .i64))))))))))) a0:Nat):Int)≤bnd:=hpre.2
 refine Vm hG rfl (Vq (Vm hG rfl (Vb ?_)))
 refine Vc.loopF [(0,false,.own (.pair (.pure (.int .i64)) (.pair (.pure (.int .i64)) (.pair (.pure (.int .i64)) (.pair (.own (.pure (.pair (.int .i64) (.bool)))) (.own (.pure (.pair (.int .i64) (.pair (.int .i64) (.pair (.int .i64) (.pair (.int .i64) (.int .i64)))))))))))),(1,false,.pure (.int .i64)),(5,false,.pure (.int .i64))] [4] (fun v=>mkInv (cellsC (.pair (.int .i64) (.pair (.int .i64) (.pair (.int .i64) (.pair (.slice (.pair (.int .i64) (.bool))) (.slice (.pair (.int .i64) (.pair (.int .i64) (.pair (.int .i64) (.pair (.int .i64) (.int .i64))))))))))) (markC (.pair (.int .i64) (.pair (.int .i64) (.pair (.int .i64) (.pair (.slice (.pair (.int .i64) (.bool))) (.slice (.pair (.int .i64) (.pair (.int .i64) (.pair (.int .i64) (.pair (.int .i64) (.int .i64))))))))))) a0 a1 v.1 v.2.1 v.2.2.1) (fun v=>((List.length v.1:Int)-v.2.2.1).toNat) rfl ?_ ?_
 · exact mkStart
 rintro⟨v,(k:Int),(i:Int),_⟩ hI
 have hI:mkInv (cellsC (.pair (.int .i64) (.pair (.int .i64) (.pair (.int .i64) (.pair (.slice (.pair (.int .i64) (.bool))) (.slice (.pair (.int .i64) (.pair (.int .i64) (.pair (.int .i64) (.pair (.int .i64) (.int .i64))))))))))) (markC (.pair (.int .i64) (.pair (.int .i64) (.pair (.int .i64) (.pair (.slice (.pair (.int .i64) (.bool))) (.slice (.pair (.int .i64) (.pair (.int .i64) (.pair (.int .i64) (.pair (.int .i64) (.int .i64))))))))))) a0 a1 v k i:=hI
 have hbv:v.length≤bigLen:=by rw[mkLen hI];exact hb
 refine Vq (Vm hG rfl ?_)
 refine Vk rfl ?_ ?_<;>intro h0
 · have hl:i<(List.length v:Int):=oTr h0
   have hln:i.toNat<v.length:=by have:=hI.1;omega
   have hk:=mkBound hI hl (dflt (.pair (.int .i64) (.pair (.int .i64) (.pair (.int .i64) (.pair (.slice (.pair (.int .i64) (.bool))) (.slice (.pair (.int .i64) (.pair (.int .i64) (.pair (.int .i64) (.pair (.int .i64) (.int .i64))))))))))) hp0 hp1
   generalize hX:List.getD v i.toNat (dflt (.pair (.int .i64) (.pair (.int .i64) (.pair (.int .i64) (.pair (.slice (.pair (.int .i64) (.bool))) (.slice (.pair (.int .i64) (.pair (.int .i64) (.pair (.int .i64) (.pair (.int .i64) (.int .i64)))))))))))=X at hk
   have hk:0≤k∧k+(((1+(1+(1+((cellsC (.slice (.pair (.int .i64) (.bool))) X.2.2.2.1)+(cellsC (.slice (.pair (.int .i64) (.pair (.int .i64) (.pair (.int .i64) (.pair (.int .i64) (.int .i64)))))) X.2.2.2.2))))):Nat):Int)≤bnd:=hk
   have w0:IntKind.i64.wrap (k+1)=k+1:=wrapB (by omega) (by omega)
   have w1:IntKind.i64.wrap (k+1+1)=k+1+1:=wrapB (by omega) (by omega)
   have w2:IntKind.i64.wrap (k+1+1+1)=k+1+1+1:=wrapB (by omega) (by omega)
   refine Vs (Vq (Vb (Vq ?_)))
   refine Vr hG rfl ?_ ?_
   · show inRange i _
     exact mkRange hI hl
   refine Vm hG rfl (Vq ?_)
   refine Vr hG rfl ?_ ?_
   · show inRange i _
     simp only[List.length_set]
     exact mkRange hI hl
   refine Vm hG rfl (Vq ?_)
   refine Vr hG rfl ?_ ?_
   · show inRange i _
     simp only[List.length_set]
     exact mkRange hI hl
   refine Vm hG rfl (Vq ?_)
   refine Vr hG rfl ?_ ?_
   · refine⟨?_,?_⟩
     · show inRange i _
       simp only[List.length_set]
       exact mkRange hI hl
     · show markPre (.slice (.pair (.int .i64) (.bool))) _ _
       try simp only[List.length_set,List.set_set,getD_setS hln,hX,cntF_eq,Sh.ty,w0,w1,w2]
       exact⟨by omega,by omega⟩
   refine Vr hG rfl ?_ ?_
   · refine⟨?_,?_⟩
     · show inRange i _
       simp only[List.length_set]
       exact mkRange hI hl
     · show markPre (.slice (.pair (.int .i64) (.pair (.int .i64) (.pair (.int .i64) (.pair (.int .i64) (.int .i64)))))) _ _
       try simp only[List.length_set,List.set_set,getD_setS hln,hX,cntF_eq,Sh.ty,w0,w1,w2]
       exact⟨by omega,by omega⟩
   refine Vn hG rfl ?_
   refine⟨rfl,?_⟩
   refine mkStep hI hl hbv (dflt (.pair (.int .i64) (.pair (.int .i64) (.pair (.int .i64) (.pair (.slice (.pair (.int .i64) (.bool))) (.slice (.pair (.int .i64) (.pair (.int .i64) (.pair (.int .i64) (.pair (.int .i64) (.int .i64))))))))))) ?_ ?_
   · rw[hX]
     try simp only[List.length_set,List.set_set,getD_setS hln,hX,cntF_eq,Sh.ty,w0,w1,w2]
     try rfl
   · rw[hX]
     show _=k+(((1+(1+(1+((cellsC (.slice (.pair (.int .i64) (.bool))) X.2.2.2.1)+(cellsC (.slice (.pair (.int .i64) (.pair (.int .i64) (.pair (.int .i64) (.pair (.int .i64) (.int .i64)))))) X.2.2.2.2))))):Nat):Int)
     try simp only[List.length_set,List.set_set,getD_setS hln,hX,cntF_eq,Sh.ty,w0,w1,w2]
     try omega
 · have hl:¬i<(List.length v:Int):=oFa h0
   refine Vx (Vm hG rfl (Vt ?_))
   have e:=mkEnd hI hl
   refine⟨?_,?_,trivial⟩
   · show k=cntF (.slice (.pair (.int .i64) (.pair (.int .i64) (.pair (.int .i64) (.pair (.slice (.pair (.int .i64) (.bool))) (.slice (.pair (.int .i64) (.pair (.int .i64) (.pair (.int .i64) (.pair (.int .i64) (.int .i64))))))))))) a0 a1
     rw[cntF_eq];exact e.1
   · exact e.2
@[reducible] noncomputable def M60:MFun:=mF (.own (.pair (.own (.pair (.pure (.int .i64)) (.pair (.own (.pure (.int .i64))) (.pure (.int .i64))))) (.own (.pair (.pure (.int .i64)) (.pair (.pure (.int .i64)) (.pair (.pure (.int .i64)) (.pair (.own (.pure (.pair (.int .i64) (.bool)))) (.own (.pure (.pair (.int .i64) (.pair (.int .i64) (.pair (.int .i64) (.pair (.int .i64) (.int .i64))))))))))))))
set_option maxHeartbeats 2000000 in
theorem M60_ok:MeetsM Tryz.prog 60 M60:=by
 refine meetsM_of_vc (C:=mkCM 27 [4] [0,1,4,5,9] [] [⟨99,_,M99_ok⟩,⟨100,_,M100_ok⟩] [] [0]) (mkCM_ok _ _ _ _ _ _ _) (fO _) Tryz.func60 rfl rfl rfl (by decide) rfl rfl rfl rfl ?_
 rintro a0 (a1:Int) hwf hin hpre ⟨⟩ hG rfl rfl
 show Vc _ _ [(0,⟨0,0,.c (.own (.pair (.own (.pair (.pure (.int .i64)) (.pair (.own (.pure (.int .i64))) (.pure (.int .i64))))) (.own (.pair (.pure (.int .i64)) (.pair (.pure (.int .i64)) (.pair (.pure (.int .i64)) (.pair (.own (.pure (.pair (.int .i64) (.bool)))) (.own (.pure (.pair (.int .i64) (.pair (.int .i64) (.pair (.int .i64) (.pair (.int .i64) (.int .i64)))))))))))))) a0⟩),(1,⟨0,0,.c (.pure (.int .i64)) a1⟩)] _
 have hb:List.length a0≤bigLen:=hwf.1
 have hp0:0≤a1:=hpre.1
 have hp1:a1+((cellsL (cellsC (.pair (.slice (.pair (.int .i64) (.pair (.slice (.int .i64)) (.int .i64)))) (.slice (.pair (.int .i64) (.pair (.int .i64) (.pair (.int .i64) (.pair (.slice (.pair (.int .i64) (.bool))) (.slice (.pair (.int .i64) (.pair (.int .i64) (.pair (.int .i64) (.pair (.int .i64) (.int .i64))))))))))))) a0:Nat):Int)≤bnd:=hpre.2
 refine Vm hG rfl (Vq (Vm hG rfl (Vb ?_)))
 refine Vc.loopF [(0,false,.own (.pair (.own (.pair (.pure (.int .i64)) (.pair (.own (.pure (.int .i64))) (.pure (.int .i64))))) (.own (.pair (.pure (.int .i64)) (.pair (.pure (.int .i64)) (.pair (.pure (.int .i64)) (.pair (.own (.pure (.pair (.int .i64) (.bool)))) (.own (.pure (.pair (.int .i64) (.pair (.int .i64) (.pair (.int .i64) (.pair (.int .i64) (.int .i64)))))))))))))),(1,false,.pure (.int .i64)),(5,false,.pure (.int .i64))] [4] (fun v=>mkInv (cellsC (.pair (.slice (.pair (.int .i64) (.pair (.slice (.int .i64)) (.int .i64)))) (.slice (.pair (.int .i64) (.pair (.int .i64) (.pair (.int .i64) (.pair (.slice (.pair (.int .i64) (.bool))) (.slice (.pair (.int .i64) (.pair (.int .i64) (.pair (.int .i64) (.pair (.int .i64) (.int .i64))))))))))))) (markC (.pair (.slice (.pair (.int .i64) (.pair (.slice (.int .i64)) (.int .i64)))) (.slice (.pair (.int .i64) (.pair (.int .i64) (.pair (.int .i64) (.pair (.slice (.pair (.int .i64) (.bool))) (.slice (.pair (.int .i64) (.pair (.int .i64) (.pair (.int .i64) (.pair (.int .i64) (.int .i64))))))))))))) a0 a1 v.1 v.2.1 v.2.2.1) (fun v=>((List.length v.1:Int)-v.2.2.1).toNat) rfl ?_ ?_
 · exact mkStart
 rintro⟨v,(k:Int),(i:Int),_⟩ hI
 have hI:mkInv (cellsC (.pair (.slice (.pair (.int .i64) (.pair (.slice (.int .i64)) (.int .i64)))) (.slice (.pair (.int .i64) (.pair (.int .i64) (.pair (.int .i64) (.pair (.slice (.pair (.int .i64) (.bool))) (.slice (.pair (.int .i64) (.pair (.int .i64) (.pair (.int .i64) (.pair (.int .i64) (.int .i64))))))))))))) (markC (.pair (.slice (.pair (.int .i64) (.pair (.slice (.int .i64)) (.int .i64)))) (.slice (.pair (.int .i64) (.pair (.int .i64) (.pair (.int .i64) (.pair (.slice (.pair (.int .i64) (.bool))) (.slice (.pair (.int .i64) (.pair (.int .i64) (.pair (.int .i64) (.pair (.int .i64) (.int .i64))))))))))))) a0 a1 v k i:=hI
 have hbv:v.length≤bigLen:=by rw[mkLen hI];exact hb
 refine Vq (Vm hG rfl ?_)
 refine Vk rfl ?_ ?_<;>intro h0
 · have hl:i<(List.length v:Int):=oTr h0
   have hln:i.toNat<v.length:=by have:=hI.1;omega
   have hk:=mkBound hI hl (dflt (.pair (.slice (.pair (.int .i64) (.pair (.slice (.int .i64)) (.int .i64)))) (.slice (.pair (.int .i64) (.pair (.int .i64) (.pair (.int .i64) (.pair (.slice (.pair (.int .i64) (.bool))) (.slice (.pair (.int .i64) (.pair (.int .i64) (.pair (.int .i64) (.pair (.int .i64) (.int .i64))))))))))))) hp0 hp1
   generalize hX:List.getD v i.toNat (dflt (.pair (.slice (.pair (.int .i64) (.pair (.slice (.int .i64)) (.int .i64)))) (.slice (.pair (.int .i64) (.pair (.int .i64) (.pair (.int .i64) (.pair (.slice (.pair (.int .i64) (.bool))) (.slice (.pair (.int .i64) (.pair (.int .i64) (.pair (.int .i64) (.pair (.int .i64) (.int .i64)))))))))))))=X at hk
   have hk:0≤k∧k+((((cellsC (.slice (.pair (.int .i64) (.pair (.slice (.int .i64)) (.int .i64)))) X.1)+(cellsC (.slice (.pair (.int .i64) (.pair (.int .i64) (.pair (.int .i64) (.pair (.slice (.pair (.int .i64) (.bool))) (.slice (.pair (.int .i64) (.pair (.int .i64) (.pair (.int .i64) (.pair (.int .i64) (.int .i64))))))))))) X.2)):Nat):Int)≤bnd:=hk
   refine Vs (Vq (Vb (Vq ?_)))
   refine Vr hG rfl ?_ ?_
   · refine⟨?_,?_⟩
     · show inRange i _
       simp only[List.length_set]
       exact mkRange hI hl
     · show markPre (.slice (.pair (.int .i64) (.pair (.slice (.int .i64)) (.int .i64)))) _ _
       try simp only[List.length_set,List.set_set,getD_setS hln,hX,cntF_eq,Sh.ty]
       exact⟨by omega,by omega⟩
   refine Vr hG rfl ?_ ?_
   · refine⟨?_,?_⟩
     · show inRange i _
       simp only[List.length_set]
       exact mkRange hI hl
     · show markPre (.slice (.pair (.int .i64) (.pair (.int .i64) (.pair (.int .i64) (.pair (.slice (.pair (.int .i64) (.bool))) (.slice (.pair (.int .i64) (.pair (.int .i64) (.pair (.int .i64) (.pair (.int .i64) (.int .i64))))))))))) _ _
       try simp only[List.length_set,List.set_set,getD_setS hln,hX,cntF_eq,Sh.ty]
       exact⟨by omega,by omega⟩
   refine Vn hG rfl ?_
   refine⟨rfl,?_⟩
   refine mkStep hI hl hbv (dflt (.pair (.slice (.pair (.int .i64) (.pair (.slice (.int .i64)) (.int .i64)))) (.slice (.pair (.int .i64) (.pair (.int .i64) (.pair (.int .i64) (.pair (.slice (.pair (.int .i64) (.bool))) (.slice (.pair (.int .i64) (.pair (.int .i64) (.pair (.int .i64) (.pair (.int .i64) (.int .i64))))))))))))) ?_ ?_
   · rw[hX]
     try simp only[List.length_set,List.set_set,getD_setS hln,hX,cntF_eq,Sh.ty]
     try rfl
   · rw[hX]
     show _=k+((((cellsC (.slice (.pair (.int .i64) (.pair (.slice (.int .i64)) (.int .i64)))) X.1)+(cellsC (.slice (.pair (.int .i64) (.pair (.int .i64) (.pair (.int .i64) (.pair (.slice (.pair (.int .i64) (.bool))) (.slice (.pair (.int .i64) (.pair (.int .i64) (.pair (.int .i64) (.pair (.int .i64) (.int .i64))))))))))) X.2)):Nat):Int)
     try simp only[List.length_set,List.set_set,getD_setS hln,hX,cntF_eq,Sh.ty]
     try omega
 · have hl:¬i<(List.length v:Int):=oFa h0
   refine Vx (Vm hG rfl (Vt ?_))
   have e:=mkEnd hI hl
   refine⟨?_,?_,trivial⟩
   · show k=cntF (.slice (.pair (.slice (.pair (.int .i64) (.pair (.slice (.int .i64)) (.int .i64)))) (.slice (.pair (.int .i64) (.pair (.int .i64) (.pair (.int .i64) (.pair (.slice (.pair (.int .i64) (.bool))) (.slice (.pair (.int .i64) (.pair (.int .i64) (.pair (.int .i64) (.pair (.int .i64) (.int .i64))))))))))))) a0 a1
     rw[cntF_eq];exact e.1
   · exact e.2
@[reducible] noncomputable def M61:MFun:=mF (.own (.own (.pure (.pair (.int .i64) (.pair (.int .i64) (.pair (.int .i64) (.pair (.int .i64) (.int .i64))))))))
set_option maxHeartbeats 2000000 in
theorem M61_ok:MeetsM Tryz.prog 61 M61:=by
 refine meetsM_of_vc (C:=mkCM 19 [4] [0,1,4,5,9] [] [⟨101,_,M101_ok⟩] [] [0]) (mkCM_ok _ _ _ _ _ _ _) (fO _) Tryz.func61 rfl rfl rfl (by decide) rfl rfl rfl rfl ?_
 rintro a0 (a1:Int) hwf hin hpre ⟨⟩ hG rfl rfl
 show Vc _ _ [(0,⟨0,0,.c (.own (.own (.pure (.pair (.int .i64) (.pair (.int .i64) (.pair (.int .i64) (.pair (.int .i64) (.int .i64)))))))) a0⟩),(1,⟨0,0,.c (.pure (.int .i64)) a1⟩)] _
 have hb:List.length a0≤bigLen:=hwf.1
 have hp0:0≤a1:=hpre.1
 have hp1:a1+((cellsL (cellsC (.slice (.pair (.int .i64) (.pair (.int .i64) (.pair (.int .i64) (.pair (.int .i64) (.int .i64))))))) a0:Nat):Int)≤bnd:=hpre.2
 refine Vm hG rfl (Vq (Vm hG rfl (Vb ?_)))
 refine Vc.loopF [(0,false,.own (.own (.pure (.pair (.int .i64) (.pair (.int .i64) (.pair (.int .i64) (.pair (.int .i64) (.int .i64)))))))),(1,false,.pure (.int .i64)),(5,false,.pure (.int .i64))] [4] (fun v=>mkInv (cellsC (.slice (.pair (.int .i64) (.pair (.int .i64) (.pair (.int .i64) (.pair (.int .i64) (.int .i64))))))) (markC (.slice (.pair (.int .i64) (.pair (.int .i64) (.pair (.int .i64) (.pair (.int .i64) (.int .i64))))))) a0 a1 v.1 v.2.1 v.2.2.1) (fun v=>((List.length v.1:Int)-v.2.2.1).toNat) rfl ?_ ?_
 · exact mkStart
 rintro⟨v,(k:Int),(i:Int),_⟩ hI
 have hI:mkInv (cellsC (.slice (.pair (.int .i64) (.pair (.int .i64) (.pair (.int .i64) (.pair (.int .i64) (.int .i64))))))) (markC (.slice (.pair (.int .i64) (.pair (.int .i64) (.pair (.int .i64) (.pair (.int .i64) (.int .i64))))))) a0 a1 v k i:=hI
 have hbv:v.length≤bigLen:=by rw[mkLen hI];exact hb
 refine Vq (Vm hG rfl ?_)
 refine Vk rfl ?_ ?_<;>intro h0
 · have hl:i<(List.length v:Int):=oTr h0
   have hln:i.toNat<v.length:=by have:=hI.1;omega
   have hk:=mkBound hI hl (dflt (.slice (.pair (.int .i64) (.pair (.int .i64) (.pair (.int .i64) (.pair (.int .i64) (.int .i64))))))) hp0 hp1
   generalize hX:List.getD v i.toNat (dflt (.slice (.pair (.int .i64) (.pair (.int .i64) (.pair (.int .i64) (.pair (.int .i64) (.int .i64)))))))=X at hk
   have hk:0≤k∧k+(((cellsC (.slice (.pair (.int .i64) (.pair (.int .i64) (.pair (.int .i64) (.pair (.int .i64) (.int .i64)))))) X):Nat):Int)≤bnd:=hk
   refine Vs (Vq (Vb ?_))
   refine Vr hG rfl ?_ ?_
   · refine⟨?_,?_⟩
     · show inRange i _
       simp only[List.length_set]
       exact mkRange hI hl
     · show markPre (.slice (.pair (.int .i64) (.pair (.int .i64) (.pair (.int .i64) (.pair (.int .i64) (.int .i64)))))) _ _
       try simp only[List.length_set,List.set_set,getD_setS hln,hX,cntF_eq,Sh.ty]
       exact⟨by omega,by omega⟩
   refine Vn hG rfl ?_
   refine⟨rfl,?_⟩
   refine mkStep hI hl hbv (dflt (.slice (.pair (.int .i64) (.pair (.int .i64) (.pair (.int .i64) (.pair (.int .i64) (.int .i64))))))) ?_ ?_
   · rw[hX]
     try simp only[List.length_set,List.set_set,getD_setS hln,hX,cntF_eq,Sh.ty]
     try rfl
   · rw[hX]
     show _=k+(((cellsC (.slice (.pair (.int .i64) (.pair (.int .i64) (.pair (.int .i64) (.pair (.int .i64) (.int .i64)))))) X):Nat):Int)
     try simp only[List.length_set,List.set_set,getD_setS hln,hX,cntF_eq,Sh.ty]
     try omega
 · have hl:¬i<(List.length v:Int):=oFa h0
   refine Vx (Vm hG rfl (Vt ?_))
   have e:=mkEnd hI hl
   refine⟨?_,?_,trivial⟩
   · show k=cntF (.slice (.slice (.pair (.int .i64) (.pair (.int .i64) (.pair (.int .i64) (.pair (.int .i64) (.int .i64))))))) a0 a1
     rw[cntF_eq];exact e.1
   · exact e.2
@[reducible] noncomputable def M18:MFun:=mV (.pair (.own (.pair (.own (.pair (.pure (.int .i64)) (.pair (.own (.pure (.int .i64))) (.pure (.int .i64))))) (.own (.pair (.pure (.int .i64)) (.pair (.pure (.int .i64)) (.pair (.pure (.int .i64)) (.pair (.own (.pure (.pair (.int .i64) (.bool)))) (.own (.pure (.pair (.int .i64) (.pair (.int .i64) (.pair (.int .i64) (.pair (.int .i64) (.int .i64)))))))))))))) (.own (.own (.pure (.pair (.int .i64) (.pair (.int .i64) (.pair (.int .i64) (.pair (.int .i64) (.int .i64)))))))))
theorem M18_ok:MeetsM Tryz.prog 18 M18:=by
 refine meetsM_of_vc (C:=mkCM 14 [4] [0,1,2,4] [] [⟨60,_,M60_ok⟩,⟨61,_,M61_ok⟩] [] [0]) (mkCM_ok _ _ _ _ _ _ _) (fO _) Tryz.func18 rfl rfl rfl (by decide) rfl rfl rfl rfl ?_
 rintro a0 (a1:Int) hwf hin hpre ⟨⟩ hG rfl rfl
 show Vc _ _ [(0,⟨0,0,.c (.pair (.own (.pair (.own (.pair (.pure (.int .i64)) (.pair (.own (.pure (.int .i64))) (.pure (.int .i64))))) (.own (.pair (.pure (.int .i64)) (.pair (.pure (.int .i64)) (.pair (.pure (.int .i64)) (.pair (.own (.pure (.pair (.int .i64) (.bool)))) (.own (.pure (.pair (.int .i64) (.pair (.int .i64) (.pair (.int .i64) (.pair (.int .i64) (.int .i64)))))))))))))) (.own (.own (.pure (.pair (.int .i64) (.pair (.int .i64) (.pair (.int .i64) (.pair (.int .i64) (.int .i64))))))))) a0⟩),(1,⟨0,0,.c (.pure (.int .i64)) a1⟩)] _
 have hp0:0≤a1:=hpre.1
 have hp1:a1+((cellsV (.pair (.slice (.pair (.slice (.pair (.int .i64) (.pair (.slice (.int .i64)) (.int .i64)))) (.slice (.pair (.int .i64) (.pair (.int .i64) (.pair (.int .i64) (.pair (.slice (.pair (.int .i64) (.bool))) (.slice (.pair (.int .i64) (.pair (.int .i64) (.pair (.int .i64) (.pair (.int .i64) (.int .i64))))))))))))) (.slice (.slice (.pair (.int .i64) (.pair (.int .i64) (.pair (.int .i64) (.pair (.int .i64) (.int .i64)))))))) a0:Nat):Int)≤bnd:=hpre.2
 have hc:((cellsV (.pair (.slice (.pair (.slice (.pair (.int .i64) (.pair (.slice (.int .i64)) (.int .i64)))) (.slice (.pair (.int .i64) (.pair (.int .i64) (.pair (.int .i64) (.pair (.slice (.pair (.int .i64) (.bool))) (.slice (.pair (.int .i64) (.pair (.int .i64) (.pair (.int .i64) (.pair (.int .i64) (.int .i64))))))))))))) (.slice (.slice (.pair (.int .i64) (.pair (.int .i64) (.pair (.int .i64) (.pair (.int .i64) (.int .i64)))))))) a0:Nat):Int)=((cellsC (.slice (.pair (.slice (.pair (.int .i64) (.pair (.slice (.int .i64)) (.int .i64)))) (.slice (.pair (.int .i64) (.pair (.int .i64) (.pair (.int .i64) (.pair (.slice (.pair (.int .i64) (.bool))) (.slice (.pair (.int .i64) (.pair (.int .i64) (.pair (.int .i64) (.pair (.int .i64) (.int .i64))))))))))))) a0.1:Nat):Int)+((cellsC (.slice (.slice (.pair (.int .i64) (.pair (.int .i64) (.pair (.int .i64) (.pair (.int .i64) (.int .i64))))))) a0.2:Nat):Int):=by
   show (((cellsC (.slice (.pair (.slice (.pair (.int .i64) (.pair (.slice (.int .i64)) (.int .i64)))) (.slice (.pair (.int .i64) (.pair (.int .i64) (.pair (.int .i64) (.pair (.slice (.pair (.int .i64) (.bool))) (.slice (.pair (.int .i64) (.pair (.int .i64) (.pair (.int .i64) (.pair (.int .i64) (.int .i64))))))))))))) a0.1+cellsC (.slice (.slice (.pair (.int .i64) (.pair (.int .i64) (.pair (.int .i64) (.pair (.int .i64) (.int .i64))))))) a0.2):Nat):Int)=_
   omega
 refine Vm hG rfl (Vq ?_)
 refine Vr hG rfl ?_ ?_
 · exact(show markPre (.slice (.pair (.slice (.pair (.int .i64) (.pair (.slice (.int .i64)) (.int .i64)))) (.slice (.pair (.int .i64) (.pair (.int .i64) (.pair (.int .i64) (.pair (.slice (.pair (.int .i64) (.bool))) (.slice (.pair (.int .i64) (.pair (.int .i64) (.pair (.int .i64) (.pair (.int .i64) (.int .i64))))))))))))) a0.1 (a1)from⟨by omega,by omega⟩)
 refine Vq ?_
 refine Vr hG rfl ?_ ?_
 · have ce0:=cntF_eq (.slice (.pair (.slice (.pair (.int .i64) (.pair (.slice (.int .i64)) (.int .i64)))) (.slice (.pair (.int .i64) (.pair (.int .i64) (.pair (.int .i64) (.pair (.slice (.pair (.int .i64) (.bool))) (.slice (.pair (.int .i64) (.pair (.int .i64) (.pair (.int .i64) (.pair (.int .i64) (.int .i64))))))))))))) a0.1 (a1)
   exact(show markPre (.slice (.slice (.pair (.int .i64) (.pair (.int .i64) (.pair (.int .i64) (.pair (.int .i64) (.int .i64))))))) a0.2 (cntF (.slice (.pair (.slice (.pair (.int .i64) (.pair (.slice (.int .i64)) (.int .i64)))) (.slice (.pair (.int .i64) (.pair (.int .i64) (.pair (.int .i64) (.pair (.slice (.pair (.int .i64) (.bool))) (.slice (.pair (.int .i64) (.pair (.int .i64) (.pair (.int .i64) (.pair (.int .i64) (.int .i64))))))))))))) a0.1 (a1))from⟨by omega,by omega⟩)
 refine Vm hG rfl (Vt ?_)
 have ce0:=cntF_eq (.slice (.pair (.slice (.pair (.int .i64) (.pair (.slice (.int .i64)) (.int .i64)))) (.slice (.pair (.int .i64) (.pair (.int .i64) (.pair (.int .i64) (.pair (.slice (.pair (.int .i64) (.bool))) (.slice (.pair (.int .i64) (.pair (.int .i64) (.pair (.int .i64) (.pair (.int .i64) (.int .i64))))))))))))) a0.1 (a1)
 have ce1:=cntF_eq (.slice (.slice (.pair (.int .i64) (.pair (.int .i64) (.pair (.int .i64) (.pair (.int .i64) (.int .i64))))))) a0.2 (cntF (.slice (.pair (.slice (.pair (.int .i64) (.pair (.slice (.int .i64)) (.int .i64)))) (.slice (.pair (.int .i64) (.pair (.int .i64) (.pair (.int .i64) (.pair (.slice (.pair (.int .i64) (.bool))) (.slice (.pair (.int .i64) (.pair (.int .i64) (.pair (.int .i64) (.pair (.int .i64) (.int .i64))))))))))))) a0.1 (a1))
 refine⟨?_,?_,trivial⟩
 · show cntF (.slice (.slice (.pair (.int .i64) (.pair (.int .i64) (.pair (.int .i64) (.pair (.int .i64) (.int .i64))))))) a0.2 (cntF (.slice (.pair (.slice (.pair (.int .i64) (.pair (.slice (.int .i64)) (.int .i64)))) (.slice (.pair (.int .i64) (.pair (.int .i64) (.pair (.int .i64) (.pair (.slice (.pair (.int .i64) (.bool))) (.slice (.pair (.int .i64) (.pair (.int .i64) (.pair (.int .i64) (.pair (.int .i64) (.int .i64))))))))))))) a0.1 (a1))=cntV (.pair (.slice (.pair (.slice (.pair (.int .i64) (.pair (.slice (.int .i64)) (.int .i64)))) (.slice (.pair (.int .i64) (.pair (.int .i64) (.pair (.int .i64) (.pair (.slice (.pair (.int .i64) (.bool))) (.slice (.pair (.int .i64) (.pair (.int .i64) (.pair (.int .i64) (.pair (.int .i64) (.int .i64))))))))))))) (.slice (.slice (.pair (.int .i64) (.pair (.int .i64) (.pair (.int .i64) (.pair (.int .i64) (.int .i64)))))))) a0 a1
   rw[cntV_eq (.pair (.slice (.pair (.slice (.pair (.int .i64) (.pair (.slice (.int .i64)) (.int .i64)))) (.slice (.pair (.int .i64) (.pair (.int .i64) (.pair (.int .i64) (.pair (.slice (.pair (.int .i64) (.bool))) (.slice (.pair (.int .i64) (.pair (.int .i64) (.pair (.int .i64) (.pair (.int .i64) (.int .i64))))))))))))) (.slice (.slice (.pair (.int .i64) (.pair (.int .i64) (.pair (.int .i64) (.pair (.int .i64) (.int .i64)))))))) a0 a1]
   omega
 · exact(Prod.ext (congrArg (markC (.slice (.pair (.slice (.pair (.int .i64) (.pair (.slice (.int .i64)) (.int .i64)))) (.slice (.pair (.int .i64) (.pair (.int .i64) (.pair (.int .i64) (.pair (.slice (.pair (.int .i64) (.bool))) (.slice (.pair (.int .i64) (.pair (.int .i64) (.pair (.int .i64) (.pair (.int .i64) (.int .i64))))))))))))) a0.1) (show a1=a1 from by omega)) (congrArg (markC (.slice (.slice (.pair (.int .i64) (.pair (.int .i64) (.pair (.int .i64) (.pair (.int .i64) (.int .i64))))))) a0.2) (show cntF (.slice (.pair (.slice (.pair (.int .i64) (.pair (.slice (.int .i64)) (.int .i64)))) (.slice (.pair (.int .i64) (.pair (.int .i64) (.pair (.int .i64) (.pair (.slice (.pair (.int .i64) (.bool))) (.slice (.pair (.int .i64) (.pair (.int .i64) (.pair (.int .i64) (.pair (.int .i64) (.int .i64))))))))))))) a0.1 (a1)=a1+((cellsC (.slice (.pair (.slice (.pair (.int .i64) (.pair (.slice (.int .i64)) (.int .i64)))) (.slice (.pair (.int .i64) (.pair (.int .i64) (.pair (.int .i64) (.pair (.slice (.pair (.int .i64) (.bool))) (.slice (.pair (.int .i64) (.pair (.int .i64) (.pair (.int .i64) (.pair (.int .i64) (.int .i64))))))))))))) a0.1:Nat):Int)from by omega)))
noncomputable def F102:Fun:=⟨[.int .i64],[.pure (.str)],fun _=>True,fun x=>(textF x.1,())⟩
theorem F102_ok:Meets Tryz.prog 102 F102:=by
 refine mZ (C:=mkC 20 [2] [0,2,3,5,7] []) (mO _ _ _ _) (fO _) Tryz.func102 rfl rfl rfl (by decide) rfl ?_
 rintro⟨(a0:Int),_⟩ hwf hpre ⟨⟩ hG rfl rfl
 show Vc _ _ [(0,⟨0,0,.c (.pure (.int .i64)) a0⟩)] _
 have hn:inR .i64 a0:=hwf.1
 refine Vm hG rfl (Vq (Vm hG rfl ?_))
 refine Vk rfl ?_ ?_<;>intro h0
 · have g0:a0≤0:=oTr h0
   refine Vm hG rfl (Vt ?_)
   refine⟨?_,trivial⟩
   exact text0 g0
 · have g0:¬a0≤0:=oFa h0
   refine Vs (Vm hG rfl (Vq (Vb ?_)))
   refine Vc.loopF [(0,false,.pure (.int .i64)),(3,false,.pure (.str))] [2,5] (fun v=>mtInv a0 v.1 v.2.1) (fun v=>v.1.natAbs) rfl ?_ ?_
   · exact mtStart hn g0
   rintro⟨(x:Int),s,_⟩ hI
   have hI:mtInv a0 x s:=hI
   refine Vq (Vm hG rfl ?_)
   refine Vk rfl ?_ ?_<;>intro h1
   · have g1:x>0:=oTr h1
     refine Vs (Vb (Vq ?_))
     refine Vr hG rfl ?_ ?_
     · exact⟨(show (10:Int)≠0 by decide),mtLen hn hI 1 (by decide)⟩
     refine Vr hG rfl ?_ ?_
     · show (10:Int)≠0
       decide
     refine⟨rfl,?_⟩
     exact mtStep hI g1 (congrArg (·++s) (mtDig g1))
   · have g1:¬x>0:=oFa h1
     refine Vx (Vq ?_)
     refine Vr hG rfl ?_ ?_
     · exact mtLen hn hI 1 (by decide)
     refine Vt ?_
     refine⟨?_,trivial⟩
     exact text1 hI g0 g1
@[reducible] noncomputable def M62:MFun:=mF (.own (.pure (.str)))
set_option maxHeartbeats 2000000 in
theorem M62_ok:MeetsM Tryz.prog 62 M62:=by
 refine meetsM_of_vc (C:=mkCM 20 [4] [0,1,4,5,9] [⟨102,_,F102_ok⟩] [] [] [0]) (mkCM_ok _ _ _ _ _ _ _) (fO _) Tryz.func62 rfl rfl rfl (by decide) rfl rfl rfl rfl ?_
 rintro a0 (a1:Int) hwf hin hpre ⟨⟩ hG rfl rfl
 show Vc _ _ [(0,⟨0,0,.c (.own (.pure (.str))) a0⟩),(1,⟨0,0,.c (.pure (.int .i64)) a1⟩)] _
 have hb:List.length a0≤bigLen:=hwf.1
 have hp0:0≤a1:=hpre.1
 have hp1:a1+((cellsL (cellsC (.str)) a0:Nat):Int)≤bnd:=hpre.2
 refine Vm hG rfl (Vq (Vm hG rfl (Vb ?_)))
 refine Vc.loopF [(0,false,.own (.pure (.str))),(1,false,.pure (.int .i64)),(5,false,.pure (.int .i64))] [4] (fun v=>mkInv (cellsC (.str)) (markC (.str)) a0 a1 v.1 v.2.1 v.2.2.1) (fun v=>((List.length v.1:Int)-v.2.2.1).toNat) rfl ?_ ?_
 · exact mkStart
 rintro⟨v,(k:Int),(i:Int),_⟩ hI
 have hI:mkInv (cellsC (.str)) (markC (.str)) a0 a1 v k i:=hI
 have hbv:v.length≤bigLen:=by rw[mkLen hI];exact hb
 refine Vq (Vm hG rfl ?_)
 refine Vk rfl ?_ ?_<;>intro h0
 · have hl:i<(List.length v:Int):=oTr h0
   have hln:i.toNat<v.length:=by have:=hI.1;omega
   have hk:=mkBound hI hl (dflt (.str)) hp0 hp1
   generalize hX:List.getD v i.toNat (dflt (.str))=X at hk
   have hk:0≤k∧k+((1:Nat):Int)≤bnd:=hk
   have w0:IntKind.i64.wrap (k+1)=k+1:=wrapB (by omega) (by omega)
   refine Vs (Vq (Vb (Vq ?_)))
   refine Vr hG rfl ?_ ?_
   · refine⟨trivial,?_⟩
     show inRange i _
     simp only[List.length_set]
     exact mkRange hI hl
   refine Vn hG rfl (Vn hG rfl ?_)
   refine⟨rfl,?_⟩
   refine mkStep hI hl hbv (dflt (.str)) ?_ ?_
   · rw[hX]
     try simp only[List.length_set,List.set_set,getD_setS hln,hX,cntF_eq,Sh.ty,w0]
     try rfl
   · rw[hX]
     show _=k+((1:Nat):Int)
     try simp only[List.length_set,List.set_set,getD_setS hln,hX,cntF_eq,Sh.ty,w0]
     try omega
 · have hl:¬i<(List.length v:Int):=oFa h0
   refine Vx (Vm hG rfl (Vt ?_))
   have e:=mkEnd hI hl
   refine⟨?_,?_,trivial⟩
   · show k=cntF (.slice (.str)) a0 a1
     rw[cntF_eq];exact e.1
   · exact e.2
@[reducible] noncomputable def M19:MFun:=mV (.pair (.pure (.int .i64)) (.pair (.own (.pure (.str))) (.own (.pure (.int .i64)))))
theorem M19_ok:MeetsM Tryz.prog 19 M19:=by
 refine meetsM_of_vc (C:=mkCM 14 [4] [0,1,2,4] [] [⟨62,_,M62_ok⟩,⟨63,_,M63_ok⟩] [] [0]) (mkCM_ok _ _ _ _ _ _ _) (fO _) Tryz.func19 rfl rfl rfl (by decide) rfl rfl rfl rfl ?_
 rintro a0 (a1:Int) hwf hin hpre ⟨⟩ hG rfl rfl
 show Vc _ _ [(0,⟨0,0,.c (.pair (.pure (.int .i64)) (.pair (.own (.pure (.str))) (.own (.pure (.int .i64))))) a0⟩),(1,⟨0,0,.c (.pure (.int .i64)) a1⟩)] _
 have hp0:0≤a1:=hpre.1
 have hp1:a1+((cellsV (.pair (.int .i64) (.pair (.slice (.str)) (.slice (.int .i64)))) a0:Nat):Int)≤bnd:=hpre.2
 have hc:((cellsV (.pair (.int .i64) (.pair (.slice (.str)) (.slice (.int .i64)))) a0:Nat):Int)=((cellsC (.slice (.str)) a0.2.1:Nat):Int)+((cellsC (.slice (.int .i64)) a0.2.2:Nat):Int):=by
   show (((0+(cellsC (.slice (.str)) a0.2.1+cellsC (.slice (.int .i64)) a0.2.2)):Nat):Int)=_
   omega
 refine Vm hG rfl (Vq ?_)
 refine Vr hG rfl ?_ ?_
 · exact(show markPre (.slice (.str)) a0.2.1 (a1)from⟨by omega,by omega⟩)
 refine Vq ?_
 refine Vr hG rfl ?_ ?_
 · have ce0:=cntF_eq (.slice (.str)) a0.2.1 (a1)
   exact(show markPre (.slice (.int .i64)) a0.2.2 (cntF (.slice (.str)) a0.2.1 (a1))from⟨by omega,by omega⟩)
 refine Vm hG rfl (Vt ?_)
 have ce0:=cntF_eq (.slice (.str)) a0.2.1 (a1)
 have ce1:=cntF_eq (.slice (.int .i64)) a0.2.2 (cntF (.slice (.str)) a0.2.1 (a1))
 refine⟨?_,?_,trivial⟩
 · show cntF (.slice (.int .i64)) a0.2.2 (cntF (.slice (.str)) a0.2.1 (a1))=cntV (.pair (.int .i64) (.pair (.slice (.str)) (.slice (.int .i64)))) a0 a1
   rw[cntV_eq (.pair (.int .i64) (.pair (.slice (.str)) (.slice (.int .i64)))) a0 a1]
   omega
 · exact(Prod.ext rfl (Prod.ext (congrArg (markC (.slice (.str)) a0.2.1) (show a1=a1+((0:Nat):Int)from by omega)) (congrArg (markC (.slice (.int .i64)) a0.2.2) (show cntF (.slice (.str)) a0.2.1 (a1)=a1+((0:Nat):Int)+((cellsC (.slice (.str)) a0.2.1:Nat):Int)from by omega))))
noncomputable def F170:Fun:=⟨[.slice (.int .i64),.int .i64],[.pure (.int .i64)],fun x=>(fun a0 a1=>markPre (.slice (.int .i64)) a0 a1) x.1 x.2.1,fun x=>((fun a0 a1=>heldF (.slice (.int .i64)) a0 a1) x.1 x.2.1,())⟩
set_option maxHeartbeats 6000000 in
theorem F170_ok:Meets Tryz.prog 170 F170:=by
 refine mZ (C:=mkC 21 [4] [0,1,4,5,9,17] []) (mO _ _ _ _) (fO _) Tryz.func170 rfl rfl rfl (by decide) rfl ?_
 rintro⟨a0,(a1:Int),_⟩ hwf hpre ⟨⟩ hG rfl rfl
 show Vc _ _ [(0,⟨0,0,.c (.pure (.slice (.int .i64))) a0⟩),(1,⟨0,0,.c (.pure (.int .i64)) a1⟩)] _
 have hb:List.length a0≤bigLen:=hwf.1.1
 have hp0:0≤a1:=hpre.1
 have hp1:a1+((cellsL (cellsC (.int .i64)) a0:Nat):Int)≤bnd:=hpre.2
 refine Vm hG rfl (Vq (Vm hG rfl (Vb ?_)))
 refine Vc.loopF [(1,false,.pure (.int .i64)),(5,false,.pure (.int .i64))] [0] (fun v=>hdInv (cellsC (.int .i64)) (okC (.int .i64)) a0 a1 v.1 v.2.1) (fun v=>((List.length a0:Int)-v.2.1).toNat) rfl ?_ ?_
 · exact hdStart
 rintro⟨(k:Int),(i:Int),_⟩ hI
 have hI:hdInv (cellsC (.int .i64)) (okC (.int .i64)) a0 a1 k i:=hI
 refine Vq (Vm hG rfl ?_)
 refine Vk rfl ?_ ?_<;>intro h0
 · have hl:i<(List.length a0:Int):=oTr h0
   have hk:=hdBound hI hl (dflt (.int .i64)) hp0 hp1
   generalize hX:List.getD a0 i.toNat (dflt (.int .i64))=X at hk
   have hk:0≤k∧k+((1:Nat):Int)≤bnd:=hk
   have w0:IntKind.i64.wrap (k+1)=k+1:=wrapB (by omega) (by omega)
   refine Vs (Vq (Vb (Vq ?_)))
   refine Vq ?_
   refine Vr hG rfl ?_ ?_
   · exact hdRange hI hl
   refine Vk rfl ?_ ?_<;>intro h1
   · have g1:okC (.int .i64) X (k)=false:=by
       have h:((List.getD a0 i.toNat (dflt (.int .i64))) != k)=true:=h1
       try simp only[hX,w0]at h
       exact ok_ne h
     refine Vm hG rfl (Vt ?_)
     refine⟨?_,trivial⟩
     refine hdNo hI hl (dflt (.int .i64)) ?_
     rw[hX]
     show okC (.int .i64) X (k)=false
     simp only[g1,Bool.and_false,Bool.false_and,Bool.and_true,Bool.true_and]
   · have g1:okC (.int .i64) X (k)=true:=by
       have h:((List.getD a0 i.toNat (dflt (.int .i64))) != k)=false:=h1
       try simp only[hX,w0]at h
       exact ok_eq h
     refine Vs (Vn hG rfl (Vn hG rfl ?_))
     refine⟨rfl,?_⟩
     refine hdStep hI hl hb (dflt (.int .i64)) ?_ ?_
     · rw[hX]
       show okC (.int .i64) X (k)=true
       simp only[g1,Bool.and_true]
     · show IntKind.i64.wrap (k+1)=k+((cellsC (.int .i64) (List.getD a0 i.toNat (dflt (.int .i64))):Nat):Int)
       rw[hX]
       show _=k+((1:Nat):Int)
       try simp only[hX,w0]
       try omega
 · have hl:¬i<(List.length a0:Int):=oFa h0
   refine Vx (Vm hG rfl (Vt ?_))
   refine⟨?_,trivial⟩
   exact hdEnd hI hl
noncomputable def F103:Fun:=⟨[.slice (.pair (.int .i64) (.pair (.slice (.int .i64)) (.int .i64))),.int .i64],[.pure (.int .i64)],fun x=>(fun a0 a1=>markPre (.slice (.pair (.int .i64) (.pair (.slice (.int .i64)) (.int .i64)))) a0 a1) x.1 x.2.1,fun x=>((fun a0 a1=>heldF (.slice (.pair (.int .i64) (.pair (.slice (.int .i64)) (.int .i64)))) a0 a1) x.1 x.2.1,())⟩
set_option maxHeartbeats 6000000 in
theorem F103_ok:Meets Tryz.prog 103 F103:=by
 refine mZ (C:=mkC 40 [4] [0,1,4,5,9,18,29,36] [⟨170,_,F170_ok⟩]) (mO _ _ _ _) (fO _) Tryz.func103 rfl rfl rfl (by decide) rfl ?_
 rintro⟨a0,(a1:Int),_⟩ hwf hpre ⟨⟩ hG rfl rfl
 show Vc _ _ [(0,⟨0,0,.c (.pure (.slice (.pair (.int .i64) (.pair (.slice (.int .i64)) (.int .i64))))) a0⟩),(1,⟨0,0,.c (.pure (.int .i64)) a1⟩)] _
 have hb:List.length a0≤bigLen:=hwf.1.1
 have hp0:0≤a1:=hpre.1
 have hp1:a1+((cellsL (cellsC (.pair (.int .i64) (.pair (.slice (.int .i64)) (.int .i64)))) a0:Nat):Int)≤bnd:=hpre.2
 refine Vm hG rfl (Vq (Vm hG rfl (Vb ?_)))
 refine Vc.loopF [(1,false,.pure (.int .i64)),(5,false,.pure (.int .i64))] [0] (fun v=>hdInv (cellsC (.pair (.int .i64) (.pair (.slice (.int .i64)) (.int .i64)))) (okC (.pair (.int .i64) (.pair (.slice (.int .i64)) (.int .i64)))) a0 a1 v.1 v.2.1) (fun v=>((List.length a0:Int)-v.2.1).toNat) rfl ?_ ?_
 · exact hdStart
 rintro⟨(k:Int),(i:Int),_⟩ hI
 have hI:hdInv (cellsC (.pair (.int .i64) (.pair (.slice (.int .i64)) (.int .i64)))) (okC (.pair (.int .i64) (.pair (.slice (.int .i64)) (.int .i64)))) a0 a1 k i:=hI
 refine Vq (Vm hG rfl ?_)
 refine Vk rfl ?_ ?_<;>intro h0
 · have hl:i<(List.length a0:Int):=oTr h0
   have hk:=hdBound hI hl (dflt (.pair (.int .i64) (.pair (.slice (.int .i64)) (.int .i64)))) hp0 hp1
   generalize hX:List.getD a0 i.toNat (dflt (.pair (.int .i64) (.pair (.slice (.int .i64)) (.int .i64))))=X at hk
   have hk:0≤k∧k+(((1+((cellsC (.slice (.int .i64)) X.2.1)+1)):Nat):Int)≤bnd:=hk
   have w0:IntKind.i64.wrap (k+1)=k+1:=wrapB (by omega) (by omega)
   have w1:IntKind.i64.wrap (k+1+((cellsC (.slice (.int .i64)) X.2.1:Nat):Int)+1)=k+1+((cellsC (.slice (.int .i64)) X.2.1:Nat):Int)+1:=wrapB (by omega) (by omega)
   refine Vs (Vq (Vb (Vq ?_)))
   refine Vq ?_
   refine Vr hG rfl ?_ ?_
   · exact hdRange hI hl
   refine Vk rfl ?_ ?_<;>intro h1
   · have g1:okC (.int .i64) X.1 (k)=false:=by
       have h:((List.getD a0 i.toNat (dflt (.pair (.int .i64) (.pair (.slice (.int .i64)) (.int .i64))))).1 != k)=true:=h1
       try simp only[hX,w0,w1]at h
       exact ok_ne h
     refine Vm hG rfl (Vt ?_)
     refine⟨?_,trivial⟩
     refine hdNo hI hl (dflt (.pair (.int .i64) (.pair (.slice (.int .i64)) (.int .i64)))) ?_
     rw[hX]
     show (okC (.int .i64) X.1 (k)&&(okC (.slice (.int .i64)) X.2.1 (k+1)&&okC (.int .i64) X.2.2 (k+1+((cellsC (.slice (.int .i64)) X.2.1:Nat):Int))))=false
     simp only[g1,Bool.and_false,Bool.false_and,Bool.and_true,Bool.true_and]
   · have g1:okC (.int .i64) X.1 (k)=true:=by
       have h:((List.getD a0 i.toNat (dflt (.pair (.int .i64) (.pair (.slice (.int .i64)) (.int .i64))))).1 != k)=false:=h1
       try simp only[hX,w0,w1]at h
       exact ok_eq h
     refine Vs (Vm hG rfl (Vq ?_))
     refine Vr hG rfl ?_ ?_
     · refine⟨hdRange hI hl,?_⟩
       show markPre (.slice (.int .i64)) (List.getD a0 i.toNat (dflt (.pair (.int .i64) (.pair (.slice (.int .i64)) (.int .i64))))).2.1 (IntKind.i64.wrap (k+1))
       try simp only[hX,w0,w1]
       exact⟨by omega,by omega⟩
     refine Vq (Vm hG rfl ?_)
     refine Vk rfl ?_ ?_<;>intro h2
     · have q2:0≤k+1:=by omega
       have g2:okC (.slice (.int .i64)) X.2.1 (k+1)=false:=held_neg q2 (by
         have h:heldF (.slice (.int .i64)) (List.getD a0 i.toNat (dflt (.pair (.int .i64) (.pair (.slice (.int .i64)) (.int .i64))))).2.1 (IntKind.i64.wrap (k+1))<0:=oTr h2
         try simp only[hX,w0,w1]at h
         exact h)
       refine Vm hG rfl (Vt ?_)
       refine⟨?_,trivial⟩
       refine hdNo hI hl (dflt (.pair (.int .i64) (.pair (.slice (.int .i64)) (.int .i64)))) ?_
       rw[hX]
       show (okC (.int .i64) X.1 (k)&&(okC (.slice (.int .i64)) X.2.1 (k+1)&&okC (.int .i64) X.2.2 (k+1+((cellsC (.slice (.int .i64)) X.2.1:Nat):Int))))=false
       simp only[g1,g2,Bool.and_false,Bool.false_and,Bool.and_true,Bool.true_and]
     · have q2:0≤k+1:=by omega
       have n2:¬heldF (.slice (.int .i64)) X.2.1 (k+1)<0:=by
         have h:¬heldF (.slice (.int .i64)) (List.getD a0 i.toNat (dflt (.pair (.int .i64) (.pair (.slice (.int .i64)) (.int .i64))))).2.1 (IntKind.i64.wrap (k+1))<0:=oFa h2
         try simp only[hX,w0,w1]at h
         exact h
       have g2:okC (.slice (.int .i64)) X.2.1 (k+1)=true:=held_pos n2
       have u2:heldF (.slice (.int .i64)) X.2.1 (k+1)=k+1+((cellsC (.slice (.int .i64)) X.2.1:Nat):Int):=held_val n2
       refine Vs (Vq (Vq ?_))
       refine Vr hG rfl ?_ ?_
       · exact hdRange hI hl
       refine Vk rfl ?_ ?_<;>intro h3
       · have g3:okC (.int .i64) X.2.2 (k+1+((cellsC (.slice (.int .i64)) X.2.1:Nat):Int))=false:=by
           have h:((List.getD a0 i.toNat (dflt (.pair (.int .i64) (.pair (.slice (.int .i64)) (.int .i64))))).2.2 != heldF (.slice (.int .i64)) (List.getD a0 i.toNat (dflt (.pair (.int .i64) (.pair (.slice (.int .i64)) (.int .i64))))).2.1 (IntKind.i64.wrap (k+1)))=true:=h3
           try simp only[hX,w0,w1,u2]at h
           exact ok_ne h
         refine Vm hG rfl (Vt ?_)
         refine⟨?_,trivial⟩
         refine hdNo hI hl (dflt (.pair (.int .i64) (.pair (.slice (.int .i64)) (.int .i64)))) ?_
         rw[hX]
         show (okC (.int .i64) X.1 (k)&&(okC (.slice (.int .i64)) X.2.1 (k+1)&&okC (.int .i64) X.2.2 (k+1+((cellsC (.slice (.int .i64)) X.2.1:Nat):Int))))=false
         simp only[g1,g2,g3,Bool.and_false,Bool.false_and,Bool.and_true,Bool.true_and]
       · have g3:okC (.int .i64) X.2.2 (k+1+((cellsC (.slice (.int .i64)) X.2.1:Nat):Int))=true:=by
           have h:((List.getD a0 i.toNat (dflt (.pair (.int .i64) (.pair (.slice (.int .i64)) (.int .i64))))).2.2 != heldF (.slice (.int .i64)) (List.getD a0 i.toNat (dflt (.pair (.int .i64) (.pair (.slice (.int .i64)) (.int .i64))))).2.1 (IntKind.i64.wrap (k+1)))=false:=h3
           try simp only[hX,w0,w1,u2]at h
           exact ok_eq h
         refine Vs (Vn hG rfl (Vn hG rfl ?_))
         refine⟨rfl,?_⟩
         refine hdStep hI hl hb (dflt (.pair (.int .i64) (.pair (.slice (.int .i64)) (.int .i64)))) ?_ ?_
         · rw[hX]
           show (okC (.int .i64) X.1 (k)&&(okC (.slice (.int .i64)) X.2.1 (k+1)&&okC (.int .i64) X.2.2 (k+1+((cellsC (.slice (.int .i64)) X.2.1:Nat):Int))))=true
           simp only[g1,g2,g3,Bool.and_true]
         · show IntKind.i64.wrap (heldF (.slice (.int .i64)) (List.getD a0 i.toNat (dflt (.pair (.int .i64) (.pair (.slice (.int .i64)) (.int .i64))))).2.1 (IntKind.i64.wrap (k+1))+1)=k+((cellsC (.pair (.int .i64) (.pair (.slice (.int .i64)) (.int .i64))) (List.getD a0 i.toNat (dflt (.pair (.int .i64) (.pair (.slice (.int .i64)) (.int .i64))))):Nat):Int)
           rw[hX]
           show _=k+(((1+((cellsC (.slice (.int .i64)) X.2.1)+1)):Nat):Int)
           try simp only[hX,w0,w1,u2]
           try omega
 · have hl:¬i<(List.length a0:Int):=oFa h0
   refine Vx (Vm hG rfl (Vt ?_))
   refine⟨?_,trivial⟩
   exact hdEnd hI hl
noncomputable def F171:Fun:=⟨[.slice (.pair (.int .i64) (.bool)),.int .i64],[.pure (.int .i64)],fun x=>(fun a0 a1=>markPre (.slice (.pair (.int .i64) (.bool))) a0 a1) x.1 x.2.1,fun x=>((fun a0 a1=>heldF (.slice (.pair (.int .i64) (.bool))) a0 a1) x.1 x.2.1,())⟩
set_option maxHeartbeats 6000000 in
theorem F171_ok:Meets Tryz.prog 171 F171:=by
 refine mZ (C:=mkC 33 [4] [0,1,4,5,9,18,29] []) (mO _ _ _ _) (fO _) Tryz.func171 rfl rfl rfl (by decide) rfl ?_
 rintro⟨a0,(a1:Int),_⟩ hwf hpre ⟨⟩ hG rfl rfl
 show Vc _ _ [(0,⟨0,0,.c (.pure (.slice (.pair (.int .i64) (.bool)))) a0⟩),(1,⟨0,0,.c (.pure (.int .i64)) a1⟩)] _
 have hb:List.length a0≤bigLen:=hwf.1.1
 have hp0:0≤a1:=hpre.1
 have hp1:a1+((cellsL (cellsC (.pair (.int .i64) (.bool))) a0:Nat):Int)≤bnd:=hpre.2
 refine Vm hG rfl (Vq (Vm hG rfl (Vb ?_)))
 refine Vc.loopF [(1,false,.pure (.int .i64)),(5,false,.pure (.int .i64))] [0] (fun v=>hdInv (cellsC (.pair (.int .i64) (.bool))) (okC (.pair (.int .i64) (.bool))) a0 a1 v.1 v.2.1) (fun v=>((List.length a0:Int)-v.2.1).toNat) rfl ?_ ?_
 · exact hdStart
 rintro⟨(k:Int),(i:Int),_⟩ hI
 have hI:hdInv (cellsC (.pair (.int .i64) (.bool))) (okC (.pair (.int .i64) (.bool))) a0 a1 k i:=hI
 refine Vq (Vm hG rfl ?_)
 refine Vk rfl ?_ ?_<;>intro h0
 · have hl:i<(List.length a0:Int):=oTr h0
   have hk:=hdBound hI hl (dflt (.pair (.int .i64) (.bool))) hp0 hp1
   generalize hX:List.getD a0 i.toNat (dflt (.pair (.int .i64) (.bool)))=X at hk
   have hk:0≤k∧k+(((1+1):Nat):Int)≤bnd:=hk
   have w0:IntKind.i64.wrap (k+1)=k+1:=wrapB (by omega) (by omega)
   have w1:IntKind.i64.wrap (k+1+1)=k+1+1:=wrapB (by omega) (by omega)
   refine Vs (Vq (Vb (Vq ?_)))
   refine Vq ?_
   refine Vr hG rfl ?_ ?_
   · exact hdRange hI hl
   refine Vk rfl ?_ ?_<;>intro h1
   · have g1:okC (.int .i64) X.1 (k)=false:=by
       have h:((List.getD a0 i.toNat (dflt (.pair (.int .i64) (.bool)))).1 != k)=true:=h1
       try simp only[hX,w0,w1]at h
       exact ok_ne h
     refine Vm hG rfl (Vt ?_)
     refine⟨?_,trivial⟩
     refine hdNo hI hl (dflt (.pair (.int .i64) (.bool))) ?_
     rw[hX]
     show (okC (.int .i64) X.1 (k)&&okC (.bool) X.2 (k+1))=false
     simp only[g1,Bool.and_false,Bool.false_and,Bool.and_true,Bool.true_and]
   · have g1:okC (.int .i64) X.1 (k)=true:=by
       have h:((List.getD a0 i.toNat (dflt (.pair (.int .i64) (.bool)))).1 != k)=false:=h1
       try simp only[hX,w0,w1]at h
       exact ok_eq h
     refine Vs (Vm hG rfl (Vq (Vq ?_)))
     refine Vr hG rfl ?_ ?_
     · exact⟨hdRange hI hl,(show (3:Int)≠0 by decide)⟩
     refine Vk rfl ?_ ?_<;>intro h2
     · have g2:okC (.bool) X.2 (k+1)=false:=by
         have h:((List.getD a0 i.toNat (dflt (.pair (.int .i64) (.bool)))).2 != ((IntKind.i64.wrap (k+1)).tmod 3==0))=true:=h2
         try simp only[hX,w0,w1]at h
         exact ok_ne h
       refine Vm hG rfl (Vt ?_)
       refine⟨?_,trivial⟩
       refine hdNo hI hl (dflt (.pair (.int .i64) (.bool))) ?_
       rw[hX]
       show (okC (.int .i64) X.1 (k)&&okC (.bool) X.2 (k+1))=false
       simp only[g1,g2,Bool.and_false,Bool.false_and,Bool.and_true,Bool.true_and]
     · have g2:okC (.bool) X.2 (k+1)=true:=by
         have h:((List.getD a0 i.toNat (dflt (.pair (.int .i64) (.bool)))).2 != ((IntKind.i64.wrap (k+1)).tmod 3==0))=false:=h2
         try simp only[hX,w0,w1]at h
         exact ok_eq h
       refine Vs (Vn hG rfl (Vn hG rfl ?_))
       refine⟨rfl,?_⟩
       refine hdStep hI hl hb (dflt (.pair (.int .i64) (.bool))) ?_ ?_
       · rw[hX]
         show (okC (.int .i64) X.1 (k)&&okC (.bool) X.2 (k+1))=true
         simp only[g1,g2,Bool.and_true]
       · show IntKind.i64.wrap (IntKind.i64.wrap (k+1)+1)=k+((cellsC (.pair (.int .i64) (.bool)) (List.getD a0 i.toNat (dflt (.pair (.int .i64) (.bool)))):Nat):Int)
         rw[hX]
         show _=k+(((1+1):Nat):Int)
         try simp only[hX,w0,w1]
         try omega
 · have hl:¬i<(List.length a0:Int):=oFa h0
   refine Vx (Vm hG rfl (Vt ?_))
   refine⟨?_,trivial⟩
   exact hdEnd hI hl
noncomputable def F105:Fun:=⟨[.slice (.pair (.int .i64) (.pair (.int .i64) (.pair (.int .i64) (.pair (.int .i64) (.int .i64))))),.int .i64],[.pure (.int .i64)],fun x=>(fun a0 a1=>markPre (.slice (.pair (.int .i64) (.pair (.int .i64) (.pair (.int .i64) (.pair (.int .i64) (.int .i64)))))) a0 a1) x.1 x.2.1,fun x=>((fun a0 a1=>heldF (.slice (.pair (.int .i64) (.pair (.int .i64) (.pair (.int .i64) (.pair (.int .i64) (.int .i64)))))) a0 a1) x.1 x.2.1,())⟩
set_option maxHeartbeats 6000000 in
theorem F105_ok:Meets Tryz.prog 105 F105:=by
 refine mZ (C:=mkC 58 [4] [0,1,4,5,9,18,27,36,45,54] []) (mO _ _ _ _) (fO _) Tryz.func105 rfl rfl rfl (by decide) rfl ?_
 rintro⟨a0,(a1:Int),_⟩ hwf hpre ⟨⟩ hG rfl rfl
 show Vc _ _ [(0,⟨0,0,.c (.pure (.slice (.pair (.int .i64) (.pair (.int .i64) (.pair (.int .i64) (.pair (.int .i64) (.int .i64))))))) a0⟩),(1,⟨0,0,.c (.pure (.int .i64)) a1⟩)] _
 have hb:List.length a0≤bigLen:=hwf.1.1
 have hp0:0≤a1:=hpre.1
 have hp1:a1+((cellsL (cellsC (.pair (.int .i64) (.pair (.int .i64) (.pair (.int .i64) (.pair (.int .i64) (.int .i64)))))) a0:Nat):Int)≤bnd:=hpre.2
 refine Vm hG rfl (Vq (Vm hG rfl (Vb ?_)))
 refine Vc.loopF [(1,false,.pure (.int .i64)),(5,false,.pure (.int .i64))] [0] (fun v=>hdInv (cellsC (.pair (.int .i64) (.pair (.int .i64) (.pair (.int .i64) (.pair (.int .i64) (.int .i64)))))) (okC (.pair (.int .i64) (.pair (.int .i64) (.pair (.int .i64) (.pair (.int .i64) (.int .i64)))))) a0 a1 v.1 v.2.1) (fun v=>((List.length a0:Int)-v.2.1).toNat) rfl ?_ ?_
 · exact hdStart
 rintro⟨(k:Int),(i:Int),_⟩ hI
 have hI:hdInv (cellsC (.pair (.int .i64) (.pair (.int .i64) (.pair (.int .i64) (.pair (.int .i64) (.int .i64)))))) (okC (.pair (.int .i64) (.pair (.int .i64) (.pair (.int .i64) (.pair (.int .i64) (.int .i64)))))) a0 a1 k i:=hI
 refine Vq (Vm hG rfl ?_)
 refine Vk rfl ?_ ?_<;>intro h0
 · have hl:i<(List.length a0:Int):=oTr h0
   have hk:=hdBound hI hl (dflt (.pair (.int .i64) (.pair (.int .i64) (.pair (.int .i64) (.pair (.int .i64) (.int .i64)))))) hp0 hp1
   generalize hX:List.getD a0 i.toNat (dflt (.pair (.int .i64) (.pair (.int .i64) (.pair (.int .i64) (.pair (.int .i64) (.int .i64))))))=X at hk
   have hk:0≤k∧k+(((1+(1+(1+(1+1)))):Nat):Int)≤bnd:=hk
   have w0:IntKind.i64.wrap (k+1)=k+1:=wrapB (by omega) (by omega)
   have w1:IntKind.i64.wrap (k+1+1)=k+1+1:=wrapB (by omega) (by omega)
   have w2:IntKind.i64.wrap (k+1+1+1)=k+1+1+1:=wrapB (by omega) (by omega)
   have w3:IntKind.i64.wrap (k+1+1+1+1)=k+1+1+1+1:=wrapB (by omega) (by omega)
   have w4:IntKind.i64.wrap (k+1+1+1+1+1)=k+1+1+1+1+1:=wrapB (by omega) (by omega)
   refine Vs (Vq (Vb (Vq ?_)))
   refine Vq ?_
   refine Vr hG rfl ?_ ?_
   · exact hdRange hI hl
   refine Vk rfl ?_ ?_<;>intro h1
   · have g1:okC (.int .i64) X.1 (k)=false:=by
       have h:((List.getD a0 i.toNat (dflt (.pair (.int .i64) (.pair (.int .i64) (.pair (.int .i64) (.pair (.int .i64) (.int .i64))))))).1 != k)=true:=h1
       try simp only[hX,w0,w1,w2,w3,w4]at h
       exact ok_ne h
     refine Vm hG rfl (Vt ?_)
     refine⟨?_,trivial⟩
     refine hdNo hI hl (dflt (.pair (.int .i64) (.pair (.int .i64) (.pair (.int .i64) (.pair (.int .i64) (.int .i64)))))) ?_
     rw[hX]
     show (okC (.int .i64) X.1 (k)&&(okC (.int .i64) X.2.1 (k+1)&&(okC (.int .i64) X.2.2.1 (k+1+1)&&(okC (.int .i64) X.2.2.2.1 (k+1+1+1)&&okC (.int .i64) X.2.2.2.2 (k+1+1+1+1)))))=false
     simp only[g1,Bool.and_false,Bool.false_and,Bool.and_true,Bool.true_and]
   · have g1:okC (.int .i64) X.1 (k)=true:=by
       have h:((List.getD a0 i.toNat (dflt (.pair (.int .i64) (.pair (.int .i64) (.pair (.int .i64) (.pair (.int .i64) (.int .i64))))))).1 != k)=false:=h1
       try simp only[hX,w0,w1,w2,w3,w4]at h
       exact ok_eq h
     refine Vs (Vm hG rfl (Vq (Vq ?_)))
     refine Vr hG rfl ?_ ?_
     · exact hdRange hI hl
     refine Vk rfl ?_ ?_<;>intro h2
     · have g2:okC (.int .i64) X.2.1 (k+1)=false:=by
         have h:((List.getD a0 i.toNat (dflt (.pair (.int .i64) (.pair (.int .i64) (.pair (.int .i64) (.pair (.int .i64) (.int .i64))))))).2.1 != IntKind.i64.wrap (k+1))=true:=h2
         try simp only[hX,w0,w1,w2,w3,w4]at h
         exact ok_ne h
       refine Vm hG rfl (Vt ?_)
       refine⟨?_,trivial⟩
       refine hdNo hI hl (dflt (.pair (.int .i64) (.pair (.int .i64) (.pair (.int .i64) (.pair (.int .i64) (.int .i64)))))) ?_
       rw[hX]
       show (okC (.int .i64) X.1 (k)&&(okC (.int .i64) X.2.1 (k+1)&&(okC (.int .i64) X.2.2.1 (k+1+1)&&(okC (.int .i64) X.2.2.2.1 (k+1+1+1)&&okC (.int .i64) X.2.2.2.2 (k+1+1+1+1)))))=false
       simp only[g1,g2,Bool.and_false,Bool.false_and,Bool.and_true,Bool.true_and]
     · have g2:okC (.int .i64) X.2.1 (k+1)=true:=by
         have h:((List.getD a0 i.toNat (dflt (.pair (.int .i64) (.pair (.int .i64) (.pair (.int .i64) (.pair (.int .i64) (.int .i64))))))).2.1 != IntKind.i64.wrap (k+1))=false:=h2
         try simp only[hX,w0,w1,w2,w3,w4]at h
         exact ok_eq h
       refine Vs (Vm hG rfl (Vq (Vq ?_)))
       refine Vr hG rfl ?_ ?_
       · exact hdRange hI hl
       refine Vk rfl ?_ ?_<;>intro h3
       · have g3:okC (.int .i64) X.2.2.1 (k+1+1)=false:=by
           have h:((List.getD a0 i.toNat (dflt (.pair (.int .i64) (.pair (.int .i64) (.pair (.int .i64) (.pair (.int .i64) (.int .i64))))))).2.2.1 != IntKind.i64.wrap (IntKind.i64.wrap (k+1)+1))=true:=h3
           try simp only[hX,w0,w1,w2,w3,w4]at h
           exact ok_ne h
         refine Vm hG rfl (Vt ?_)
         refine⟨?_,trivial⟩
         refine hdNo hI hl (dflt (.pair (.int .i64) (.pair (.int .i64) (.pair (.int .i64) (.pair (.int .i64) (.int .i64)))))) ?_
         rw[hX]
         show (okC (.int .i64) X.1 (k)&&(okC (.int .i64) X.2.1 (k+1)&&(okC (.int .i64) X.2.2.1 (k+1+1)&&(okC (.int .i64) X.2.2.2.1 (k+1+1+1)&&okC (.int .i64) X.2.2.2.2 (k+1+1+1+1)))))=false
         simp only[g1,g2,g3,Bool.and_false,Bool.false_and,Bool.and_true,Bool.true_and]
       · have g3:okC (.int .i64) X.2.2.1 (k+1+1)=true:=by
           have h:((List.getD a0 i.toNat (dflt (.pair (.int .i64) (.pair (.int .i64) (.pair (.int .i64) (.pair (.int .i64) (.int .i64))))))).2.2.1 != IntKind.i64.wrap (IntKind.i64.wrap (k+1)+1))=false:=h3
           try simp only[hX,w0,w1,w2,w3,w4]at h
           exact ok_eq h
         refine Vs (Vm hG rfl (Vq (Vq ?_)))
         refine Vr hG rfl ?_ ?_
         · exact hdRange hI hl
         refine Vk rfl ?_ ?_<;>intro h4
         · have g4:okC (.int .i64) X.2.2.2.1 (k+1+1+1)=false:=by
             have h:((List.getD a0 i.toNat (dflt (.pair (.int .i64) (.pair (.int .i64) (.pair (.int .i64) (.pair (.int .i64) (.int .i64))))))).2.2.2.1 != IntKind.i64.wrap (IntKind.i64.wrap (IntKind.i64.wrap (k+1)+1)+1))=true:=h4
             try simp only[hX,w0,w1,w2,w3,w4]at h
             exact ok_ne h
           refine Vm hG rfl (Vt ?_)
           refine⟨?_,trivial⟩
           refine hdNo hI hl (dflt (.pair (.int .i64) (.pair (.int .i64) (.pair (.int .i64) (.pair (.int .i64) (.int .i64)))))) ?_
           rw[hX]
           show (okC (.int .i64) X.1 (k)&&(okC (.int .i64) X.2.1 (k+1)&&(okC (.int .i64) X.2.2.1 (k+1+1)&&(okC (.int .i64) X.2.2.2.1 (k+1+1+1)&&okC (.int .i64) X.2.2.2.2 (k+1+1+1+1)))))=false
           simp only[g1,g2,g3,g4,Bool.and_false,Bool.false_and,Bool.and_true,Bool.true_and]
         · have g4:okC (.int .i64) X.2.2.2.1 (k+1+1+1)=true:=by
             have h:((List.getD a0 i.toNat (dflt (.pair (.int .i64) (.pair (.int .i64) (.pair (.int .i64) (.pair (.int .i64) (.int .i64))))))).2.2.2.1 != IntKind.i64.wrap (IntKind.i64.wrap (IntKind.i64.wrap (k+1)+1)+1))=false:=h4
             try simp only[hX,w0,w1,w2,w3,w4]at h
             exact ok_eq h
           refine Vs (Vm hG rfl (Vq (Vq ?_)))
           refine Vr hG rfl ?_ ?_
           · exact hdRange hI hl
           refine Vk rfl ?_ ?_<;>intro h5
           · have g5:okC (.int .i64) X.2.2.2.2 (k+1+1+1+1)=false:=by
               have h:((List.getD a0 i.toNat (dflt (.pair (.int .i64) (.pair (.int .i64) (.pair (.int .i64) (.pair (.int .i64) (.int .i64))))))).2.2.2.2 != IntKind.i64.wrap (IntKind.i64.wrap (IntKind.i64.wrap (IntKind.i64.wrap (k+1)+1)+1)+1))=true:=h5
               try simp only[hX,w0,w1,w2,w3,w4]at h
               exact ok_ne h
             refine Vm hG rfl (Vt ?_)
             refine⟨?_,trivial⟩
             refine hdNo hI hl (dflt (.pair (.int .i64) (.pair (.int .i64) (.pair (.int .i64) (.pair (.int .i64) (.int .i64)))))) ?_
             rw[hX]
             show (okC (.int .i64) X.1 (k)&&(okC (.int .i64) X.2.1 (k+1)&&(okC (.int .i64) X.2.2.1 (k+1+1)&&(okC (.int .i64) X.2.2.2.1 (k+1+1+1)&&okC (.int .i64) X.2.2.2.2 (k+1+1+1+1)))))=false
             simp only[g1,g2,g3,g4,g5,Bool.and_false,Bool.false_and,Bool.and_true,Bool.true_and]
           · have g5:okC (.int .i64) X.2.2.2.2 (k+1+1+1+1)=true:=by
               have h:((List.getD a0 i.toNat (dflt (.pair (.int .i64) (.pair (.int .i64) (.pair (.int .i64) (.pair (.int .i64) (.int .i64))))))).2.2.2.2 != IntKind.i64.wrap (IntKind.i64.wrap (IntKind.i64.wrap (IntKind.i64.wrap (k+1)+1)+1)+1))=false:=h5
               try simp only[hX,w0,w1,w2,w3,w4]at h
               exact ok_eq h
             refine Vs (Vn hG rfl (Vn hG rfl ?_))
             refine⟨rfl,?_⟩
             refine hdStep hI hl hb (dflt (.pair (.int .i64) (.pair (.int .i64) (.pair (.int .i64) (.pair (.int .i64) (.int .i64)))))) ?_ ?_
             · rw[hX]
               show (okC (.int .i64) X.1 (k)&&(okC (.int .i64) X.2.1 (k+1)&&(okC (.int .i64) X.2.2.1 (k+1+1)&&(okC (.int .i64) X.2.2.2.1 (k+1+1+1)&&okC (.int .i64) X.2.2.2.2 (k+1+1+1+1)))))=true
               simp only[g1,g2,g3,g4,g5,Bool.and_true]
             · show IntKind.i64.wrap (IntKind.i64.wrap (IntKind.i64.wrap (IntKind.i64.wrap (IntKind.i64.wrap (k+1)+1)+1)+1)+1)=k+((cellsC (.pair (.int .i64) (.pair (.int .i64) (.pair (.int .i64) (.pair (.int .i64) (.int .i64))))) (List.getD a0 i.toNat (dflt (.pair (.int .i64) (.pair (.int .i64) (.pair (.int .i64) (.pair (.int .i64) (.int .i64))))))):Nat):Int)
               rw[hX]
               show _=k+(((1+(1+(1+(1+1)))):Nat):Int)
               try simp only[hX,w0,w1,w2,w3,w4]
               try omega
 · have hl:¬i<(List.length a0:Int):=oFa h0
   refine Vx (Vm hG rfl (Vt ?_))
   refine⟨?_,trivial⟩
   exact hdEnd hI hl
noncomputable def F104:Fun:=⟨[.slice (.pair (.int .i64) (.pair (.int .i64) (.pair (.int .i64) (.pair (.slice (.pair (.int .i64) (.bool))) (.slice (.pair (.int .i64) (.pair (.int .i64) (.pair (.int .i64) (.pair (.int .i64) (.int .i64)))))))))),.int .i64],[.pure (.int .i64)],fun x=>(fun a0 a1=>markPre (.slice (.pair (.int .i64) (.pair (.int .i64) (.pair (.int .i64) (.pair (.slice (.pair (.int .i64) (.bool))) (.slice (.pair (.int .i64) (.pair (.int .i64) (.pair (.int .i64) (.pair (.int .i64) (.int .i64))))))))))) a0 a1) x.1 x.2.1,fun x=>((fun a0 a1=>heldF (.slice (.pair (.int .i64) (.pair (.int .i64) (.pair (.int .i64) (.pair (.slice (.pair (.int .i64) (.bool))) (.slice (.pair (.int .i64) (.pair (.int .i64) (.pair (.int .i64) (.pair (.int .i64) (.int .i64))))))))))) a0 a1) x.1 x.2.1,())⟩
set_option maxHeartbeats 6000000 in
theorem F104_ok:Meets Tryz.prog 104 F104:=by
 refine mZ (C:=mkC 58 [4] [0,1,4,5,9,18,27,36,47,56] [⟨171,_,F171_ok⟩,⟨105,_,F105_ok⟩]) (mO _ _ _ _) (fO _) Tryz.func104 rfl rfl rfl (by decide) rfl ?_
 rintro⟨a0,(a1:Int),_⟩ hwf hpre ⟨⟩ hG rfl rfl
 show Vc _ _ [(0,⟨0,0,.c (.pure (.slice (.pair (.int .i64) (.pair (.int .i64) (.pair (.int .i64) (.pair (.slice (.pair (.int .i64) (.bool))) (.slice (.pair (.int .i64) (.pair (.int .i64) (.pair (.int .i64) (.pair (.int .i64) (.int .i64)))))))))))) a0⟩),(1,⟨0,0,.c (.pure (.int .i64)) a1⟩)] _
 have hb:List.length a0≤bigLen:=hwf.1.1
 have hp0:0≤a1:=hpre.1
 have hp1:a1+((cellsL (cellsC (.pair (.int .i64) (.pair (.int .i64) (.pair (.int .i64) (.pair (.slice (.pair (.int .i64) (.bool))) (.slice (.pair (.int .i64) (.pair (.int .i64) (.pair (.int .i64) (.pair (.int .i64) (.int .i64))))))))))) a0:Nat):Int)≤bnd:=hpre.2
 refine Vm hG rfl (Vq (Vm hG rfl (Vb ?_)))
 refine Vc.loopF [(1,false,.pure (.int .i64)),(5,false,.pure (.int .i64))] [0] (fun v=>hdInv (cellsC (.pair (.int .i64) (.pair (.int .i64) (.pair (.int .i64) (.pair (.slice (.pair (.int .i64) (.bool))) (.slice (.pair (.int .i64) (.pair (.int .i64) (.pair (.int .i64) (.pair (.int .i64) (.int .i64))))))))))) (okC (.pair (.int .i64) (.pair (.int .i64) (.pair (.int .i64) (.pair (.slice (.pair (.int .i64) (.bool))) (.slice (.pair (.int .i64) (.pair (.int .i64) (.pair (.int .i64) (.pair (.int .i64) (.int .i64))))))))))) a0 a1 v.1 v.2.1) (fun v=>((List.length a0:Int)-v.2.1).toNat) rfl ?_ ?_
 · exact hdStart
 rintro⟨(k:Int),(i:Int),_⟩ hI
 have hI:hdInv (cellsC (.pair (.int .i64) (.pair (.int .i64) (.pair (.int .i64) (.pair (.slice (.pair (.int .i64) (.bool))) (.slice (.pair (.int .i64) (.pair (.int .i64) (.pair (.int .i64) (.pair (.int .i64) (.int .i64))))))))))) (okC (.pair (.int .i64) (.pair (.int .i64) (.pair (.int .i64) (.pair (.slice (.pair (.int .i64) (.bool))) (.slice (.pair (.int .i64) (.pair (.int .i64) (.pair (.int .i64) (.pair (.int .i64) (.int .i64))))))))))) a0 a1 k i:=hI
 refine Vq (Vm hG rfl ?_)
 refine Vk rfl ?_ ?_<;>intro h0
 · have hl:i<(List.length a0:Int):=oTr h0
   have hk:=hdBound hI hl (dflt (.pair (.int .i64) (.pair (.int .i64) (.pair (.int .i64) (.pair (.slice (.pair (.int .i64) (.bool))) (.slice (.pair (.int .i64) (.pair (.int .i64) (.pair (.int .i64) (.pair (.int .i64) (.int .i64))))))))))) hp0 hp1
   generalize hX:List.getD a0 i.toNat (dflt (.pair (.int .i64) (.pair (.int .i64) (.pair (.int .i64) (.pair (.slice (.pair (.int .i64) (.bool))) (.slice (.pair (.int .i64) (.pair (.int .i64) (.pair (.int .i64) (.pair (.int .i64) (.int .i64)))))))))))=X at hk
   have hk:0≤k∧k+(((1+(1+(1+((cellsC (.slice (.pair (.int .i64) (.bool))) X.2.2.2.1)+(cellsC (.slice (.pair (.int .i64) (.pair (.int .i64) (.pair (.int .i64) (.pair (.int .i64) (.int .i64)))))) X.2.2.2.2))))):Nat):Int)≤bnd:=hk
   have w0:IntKind.i64.wrap (k+1)=k+1:=wrapB (by omega) (by omega)
   have w1:IntKind.i64.wrap (k+1+1)=k+1+1:=wrapB (by omega) (by omega)
   have w2:IntKind.i64.wrap (k+1+1+1)=k+1+1+1:=wrapB (by omega) (by omega)
   refine Vs (Vq (Vb (Vq ?_)))
   refine Vq ?_
   refine Vr hG rfl ?_ ?_
   · exact hdRange hI hl
   refine Vk rfl ?_ ?_<;>intro h1
   · have g1:okC (.int .i64) X.1 (k)=false:=by
       have h:((List.getD a0 i.toNat (dflt (.pair (.int .i64) (.pair (.int .i64) (.pair (.int .i64) (.pair (.slice (.pair (.int .i64) (.bool))) (.slice (.pair (.int .i64) (.pair (.int .i64) (.pair (.int .i64) (.pair (.int .i64) (.int .i64)))))))))))).1 != k)=true:=h1
       try simp only[hX,w0,w1,w2]at h
       exact ok_ne h
     refine Vm hG rfl (Vt ?_)
     refine⟨?_,trivial⟩
     refine hdNo hI hl (dflt (.pair (.int .i64) (.pair (.int .i64) (.pair (.int .i64) (.pair (.slice (.pair (.int .i64) (.bool))) (.slice (.pair (.int .i64) (.pair (.int .i64) (.pair (.int .i64) (.pair (.int .i64) (.int .i64))))))))))) ?_
     rw[hX]
     show (okC (.int .i64) X.1 (k)&&(okC (.int .i64) X.2.1 (k+1)&&(okC (.int .i64) X.2.2.1 (k+1+1)&&(okC (.slice (.pair (.int .i64) (.bool))) X.2.2.2.1 (k+1+1+1)&&okC (.slice (.pair (.int .i64) (.pair (.int .i64) (.pair (.int .i64) (.pair (.int .i64) (.int .i64)))))) X.2.2.2.2 (k+1+1+1+((cellsC (.slice (.pair (.int .i64) (.bool))) X.2.2.2.1:Nat):Int))))))=false
     simp only[g1,Bool.and_false,Bool.false_and,Bool.and_true,Bool.true_and]
   · have g1:okC (.int .i64) X.1 (k)=true:=by
       have h:((List.getD a0 i.toNat (dflt (.pair (.int .i64) (.pair (.int .i64) (.pair (.int .i64) (.pair (.slice (.pair (.int .i64) (.bool))) (.slice (.pair (.int .i64) (.pair (.int .i64) (.pair (.int .i64) (.pair (.int .i64) (.int .i64)))))))))))).1 != k)=false:=h1
       try simp only[hX,w0,w1,w2]at h
       exact ok_eq h
     refine Vs (Vm hG rfl (Vq (Vq ?_)))
     refine Vr hG rfl ?_ ?_
     · exact hdRange hI hl
     refine Vk rfl ?_ ?_<;>intro h2
     · have g2:okC (.int .i64) X.2.1 (k+1)=false:=by
         have h:((List.getD a0 i.toNat (dflt (.pair (.int .i64) (.pair (.int .i64) (.pair (.int .i64) (.pair (.slice (.pair (.int .i64) (.bool))) (.slice (.pair (.int .i64) (.pair (.int .i64) (.pair (.int .i64) (.pair (.int .i64) (.int .i64)))))))))))).2.1 != IntKind.i64.wrap (k+1))=true:=h2
         try simp only[hX,w0,w1,w2]at h
         exact ok_ne h
       refine Vm hG rfl (Vt ?_)
       refine⟨?_,trivial⟩
       refine hdNo hI hl (dflt (.pair (.int .i64) (.pair (.int .i64) (.pair (.int .i64) (.pair (.slice (.pair (.int .i64) (.bool))) (.slice (.pair (.int .i64) (.pair (.int .i64) (.pair (.int .i64) (.pair (.int .i64) (.int .i64))))))))))) ?_
       rw[hX]
       show (okC (.int .i64) X.1 (k)&&(okC (.int .i64) X.2.1 (k+1)&&(okC (.int .i64) X.2.2.1 (k+1+1)&&(okC (.slice (.pair (.int .i64) (.bool))) X.2.2.2.1 (k+1+1+1)&&okC (.slice (.pair (.int .i64) (.pair (.int .i64) (.pair (.int .i64) (.pair (.int .i64) (.int .i64)))))) X.2.2.2.2 (k+1+1+1+((cellsC (.slice (.pair (.int .i64) (.bool))) X.2.2.2.1:Nat):Int))))))=false
       simp only[g1,g2,Bool.and_false,Bool.false_and,Bool.and_true,Bool.true_and]
     · have g2:okC (.int .i64) X.2.1 (k+1)=true:=by
         have h:((List.getD a0 i.toNat (dflt (.pair (.int .i64) (.pair (.int .i64) (.pair (.int .i64) (.pair (.slice (.pair (.int .i64) (.bool))) (.slice (.pair (.int .i64) (.pair (.int .i64) (.pair (.int .i64) (.pair (.int .i64) (.int .i64)))))))))))).2.1 != IntKind.i64.wrap (k+1))=false:=h2
         try simp only[hX,w0,w1,w2]at h
         exact ok_eq h
       refine Vs (Vm hG rfl (Vq (Vq ?_)))
       refine Vr hG rfl ?_ ?_
       · exact hdRange hI hl
       refine Vk rfl ?_ ?_<;>intro h3
       · have g3:okC (.int .i64) X.2.2.1 (k+1+1)=false:=by
           have h:((List.getD a0 i.toNat (dflt (.pair (.int .i64) (.pair (.int .i64) (.pair (.int .i64) (.pair (.slice (.pair (.int .i64) (.bool))) (.slice (.pair (.int .i64) (.pair (.int .i64) (.pair (.int .i64) (.pair (.int .i64) (.int .i64)))))))))))).2.2.1 != IntKind.i64.wrap (IntKind.i64.wrap (k+1)+1))=true:=h3
           try simp only[hX,w0,w1,w2]at h
           exact ok_ne h
         refine Vm hG rfl (Vt ?_)
         refine⟨?_,trivial⟩
         refine hdNo hI hl (dflt (.pair (.int .i64) (.pair (.int .i64) (.pair (.int .i64) (.pair (.slice (.pair (.int .i64) (.bool))) (.slice (.pair (.int .i64) (.pair (.int .i64) (.pair (.int .i64) (.pair (.int .i64) (.int .i64))))))))))) ?_
         rw[hX]
         show (okC (.int .i64) X.1 (k)&&(okC (.int .i64) X.2.1 (k+1)&&(okC (.int .i64) X.2.2.1 (k+1+1)&&(okC (.slice (.pair (.int .i64) (.bool))) X.2.2.2.1 (k+1+1+1)&&okC (.slice (.pair (.int .i64) (.pair (.int .i64) (.pair (.int .i64) (.pair (.int .i64) (.int .i64)))))) X.2.2.2.2 (k+1+1+1+((cellsC (.slice (.pair (.int .i64) (.bool))) X.2.2.2.1:Nat):Int))))))=false
         simp only[g1,g2,g3,Bool.and_false,Bool.false_and,Bool.and_true,Bool.true_and]
       · have g3:okC (.int .i64) X.2.2.1 (k+1+1)=true:=by
           have h:((List.getD a0 i.toNat (dflt (.pair (.int .i64) (.pair (.int .i64) (.pair (.int .i64) (.pair (.slice (.pair (.int .i64) (.bool))) (.slice (.pair (.int .i64) (.pair (.int .i64) (.pair (.int .i64) (.pair (.int .i64) (.int .i64)))))))))))).2.2.1 != IntKind.i64.wrap (IntKind.i64.wrap (k+1)+1))=false:=h3
           try simp only[hX,w0,w1,w2]at h
           exact ok_eq h
         refine Vs (Vm hG rfl (Vq ?_))
         refine Vr hG rfl ?_ ?_
         · refine⟨hdRange hI hl,?_⟩
           show markPre (.slice (.pair (.int .i64) (.bool))) (List.getD a0 i.toNat (dflt (.pair (.int .i64) (.pair (.int .i64) (.pair (.int .i64) (.pair (.slice (.pair (.int .i64) (.bool))) (.slice (.pair (.int .i64) (.pair (.int .i64) (.pair (.int .i64) (.pair (.int .i64) (.int .i64)))))))))))).2.2.2.1 (IntKind.i64.wrap (IntKind.i64.wrap (IntKind.i64.wrap (k+1)+1)+1))
           try simp only[hX,w0,w1,w2]
           exact⟨by omega,by omega⟩
         refine Vq (Vm hG rfl ?_)
         refine Vk rfl ?_ ?_<;>intro h4
         · have q4:0≤k+1+1+1:=by omega
           have g4:okC (.slice (.pair (.int .i64) (.bool))) X.2.2.2.1 (k+1+1+1)=false:=held_neg q4 (by
             have h:heldF (.slice (.pair (.int .i64) (.bool))) (List.getD a0 i.toNat (dflt (.pair (.int .i64) (.pair (.int .i64) (.pair (.int .i64) (.pair (.slice (.pair (.int .i64) (.bool))) (.slice (.pair (.int .i64) (.pair (.int .i64) (.pair (.int .i64) (.pair (.int .i64) (.int .i64)))))))))))).2.2.2.1 (IntKind.i64.wrap (IntKind.i64.wrap (IntKind.i64.wrap (k+1)+1)+1))<0:=oTr h4
             try simp only[hX,w0,w1,w2]at h
             exact h)
           refine Vm hG rfl (Vt ?_)
           refine⟨?_,trivial⟩
           refine hdNo hI hl (dflt (.pair (.int .i64) (.pair (.int .i64) (.pair (.int .i64) (.pair (.slice (.pair (.int .i64) (.bool))) (.slice (.pair (.int .i64) (.pair (.int .i64) (.pair (.int .i64) (.pair (.int .i64) (.int .i64))))))))))) ?_
           rw[hX]
           show (okC (.int .i64) X.1 (k)&&(okC (.int .i64) X.2.1 (k+1)&&(okC (.int .i64) X.2.2.1 (k+1+1)&&(okC (.slice (.pair (.int .i64) (.bool))) X.2.2.2.1 (k+1+1+1)&&okC (.slice (.pair (.int .i64) (.pair (.int .i64) (.pair (.int .i64) (.pair (.int .i64) (.int .i64)))))) X.2.2.2.2 (k+1+1+1+((cellsC (.slice (.pair (.int .i64) (.bool))) X.2.2.2.1:Nat):Int))))))=false
           simp only[g1,g2,g3,g4,Bool.and_false,Bool.false_and,Bool.and_true,Bool.true_and]
         · have q4:0≤k+1+1+1:=by omega
           have n4:¬heldF (.slice (.pair (.int .i64) (.bool))) X.2.2.2.1 (k+1+1+1)<0:=by
             have h:¬heldF (.slice (.pair (.int .i64) (.bool))) (List.getD a0 i.toNat (dflt (.pair (.int .i64) (.pair (.int .i64) (.pair (.int .i64) (.pair (.slice (.pair (.int .i64) (.bool))) (.slice (.pair (.int .i64) (.pair (.int .i64) (.pair (.int .i64) (.pair (.int .i64) (.int .i64)))))))))))).2.2.2.1 (IntKind.i64.wrap (IntKind.i64.wrap (IntKind.i64.wrap (k+1)+1)+1))<0:=oFa h4
             try simp only[hX,w0,w1,w2]at h
             exact h
           have g4:okC (.slice (.pair (.int .i64) (.bool))) X.2.2.2.1 (k+1+1+1)=true:=held_pos n4
           have u4:heldF (.slice (.pair (.int .i64) (.bool))) X.2.2.2.1 (k+1+1+1)=k+1+1+1+((cellsC (.slice (.pair (.int .i64) (.bool))) X.2.2.2.1:Nat):Int):=held_val n4
           refine Vs (Vq ?_)
           refine Vr hG rfl ?_ ?_
           · refine⟨hdRange hI hl,?_⟩
             show markPre (.slice (.pair (.int .i64) (.pair (.int .i64) (.pair (.int .i64) (.pair (.int .i64) (.int .i64)))))) (List.getD a0 i.toNat (dflt (.pair (.int .i64) (.pair (.int .i64) (.pair (.int .i64) (.pair (.slice (.pair (.int .i64) (.bool))) (.slice (.pair (.int .i64) (.pair (.int .i64) (.pair (.int .i64) (.pair (.int .i64) (.int .i64)))))))))))).2.2.2.2 (heldF (.slice (.pair (.int .i64) (.bool))) (List.getD a0 i.toNat (dflt (.pair (.int .i64) (.pair (.int .i64) (.pair (.int .i64) (.pair (.slice (.pair (.int .i64) (.bool))) (.slice (.pair (.int .i64) (.pair (.int .i64) (.pair (.int .i64) (.pair (.int .i64) (.int .i64)))))))))))).2.2.2.1 (IntKind.i64.wrap (IntKind.i64.wrap (IntKind.i64.wrap (k+1)+1)+1)))
             try simp only[hX,w0,w1,w2,u4]
             exact⟨by omega,by omega⟩
           refine Vm hG rfl ?_
           refine Vk rfl ?_ ?_<;>intro h5
           · have q5:0≤k+1+1+1+((cellsC (.slice (.pair (.int .i64) (.bool))) X.2.2.2.1:Nat):Int):=by omega
             have g5:okC (.slice (.pair (.int .i64) (.pair (.int .i64) (.pair (.int .i64) (.pair (.int .i64) (.int .i64)))))) X.2.2.2.2 (k+1+1+1+((cellsC (.slice (.pair (.int .i64) (.bool))) X.2.2.2.1:Nat):Int))=false:=held_neg q5 (by
               have h:heldF (.slice (.pair (.int .i64) (.pair (.int .i64) (.pair (.int .i64) (.pair (.int .i64) (.int .i64)))))) (List.getD a0 i.toNat (dflt (.pair (.int .i64) (.pair (.int .i64) (.pair (.int .i64) (.pair (.slice (.pair (.int .i64) (.bool))) (.slice (.pair (.int .i64) (.pair (.int .i64) (.pair (.int .i64) (.pair (.int .i64) (.int .i64)))))))))))).2.2.2.2 (heldF (.slice (.pair (.int .i64) (.bool))) (List.getD a0 i.toNat (dflt (.pair (.int .i64) (.pair (.int .i64) (.pair (.int .i64) (.pair (.slice (.pair (.int .i64) (.bool))) (.slice (.pair (.int .i64) (.pair (.int .i64) (.pair (.int .i64) (.pair (.int .i64) (.int .i64)))))))))))).2.2.2.1 (IntKind.i64.wrap (IntKind.i64.wrap (IntKind.i64.wrap (k+1)+1)+1)))<0:=oTr h5
               try simp only[hX,w0,w1,w2,u4]at h
               exact h)
             refine Vm hG rfl (Vt ?_)
             refine⟨?_,trivial⟩
             refine hdNo hI hl (dflt (.pair (.int .i64) (.pair (.int .i64) (.pair (.int .i64) (.pair (.slice (.pair (.int .i64) (.bool))) (.slice (.pair (.int .i64) (.pair (.int .i64) (.pair (.int .i64) (.pair (.int .i64) (.int .i64))))))))))) ?_
             rw[hX]
             show (okC (.int .i64) X.1 (k)&&(okC (.int .i64) X.2.1 (k+1)&&(okC (.int .i64) X.2.2.1 (k+1+1)&&(okC (.slice (.pair (.int .i64) (.bool))) X.2.2.2.1 (k+1+1+1)&&okC (.slice (.pair (.int .i64) (.pair (.int .i64) (.pair (.int .i64) (.pair (.int .i64) (.int .i64)))))) X.2.2.2.2 (k+1+1+1+((cellsC (.slice (.pair (.int .i64) (.bool))) X.2.2.2.1:Nat):Int))))))=false
             simp only[g1,g2,g3,g4,g5,Bool.and_false,Bool.false_and,Bool.and_true,Bool.true_and]
           · have q5:0≤k+1+1+1+((cellsC (.slice (.pair (.int .i64) (.bool))) X.2.2.2.1:Nat):Int):=by omega
             have n5:¬heldF (.slice (.pair (.int .i64) (.pair (.int .i64) (.pair (.int .i64) (.pair (.int .i64) (.int .i64)))))) X.2.2.2.2 (k+1+1+1+((cellsC (.slice (.pair (.int .i64) (.bool))) X.2.2.2.1:Nat):Int))<0:=by
               have h:¬heldF (.slice (.pair (.int .i64) (.pair (.int .i64) (.pair (.int .i64) (.pair (.int .i64) (.int .i64)))))) (List.getD a0 i.toNat (dflt (.pair (.int .i64) (.pair (.int .i64) (.pair (.int .i64) (.pair (.slice (.pair (.int .i64) (.bool))) (.slice (.pair (.int .i64) (.pair (.int .i64) (.pair (.int .i64) (.pair (.int .i64) (.int .i64)))))))))))).2.2.2.2 (heldF (.slice (.pair (.int .i64) (.bool))) (List.getD a0 i.toNat (dflt (.pair (.int .i64) (.pair (.int .i64) (.pair (.int .i64) (.pair (.slice (.pair (.int .i64) (.bool))) (.slice (.pair (.int .i64) (.pair (.int .i64) (.pair (.int .i64) (.pair (.int .i64) (.int .i64)))))))))))).2.2.2.1 (IntKind.i64.wrap (IntKind.i64.wrap (IntKind.i64.wrap (k+1)+1)+1)))<0:=oFa h5
               try simp only[hX,w0,w1,w2,u4]at h
               exact h
             have g5:okC (.slice (.pair (.int .i64) (.pair (.int .i64) (.pair (.int .i64) (.pair (.int .i64) (.int .i64)))))) X.2.2.2.2 (k+1+1+1+((cellsC (.slice (.pair (.int .i64) (.bool))) X.2.2.2.1:Nat):Int))=true:=held_pos n5
             have u5:heldF (.slice (.pair (.int .i64) (.pair (.int .i64) (.pair (.int .i64) (.pair (.int .i64) (.int .i64)))))) X.2.2.2.2 (k+1+1+1+((cellsC (.slice (.pair (.int .i64) (.bool))) X.2.2.2.1:Nat):Int))=k+1+1+1+((cellsC (.slice (.pair (.int .i64) (.bool))) X.2.2.2.1:Nat):Int)+((cellsC (.slice (.pair (.int .i64) (.pair (.int .i64) (.pair (.int .i64) (.pair (.int .i64) (.int .i64)))))) X.2.2.2.2:Nat):Int):=held_val n5
             refine Vs (Vn hG rfl ?_)
             refine⟨rfl,?_⟩
             refine hdStep hI hl hb (dflt (.pair (.int .i64) (.pair (.int .i64) (.pair (.int .i64) (.pair (.slice (.pair (.int .i64) (.bool))) (.slice (.pair (.int .i64) (.pair (.int .i64) (.pair (.int .i64) (.pair (.int .i64) (.int .i64))))))))))) ?_ ?_
             · rw[hX]
               show (okC (.int .i64) X.1 (k)&&(okC (.int .i64) X.2.1 (k+1)&&(okC (.int .i64) X.2.2.1 (k+1+1)&&(okC (.slice (.pair (.int .i64) (.bool))) X.2.2.2.1 (k+1+1+1)&&okC (.slice (.pair (.int .i64) (.pair (.int .i64) (.pair (.int .i64) (.pair (.int .i64) (.int .i64)))))) X.2.2.2.2 (k+1+1+1+((cellsC (.slice (.pair (.int .i64) (.bool))) X.2.2.2.1:Nat):Int))))))=true
               simp only[g1,g2,g3,g4,g5,Bool.and_true]
             · show heldF (.slice (.pair (.int .i64) (.pair (.int .i64) (.pair (.int .i64) (.pair (.int .i64) (.int .i64)))))) (List.getD a0 i.toNat (dflt (.pair (.int .i64) (.pair (.int .i64) (.pair (.int .i64) (.pair (.slice (.pair (.int .i64) (.bool))) (.slice (.pair (.int .i64) (.pair (.int .i64) (.pair (.int .i64) (.pair (.int .i64) (.int .i64)))))))))))).2.2.2.2 (heldF (.slice (.pair (.int .i64) (.bool))) (List.getD a0 i.toNat (dflt (.pair (.int .i64) (.pair (.int .i64) (.pair (.int .i64) (.pair (.slice (.pair (.int .i64) (.bool))) (.slice (.pair (.int .i64) (.pair (.int .i64) (.pair (.int .i64) (.pair (.int .i64) (.int .i64)))))))))))).2.2.2.1 (IntKind.i64.wrap (IntKind.i64.wrap (IntKind.i64.wrap (k+1)+1)+1)))=k+((cellsC (.pair (.int .i64) (.pair (.int .i64) (.pair (.int .i64) (.pair (.slice (.pair (.int .i64) (.bool))) (.slice (.pair (.int .i64) (.pair (.int .i64) (.pair (.int .i64) (.pair (.int .i64) (.int .i64)))))))))) (List.getD a0 i.toNat (dflt (.pair (.int .i64) (.pair (.int .i64) (.pair (.int .i64) (.pair (.slice (.pair (.int .i64) (.bool))) (.slice (.pair (.int .i64) (.pair (.int .i64) (.pair (.int .i64) (.pair (.int .i64) (.int .i64)))))))))))):Nat):Int)
               rw[hX]
               show _=k+(((1+(1+(1+((cellsC (.slice (.pair (.int .i64) (.bool))) X.2.2.2.1)+(cellsC (.slice (.pair (.int .i64) (.pair (.int .i64) (.pair (.int .i64) (.pair (.int .i64) (.int .i64)))))) X.2.2.2.2))))):Nat):Int)
               try simp only[hX,w0,w1,w2,u4,u5]
               try omega
 · have hl:¬i<(List.length a0:Int):=oFa h0
   refine Vx (Vm hG rfl (Vt ?_))
   refine⟨?_,trivial⟩
   exact hdEnd hI hl
noncomputable def F64:Fun:=⟨[.slice (.pair (.slice (.pair (.int .i64) (.pair (.slice (.int .i64)) (.int .i64)))) (.slice (.pair (.int .i64) (.pair (.int .i64) (.pair (.int .i64) (.pair (.slice (.pair (.int .i64) (.bool))) (.slice (.pair (.int .i64) (.pair (.int .i64) (.pair (.int .i64) (.pair (.int .i64) (.int .i64)))))))))))),.int .i64],[.pure (.int .i64)],fun x=>(fun a0 a1=>markPre (.slice (.pair (.slice (.pair (.int .i64) (.pair (.slice (.int .i64)) (.int .i64)))) (.slice (.pair (.int .i64) (.pair (.int .i64) (.pair (.int .i64) (.pair (.slice (.pair (.int .i64) (.bool))) (.slice (.pair (.int .i64) (.pair (.int .i64) (.pair (.int .i64) (.pair (.int .i64) (.int .i64))))))))))))) a0 a1) x.1 x.2.1,fun x=>((fun a0 a1=>heldF (.slice (.pair (.slice (.pair (.int .i64) (.pair (.slice (.int .i64)) (.int .i64)))) (.slice (.pair (.int .i64) (.pair (.int .i64) (.pair (.int .i64) (.pair (.slice (.pair (.int .i64) (.bool))) (.slice (.pair (.int .i64) (.pair (.int .i64) (.pair (.int .i64) (.pair (.int .i64) (.int .i64))))))))))))) a0 a1) x.1 x.2.1,())⟩
set_option maxHeartbeats 6000000 in
theorem F64_ok:Meets Tryz.prog 64 F64:=by
 refine mZ (C:=mkC 31 [4] [0,1,4,5,9,20,29] [⟨103,_,F103_ok⟩,⟨104,_,F104_ok⟩]) (mO _ _ _ _) (fO _) Tryz.func64 rfl rfl rfl (by decide) rfl ?_
 rintro⟨a0,(a1:Int),_⟩ hwf hpre ⟨⟩ hG rfl rfl
 show Vc _ _ [(0,⟨0,0,.c (.pure (.slice (.pair (.slice (.pair (.int .i64) (.pair (.slice (.int .i64)) (.int .i64)))) (.slice (.pair (.int .i64) (.pair (.int .i64) (.pair (.int .i64) (.pair (.slice (.pair (.int .i64) (.bool))) (.slice (.pair (.int .i64) (.pair (.int .i64) (.pair (.int .i64) (.pair (.int .i64) (.int .i64)))))))))))))) a0⟩),(1,⟨0,0,.c (.pure (.int .i64)) a1⟩)] _
 have hb:List.length a0≤bigLen:=hwf.1.1
 have hp0:0≤a1:=hpre.1
 have hp1:a1+((cellsL (cellsC (.pair (.slice (.pair (.int .i64) (.pair (.slice (.int .i64)) (.int .i64)))) (.slice (.pair (.int .i64) (.pair (.int .i64) (.pair (.int .i64) (.pair (.slice (.pair (.int .i64) (.bool))) (.slice (.pair (.int .i64) (.pair (.int .i64) (.pair (.int .i64) (.pair (.int .i64) (.int .i64))))))))))))) a0:Nat):Int)≤bnd:=hpre.2
 refine Vm hG rfl (Vq (Vm hG rfl (Vb ?_)))
 refine Vc.loopF [(1,false,.pure (.int .i64)),(5,false,.pure (.int .i64))] [0] (fun v=>hdInv (cellsC (.pair (.slice (.pair (.int .i64) (.pair (.slice (.int .i64)) (.int .i64)))) (.slice (.pair (.int .i64) (.pair (.int .i64) (.pair (.int .i64) (.pair (.slice (.pair (.int .i64) (.bool))) (.slice (.pair (.int .i64) (.pair (.int .i64) (.pair (.int .i64) (.pair (.int .i64) (.int .i64))))))))))))) (okC (.pair (.slice (.pair (.int .i64) (.pair (.slice (.int .i64)) (.int .i64)))) (.slice (.pair (.int .i64) (.pair (.int .i64) (.pair (.int .i64) (.pair (.slice (.pair (.int .i64) (.bool))) (.slice (.pair (.int .i64) (.pair (.int .i64) (.pair (.int .i64) (.pair (.int .i64) (.int .i64))))))))))))) a0 a1 v.1 v.2.1) (fun v=>((List.length a0:Int)-v.2.1).toNat) rfl ?_ ?_
 · exact hdStart
 rintro⟨(k:Int),(i:Int),_⟩ hI
 have hI:hdInv (cellsC (.pair (.slice (.pair (.int .i64) (.pair (.slice (.int .i64)) (.int .i64)))) (.slice (.pair (.int .i64) (.pair (.int .i64) (.pair (.int .i64) (.pair (.slice (.pair (.int .i64) (.bool))) (.slice (.pair (.int .i64) (.pair (.int .i64) (.pair (.int .i64) (.pair (.int .i64) (.int .i64))))))))))))) (okC (.pair (.slice (.pair (.int .i64) (.pair (.slice (.int .i64)) (.int .i64)))) (.slice (.pair (.int .i64) (.pair (.int .i64) (.pair (.int .i64) (.pair (.slice (.pair (.int .i64) (.bool))) (.slice (.pair (.int .i64) (.pair (.int .i64) (.pair (.int .i64) (.pair (.int .i64) (.int .i64))))))))))))) a0 a1 k i:=hI
 refine Vq (Vm hG rfl ?_)
 refine Vk rfl ?_ ?_<;>intro h0
 · have hl:i<(List.length a0:Int):=oTr h0
   have hk:=hdBound hI hl (dflt (.pair (.slice (.pair (.int .i64) (.pair (.slice (.int .i64)) (.int .i64)))) (.slice (.pair (.int .i64) (.pair (.int .i64) (.pair (.int .i64) (.pair (.slice (.pair (.int .i64) (.bool))) (.slice (.pair (.int .i64) (.pair (.int .i64) (.pair (.int .i64) (.pair (.int .i64) (.int .i64))))))))))))) hp0 hp1
   generalize hX:List.getD a0 i.toNat (dflt (.pair (.slice (.pair (.int .i64) (.pair (.slice (.int .i64)) (.int .i64)))) (.slice (.pair (.int .i64) (.pair (.int .i64) (.pair (.int .i64) (.pair (.slice (.pair (.int .i64) (.bool))) (.slice (.pair (.int .i64) (.pair (.int .i64) (.pair (.int .i64) (.pair (.int .i64) (.int .i64)))))))))))))=X at hk
   have hk:0≤k∧k+((((cellsC (.slice (.pair (.int .i64) (.pair (.slice (.int .i64)) (.int .i64)))) X.1)+(cellsC (.slice (.pair (.int .i64) (.pair (.int .i64) (.pair (.int .i64) (.pair (.slice (.pair (.int .i64) (.bool))) (.slice (.pair (.int .i64) (.pair (.int .i64) (.pair (.int .i64) (.pair (.int .i64) (.int .i64))))))))))) X.2)):Nat):Int)≤bnd:=hk
   refine Vs (Vq (Vb (Vq ?_)))
   refine Vr hG rfl ?_ ?_
   · refine⟨hdRange hI hl,?_⟩
     show markPre (.slice (.pair (.int .i64) (.pair (.slice (.int .i64)) (.int .i64)))) (List.getD a0 i.toNat (dflt (.pair (.slice (.pair (.int .i64) (.pair (.slice (.int .i64)) (.int .i64)))) (.slice (.pair (.int .i64) (.pair (.int .i64) (.pair (.int .i64) (.pair (.slice (.pair (.int .i64) (.bool))) (.slice (.pair (.int .i64) (.pair (.int .i64) (.pair (.int .i64) (.pair (.int .i64) (.int .i64)))))))))))))).1 (k)
     try simp only[hX]
     exact⟨by omega,by omega⟩
   refine Vq (Vm hG rfl ?_)
   refine Vk rfl ?_ ?_<;>intro h1
   · have q1:0≤k:=by omega
     have g1:okC (.slice (.pair (.int .i64) (.pair (.slice (.int .i64)) (.int .i64)))) X.1 (k)=false:=held_neg q1 (by
       have h:heldF (.slice (.pair (.int .i64) (.pair (.slice (.int .i64)) (.int .i64)))) (List.getD a0 i.toNat (dflt (.pair (.slice (.pair (.int .i64) (.pair (.slice (.int .i64)) (.int .i64)))) (.slice (.pair (.int .i64) (.pair (.int .i64) (.pair (.int .i64) (.pair (.slice (.pair (.int .i64) (.bool))) (.slice (.pair (.int .i64) (.pair (.int .i64) (.pair (.int .i64) (.pair (.int .i64) (.int .i64)))))))))))))).1 (k)<0:=oTr h1
       try simp only[hX]at h
       exact h)
     refine Vm hG rfl (Vt ?_)
     refine⟨?_,trivial⟩
     refine hdNo hI hl (dflt (.pair (.slice (.pair (.int .i64) (.pair (.slice (.int .i64)) (.int .i64)))) (.slice (.pair (.int .i64) (.pair (.int .i64) (.pair (.int .i64) (.pair (.slice (.pair (.int .i64) (.bool))) (.slice (.pair (.int .i64) (.pair (.int .i64) (.pair (.int .i64) (.pair (.int .i64) (.int .i64))))))))))))) ?_
     rw[hX]
     show (okC (.slice (.pair (.int .i64) (.pair (.slice (.int .i64)) (.int .i64)))) X.1 (k)&&okC (.slice (.pair (.int .i64) (.pair (.int .i64) (.pair (.int .i64) (.pair (.slice (.pair (.int .i64) (.bool))) (.slice (.pair (.int .i64) (.pair (.int .i64) (.pair (.int .i64) (.pair (.int .i64) (.int .i64))))))))))) X.2 (k+((cellsC (.slice (.pair (.int .i64) (.pair (.slice (.int .i64)) (.int .i64)))) X.1:Nat):Int)))=false
     simp only[g1,Bool.and_false,Bool.false_and,Bool.and_true,Bool.true_and]
   · have q1:0≤k:=by omega
     have n1:¬heldF (.slice (.pair (.int .i64) (.pair (.slice (.int .i64)) (.int .i64)))) X.1 (k)<0:=by
       have h:¬heldF (.slice (.pair (.int .i64) (.pair (.slice (.int .i64)) (.int .i64)))) (List.getD a0 i.toNat (dflt (.pair (.slice (.pair (.int .i64) (.pair (.slice (.int .i64)) (.int .i64)))) (.slice (.pair (.int .i64) (.pair (.int .i64) (.pair (.int .i64) (.pair (.slice (.pair (.int .i64) (.bool))) (.slice (.pair (.int .i64) (.pair (.int .i64) (.pair (.int .i64) (.pair (.int .i64) (.int .i64)))))))))))))).1 (k)<0:=oFa h1
       try simp only[hX]at h
       exact h
     have g1:okC (.slice (.pair (.int .i64) (.pair (.slice (.int .i64)) (.int .i64)))) X.1 (k)=true:=held_pos n1
     have u1:heldF (.slice (.pair (.int .i64) (.pair (.slice (.int .i64)) (.int .i64)))) X.1 (k)=k+((cellsC (.slice (.pair (.int .i64) (.pair (.slice (.int .i64)) (.int .i64)))) X.1:Nat):Int):=held_val n1
     refine Vs (Vq ?_)
     refine Vr hG rfl ?_ ?_
     · refine⟨hdRange hI hl,?_⟩
       show markPre (.slice (.pair (.int .i64) (.pair (.int .i64) (.pair (.int .i64) (.pair (.slice (.pair (.int .i64) (.bool))) (.slice (.pair (.int .i64) (.pair (.int .i64) (.pair (.int .i64) (.pair (.int .i64) (.int .i64))))))))))) (List.getD a0 i.toNat (dflt (.pair (.slice (.pair (.int .i64) (.pair (.slice (.int .i64)) (.int .i64)))) (.slice (.pair (.int .i64) (.pair (.int .i64) (.pair (.int .i64) (.pair (.slice (.pair (.int .i64) (.bool))) (.slice (.pair (.int .i64) (.pair (.int .i64) (.pair (.int .i64) (.pair (.int .i64) (.int .i64)))))))))))))).2 (heldF (.slice (.pair (.int .i64) (.pair (.slice (.int .i64)) (.int .i64)))) (List.getD a0 i.toNat (dflt (.pair (.slice (.pair (.int .i64) (.pair (.slice (.int .i64)) (.int .i64)))) (.slice (.pair (.int .i64) (.pair (.int .i64) (.pair (.int .i64) (.pair (.slice (.pair (.int .i64) (.bool))) (.slice (.pair (.int .i64) (.pair (.int .i64) (.pair (.int .i64) (.pair (.int .i64) (.int .i64)))))))))))))).1 (k))
       try simp only[hX,u1]
       exact⟨by omega,by omega⟩
     refine Vm hG rfl ?_
     refine Vk rfl ?_ ?_<;>intro h2
     · have q2:0≤k+((cellsC (.slice (.pair (.int .i64) (.pair (.slice (.int .i64)) (.int .i64)))) X.1:Nat):Int):=by omega
       have g2:okC (.slice (.pair (.int .i64) (.pair (.int .i64) (.pair (.int .i64) (.pair (.slice (.pair (.int .i64) (.bool))) (.slice (.pair (.int .i64) (.pair (.int .i64) (.pair (.int .i64) (.pair (.int .i64) (.int .i64))))))))))) X.2 (k+((cellsC (.slice (.pair (.int .i64) (.pair (.slice (.int .i64)) (.int .i64)))) X.1:Nat):Int))=false:=held_neg q2 (by
         have h:heldF (.slice (.pair (.int .i64) (.pair (.int .i64) (.pair (.int .i64) (.pair (.slice (.pair (.int .i64) (.bool))) (.slice (.pair (.int .i64) (.pair (.int .i64) (.pair (.int .i64) (.pair (.int .i64) (.int .i64))))))))))) (List.getD a0 i.toNat (dflt (.pair (.slice (.pair (.int .i64) (.pair (.slice (.int .i64)) (.int .i64)))) (.slice (.pair (.int .i64) (.pair (.int .i64) (.pair (.int .i64) (.pair (.slice (.pair (.int .i64) (.bool))) (.slice (.pair (.int .i64) (.pair (.int .i64) (.pair (.int .i64) (.pair (.int .i64) (.int .i64)))))))))))))).2 (heldF (.slice (.pair (.int .i64) (.pair (.slice (.int .i64)) (.int .i64)))) (List.getD a0 i.toNat (dflt (.pair (.slice (.pair (.int .i64) (.pair (.slice (.int .i64)) (.int .i64)))) (.slice (.pair (.int .i64) (.pair (.int .i64) (.pair (.int .i64) (.pair (.slice (.pair (.int .i64) (.bool))) (.slice (.pair (.int .i64) (.pair (.int .i64) (.pair (.int .i64) (.pair (.int .i64) (.int .i64)))))))))))))).1 (k))<0:=oTr h2
         try simp only[hX,u1]at h
         exact h)
       refine Vm hG rfl (Vt ?_)
       refine⟨?_,trivial⟩
       refine hdNo hI hl (dflt (.pair (.slice (.pair (.int .i64) (.pair (.slice (.int .i64)) (.int .i64)))) (.slice (.pair (.int .i64) (.pair (.int .i64) (.pair (.int .i64) (.pair (.slice (.pair (.int .i64) (.bool))) (.slice (.pair (.int .i64) (.pair (.int .i64) (.pair (.int .i64) (.pair (.int .i64) (.int .i64))))))))))))) ?_
       rw[hX]
       show (okC (.slice (.pair (.int .i64) (.pair (.slice (.int .i64)) (.int .i64)))) X.1 (k)&&okC (.slice (.pair (.int .i64) (.pair (.int .i64) (.pair (.int .i64) (.pair (.slice (.pair (.int .i64) (.bool))) (.slice (.pair (.int .i64) (.pair (.int .i64) (.pair (.int .i64) (.pair (.int .i64) (.int .i64))))))))))) X.2 (k+((cellsC (.slice (.pair (.int .i64) (.pair (.slice (.int .i64)) (.int .i64)))) X.1:Nat):Int)))=false
       simp only[g1,g2,Bool.and_false,Bool.false_and,Bool.and_true,Bool.true_and]
     · have q2:0≤k+((cellsC (.slice (.pair (.int .i64) (.pair (.slice (.int .i64)) (.int .i64)))) X.1:Nat):Int):=by omega
       have n2:¬heldF (.slice (.pair (.int .i64) (.pair (.int .i64) (.pair (.int .i64) (.pair (.slice (.pair (.int .i64) (.bool))) (.slice (.pair (.int .i64) (.pair (.int .i64) (.pair (.int .i64) (.pair (.int .i64) (.int .i64))))))))))) X.2 (k+((cellsC (.slice (.pair (.int .i64) (.pair (.slice (.int .i64)) (.int .i64)))) X.1:Nat):Int))<0:=by
         have h:¬heldF (.slice (.pair (.int .i64) (.pair (.int .i64) (.pair (.int .i64) (.pair (.slice (.pair (.int .i64) (.bool))) (.slice (.pair (.int .i64) (.pair (.int .i64) (.pair (.int .i64) (.pair (.int .i64) (.int .i64))))))))))) (List.getD a0 i.toNat (dflt (.pair (.slice (.pair (.int .i64) (.pair (.slice (.int .i64)) (.int .i64)))) (.slice (.pair (.int .i64) (.pair (.int .i64) (.pair (.int .i64) (.pair (.slice (.pair (.int .i64) (.bool))) (.slice (.pair (.int .i64) (.pair (.int .i64) (.pair (.int .i64) (.pair (.int .i64) (.int .i64)))))))))))))).2 (heldF (.slice (.pair (.int .i64) (.pair (.slice (.int .i64)) (.int .i64)))) (List.getD a0 i.toNat (dflt (.pair (.slice (.pair (.int .i64) (.pair (.slice (.int .i64)) (.int .i64)))) (.slice (.pair (.int .i64) (.pair (.int .i64) (.pair (.int .i64) (.pair (.slice (.pair (.int .i64) (.bool))) (.slice (.pair (.int .i64) (.pair (.int .i64) (.pair (.int .i64) (.pair (.int .i64) (.int .i64)))))))))))))).1 (k))<0:=oFa h2
         try simp only[hX,u1]at h
         exact h
       have g2:okC (.slice (.pair (.int .i64) (.pair (.int .i64) (.pair (.int .i64) (.pair (.slice (.pair (.int .i64) (.bool))) (.slice (.pair (.int .i64) (.pair (.int .i64) (.pair (.int .i64) (.pair (.int .i64) (.int .i64))))))))))) X.2 (k+((cellsC (.slice (.pair (.int .i64) (.pair (.slice (.int .i64)) (.int .i64)))) X.1:Nat):Int))=true:=held_pos n2
       have u2:heldF (.slice (.pair (.int .i64) (.pair (.int .i64) (.pair (.int .i64) (.pair (.slice (.pair (.int .i64) (.bool))) (.slice (.pair (.int .i64) (.pair (.int .i64) (.pair (.int .i64) (.pair (.int .i64) (.int .i64))))))))))) X.2 (k+((cellsC (.slice (.pair (.int .i64) (.pair (.slice (.int .i64)) (.int .i64)))) X.1:Nat):Int))=k+((cellsC (.slice (.pair (.int .i64) (.pair (.slice (.int .i64)) (.int .i64)))) X.1:Nat):Int)+((cellsC (.slice (.pair (.int .i64) (.pair (.int .i64) (.pair (.int .i64) (.pair (.slice (.pair (.int .i64) (.bool))) (.slice (.pair (.int .i64) (.pair (.int .i64) (.pair (.int .i64) (.pair (.int .i64) (.int .i64))))))))))) X.2:Nat):Int):=held_val n2
       refine Vs (Vn hG rfl ?_)
       refine⟨rfl,?_⟩
       refine hdStep hI hl hb (dflt (.pair (.slice (.pair (.int .i64) (.pair (.slice (.int .i64)) (.int .i64)))) (.slice (.pair (.int .i64) (.pair (.int .i64) (.pair (.int .i64) (.pair (.slice (.pair (.int .i64) (.bool))) (.slice (.pair (.int .i64) (.pair (.int .i64) (.pair (.int .i64) (.pair (.int .i64) (.int .i64))))))))))))) ?_ ?_
       · rw[hX]
         show (okC (.slice (.pair (.int .i64) (.pair (.slice (.int .i64)) (.int .i64)))) X.1 (k)&&okC (.slice (.pair (.int .i64) (.pair (.int .i64) (.pair (.int .i64) (.pair (.slice (.pair (.int .i64) (.bool))) (.slice (.pair (.int .i64) (.pair (.int .i64) (.pair (.int .i64) (.pair (.int .i64) (.int .i64))))))))))) X.2 (k+((cellsC (.slice (.pair (.int .i64) (.pair (.slice (.int .i64)) (.int .i64)))) X.1:Nat):Int)))=true
         simp only[g1,g2,Bool.and_true]
       · show heldF (.slice (.pair (.int .i64) (.pair (.int .i64) (.pair (.int .i64) (.pair (.slice (.pair (.int .i64) (.bool))) (.slice (.pair (.int .i64) (.pair (.int .i64) (.pair (.int .i64) (.pair (.int .i64) (.int .i64))))))))))) (List.getD a0 i.toNat (dflt (.pair (.slice (.pair (.int .i64) (.pair (.slice (.int .i64)) (.int .i64)))) (.slice (.pair (.int .i64) (.pair (.int .i64) (.pair (.int .i64) (.pair (.slice (.pair (.int .i64) (.bool))) (.slice (.pair (.int .i64) (.pair (.int .i64) (.pair (.int .i64) (.pair (.int .i64) (.int .i64)))))))))))))).2 (heldF (.slice (.pair (.int .i64) (.pair (.slice (.int .i64)) (.int .i64)))) (List.getD a0 i.toNat (dflt (.pair (.slice (.pair (.int .i64) (.pair (.slice (.int .i64)) (.int .i64)))) (.slice (.pair (.int .i64) (.pair (.int .i64) (.pair (.int .i64) (.pair (.slice (.pair (.int .i64) (.bool))) (.slice (.pair (.int .i64) (.pair (.int .i64) (.pair (.int .i64) (.pair (.int .i64) (.int .i64)))))))))))))).1 (k))=k+((cellsC (.pair (.slice (.pair (.int .i64) (.pair (.slice (.int .i64)) (.int .i64)))) (.slice (.pair (.int .i64) (.pair (.int .i64) (.pair (.int .i64) (.pair (.slice (.pair (.int .i64) (.bool))) (.slice (.pair (.int .i64) (.pair (.int .i64) (.pair (.int .i64) (.pair (.int .i64) (.int .i64)))))))))))) (List.getD a0 i.toNat (dflt (.pair (.slice (.pair (.int .i64) (.pair (.slice (.int .i64)) (.int .i64)))) (.slice (.pair (.int .i64) (.pair (.int .i64) (.pair (.int .i64) (.pair (.slice (.pair (.int .i64) (.bool))) (.slice (.pair (.int .i64) (.pair (.int .i64) (.pair (.int .i64) (.pair (.int .i64) (.int .i64)))))))))))))):Nat):Int)
         rw[hX]
         show _=k+((((cellsC (.slice (.pair (.int .i64) (.pair (.slice (.int .i64)) (.int .i64)))) X.1)+(cellsC (.slice (.pair (.int .i64) (.pair (.int .i64) (.pair (.int .i64) (.pair (.slice (.pair (.int .i64) (.bool))) (.slice (.pair (.int .i64) (.pair (.int .i64) (.pair (.int .i64) (.pair (.int .i64) (.int .i64))))))))))) X.2)):Nat):Int)
         try simp only[hX,u1,u2]
         try omega
 · have hl:¬i<(List.length a0:Int):=oFa h0
   refine Vx (Vm hG rfl (Vt ?_))
   refine⟨?_,trivial⟩
   exact hdEnd hI hl
noncomputable def F65:Fun:=⟨[.slice (.slice (.pair (.int .i64) (.pair (.int .i64) (.pair (.int .i64) (.pair (.int .i64) (.int .i64)))))),.int .i64],[.pure (.int .i64)],fun x=>(fun a0 a1=>markPre (.slice (.slice (.pair (.int .i64) (.pair (.int .i64) (.pair (.int .i64) (.pair (.int .i64) (.int .i64))))))) a0 a1) x.1 x.2.1,fun x=>((fun a0 a1=>heldF (.slice (.slice (.pair (.int .i64) (.pair (.int .i64) (.pair (.int .i64) (.pair (.int .i64) (.int .i64))))))) a0 a1) x.1 x.2.1,())⟩
set_option maxHeartbeats 6000000 in
theorem F65_ok:Meets Tryz.prog 65 F65:=by
 refine mZ (C:=mkC 21 [4] [0,1,4,5,9,19] [⟨105,_,F105_ok⟩]) (mO _ _ _ _) (fO _) Tryz.func65 rfl rfl rfl (by decide) rfl ?_
 rintro⟨a0,(a1:Int),_⟩ hwf hpre ⟨⟩ hG rfl rfl
 show Vc _ _ [(0,⟨0,0,.c (.pure (.slice (.slice (.pair (.int .i64) (.pair (.int .i64) (.pair (.int .i64) (.pair (.int .i64) (.int .i64)))))))) a0⟩),(1,⟨0,0,.c (.pure (.int .i64)) a1⟩)] _
 have hb:List.length a0≤bigLen:=hwf.1.1
 have hp0:0≤a1:=hpre.1
 have hp1:a1+((cellsL (cellsC (.slice (.pair (.int .i64) (.pair (.int .i64) (.pair (.int .i64) (.pair (.int .i64) (.int .i64))))))) a0:Nat):Int)≤bnd:=hpre.2
 refine Vm hG rfl (Vq (Vm hG rfl (Vb ?_)))
 refine Vc.loopF [(1,false,.pure (.int .i64)),(5,false,.pure (.int .i64))] [0] (fun v=>hdInv (cellsC (.slice (.pair (.int .i64) (.pair (.int .i64) (.pair (.int .i64) (.pair (.int .i64) (.int .i64))))))) (okC (.slice (.pair (.int .i64) (.pair (.int .i64) (.pair (.int .i64) (.pair (.int .i64) (.int .i64))))))) a0 a1 v.1 v.2.1) (fun v=>((List.length a0:Int)-v.2.1).toNat) rfl ?_ ?_
 · exact hdStart
 rintro⟨(k:Int),(i:Int),_⟩ hI
 have hI:hdInv (cellsC (.slice (.pair (.int .i64) (.pair (.int .i64) (.pair (.int .i64) (.pair (.int .i64) (.int .i64))))))) (okC (.slice (.pair (.int .i64) (.pair (.int .i64) (.pair (.int .i64) (.pair (.int .i64) (.int .i64))))))) a0 a1 k i:=hI
 refine Vq (Vm hG rfl ?_)
 refine Vk rfl ?_ ?_<;>intro h0
 · have hl:i<(List.length a0:Int):=oTr h0
   have hk:=hdBound hI hl (dflt (.slice (.pair (.int .i64) (.pair (.int .i64) (.pair (.int .i64) (.pair (.int .i64) (.int .i64))))))) hp0 hp1
   generalize hX:List.getD a0 i.toNat (dflt (.slice (.pair (.int .i64) (.pair (.int .i64) (.pair (.int .i64) (.pair (.int .i64) (.int .i64)))))))=X at hk
   have hk:0≤k∧k+(((cellsC (.slice (.pair (.int .i64) (.pair (.int .i64) (.pair (.int .i64) (.pair (.int .i64) (.int .i64)))))) X):Nat):Int)≤bnd:=hk
   refine Vs (Vq (Vb (Vq ?_)))
   refine Vr hG rfl ?_ ?_
   · refine⟨hdRange hI hl,?_⟩
     show markPre (.slice (.pair (.int .i64) (.pair (.int .i64) (.pair (.int .i64) (.pair (.int .i64) (.int .i64)))))) (List.getD a0 i.toNat (dflt (.slice (.pair (.int .i64) (.pair (.int .i64) (.pair (.int .i64) (.pair (.int .i64) (.int .i64)))))))) (k)
     try simp only[hX]
     exact⟨by omega,by omega⟩
   refine Vm hG rfl ?_
   refine Vk rfl ?_ ?_<;>intro h1
   · have q1:0≤k:=by omega
     have g1:okC (.slice (.pair (.int .i64) (.pair (.int .i64) (.pair (.int .i64) (.pair (.int .i64) (.int .i64)))))) X (k)=false:=held_neg q1 (by
       have h:heldF (.slice (.pair (.int .i64) (.pair (.int .i64) (.pair (.int .i64) (.pair (.int .i64) (.int .i64)))))) (List.getD a0 i.toNat (dflt (.slice (.pair (.int .i64) (.pair (.int .i64) (.pair (.int .i64) (.pair (.int .i64) (.int .i64)))))))) (k)<0:=oTr h1
       try simp only[hX]at h
       exact h)
     refine Vm hG rfl (Vt ?_)
     refine⟨?_,trivial⟩
     refine hdNo hI hl (dflt (.slice (.pair (.int .i64) (.pair (.int .i64) (.pair (.int .i64) (.pair (.int .i64) (.int .i64))))))) ?_
     rw[hX]
     show okC (.slice (.pair (.int .i64) (.pair (.int .i64) (.pair (.int .i64) (.pair (.int .i64) (.int .i64)))))) X (k)=false
     simp only[g1,Bool.and_false,Bool.false_and,Bool.and_true,Bool.true_and]
   · have q1:0≤k:=by omega
     have n1:¬heldF (.slice (.pair (.int .i64) (.pair (.int .i64) (.pair (.int .i64) (.pair (.int .i64) (.int .i64)))))) X (k)<0:=by
       have h:¬heldF (.slice (.pair (.int .i64) (.pair (.int .i64) (.pair (.int .i64) (.pair (.int .i64) (.int .i64)))))) (List.getD a0 i.toNat (dflt (.slice (.pair (.int .i64) (.pair (.int .i64) (.pair (.int .i64) (.pair (.int .i64) (.int .i64)))))))) (k)<0:=oFa h1
       try simp only[hX]at h
       exact h
     have g1:okC (.slice (.pair (.int .i64) (.pair (.int .i64) (.pair (.int .i64) (.pair (.int .i64) (.int .i64)))))) X (k)=true:=held_pos n1
     have u1:heldF (.slice (.pair (.int .i64) (.pair (.int .i64) (.pair (.int .i64) (.pair (.int .i64) (.int .i64)))))) X (k)=k+((cellsC (.slice (.pair (.int .i64) (.pair (.int .i64) (.pair (.int .i64) (.pair (.int .i64) (.int .i64)))))) X:Nat):Int):=held_val n1
     refine Vs (Vn hG rfl ?_)
     refine⟨rfl,?_⟩
     refine hdStep hI hl hb (dflt (.slice (.pair (.int .i64) (.pair (.int .i64) (.pair (.int .i64) (.pair (.int .i64) (.int .i64))))))) ?_ ?_
     · rw[hX]
       show okC (.slice (.pair (.int .i64) (.pair (.int .i64) (.pair (.int .i64) (.pair (.int .i64) (.int .i64)))))) X (k)=true
       simp only[g1,Bool.and_true]
     · show heldF (.slice (.pair (.int .i64) (.pair (.int .i64) (.pair (.int .i64) (.pair (.int .i64) (.int .i64)))))) (List.getD a0 i.toNat (dflt (.slice (.pair (.int .i64) (.pair (.int .i64) (.pair (.int .i64) (.pair (.int .i64) (.int .i64)))))))) (k)=k+((cellsC (.slice (.pair (.int .i64) (.pair (.int .i64) (.pair (.int .i64) (.pair (.int .i64) (.int .i64)))))) (List.getD a0 i.toNat (dflt (.slice (.pair (.int .i64) (.pair (.int .i64) (.pair (.int .i64) (.pair (.int .i64) (.int .i64)))))))):Nat):Int)
       rw[hX]
       show _=k+(((cellsC (.slice (.pair (.int .i64) (.pair (.int .i64) (.pair (.int .i64) (.pair (.int .i64) (.int .i64)))))) X):Nat):Int)
       try simp only[hX,u1]
       try omega
 · have hl:¬i<(List.length a0:Int):=oFa h0
   refine Vx (Vm hG rfl (Vt ?_))
   refine⟨?_,trivial⟩
   exact hdEnd hI hl
noncomputable def F20:Fun:=⟨[.pair (.slice (.pair (.slice (.pair (.int .i64) (.pair (.slice (.int .i64)) (.int .i64)))) (.slice (.pair (.int .i64) (.pair (.int .i64) (.pair (.int .i64) (.pair (.slice (.pair (.int .i64) (.bool))) (.slice (.pair (.int .i64) (.pair (.int .i64) (.pair (.int .i64) (.pair (.int .i64) (.int .i64))))))))))))) (.slice (.slice (.pair (.int .i64) (.pair (.int .i64) (.pair (.int .i64) (.pair (.int .i64) (.int .i64))))))),.int .i64],[.pure (.int .i64)],fun x=>(fun a0 a1=>markPreV (.pair (.slice (.pair (.slice (.pair (.int .i64) (.pair (.slice (.int .i64)) (.int .i64)))) (.slice (.pair (.int .i64) (.pair (.int .i64) (.pair (.int .i64) (.pair (.slice (.pair (.int .i64) (.bool))) (.slice (.pair (.int .i64) (.pair (.int .i64) (.pair (.int .i64) (.pair (.int .i64) (.int .i64))))))))))))) (.slice (.slice (.pair (.int .i64) (.pair (.int .i64) (.pair (.int .i64) (.pair (.int .i64) (.int .i64)))))))) a0 a1) x.1 x.2.1,fun x=>((fun a0 a1=>heldVF (.pair (.slice (.pair (.slice (.pair (.int .i64) (.pair (.slice (.int .i64)) (.int .i64)))) (.slice (.pair (.int .i64) (.pair (.int .i64) (.pair (.int .i64) (.pair (.slice (.pair (.int .i64) (.bool))) (.slice (.pair (.int .i64) (.pair (.int .i64) (.pair (.int .i64) (.pair (.int .i64) (.int .i64))))))))))))) (.slice (.slice (.pair (.int .i64) (.pair (.int .i64) (.pair (.int .i64) (.pair (.int .i64) (.int .i64)))))))) a0 a1) x.1 x.2.1,())⟩
theorem F20_ok:Meets Tryz.prog 20 F20:=by
 refine mZ (C:=mkC 18 [4] [0,1,2,4,10,16] [⟨64,_,F64_ok⟩,⟨65,_,F65_ok⟩]) (mO _ _ _ _) (fO _) Tryz.func20 rfl rfl rfl (by decide) rfl ?_
 rintro⟨a0,(a1:Int),_⟩ hwf hpre ⟨⟩ hG rfl rfl
 show Vc _ _ [(0,⟨0,0,.c (.pure (.pair (.slice (.pair (.slice (.pair (.int .i64) (.pair (.slice (.int .i64)) (.int .i64)))) (.slice (.pair (.int .i64) (.pair (.int .i64) (.pair (.int .i64) (.pair (.slice (.pair (.int .i64) (.bool))) (.slice (.pair (.int .i64) (.pair (.int .i64) (.pair (.int .i64) (.pair (.int .i64) (.int .i64))))))))))))) (.slice (.slice (.pair (.int .i64) (.pair (.int .i64) (.pair (.int .i64) (.pair (.int .i64) (.int .i64))))))))) a0⟩),(1,⟨0,0,.c (.pure (.int .i64)) a1⟩)] _
 have hp0:0≤a1:=hpre.1
 have hp1:a1+((cellsV (.pair (.slice (.pair (.slice (.pair (.int .i64) (.pair (.slice (.int .i64)) (.int .i64)))) (.slice (.pair (.int .i64) (.pair (.int .i64) (.pair (.int .i64) (.pair (.slice (.pair (.int .i64) (.bool))) (.slice (.pair (.int .i64) (.pair (.int .i64) (.pair (.int .i64) (.pair (.int .i64) (.int .i64))))))))))))) (.slice (.slice (.pair (.int .i64) (.pair (.int .i64) (.pair (.int .i64) (.pair (.int .i64) (.int .i64)))))))) a0:Nat):Int)≤bnd:=hpre.2
 have hc:((cellsV (.pair (.slice (.pair (.slice (.pair (.int .i64) (.pair (.slice (.int .i64)) (.int .i64)))) (.slice (.pair (.int .i64) (.pair (.int .i64) (.pair (.int .i64) (.pair (.slice (.pair (.int .i64) (.bool))) (.slice (.pair (.int .i64) (.pair (.int .i64) (.pair (.int .i64) (.pair (.int .i64) (.int .i64))))))))))))) (.slice (.slice (.pair (.int .i64) (.pair (.int .i64) (.pair (.int .i64) (.pair (.int .i64) (.int .i64)))))))) a0:Nat):Int)=((cellsC (.slice (.pair (.slice (.pair (.int .i64) (.pair (.slice (.int .i64)) (.int .i64)))) (.slice (.pair (.int .i64) (.pair (.int .i64) (.pair (.int .i64) (.pair (.slice (.pair (.int .i64) (.bool))) (.slice (.pair (.int .i64) (.pair (.int .i64) (.pair (.int .i64) (.pair (.int .i64) (.int .i64))))))))))))) a0.1:Nat):Int)+((cellsC (.slice (.slice (.pair (.int .i64) (.pair (.int .i64) (.pair (.int .i64) (.pair (.int .i64) (.int .i64))))))) a0.2:Nat):Int):=by
   show (((cellsC (.slice (.pair (.slice (.pair (.int .i64) (.pair (.slice (.int .i64)) (.int .i64)))) (.slice (.pair (.int .i64) (.pair (.int .i64) (.pair (.int .i64) (.pair (.slice (.pair (.int .i64) (.bool))) (.slice (.pair (.int .i64) (.pair (.int .i64) (.pair (.int .i64) (.pair (.int .i64) (.int .i64))))))))))))) a0.1+cellsC (.slice (.slice (.pair (.int .i64) (.pair (.int .i64) (.pair (.int .i64) (.pair (.int .i64) (.int .i64))))))) a0.2):Nat):Int)=_
   omega
 refine Vm hG rfl (Vq ?_)
 refine Vr hG rfl ?_ ?_
 · show markPre (.slice (.pair (.slice (.pair (.int .i64) (.pair (.slice (.int .i64)) (.int .i64)))) (.slice (.pair (.int .i64) (.pair (.int .i64) (.pair (.int .i64) (.pair (.slice (.pair (.int .i64) (.bool))) (.slice (.pair (.int .i64) (.pair (.int .i64) (.pair (.int .i64) (.pair (.int .i64) (.int .i64))))))))))))) a0.1 (a1)
   skip
   exact⟨by omega,by omega⟩
 refine Vq (Vm hG rfl ?_)
 refine Vk rfl ?_ ?_<;>intro h0
 · have q0:0≤a1:=by omega
   have z0:a1=a1:=by omega
   have g0:okC (.slice (.pair (.slice (.pair (.int .i64) (.pair (.slice (.int .i64)) (.int .i64)))) (.slice (.pair (.int .i64) (.pair (.int .i64) (.pair (.int .i64) (.pair (.slice (.pair (.int .i64) (.bool))) (.slice (.pair (.int .i64) (.pair (.int .i64) (.pair (.int .i64) (.pair (.int .i64) (.int .i64))))))))))))) a0.1 (a1)=false:=held_neg q0 (by
     have h:heldF (.slice (.pair (.slice (.pair (.int .i64) (.pair (.slice (.int .i64)) (.int .i64)))) (.slice (.pair (.int .i64) (.pair (.int .i64) (.pair (.int .i64) (.pair (.slice (.pair (.int .i64) (.bool))) (.slice (.pair (.int .i64) (.pair (.int .i64) (.pair (.int .i64) (.pair (.int .i64) (.int .i64))))))))))))) a0.1 (a1)<0:=oTr h0
     exact h)
   refine Vm hG rfl (Vt ?_)
   refine⟨?_,trivial⟩
   show (-1:Int)=heldVF (.pair (.slice (.pair (.slice (.pair (.int .i64) (.pair (.slice (.int .i64)) (.int .i64)))) (.slice (.pair (.int .i64) (.pair (.int .i64) (.pair (.int .i64) (.pair (.slice (.pair (.int .i64) (.bool))) (.slice (.pair (.int .i64) (.pair (.int .i64) (.pair (.int .i64) (.pair (.int .i64) (.int .i64))))))))))))) (.slice (.slice (.pair (.int .i64) (.pair (.int .i64) (.pair (.int .i64) (.pair (.int .i64) (.int .i64)))))))) a0 a1
   unfold heldVF
   have f:okV (.pair (.slice (.pair (.slice (.pair (.int .i64) (.pair (.slice (.int .i64)) (.int .i64)))) (.slice (.pair (.int .i64) (.pair (.int .i64) (.pair (.int .i64) (.pair (.slice (.pair (.int .i64) (.bool))) (.slice (.pair (.int .i64) (.pair (.int .i64) (.pair (.int .i64) (.pair (.int .i64) (.int .i64))))))))))))) (.slice (.slice (.pair (.int .i64) (.pair (.int .i64) (.pair (.int .i64) (.pair (.int .i64) (.int .i64)))))))) a0 a1=false:=by
     show (okC (.slice (.pair (.slice (.pair (.int .i64) (.pair (.slice (.int .i64)) (.int .i64)))) (.slice (.pair (.int .i64) (.pair (.int .i64) (.pair (.int .i64) (.pair (.slice (.pair (.int .i64) (.bool))) (.slice (.pair (.int .i64) (.pair (.int .i64) (.pair (.int .i64) (.pair (.int .i64) (.int .i64))))))))))))) a0.1 (a1)&&okC (.slice (.slice (.pair (.int .i64) (.pair (.int .i64) (.pair (.int .i64) (.pair (.int .i64) (.int .i64))))))) a0.2 (a1+((cellsC (.slice (.pair (.slice (.pair (.int .i64) (.pair (.slice (.int .i64)) (.int .i64)))) (.slice (.pair (.int .i64) (.pair (.int .i64) (.pair (.int .i64) (.pair (.slice (.pair (.int .i64) (.bool))) (.slice (.pair (.int .i64) (.pair (.int .i64) (.pair (.int .i64) (.pair (.int .i64) (.int .i64))))))))))))) a0.1:Nat):Int)))=false
     simp only[z0,g0,Bool.and_false,Bool.false_and,Bool.and_true,Bool.true_and]
   rw[if_neg (by rw[f];decide)]
 · have q0:0≤a1:=by omega
   have z0:a1=a1:=by omega
   have n0:¬heldF (.slice (.pair (.slice (.pair (.int .i64) (.pair (.slice (.int .i64)) (.int .i64)))) (.slice (.pair (.int .i64) (.pair (.int .i64) (.pair (.int .i64) (.pair (.slice (.pair (.int .i64) (.bool))) (.slice (.pair (.int .i64) (.pair (.int .i64) (.pair (.int .i64) (.pair (.int .i64) (.int .i64))))))))))))) a0.1 (a1)<0:=by
     have h:¬heldF (.slice (.pair (.slice (.pair (.int .i64) (.pair (.slice (.int .i64)) (.int .i64)))) (.slice (.pair (.int .i64) (.pair (.int .i64) (.pair (.int .i64) (.pair (.slice (.pair (.int .i64) (.bool))) (.slice (.pair (.int .i64) (.pair (.int .i64) (.pair (.int .i64) (.pair (.int .i64) (.int .i64))))))))))))) a0.1 (a1)<0:=oFa h0
     exact h
   have g0:okC (.slice (.pair (.slice (.pair (.int .i64) (.pair (.slice (.int .i64)) (.int .i64)))) (.slice (.pair (.int .i64) (.pair (.int .i64) (.pair (.int .i64) (.pair (.slice (.pair (.int .i64) (.bool))) (.slice (.pair (.int .i64) (.pair (.int .i64) (.pair (.int .i64) (.pair (.int .i64) (.int .i64))))))))))))) a0.1 (a1)=true:=held_pos n0
   have u0:heldF (.slice (.pair (.slice (.pair (.int .i64) (.pair (.slice (.int .i64)) (.int .i64)))) (.slice (.pair (.int .i64) (.pair (.int .i64) (.pair (.int .i64) (.pair (.slice (.pair (.int .i64) (.bool))) (.slice (.pair (.int .i64) (.pair (.int .i64) (.pair (.int .i64) (.pair (.int .i64) (.int .i64))))))))))))) a0.1 (a1)=a1+((cellsC (.slice (.pair (.slice (.pair (.int .i64) (.pair (.slice (.int .i64)) (.int .i64)))) (.slice (.pair (.int .i64) (.pair (.int .i64) (.pair (.int .i64) (.pair (.slice (.pair (.int .i64) (.bool))) (.slice (.pair (.int .i64) (.pair (.int .i64) (.pair (.int .i64) (.pair (.int .i64) (.int .i64))))))))))))) a0.1:Nat):Int):=held_val n0
   refine Vs (Vq ?_)
   refine Vr hG rfl ?_ ?_
   · show markPre (.slice (.slice (.pair (.int .i64) (.pair (.int .i64) (.pair (.int .i64) (.pair (.int .i64) (.int .i64))))))) a0.2 (heldF (.slice (.pair (.slice (.pair (.int .i64) (.pair (.slice (.int .i64)) (.int .i64)))) (.slice (.pair (.int .i64) (.pair (.int .i64) (.pair (.int .i64) (.pair (.slice (.pair (.int .i64) (.bool))) (.slice (.pair (.int .i64) (.pair (.int .i64) (.pair (.int .i64) (.pair (.int .i64) (.int .i64))))))))))))) a0.1 (a1))
     try simp only[u0]
     exact⟨by omega,by omega⟩
   refine Vq (Vm hG rfl ?_)
   refine Vk rfl ?_ ?_<;>intro h1
   · have q1:0≤a1+((cellsC (.slice (.pair (.slice (.pair (.int .i64) (.pair (.slice (.int .i64)) (.int .i64)))) (.slice (.pair (.int .i64) (.pair (.int .i64) (.pair (.int .i64) (.pair (.slice (.pair (.int .i64) (.bool))) (.slice (.pair (.int .i64) (.pair (.int .i64) (.pair (.int .i64) (.pair (.int .i64) (.int .i64))))))))))))) a0.1:Nat):Int):=by omega
     have z1:a1+((cellsC (.slice (.pair (.slice (.pair (.int .i64) (.pair (.slice (.int .i64)) (.int .i64)))) (.slice (.pair (.int .i64) (.pair (.int .i64) (.pair (.int .i64) (.pair (.slice (.pair (.int .i64) (.bool))) (.slice (.pair (.int .i64) (.pair (.int .i64) (.pair (.int .i64) (.pair (.int .i64) (.int .i64))))))))))))) a0.1:Nat):Int)=a1+((cellsC (.slice (.pair (.slice (.pair (.int .i64) (.pair (.slice (.int .i64)) (.int .i64)))) (.slice (.pair (.int .i64) (.pair (.int .i64) (.pair (.int .i64) (.pair (.slice (.pair (.int .i64) (.bool))) (.slice (.pair (.int .i64) (.pair (.int .i64) (.pair (.int .i64) (.pair (.int .i64) (.int .i64))))))))))))) a0.1:Nat):Int):=by omega
     have g1:okC (.slice (.slice (.pair (.int .i64) (.pair (.int .i64) (.pair (.int .i64) (.pair (.int .i64) (.int .i64))))))) a0.2 (a1+((cellsC (.slice (.pair (.slice (.pair (.int .i64) (.pair (.slice (.int .i64)) (.int .i64)))) (.slice (.pair (.int .i64) (.pair (.int .i64) (.pair (.int .i64) (.pair (.slice (.pair (.int .i64) (.bool))) (.slice (.pair (.int .i64) (.pair (.int .i64) (.pair (.int .i64) (.pair (.int .i64) (.int .i64))))))))))))) a0.1:Nat):Int))=false:=held_neg q1 (by
       have h:heldF (.slice (.slice (.pair (.int .i64) (.pair (.int .i64) (.pair (.int .i64) (.pair (.int .i64) (.int .i64))))))) a0.2 (heldF (.slice (.pair (.slice (.pair (.int .i64) (.pair (.slice (.int .i64)) (.int .i64)))) (.slice (.pair (.int .i64) (.pair (.int .i64) (.pair (.int .i64) (.pair (.slice (.pair (.int .i64) (.bool))) (.slice (.pair (.int .i64) (.pair (.int .i64) (.pair (.int .i64) (.pair (.int .i64) (.int .i64))))))))))))) a0.1 (a1))<0:=oTr h1
       try simp only[u0]at h
       exact h)
     refine Vm hG rfl (Vt ?_)
     refine⟨?_,trivial⟩
     show (-1:Int)=heldVF (.pair (.slice (.pair (.slice (.pair (.int .i64) (.pair (.slice (.int .i64)) (.int .i64)))) (.slice (.pair (.int .i64) (.pair (.int .i64) (.pair (.int .i64) (.pair (.slice (.pair (.int .i64) (.bool))) (.slice (.pair (.int .i64) (.pair (.int .i64) (.pair (.int .i64) (.pair (.int .i64) (.int .i64))))))))))))) (.slice (.slice (.pair (.int .i64) (.pair (.int .i64) (.pair (.int .i64) (.pair (.int .i64) (.int .i64)))))))) a0 a1
     unfold heldVF
     have f:okV (.pair (.slice (.pair (.slice (.pair (.int .i64) (.pair (.slice (.int .i64)) (.int .i64)))) (.slice (.pair (.int .i64) (.pair (.int .i64) (.pair (.int .i64) (.pair (.slice (.pair (.int .i64) (.bool))) (.slice (.pair (.int .i64) (.pair (.int .i64) (.pair (.int .i64) (.pair (.int .i64) (.int .i64))))))))))))) (.slice (.slice (.pair (.int .i64) (.pair (.int .i64) (.pair (.int .i64) (.pair (.int .i64) (.int .i64)))))))) a0 a1=false:=by
       show (okC (.slice (.pair (.slice (.pair (.int .i64) (.pair (.slice (.int .i64)) (.int .i64)))) (.slice (.pair (.int .i64) (.pair (.int .i64) (.pair (.int .i64) (.pair (.slice (.pair (.int .i64) (.bool))) (.slice (.pair (.int .i64) (.pair (.int .i64) (.pair (.int .i64) (.pair (.int .i64) (.int .i64))))))))))))) a0.1 (a1)&&okC (.slice (.slice (.pair (.int .i64) (.pair (.int .i64) (.pair (.int .i64) (.pair (.int .i64) (.int .i64))))))) a0.2 (a1+((cellsC (.slice (.pair (.slice (.pair (.int .i64) (.pair (.slice (.int .i64)) (.int .i64)))) (.slice (.pair (.int .i64) (.pair (.int .i64) (.pair (.int .i64) (.pair (.slice (.pair (.int .i64) (.bool))) (.slice (.pair (.int .i64) (.pair (.int .i64) (.pair (.int .i64) (.pair (.int .i64) (.int .i64))))))))))))) a0.1:Nat):Int)))=false
       simp only[z0,z1,g0,g1,Bool.and_false,Bool.false_and,Bool.and_true,Bool.true_and]
     rw[if_neg (by rw[f];decide)]
   · have q1:0≤a1+((cellsC (.slice (.pair (.slice (.pair (.int .i64) (.pair (.slice (.int .i64)) (.int .i64)))) (.slice (.pair (.int .i64) (.pair (.int .i64) (.pair (.int .i64) (.pair (.slice (.pair (.int .i64) (.bool))) (.slice (.pair (.int .i64) (.pair (.int .i64) (.pair (.int .i64) (.pair (.int .i64) (.int .i64))))))))))))) a0.1:Nat):Int):=by omega
     have z1:a1+((cellsC (.slice (.pair (.slice (.pair (.int .i64) (.pair (.slice (.int .i64)) (.int .i64)))) (.slice (.pair (.int .i64) (.pair (.int .i64) (.pair (.int .i64) (.pair (.slice (.pair (.int .i64) (.bool))) (.slice (.pair (.int .i64) (.pair (.int .i64) (.pair (.int .i64) (.pair (.int .i64) (.int .i64))))))))))))) a0.1:Nat):Int)=a1+((cellsC (.slice (.pair (.slice (.pair (.int .i64) (.pair (.slice (.int .i64)) (.int .i64)))) (.slice (.pair (.int .i64) (.pair (.int .i64) (.pair (.int .i64) (.pair (.slice (.pair (.int .i64) (.bool))) (.slice (.pair (.int .i64) (.pair (.int .i64) (.pair (.int .i64) (.pair (.int .i64) (.int .i64))))))))))))) a0.1:Nat):Int):=by omega
     have n1:¬heldF (.slice (.slice (.pair (.int .i64) (.pair (.int .i64) (.pair (.int .i64) (.pair (.int .i64) (.int .i64))))))) a0.2 (a1+((cellsC (.slice (.pair (.slice (.pair (.int .i64) (.pair (.slice (.int .i64)) (.int .i64)))) (.slice (.pair (.int .i64) (.pair (.int .i64) (.pair (.int .i64) (.pair (.slice (.pair (.int .i64) (.bool))) (.slice (.pair (.int .i64) (.pair (.int .i64) (.pair (.int .i64) (.pair (.int .i64) (.int .i64))))))))))))) a0.1:Nat):Int))<0:=by
       have h:¬heldF (.slice (.slice (.pair (.int .i64) (.pair (.int .i64) (.pair (.int .i64) (.pair (.int .i64) (.int .i64))))))) a0.2 (heldF (.slice (.pair (.slice (.pair (.int .i64) (.pair (.slice (.int .i64)) (.int .i64)))) (.slice (.pair (.int .i64) (.pair (.int .i64) (.pair (.int .i64) (.pair (.slice (.pair (.int .i64) (.bool))) (.slice (.pair (.int .i64) (.pair (.int .i64) (.pair (.int .i64) (.pair (.int .i64) (.int .i64))))))))))))) a0.1 (a1))<0:=oFa h1
       try simp only[u0]at h
       exact h
     have g1:okC (.slice (.slice (.pair (.int .i64) (.pair (.int .i64) (.pair (.int .i64) (.pair (.int .i64) (.int .i64))))))) a0.2 (a1+((cellsC (.slice (.pair (.slice (.pair (.int .i64) (.pair (.slice (.int .i64)) (.int .i64)))) (.slice (.pair (.int .i64) (.pair (.int .i64) (.pair (.int .i64) (.pair (.slice (.pair (.int .i64) (.bool))) (.slice (.pair (.int .i64) (.pair (.int .i64) (.pair (.int .i64) (.pair (.int .i64) (.int .i64))))))))))))) a0.1:Nat):Int))=true:=held_pos n1
     have u1:heldF (.slice (.slice (.pair (.int .i64) (.pair (.int .i64) (.pair (.int .i64) (.pair (.int .i64) (.int .i64))))))) a0.2 (a1+((cellsC (.slice (.pair (.slice (.pair (.int .i64) (.pair (.slice (.int .i64)) (.int .i64)))) (.slice (.pair (.int .i64) (.pair (.int .i64) (.pair (.int .i64) (.pair (.slice (.pair (.int .i64) (.bool))) (.slice (.pair (.int .i64) (.pair (.int .i64) (.pair (.int .i64) (.pair (.int .i64) (.int .i64))))))))))))) a0.1:Nat):Int))=a1+((cellsC (.slice (.pair (.slice (.pair (.int .i64) (.pair (.slice (.int .i64)) (.int .i64)))) (.slice (.pair (.int .i64) (.pair (.int .i64) (.pair (.int .i64) (.pair (.slice (.pair (.int .i64) (.bool))) (.slice (.pair (.int .i64) (.pair (.int .i64) (.pair (.int .i64) (.pair (.int .i64) (.int .i64))))))))))))) a0.1:Nat):Int)+((cellsC (.slice (.slice (.pair (.int .i64) (.pair (.int .i64) (.pair (.int .i64) (.pair (.int .i64) (.int .i64))))))) a0.2:Nat):Int):=held_val n1
     refine Vs (Vm hG rfl (Vt ?_))
     refine⟨?_,trivial⟩
     show heldF (.slice (.slice (.pair (.int .i64) (.pair (.int .i64) (.pair (.int .i64) (.pair (.int .i64) (.int .i64))))))) a0.2 (heldF (.slice (.pair (.slice (.pair (.int .i64) (.pair (.slice (.int .i64)) (.int .i64)))) (.slice (.pair (.int .i64) (.pair (.int .i64) (.pair (.int .i64) (.pair (.slice (.pair (.int .i64) (.bool))) (.slice (.pair (.int .i64) (.pair (.int .i64) (.pair (.int .i64) (.pair (.int .i64) (.int .i64))))))))))))) a0.1 (a1))=heldVF (.pair (.slice (.pair (.slice (.pair (.int .i64) (.pair (.slice (.int .i64)) (.int .i64)))) (.slice (.pair (.int .i64) (.pair (.int .i64) (.pair (.int .i64) (.pair (.slice (.pair (.int .i64) (.bool))) (.slice (.pair (.int .i64) (.pair (.int .i64) (.pair (.int .i64) (.pair (.int .i64) (.int .i64))))))))))))) (.slice (.slice (.pair (.int .i64) (.pair (.int .i64) (.pair (.int .i64) (.pair (.int .i64) (.int .i64)))))))) a0 a1
     unfold heldVF
     have f:okV (.pair (.slice (.pair (.slice (.pair (.int .i64) (.pair (.slice (.int .i64)) (.int .i64)))) (.slice (.pair (.int .i64) (.pair (.int .i64) (.pair (.int .i64) (.pair (.slice (.pair (.int .i64) (.bool))) (.slice (.pair (.int .i64) (.pair (.int .i64) (.pair (.int .i64) (.pair (.int .i64) (.int .i64))))))))))))) (.slice (.slice (.pair (.int .i64) (.pair (.int .i64) (.pair (.int .i64) (.pair (.int .i64) (.int .i64)))))))) a0 a1=true:=by
       show (okC (.slice (.pair (.slice (.pair (.int .i64) (.pair (.slice (.int .i64)) (.int .i64)))) (.slice (.pair (.int .i64) (.pair (.int .i64) (.pair (.int .i64) (.pair (.slice (.pair (.int .i64) (.bool))) (.slice (.pair (.int .i64) (.pair (.int .i64) (.pair (.int .i64) (.pair (.int .i64) (.int .i64))))))))))))) a0.1 (a1)&&okC (.slice (.slice (.pair (.int .i64) (.pair (.int .i64) (.pair (.int .i64) (.pair (.int .i64) (.int .i64))))))) a0.2 (a1+((cellsC (.slice (.pair (.slice (.pair (.int .i64) (.pair (.slice (.int .i64)) (.int .i64)))) (.slice (.pair (.int .i64) (.pair (.int .i64) (.pair (.int .i64) (.pair (.slice (.pair (.int .i64) (.bool))) (.slice (.pair (.int .i64) (.pair (.int .i64) (.pair (.int .i64) (.pair (.int .i64) (.int .i64))))))))))))) a0.1:Nat):Int)))=true
       simp only[z0,z1,g0,g1,Bool.and_true,Bool.true_and]
     rw[if_pos f]
     try simp only[u0,u1]
     try omega
end Fw
