/- Walks of functions of the program: what each computes. Conditions: those that each contract names. -/
import Derived.Test.YtpcljloahdbjcaaGreatW49T
import Derived.Test.YtpcljloahdbjcaaGreatW49s0
import Derived.Test.YtpcljloahdbjcaaGreatW49s1
namespace Fw
open Go Go.Proofs
set_option linter.unusedSimpArgs false
set_option maxRecDepth 100000
noncomputable def P164:PFun:=⟨.pure Y18,[.pair Y26 Y59,.pair (.int .i64) Y13,.int .i64,.int .i64],[.pure Y62],fun x xs=>(fun c (s:Strand) (_:Doc) (_ _:Int)=>curOk c∧Sm big20 Y62 s) x xs.1 xs.2.1 xs.2.2.1 xs.2.2.2.1,fun x xs=>(renewD x xs.1 xs.2.1 xs.2.2.1 xs.2.2.2.1).2,fun x xs=>((renewD x xs.1 xs.2.1 xs.2.2.1 xs.2.2.2.1).1,())⟩
theorem P164_ok:MeetsP Tryz.prog 164 P164:=by
 refine meetsP_of_vc (C:=mkCP 66 [10] [0,1,2,3,4,6,7,10,11,12,13,14,15,16,30,43] [⟨250,_,F250_ok⟩,⟨220,_,F220_ok⟩,⟨234,_,F234_ok⟩,⟨76,_,F76_ok⟩,⟨77,_,F77_ok⟩,⟨251,_,F251_ok⟩] [] [] [⟨79,_,P79_ok⟩,⟨252,_,P252_ok⟩,⟨74,_,P74_ok⟩] [0]) (mkCP_ok _ _ _ _ _ _ _ _) (fO _) Tryz.func164 rfl rfl rfl (by decide) rfl rfl rfl ?_ rfl
 rintro c ⟨a1,a2,(a3:Int),(a4:Int),_⟩ hwc hwf hpre ⟨⟩ hG rfl rfl
 show Vc _ _ [(0,⟨0,0,.c (.ref Z23) c⟩),(1,⟨0,0,.c Z64 a1⟩),(2,⟨0,0,.c Z28 a2⟩),(3,⟨0,0,.c (.pure (.int .i64)) a3⟩),(4,⟨0,0,.c (.pure (.int .i64)) a4⟩)] _
 have hc:curOk c:=hpre.1
 have hs:Sm big20 TStrand a1:=hpre.2
 refine Vm hG rfl (Vm hG rfl (Vq ?_))
 refine Vr hG rfl ?_ ?_
 · repeat' (first | exact trivial | exact hc | exact once_ok hc | exact hs | exact renQ_sm _ _ | exact long_len hs | exact long_sm hs | exact(long_sm hs).1 | exact(long_sm hs).2.2 | exact leaves_ok (once_ok hc) | exact leaves_len (once_ok hc) (by decide) | exact(Nat.le_of_ble_eq_true rfl:(4:Nat)≤1000) | exact(Nat.le_of_ble_eq_true rfl:(3:Nat)≤1000) | exact renNew_sm (Nat.le_of_ble_eq_true rfl) | exact(by decide:(0:Int)<4) | exact(by decide:(4:Int)≤1000) | refine And.intro ?_ ?_ | intro _)
 refine Vq (Vm hG rfl ?_)
 refine Vk rfl ?_ ?_<;>intro h0
 · refine Vm hG rfl ?_
   refine Vc.frz 10 rfl ?_
   refine Vt ?_
   have e:renewD c a1 a2 a3 a4=_:=((renew_eq c a1 a2 a3 a4).trans (cT h0))
   refine⟨⟨?_,trivial⟩,?_,trivial⟩
   · exact(congrArg Prod.snd e).symm
   · exact(congrArg (fun r=>r.1) e).symm
 · refine Vs (Vq ?_)
   refine VrD mixed hG rfl (by kernel_rfl) ?_ ?_
   · repeat' (first | exact trivial | exact hc | exact once_ok hc | exact hs | exact renQ_sm _ _ | exact long_len hs | exact long_sm hs | exact(long_sm hs).1 | exact(long_sm hs).2.2 | exact leaves_ok (once_ok hc) | exact leaves_len (once_ok hc) (by decide) | exact(Nat.le_of_ble_eq_true rfl:(4:Nat)≤1000) | exact(Nat.le_of_ble_eq_true rfl:(3:Nat)≤1000) | exact renNew_sm (Nat.le_of_ble_eq_true rfl) | exact(by decide:(0:Int)<4) | exact(by decide:(4:Int)≤1000) | refine And.intro ?_ ?_ | intro _)
   refine Vm hG rfl (Vq (Vq ?_))
   refine Vr hG rfl ?_ ?_
   · repeat' (first | exact trivial | exact hc | exact once_ok hc | exact hs | exact renQ_sm _ _ | exact long_len hs | exact long_sm hs | exact(long_sm hs).1 | exact(long_sm hs).2.2 | exact leaves_ok (once_ok hc) | exact leaves_len (once_ok hc) (by decide) | exact(Nat.le_of_ble_eq_true rfl:(4:Nat)≤1000) | exact(Nat.le_of_ble_eq_true rfl:(3:Nat)≤1000) | exact renNew_sm (Nat.le_of_ble_eq_true rfl) | exact(by decide:(0:Int)<4) | exact(by decide:(4:Int)≤1000) | refine And.intro ?_ ?_ | intro _)
   refine Vk rfl ?_ ?_<;>intro h1
   · refine Vn hG rfl (Vq ?_)
     refine VrD mixed hG rfl (by kernel_rfl) ?_ ?_
     · repeat' (first | exact trivial | exact hc | exact once_ok hc | exact hs | exact renQ_sm _ _ | exact long_len hs | exact long_sm hs | exact(long_sm hs).1 | exact(long_sm hs).2.2 | exact leaves_ok (once_ok hc) | exact leaves_len (once_ok hc) (by decide) | exact(Nat.le_of_ble_eq_true rfl:(4:Nat)≤1000) | exact(Nat.le_of_ble_eq_true rfl:(3:Nat)≤1000) | exact renNew_sm (Nat.le_of_ble_eq_true rfl) | exact(by decide:(0:Int)<4) | exact(by decide:(4:Int)≤1000) | refine And.intro ?_ ?_ | intro _)
     refine Vq ?_
     refine Vr hG rfl ?_ ?_
     · repeat' (first | exact trivial | exact hc | exact once_ok hc | exact hs | exact renQ_sm _ _ | exact long_len hs | exact long_sm hs | exact(long_sm hs).1 | exact(long_sm hs).2.2 | exact leaves_ok (once_ok hc) | exact leaves_len (once_ok hc) (by decide) | exact(Nat.le_of_ble_eq_true rfl:(4:Nat)≤1000) | exact(Nat.le_of_ble_eq_true rfl:(3:Nat)≤1000) | exact renNew_sm (Nat.le_of_ble_eq_true rfl) | exact(by decide:(0:Int)<4) | exact(by decide:(4:Int)≤1000) | refine And.intro ?_ ?_ | intro _)
     refine Vm hG rfl ?_
     refine Vc.frz 10 rfl ?_
     refine Vt ?_
     have e:renewD c a1 a2 a3 a4=_:=((renew_eq c a1 a2 a3 a4).trans ((cF h0).trans (cT h1)))
     refine⟨⟨?_,trivial⟩,?_,trivial⟩
     · exact(congrArg Prod.snd e).symm
     · exact(congrArg (fun r=>r.1) e).symm
   · refine Vs (Vq ?_)
     refine VrD mixed hG rfl (by kernel_rfl) ?_ ?_
     · repeat' (first | exact trivial | exact hc | exact once_ok hc | exact hs | exact renQ_sm _ _ | exact long_len hs | exact long_sm hs | exact(long_sm hs).1 | exact(long_sm hs).2.2 | exact leaves_ok (once_ok hc) | exact leaves_len (once_ok hc) (by decide) | exact(Nat.le_of_ble_eq_true rfl:(4:Nat)≤1000) | exact(Nat.le_of_ble_eq_true rfl:(3:Nat)≤1000) | exact renNew_sm (Nat.le_of_ble_eq_true rfl) | exact(by decide:(0:Int)<4) | exact(by decide:(4:Int)≤1000) | refine And.intro ?_ ?_ | intro _)
     refine Vq ?_
     refine Vr hG rfl ?_ ?_
     · repeat' (first | exact trivial | exact hc | exact once_ok hc | exact hs | exact renQ_sm _ _ | exact long_len hs | exact long_sm hs | exact(long_sm hs).1 | exact(long_sm hs).2.2 | exact leaves_ok (once_ok hc) | exact leaves_len (once_ok hc) (by decide) | exact(Nat.le_of_ble_eq_true rfl:(4:Nat)≤1000) | exact(Nat.le_of_ble_eq_true rfl:(3:Nat)≤1000) | exact renNew_sm (Nat.le_of_ble_eq_true rfl) | exact(by decide:(0:Int)<4) | exact(by decide:(4:Int)≤1000) | refine And.intro ?_ ?_ | intro _)
     refine Vm hG rfl ?_
     refine Vc.frz 10 rfl ?_
     refine Vt ?_
     have e:renewD c a1 a2 a3 a4=_:=((renew_eq c a1 a2 a3 a4).trans ((cF h0).trans (cF h1)))
     refine⟨⟨?_,trivial⟩,?_,trivial⟩
     · exact(congrArg Prod.snd e).symm
     · exact(congrArg (fun r=>r.1) e).symm
noncomputable def P164o:PFun:=⟨.pure Y18,[.pair Y26 Y59,.pair (.int .i64) Y13,.int .i64,.int .i64],[.pair Z34 Z61],fun x xs=>(fun c (s:Strand) (_:Doc) (m _:Int)=>(curOk c∧Sm big20 Y62 s)∧(longF s m).2=true) x xs.1 xs.2.1 xs.2.2.1 xs.2.2.2.1,fun x xs=>(renewD x xs.1 xs.2.1 xs.2.2.1 xs.2.2.2.1).2,fun x xs=>((renewD x xs.1 xs.2.1 xs.2.2.1 xs.2.2.2.1).1,())⟩
theorem P164o_ok:MeetsP Tryz.prog 164 P164o:=by
 refine meetsP_of_vc (C:=mkCP 66 [10] [0,1,2,3,4,6,7,10,11,12,13,14,15,16,30,43] [⟨250,_,F250_ok⟩,⟨220,_,F220_ok⟩,⟨234,_,F234_ok⟩,⟨76,_,F76_ok⟩,⟨77,_,F77_ok⟩,⟨251,_,F251_ok⟩] [] [] [⟨79,_,P79_ok⟩,⟨252,_,P252_ok⟩,⟨74,_,P74_ok⟩] [0]) (mkCP_ok _ _ _ _ _ _ _ _) (fO _) Tryz.func164 rfl rfl rfl (by decide) rfl rfl rfl ?_ rfl
 rintro c ⟨a1,a2,(a3:Int),(a4:Int),_⟩ hwc hwf hpre ⟨⟩ hG rfl rfl
 show Vc _ _ [(0,⟨0,0,.c (.ref Z23) c⟩),(1,⟨0,0,.c Z64 a1⟩),(2,⟨0,0,.c Z28 a2⟩),(3,⟨0,0,.c (.pure (.int .i64)) a3⟩),(4,⟨0,0,.c (.pure (.int .i64)) a4⟩)] _
 have hc:curOk c:=hpre.1.1
 have hs:Sm big20 TStrand a1:=hpre.1.2
 refine Vm hG rfl (Vm hG rfl (Vq ?_))
 refine Vr hG rfl ?_ ?_
 · repeat' (first | exact trivial | exact hc | exact once_ok hc | exact hs | exact renQ_sm _ _ | exact long_len hs | exact long_sm hs | exact(long_sm hs).1 | exact(long_sm hs).2.2 | exact leaves_ok (once_ok hc) | exact leaves_len (once_ok hc) (by decide) | exact(Nat.le_of_ble_eq_true rfl:(4:Nat)≤1000) | exact(Nat.le_of_ble_eq_true rfl:(3:Nat)≤1000) | exact renNew_sm (Nat.le_of_ble_eq_true rfl) | exact(by decide:(0:Int)<4) | exact(by decide:(4:Int)≤1000) | refine And.intro ?_ ?_ | intro _)
 refine Vq (Vm hG rfl ?_)
 refine Vk rfl ?_ ?_<;>intro h0
 · exact(loElim hpre.2 h0).elim
 · refine Vs (Vq ?_)
   refine VrD mixed hG rfl (by kernel_rfl) ?_ ?_
   · repeat' (first | exact trivial | exact hc | exact once_ok hc | exact hs | exact renQ_sm _ _ | exact long_len hs | exact long_sm hs | exact(long_sm hs).1 | exact(long_sm hs).2.2 | exact leaves_ok (once_ok hc) | exact leaves_len (once_ok hc) (by decide) | exact(Nat.le_of_ble_eq_true rfl:(4:Nat)≤1000) | exact(Nat.le_of_ble_eq_true rfl:(3:Nat)≤1000) | exact renNew_sm (Nat.le_of_ble_eq_true rfl) | exact(by decide:(0:Int)<4) | exact(by decide:(4:Int)≤1000) | refine And.intro ?_ ?_ | intro _)
   refine Vm hG rfl (Vq (Vq ?_))
   refine Vr hG rfl ?_ ?_
   · repeat' (first | exact trivial | exact hc | exact once_ok hc | exact hs | exact renQ_sm _ _ | exact long_len hs | exact long_sm hs | exact(long_sm hs).1 | exact(long_sm hs).2.2 | exact leaves_ok (once_ok hc) | exact leaves_len (once_ok hc) (by decide) | exact(Nat.le_of_ble_eq_true rfl:(4:Nat)≤1000) | exact(Nat.le_of_ble_eq_true rfl:(3:Nat)≤1000) | exact renNew_sm (Nat.le_of_ble_eq_true rfl) | exact(by decide:(0:Int)<4) | exact(by decide:(4:Int)≤1000) | refine And.intro ?_ ?_ | intro _)
   refine Vk rfl ?_ ?_<;>intro h1
   · refine Vn hG rfl (Vq ?_)
     refine VrD mixed hG rfl (by kernel_rfl) ?_ ?_
     · repeat' (first | exact trivial | exact hc | exact once_ok hc | exact hs | exact renQ_sm _ _ | exact long_len hs | exact long_sm hs | exact(long_sm hs).1 | exact(long_sm hs).2.2 | exact leaves_ok (once_ok hc) | exact leaves_len (once_ok hc) (by decide) | exact(Nat.le_of_ble_eq_true rfl:(4:Nat)≤1000) | exact(Nat.le_of_ble_eq_true rfl:(3:Nat)≤1000) | exact renNew_sm (Nat.le_of_ble_eq_true rfl) | exact(by decide:(0:Int)<4) | exact(by decide:(4:Int)≤1000) | refine And.intro ?_ ?_ | intro _)
     refine Vq ?_
     refine Vr hG rfl ?_ ?_
     · repeat' (first | exact trivial | exact hc | exact once_ok hc | exact hs | exact renQ_sm _ _ | exact long_len hs | exact long_sm hs | exact(long_sm hs).1 | exact(long_sm hs).2.2 | exact leaves_ok (once_ok hc) | exact leaves_len (once_ok hc) (by decide) | exact(Nat.le_of_ble_eq_true rfl:(4:Nat)≤1000) | exact(Nat.le_of_ble_eq_true rfl:(3:Nat)≤1000) | exact renNew_sm (Nat.le_of_ble_eq_true rfl) | exact(by decide:(0:Int)<4) | exact(by decide:(4:Int)≤1000) | refine And.intro ?_ ?_ | intro _)
     refine Vm hG rfl (Vt ?_)
     have e:renewD c a1 a2 a3 a4=_:=((renew_eq c a1 a2 a3 a4).trans ((cF h0).trans (cT h1)))
     refine⟨⟨?_,trivial⟩,?_,trivial⟩
     · exact(congrArg Prod.snd e).symm
     · exact(congrArg (fun r=>r.1) e).symm
   · refine Vs (Vq ?_)
     refine VrD mixed hG rfl (by kernel_rfl) ?_ ?_
     · repeat' (first | exact trivial | exact hc | exact once_ok hc | exact hs | exact renQ_sm _ _ | exact long_len hs | exact long_sm hs | exact(long_sm hs).1 | exact(long_sm hs).2.2 | exact leaves_ok (once_ok hc) | exact leaves_len (once_ok hc) (by decide) | exact(Nat.le_of_ble_eq_true rfl:(4:Nat)≤1000) | exact(Nat.le_of_ble_eq_true rfl:(3:Nat)≤1000) | exact renNew_sm (Nat.le_of_ble_eq_true rfl) | exact(by decide:(0:Int)<4) | exact(by decide:(4:Int)≤1000) | refine And.intro ?_ ?_ | intro _)
     refine Vq ?_
     refine Vr hG rfl ?_ ?_
     · repeat' (first | exact trivial | exact hc | exact once_ok hc | exact hs | exact renQ_sm _ _ | exact long_len hs | exact long_sm hs | exact(long_sm hs).1 | exact(long_sm hs).2.2 | exact leaves_ok (once_ok hc) | exact leaves_len (once_ok hc) (by decide) | exact(Nat.le_of_ble_eq_true rfl:(4:Nat)≤1000) | exact(Nat.le_of_ble_eq_true rfl:(3:Nat)≤1000) | exact renNew_sm (Nat.le_of_ble_eq_true rfl) | exact(by decide:(0:Int)<4) | exact(by decide:(4:Int)≤1000) | refine And.intro ?_ ?_ | intro _)
     refine Vm hG rfl (Vt ?_)
     have e:renewD c a1 a2 a3 a4=_:=((renew_eq c a1 a2 a3 a4).trans ((cF h0).trans (cF h1)))
     refine⟨⟨?_,trivial⟩,?_,trivial⟩
     · exact(congrArg Prod.snd e).symm
     · exact(congrArg (fun r=>r.1) e).symm
end Fw
