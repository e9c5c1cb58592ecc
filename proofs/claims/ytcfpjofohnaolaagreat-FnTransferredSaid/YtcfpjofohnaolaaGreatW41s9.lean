/- Walks of functions of the program: what each computes. Conditions: those that each contract names. -/
import Derived.Test.YtcfpjofohnaolaaGreatW41T
import Derived.Test.YtcfpjofohnaolaaGreatW41s0
import Derived.Test.YtcfpjofohnaolaaGreatW41s1
import Derived.Test.YtcfpjofohnaolaaGreatW41s2
import Derived.Test.YtcfpjofohnaolaaGreatW41s4
import Derived.Test.YtcfpjofohnaolaaGreatW41s6
import Derived.Test.YtcfpjofohnaolaaGreatW41s7
import Derived.Test.YtcfpjofohnaolaaGreatW41s8
namespace Fw
open Go Go.Proofs
set_option linter.unusedSimpArgs false
set_option maxRecDepth 100000
noncomputable def F131 : Fun := ⟨[.slice Y27, .slice Y10, .int .i64, .int .i64, .slice (.int .i64), .int .i64, .slice (.int .i64), .int .i64, .int .i64], [.pair (.pure (.int .i64)) Z45], fun x => (fun (_ : List Key) (_ : List Authority) (_ _ : Int) (o : List Int) (_ : Int) (ids : List Int) (_ _ : Int) => List.length o ≤ 1000 ∧ List.length ids ≤ 1000) x.1 x.2.1 x.2.2.1 x.2.2.2.1 x.2.2.2.2.1 x.2.2.2.2.2.1 x.2.2.2.2.2.2.1 x.2.2.2.2.2.2.2.1 x.2.2.2.2.2.2.2.2.1, fun x => (renMakeF x.1 x.2.1 x.2.2.1 x.2.2.2.1 x.2.2.2.2.1 x.2.2.2.2.2.1 x.2.2.2.2.2.2.1 x.2.2.2.2.2.2.2.1 x.2.2.2.2.2.2.2.2.1, ())⟩
theorem F131_ok : Meets Tryz.prog 131 F131 := by
 refine meets_of_vc (C := mkC 71 [18] [0,1,2,3,4,5,6,7,8,18,19,20,21,22,23,45,63] [⟨71, _, F71_ok⟩, ⟨151, _, F151_ok⟩, ⟨70, _, F70_ok⟩]) (mkC_ok _ _ _ _) (fnOf_ok _) Tryz.func131 rfl rfl rfl (by decide) rfl ?_
 rintro ⟨a0, a1, (a2 : Int), (a3 : Int), a4, (a5 : Int), a6, (a7 : Int), (a8 : Int), _⟩ hwf hpre ⟨P, C, B, X, w0, M0, pv⟩ hG rfl rfl
 show Vc _ _ [(0, ⟨0, 0, .c Z31 a0⟩), (1, ⟨0, 0, .c Z19 a1⟩), (2, ⟨0, 0, .c (.pure (.int .i64)) a2⟩), (3, ⟨0, 0, .c (.pure (.int .i64)) a3⟩), (4, ⟨0, 0, .c Z3 a4⟩), (5, ⟨0, 0, .c (.pure (.int .i64)) a5⟩), (6, ⟨0, 0, .c Z3 a6⟩), (7, ⟨0, 0, .c (.pure (.int .i64)) a7⟩), (8, ⟨0, 0, .c (.pure (.int .i64)) a8⟩)] _
 have hs : List.length a6 ≤ 1048576 := Nat.le_trans hpre.2 (by decide)
 have hb : List.length a6 ≤ bigLen := Nat.le_trans hpre.2 (by decide)
 have ho : List.length a4 ≤ 1000 := hpre.1
 refine Vc.seq (Vc.region hG rfl (by trivial) (Vc.seq ?_))
 refine Vc.region hG rfl ?_ ?_
 · exact rmApp ho
 refine Vc.seq (Vc.region hG rfl (by trivial) (Vc.seq (Vc.seq ?_)))
 refine Vc.region hG rfl (by trivial) (Vc.block ?_)
 refine Vc.loopF [(20, true, .pair (.pure (.int .i64)) Z45), (21, false, .pure (.int .i64))] [0, 1, 2, 3, 4, 5, 6, 7, 8, 18, 19] (fun v => ∃ acc, v.1 = rmBase a2 a3 a4 a5 acc ∧ pkInv (rmG a0 a1 a2 a3 a4 a7 a8) a6 acc v.2.1) (fun v => ((List.length a6 : Int) - v.2.1).toNat) rfl ?_ ?_
 · exact ⟨[], rfl, pkStart⟩
 rintro ⟨r, (i : Int), _⟩ ⟨acc, e0, hI⟩
 have e0 : r = rmBase a2 a3 a4 a5 acc := e0
 subst e0
 have hI : pkInv (rmG a0 a1 a2 a3 a4 a7 a8) a6 acc i := hI
 refine Vc.seq (Vc.seq (Vc.region hG rfl (by trivial) ?_))
 refine Vc.cond rfl (fun h0 => ?_) (fun h0 => ?_)
 · have hl : i < (List.length a6 : Int) := of_decide_eq_true h0
   refine Vc.skip (Vc.seq (Vc.block (Vc.seq ?_)))
   refine Vc.regionD mixed hG rfl (by kernel_rfl) ?_ ?_
   · repeat' (first | exact trivial | exact pkRange hI hl | refine And.intro ?_ ?_ | intro _)
   refine Vc.seq (Vc.region hG rfl (by trivial) ?_)
   refine Vc.cond rfl (fun h1 => ?_) (fun h1 => ?_)
   · have g1 : ((rmG a0 a1 a2 a3 a4 a7 a8) (List.getD a6 i.toNat (dflt TI))).2 = true := h1
     have st := pkYes (d := dflt TI) hI hl hb g1
     refine Vc.region hG rfl ?_ ?_
     · exact pkLen hI hs
     refine Vc.region hG rfl (by trivial) ?_
     refine ⟨rfl, ?_⟩
     exact ⟨⟨_, rfl, st.1⟩, st.2⟩
   · have g1 : ((rmG a0 a1 a2 a3 a4 a7 a8) (List.getD a6 i.toNat (dflt TI))).2 = false := h1
     have st := pkNo (d := dflt TI) hI hl hb g1
     refine Vc.skip (Vc.region hG rfl (by trivial) ?_)
     refine ⟨rfl, ?_⟩
     exact ⟨⟨_, rfl, st.1⟩, st.2⟩
 · have hl : ¬ i < (List.length a6 : Int) := of_decide_eq_false h0
   refine Vc.exit (Vc.seq (Vc.region hG rfl (by trivial) (Vc.ret ?_)))
   refine ⟨?_, trivial⟩
   exact congrArg (rmBase a2 a3 a4 a5) (pkEnd hI hl)
noncomputable def P106 : PFun := ⟨.pure Y13, [.pair Y20 Y47, .pair (.int .i64) Y9, .int .i64, .int .i64], [.pure Y50], fun x xs => (fun c (s : Strand) (_ : Doc) (_ _ : Int) => curOk c ∧ Sm big20 Y50 s) x xs.1 xs.2.1 xs.2.2.1 xs.2.2.2.1, fun x xs => (renewD x xs.1 xs.2.1 xs.2.2.1 xs.2.2.2.1).2, fun x xs => ((renewD x xs.1 xs.2.1 xs.2.2.1 xs.2.2.2.1).1, ())⟩
theorem P106_ok : MeetsP Tryz.prog 106 P106 := by
 refine meetsP_of_vc (C := mkCP 66 [10] [0,1,2,3,4,6,7,10,11,12,13,14,15,16,30,43] [⟨130, _, F130_ok⟩, ⟨101, _, F101_ok⟩, ⟨100, _, F100_ok⟩, ⟨42, _, F42_ok⟩, ⟨43, _, F43_ok⟩, ⟨131, _, F131_ok⟩] [] [] [⟨25, _, P25_ok⟩, ⟨132, _, P132_ok⟩, ⟨38, _, P38_ok⟩] [0]) (mkCP_ok _ _ _ _ _ _ _ _) (fnOf_ok _) Tryz.func106 rfl rfl rfl (by decide) rfl rfl rfl ?_ rfl
 rintro c ⟨a1, a2, (a3 : Int), (a4 : Int), _⟩ hwc hwf hpre ⟨P, C, B, X, w0, M0, pv⟩ hG rfl rfl
 show Vc _ _ [(0, ⟨0, 0, .c (.ref Z17) c⟩), (1, ⟨0, 0, .c Z51 a1⟩), (2, ⟨0, 0, .c Z22 a2⟩), (3, ⟨0, 0, .c (.pure (.int .i64)) a3⟩), (4, ⟨0, 0, .c (.pure (.int .i64)) a4⟩)] _
 have hc : curOk c := hpre.1
 have hs : Sm big20 TStrand a1 := hpre.2
 refine Vc.seq (Vc.region hG rfl (by trivial) (Vc.seq (Vc.region hG rfl (by trivial) ?_)))
 refine Vc.seq ?_
 refine Vc.region hG rfl ?_ ?_
 · repeat' (first | exact trivial | exact hc | exact once_ok hc | exact hs | exact renQ_sm _ _ | exact long_len hs | exact long_sm hs | exact (long_sm hs).1 | exact (long_sm hs).2.2 | exact leaves_ok (once_ok hc) | exact leaves_len (once_ok hc) (by decide) | exact (Nat.le_of_ble_eq_true rfl : (4 : Nat) ≤ 1000) | exact (Nat.le_of_ble_eq_true rfl : (3 : Nat) ≤ 1000) | exact renNew_sm (Nat.le_of_ble_eq_true rfl) | exact (by decide : (0 : Int) < 4) | exact (by decide : (4 : Int) ≤ 1000) | refine And.intro ?_ ?_ | intro _)
 refine Vc.seq (Vc.seq (Vc.region hG rfl (by trivial) ?_))
 refine Vc.cond rfl (fun h0 => ?_) (fun h0 => ?_)
 · refine Vc.seq (Vc.region hG rfl (by trivial) ?_)
   refine Vc.frz 10 rfl ?_
   refine Vc.ret ?_
   have e : renewD c a1 a2 a3 a4 = _ := ((renew_eq c a1 a2 a3 a4).trans (cT h0))
   refine ⟨⟨?_, trivial⟩, ?_, trivial⟩
   · exact (congrArg Prod.snd e).symm
   · exact (congrArg (fun r => r.1) e).symm
 · refine Vc.skip (Vc.seq ?_)
   refine Vc.regionD mixed hG rfl (by kernel_rfl) ?_ ?_
   · repeat' (first | exact trivial | exact hc | exact once_ok hc | exact hs | exact renQ_sm _ _ | exact long_len hs | exact long_sm hs | exact (long_sm hs).1 | exact (long_sm hs).2.2 | exact leaves_ok (once_ok hc) | exact leaves_len (once_ok hc) (by decide) | exact (Nat.le_of_ble_eq_true rfl : (4 : Nat) ≤ 1000) | exact (Nat.le_of_ble_eq_true rfl : (3 : Nat) ≤ 1000) | exact renNew_sm (Nat.le_of_ble_eq_true rfl) | exact (by decide : (0 : Int) < 4) | exact (by decide : (4 : Int) ≤ 1000) | refine And.intro ?_ ?_ | intro _)
   refine Vc.seq (Vc.region hG rfl (by trivial) (Vc.seq (Vc.seq ?_)))
   refine Vc.region hG rfl ?_ ?_
   · repeat' (first | exact trivial | exact hc | exact once_ok hc | exact hs | exact renQ_sm _ _ | exact long_len hs | exact long_sm hs | exact (long_sm hs).1 | exact (long_sm hs).2.2 | exact leaves_ok (once_ok hc) | exact leaves_len (once_ok hc) (by decide) | exact (Nat.le_of_ble_eq_true rfl : (4 : Nat) ≤ 1000) | exact (Nat.le_of_ble_eq_true rfl : (3 : Nat) ≤ 1000) | exact renNew_sm (Nat.le_of_ble_eq_true rfl) | exact (by decide : (0 : Int) < 4) | exact (by decide : (4 : Int) ≤ 1000) | refine And.intro ?_ ?_ | intro _)
   refine Vc.cond rfl (fun h1 => ?_) (fun h1 => ?_)
   · refine Vc.region hG rfl (by trivial) (Vc.seq ?_)
     refine Vc.regionD mixed hG rfl (by kernel_rfl) ?_ ?_
     · repeat' (first | exact trivial | exact hc | exact once_ok hc | exact hs | exact renQ_sm _ _ | exact long_len hs | exact long_sm hs | exact (long_sm hs).1 | exact (long_sm hs).2.2 | exact leaves_ok (once_ok hc) | exact leaves_len (once_ok hc) (by decide) | exact (Nat.le_of_ble_eq_true rfl : (4 : Nat) ≤ 1000) | exact (Nat.le_of_ble_eq_true rfl : (3 : Nat) ≤ 1000) | exact renNew_sm (Nat.le_of_ble_eq_true rfl) | exact (by decide : (0 : Int) < 4) | exact (by decide : (4 : Int) ≤ 1000) | refine And.intro ?_ ?_ | intro _)
     refine Vc.seq ?_
     refine Vc.region hG rfl ?_ ?_
     · repeat' (first | exact trivial | exact hc | exact once_ok hc | exact hs | exact renQ_sm _ _ | exact long_len hs | exact long_sm hs | exact (long_sm hs).1 | exact (long_sm hs).2.2 | exact leaves_ok (once_ok hc) | exact leaves_len (once_ok hc) (by decide) | exact (Nat.le_of_ble_eq_true rfl : (4 : Nat) ≤ 1000) | exact (Nat.le_of_ble_eq_true rfl : (3 : Nat) ≤ 1000) | exact renNew_sm (Nat.le_of_ble_eq_true rfl) | exact (by decide : (0 : Int) < 4) | exact (by decide : (4 : Int) ≤ 1000) | refine And.intro ?_ ?_ | intro _)
     refine Vc.seq (Vc.region hG rfl (by trivial) ?_)
     refine Vc.frz 10 rfl ?_
     refine Vc.ret ?_
     have e : renewD c a1 a2 a3 a4 = _ := ((renew_eq c a1 a2 a3 a4).trans ((cF h0).trans (cT h1)))
     refine ⟨⟨?_, trivial⟩, ?_, trivial⟩
     · exact (congrArg Prod.snd e).symm
     · exact (congrArg (fun r => r.1) e).symm
   · refine Vc.skip (Vc.seq ?_)
     refine Vc.regionD mixed hG rfl (by kernel_rfl) ?_ ?_
     · repeat' (first | exact trivial | exact hc | exact once_ok hc | exact hs | exact renQ_sm _ _ | exact long_len hs | exact long_sm hs | exact (long_sm hs).1 | exact (long_sm hs).2.2 | exact leaves_ok (once_ok hc) | exact leaves_len (once_ok hc) (by decide) | exact (Nat.le_of_ble_eq_true rfl : (4 : Nat) ≤ 1000) | exact (Nat.le_of_ble_eq_true rfl : (3 : Nat) ≤ 1000) | exact renNew_sm (Nat.le_of_ble_eq_true rfl) | exact (by decide : (0 : Int) < 4) | exact (by decide : (4 : Int) ≤ 1000) | refine And.intro ?_ ?_ | intro _)
     refine Vc.seq ?_
     refine Vc.region hG rfl ?_ ?_
     · repeat' (first | exact trivial | exact hc | exact once_ok hc | exact hs | exact renQ_sm _ _ | exact long_len hs | exact long_sm hs | exact (long_sm hs).1 | exact (long_sm hs).2.2 | exact leaves_ok (once_ok hc) | exact leaves_len (once_ok hc) (by decide) | exact (Nat.le_of_ble_eq_true rfl : (4 : Nat) ≤ 1000) | exact (Nat.le_of_ble_eq_true rfl : (3 : Nat) ≤ 1000) | exact renNew_sm (Nat.le_of_ble_eq_true rfl) | exact (by decide : (0 : Int) < 4) | exact (by decide : (4 : Int) ≤ 1000) | refine And.intro ?_ ?_ | intro _)
     refine Vc.seq (Vc.region hG rfl (by trivial) ?_)
     refine Vc.frz 10 rfl ?_
     refine Vc.ret ?_
     have e : renewD c a1 a2 a3 a4 = _ := ((renew_eq c a1 a2 a3 a4).trans ((cF h0).trans (cF h1)))
     refine ⟨⟨?_, trivial⟩, ?_, trivial⟩
     · exact (congrArg Prod.snd e).symm
     · exact (congrArg (fun r => r.1) e).symm
end Fw
