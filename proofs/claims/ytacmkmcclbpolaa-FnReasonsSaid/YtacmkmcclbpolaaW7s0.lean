/- Walks of functions of the program: what each computes. Conditions: those that each contract names. -/
import Derived.Test.YtacmkmcclbpolaaW7T
namespace Fw
open Go Go.Proofs
set_option linter.unusedSimpArgs false
set_option maxRecDepth 100000
noncomputable def F13 : Fun := ⟨[.slice (.int .u8)], [.ref Z5], fun _ => True, fun x => (curNewF x.1, ())⟩
theorem F13_ok : Meets Try.prog 13 F13 := by
 refine meets_of_vc (C := mkC 32 [2] [0,2,3,4,15] []) (mkC_ok _ _ _ _) (fnOf_ok _) Try.func13 rfl rfl rfl (by decide) rfl ?_
 rintro ⟨a0, _⟩ hwf hpre ⟨P, C, B, X, w0, M0, pv⟩ hG rfl rfl
 show Vc _ _ [(0, ⟨0, 0, .c Z0 a0⟩)] _
 have hb : List.length a0 ≤ bigLen := hwf.1.1
 refine Vc.seq (Vc.region hG rfl (by trivial) (Vc.seq (Vc.region hG rfl (by trivial) ?_)))
 refine Vc.seq (Vc.seq (Vc.region hG rfl (by trivial) (Vc.block ?_)))
 refine Vc.loopF [(3, false, .pure (.int .i64)), (4, false, .pure (.int .i64))] [0, 2] (fun v => foInv curNewG (IntKind.i64.wrap (193017 + (List.length a0 : Int))) (List.take n4k a0) v.1 v.2.1) (fun v => ((List.length (List.take n4k a0) : Int) - v.2.1).toNat) rfl ?_ ?_
 · exact foStart
 rintro ⟨(h : Int), (i : Int), _⟩ hI
 have hI : foInv curNewG (IntKind.i64.wrap (193017 + (List.length a0 : Int))) (List.take n4k a0) h i := hI
 refine Vc.seq (Vc.seq (Vc.region hG rfl (by trivial) ?_))
 refine Vc.cond rfl (fun h0 => ?_) (fun h0 => ?_)
 · have hl := cnLt (code := a0) h0
   have ri := cnRange hI hl
   refine Vc.skip (Vc.seq (Vc.block ?_))
   refine Vc.region hG rfl ?_ ?_
   · exact ri
   refine Vc.region hG rfl (by trivial) ?_
   refine ⟨Eq.trans (b := [(0, ⟨0, 0, .c Z0 a0⟩), (2, ⟨1, 0, .junk⟩)]) rfl rfl, ?_⟩
   exact foStepE (d := (0 : Int)) hI hl (cnBig a0) (cnElem hI hl)
 · have hl := cnGe (code := a0) h0
   refine Vc.exit (Vc.seq (Vc.region hG rfl (by trivial) (Vc.ret ?_)))
   refine ⟨?_, trivial⟩
   exact cnEnd hI hl
noncomputable def P22 : PFun := ⟨.pure Y4, [], [.pure (.int .i64)], fun x xs => curOk x, fun x xs => (byteF x).2, fun x xs => ((byteF x).1, ())⟩
theorem P22_ok : MeetsP Try.prog 22 P22 := by
 refine meetsP_of_vc (C := mkCP 58 [2] [0,2,3,34] [] [] [] [] [0]) (mkCP_ok _ _ _ _ _ _ _ _) (fnOf_ok _) Try.func22 rfl rfl rfl (by decide) rfl rfl rfl ?_ rfl
 rintro c ⟨_⟩ hwc hwf hpre ⟨P, C, B, X, w0, M0, pv⟩ hG rfl rfl
 show Vc _ _ [(0, ⟨0, 0, .c (.ref Z5) c⟩)] _
 refine Vc.seq (Vc.region hG rfl (by trivial) (Vc.seq (Vc.region hG rfl (by trivial) ?_)))
 refine Vc.seq ?_
 refine Vc.regionD mixed hG rfl (by kernel_rfl) ?_ ?_
 · exact ⟨(by decide : (0 : Int) ≤ 33), (by decide : (0 : Int) ≤ 47)⟩
 refine Vc.seq (Vc.seq (Vc.regionD mixed hG rfl (by kernel_rfl) (by trivial) ?_))
 refine Vc.cond rfl (fun h0 => ?_) (fun h0 => ?_)
 · have g0 : decide (c.2.1 < (List.length c.1 : Int)) = true := h0
   refine Vc.seq ?_
   refine Vc.regionD mixed hG rfl (by kernel_rfl) ?_ ?_
   · exact ⟨hpre.1, of_decide_eq_true g0⟩
   refine Vc.region hG rfl (by trivial) (Vc.seq (Vc.region hG rfl (by trivial) (Vc.ret ?_)))
   have e : byteF c = _ := (cT h0)
   refine ⟨⟨?_, trivial⟩, ?_, trivial⟩
   · exact (congrArg Prod.snd e).symm
   · exact (congrArg (fun r => r.1) e).symm
 · refine Vc.skip (Vc.seq (Vc.region hG rfl (by trivial) (Vc.ret ?_)))
   have e : byteF c = _ := (cF h0)
   refine ⟨⟨?_, trivial⟩, ?_, trivial⟩
   · exact (congrArg Prod.snd e).symm
   · exact (congrArg (fun r => r.1) e).symm
noncomputable def P18 : PFun := ⟨.pure Y4, [.int .i64], [.pure (.int .i64)], fun x xs => (fun c (_ : Int) => curOk c) x xs.1, fun x xs => (belowF x xs.1).2, fun x xs => ((belowF x xs.1).1, ())⟩
theorem P18_ok : MeetsP Try.prog 18 P18 := by
 refine meetsP_of_vc (C := mkCP 31 [4] [0,1,4,5,6,7,9,11] [] [] [] [⟨22, _, P22_ok⟩] [0]) (mkCP_ok _ _ _ _ _ _ _ _) (fnOf_ok _) Try.func18 rfl rfl rfl (by decide) rfl rfl rfl ?_ rfl
 rintro c ⟨(a1 : Int), _⟩ hwc hwf hpre ⟨P, C, B, X, w0, M0, pv⟩ hG rfl rfl
 show Vc _ _ [(0, ⟨0, 0, .c (.ref Z5) c⟩), (1, ⟨0, 0, .c (.pure (.int .i64)) a1⟩)] _
 refine Vc.seq (Vc.region hG rfl (by trivial) (Vc.seq (Vc.seq ?_)))
 refine Vc.region hG rfl (by trivial) ?_
 refine Vc.cond rfl (fun h0 => ?_) (fun h0 => ?_)
 · refine Vc.seq (Vc.region hG rfl (by trivial) (Vc.ret ?_))
   have e : belowF c a1 = _ := (cT h0)
   refine ⟨⟨?_, trivial⟩, ?_, trivial⟩
   · exact (congrArg Prod.snd e).symm
   · exact (congrArg (fun r => r.1) e).symm
 · have g0 : ¬ a1 ≤ 0 := of_decide_eq_false h0
   have g1 : a1 ≠ 0 := by omega
   refine Vc.skip (Vc.seq (Vc.seq (Vc.region hG rfl (by trivial) ?_)))
   refine Vc.cond rfl (fun h1 => ?_) (fun h1 => ?_)
   · refine Vc.seq ?_
     refine Vc.region hG rfl ?_ ?_
     · exact ⟨hpre, g1⟩
     refine Vc.ret ?_
     have e : belowF c a1 = _ := ((cF h0).trans (cT h1))
     refine ⟨⟨?_, trivial⟩, ?_, trivial⟩
     · exact (congrArg Prod.snd e).symm
     · exact (congrArg (fun r => r.1) e).symm
   · refine Vc.skip (Vc.seq ?_)
     refine Vc.region hG rfl ?_ ?_
     · repeat' (first | exact trivial | exact hpre | exact byte_ok hpre | exact byte_ok (byte_ok hpre) | refine And.intro ?_ ?_ | intro _)
     refine Vc.seq ?_
     refine Vc.region hG rfl ?_ ?_
     · repeat' (first | exact trivial | exact hpre | exact byte_ok hpre | exact byte_ok (byte_ok hpre) | refine And.intro ?_ ?_ | intro _)
     refine Vc.seq ?_
     refine Vc.region hG rfl ?_ ?_
     · repeat' (first | exact trivial | exact hpre | exact byte_ok hpre | exact byte_ok (byte_ok hpre) | refine And.intro ?_ ?_ | intro _)
     refine Vc.seq ?_
     refine Vc.region hG rfl ?_ ?_
     · exact g1
     refine Vc.ret ?_
     have e : belowF c a1 = _ := ((cF h0).trans (cF h1))
     refine ⟨⟨?_, trivial⟩, ?_, trivial⟩
     · exact (congrArg Prod.snd e).symm
     · exact (congrArg (fun r => r.1) e).symm
noncomputable def P19 : PFun := ⟨.pure Y4, [], [.pure Y1], fun x xs => curOk x, fun x xs => (spanD x).2, fun x xs => ((spanD x).1, ())⟩
theorem P19_ok : MeetsP Try.prog 19 P19 := by
 refine meetsP_of_vc (C := mkCP 12 [2] [0,2,3] [] [] [] [⟨18, _, P18_ok⟩] [0]) (mkCP_ok _ _ _ _ _ _ _ _) (fnOf_ok _) Try.func19 rfl rfl rfl (by decide) rfl rfl rfl ?_ rfl
 rintro c ⟨_⟩ hwc hwf hpre ⟨P, C, B, X, w0, M0, pv⟩ hG rfl rfl
 show Vc _ _ [(0, ⟨0, 0, .c (.ref Z5) c⟩)] _
 refine Vc.seq (Vc.region hG rfl (by trivial) (Vc.seq ?_))
 refine Vc.region hG rfl ?_ ?_
 · repeat' (first | exact trivial | exact hpre | exact below_ok hpre | refine And.intro ?_ ?_ | intro _)
 refine Vc.seq ?_
 refine Vc.region hG rfl ?_ ?_
 · repeat' (first | exact trivial | exact hpre | exact below_ok hpre | refine And.intro ?_ ?_ | intro _)
 refine Vc.ret ?_
 refine ⟨⟨?_, trivial⟩, ?_, trivial⟩
 all_goals exact rfl
noncomputable def P20 : PFun := ⟨.pure Y4, [.slice (.int .i64)], [.pure (.int .i64)], fun x xs => (fun c (l : List Int) => curOk c ∧ 0 < List.length l) x xs.1, fun x xs => (intF x xs.1).2, fun x xs => ((intF x xs.1).1, ())⟩
theorem P20_ok : MeetsP Try.prog 20 P20 := by
 refine meetsP_of_vc (C := mkCP 12 [4] [0,1,4] [] [] [] [⟨18, _, P18_ok⟩] [0]) (mkCP_ok _ _ _ _ _ _ _ _) (fnOf_ok _) Try.func20 rfl rfl rfl (by decide) rfl rfl rfl ?_ rfl
 rintro c ⟨a1, _⟩ hwc hwf hpre ⟨P, C, B, X, w0, M0, pv⟩ hG rfl rfl
 show Vc _ _ [(0, ⟨0, 0, .c (.ref Z5) c⟩), (1, ⟨0, 0, .c (.pure (.slice (.int .i64))) a1⟩)] _
 refine Vc.seq (Vc.region hG rfl (by trivial) (Vc.seq ?_))
 refine Vc.region hG rfl ?_ ?_
 · exact ⟨hpre.1, int_range hpre.2⟩
 refine Vc.ret ?_
 refine ⟨⟨?_, trivial⟩, ?_, trivial⟩
 all_goals exact rfl
noncomputable def P14 : PFun := ⟨.pure Y4, [], [.pure Y6], fun x xs => curOk x, fun x xs => (verdD x).2, fun x xs => ((verdD x).1, ())⟩
theorem P14_ok : MeetsP Try.prog 14 P14 := by
 refine meetsP_of_vc (C := mkCP 31 [2] [0,2,3,13,14,20,26] [] [] [] [⟨18, _, P18_ok⟩, ⟨19, _, P19_ok⟩, ⟨20, _, P20_ok⟩] [0]) (mkCP_ok _ _ _ _ _ _ _ _) (fnOf_ok _) Try.func14 rfl rfl rfl (by decide) rfl rfl rfl ?_ rfl
 rintro c ⟨_⟩ hwc hwf hpre ⟨P, C, B, X, w0, M0, pv⟩ hG rfl rfl
 show Vc _ _ [(0, ⟨0, 0, .c (.ref Z5) c⟩)] _
 refine Vc.seq (Vc.region hG rfl (by trivial) (Vc.seq ?_))
 refine Vc.region hG rfl ?_ ?_
 · repeat' (first | exact trivial | exact hpre | exact below_ok hpre | exact below_ok (below_ok hpre) | exact below_ok (below_ok (below_ok hpre)) | exact spanD_ok (below_ok (below_ok hpre)) | exact vd4_ok hpre | refine And.intro ?_ ?_ | intro _)
 refine Vc.seq (Vc.seq ?_)
 refine Vc.region hG rfl ?_ ?_
 · repeat' (first | exact trivial | exact hpre | exact below_ok hpre | exact below_ok (below_ok hpre) | exact below_ok (below_ok (below_ok hpre)) | exact spanD_ok (below_ok (below_ok hpre)) | exact vd4_ok hpre | refine And.intro ?_ ?_ | intro _)
 refine Vc.block (Vc.seq (Vc.region hG rfl (by trivial) ?_))
 refine Vc.cond rfl (fun h0 => ?_) (fun h0 => ?_)
 · refine Vc.region hG rfl ?_ ?_
   · repeat' (first | exact trivial | exact hpre | exact below_ok hpre | exact below_ok (below_ok hpre) | exact below_ok (below_ok (below_ok hpre)) | exact spanD_ok (below_ok (below_ok hpre)) | exact vd4_ok hpre | refine And.intro ?_ ?_ | intro _)
   refine Vc.seq (Vc.region hG rfl (by trivial) (Vc.ret ?_))
   have e : verdD c = _ := (cT h0)
   refine ⟨⟨?_, trivial⟩, ?_, trivial⟩
   · exact (congrArg Prod.snd e).symm
   · exact (congrArg (fun r => r.1) e).symm
 · refine Vc.seq (Vc.region hG rfl (by trivial) ?_)
   refine Vc.cond rfl (fun h1 => ?_) (fun h1 => ?_)
   · refine Vc.region hG rfl ?_ ?_
     · exact ⟨vd4_ok hpre, Nat.succ_pos _⟩
     refine Vc.seq (Vc.region hG rfl (by trivial) (Vc.ret ?_))
     have e : verdD c = _ := ((cF h0).trans (cT h1))
     refine ⟨⟨?_, trivial⟩, ?_, trivial⟩
     · exact (congrArg Prod.snd e).symm
     · exact (congrArg (fun r => r.1) e).symm
   · refine Vc.seq (Vc.region hG rfl (by trivial) ?_)
     refine Vc.cond rfl (fun h2 => ?_) (fun h2 => ?_)
     · refine Vc.region hG rfl (by trivial) (Vc.seq (Vc.region hG rfl (by trivial) (Vc.ret ?_)))
       have e : verdD c = _ := ((cF h0).trans ((cF h1).trans (cT h2)))
       refine ⟨⟨?_, trivial⟩, ?_, trivial⟩
       · exact (congrArg Prod.snd e).symm
       · exact (congrArg (fun r => r.1) e).symm
     · refine Vc.skip (Vc.seq (Vc.region hG rfl (by trivial) (Vc.ret ?_)))
       have e : verdD c = _ := ((cF h0).trans ((cF h1).trans (cF h2)))
       refine ⟨⟨?_, trivial⟩, ?_, trivial⟩
       · exact (congrArg Prod.snd e).symm
       · exact (congrArg (fun r => r.1) e).symm
noncomputable def F5 : Fun := ⟨[.slice (.int .u8)], [.pure Y6], fun _ => True, fun x => ((fun code => (verdD (curNewF code)).1) x.1, ())⟩
theorem F5_ok : Meets Try.prog 5 F5 := by
 refine meets_of_vc (C := mkCP 8 [2, 3] [0,2,3] [⟨13, _, F13_ok⟩] [] [] [⟨14, _, P14_ok⟩] []) (mkCP_ok _ _ _ _ _ _ _ _) (fnOf_ok _) Try.func5 rfl rfl rfl (by decide) rfl ?_
 rintro ⟨a0, _⟩ hwf hpre ⟨P, C, B, X, w0, M0, pv⟩ hG rfl rfl
 show Vc _ _ [(0, ⟨0, 0, .c Z0 a0⟩)] _
 refine Vc.seq (Vc.region hG rfl (by trivial) (Vc.seq (Vc.region hG rfl (by trivial) ?_)))
 refine Vc.seq ?_
 refine Vc.region hG rfl ?_ ?_
 · exact newCur_ok hwf.1.1
 refine Vc.ret ?_
 refine ⟨?_, trivial⟩
 all_goals exact rfl
end Fw
