/- Walks of functions of the program: what each computes. Conditions: those that each contract names. -/
import Derived.Test.YtcfpjofohnaolaaGreatW41T
namespace Fw
open Go Go.Proofs
set_option linter.unusedSimpArgs false
set_option maxRecDepth 100000
noncomputable def F22 : Fun := ⟨[.slice (.int .u8)], [.ref Z17], fun _ => True, fun x => (curNewF x.1, ())⟩
theorem F22_ok : Meets Tryz.prog 22 F22 := by
 refine meets_of_vc (C := mkC 32 [2] [0,2,3,4,15] []) (mkC_ok _ _ _ _) (fnOf_ok _) Tryz.func22 rfl rfl rfl (by decide) rfl ?_
 rintro ⟨a0, _⟩ hwf hpre ⟨P, C, B, X, w0, M0, pv⟩ hG rfl rfl
 show Vc _ _ [(0, ⟨0, 0, .c Z1 a0⟩)] _
 have hb : List.length a0 ≤ bigLen := hwf.1.1
 refine Vc.seq (Vc.region hG rfl (by trivial) (Vc.seq (Vc.region hG rfl (by trivial) ?_)))
 refine Vc.seq (Vc.seq (Vc.region hG rfl (by trivial) (Vc.block ?_)))
 refine Vc.loopF [(3, false, .pure (.int .i64)), (4, false, .pure (.int .i64))] [0, 2] (fun v => foInv curNewG (IntKind.i64.wrap (193017 + (List.length a0 : Int))) (List.take n4k a0) v.1 v.2.1) (fun v => ((List.length (List.take n4k a0) : Int) - v.2.1).toNat) rfl ?_ ?_
 · exact foStart
 rintro ⟨(h : Int), (i : Int), _⟩ hI
 have hI : foInv curNewG (IntKind.i64.wrap (193017 + (List.length a0 : Int))) (List.take n4k a0) h i := hI
 refine Vc.seq (Vc.seq (Vc.region hG rfl (by trivial) ?_))
 refine Vc.cond rfl (fun h0 => ?_) (fun h0 => ?_)
 · have hl := cnLt (code := a0) h0
   have ri := cnRange hI hl
   refine Vc.skip (Vc.seq (Vc.block ?_))
   refine Vc.region hG rfl ?_ ?_
   · exact ri
   refine Vc.region hG rfl (by trivial) ?_
   refine ⟨Eq.trans (b := [(0, ⟨0, 0, .c Z1 a0⟩), (2, ⟨1, 0, .junk⟩)]) rfl rfl, ?_⟩
   exact foStepE (d := (0 : Int)) hI hl (cnBig a0) (cnElem hI hl)
 · have hl := cnGe (code := a0) h0
   refine Vc.exit (Vc.seq (Vc.region hG rfl (by trivial) (Vc.ret ?_)))
   refine ⟨?_, trivial⟩
   exact cnEnd hI hl
noncomputable def P69 : PFun := ⟨.pure Y13, [], [.pure (.int .i64)], fun x xs => curOk x, fun x xs => (byteF x).2, fun x xs => ((byteF x).1, ())⟩
theorem P69_ok : MeetsP Tryz.prog 69 P69 := by
 refine meetsP_of_vc (C := mkCP 58 [2] [0,2,3,34] [] [] [] [] [0]) (mkCP_ok _ _ _ _ _ _ _ _) (fnOf_ok _) Tryz.func69 rfl rfl rfl (by decide) rfl rfl rfl ?_ rfl
 rintro c ⟨_⟩ hwc hwf hpre ⟨P, C, B, X, w0, M0, pv⟩ hG rfl rfl
 show Vc _ _ [(0, ⟨0, 0, .c (.ref Z17) c⟩)] _
 refine Vc.seq (Vc.region hG rfl (by trivial) (Vc.seq (Vc.region hG rfl (by trivial) ?_)))
 refine Vc.seq ?_
 refine Vc.regionD mixed hG rfl (by kernel_rfl) ?_ ?_
 · exact ⟨(by decide : (0 : Int) ≤ 33), (by decide : (0 : Int) ≤ 47)⟩
 refine Vc.seq (Vc.seq (Vc.regionD mixed hG rfl (by kernel_rfl) (by trivial) ?_))
 refine Vc.cond rfl (fun h0 => ?_) (fun h0 => ?_)
 · have g0 : decide (c.2.1 < (List.length c.1 : Int)) = true := h0
   refine Vc.seq ?_
   refine Vc.regionD mixed hG rfl (by kernel_rfl) ?_ ?_
   · exact ⟨hpre.1, of_decide_eq_true g0⟩
   refine Vc.region hG rfl (by trivial) (Vc.seq (Vc.region hG rfl (by trivial) (Vc.ret ?_)))
   have e : byteF c = _ := ((byte_eq c).trans (cT h0))
   refine ⟨⟨?_, trivial⟩, ?_, trivial⟩
   · exact (congrArg Prod.snd e).symm
   · exact (congrArg (fun r => r.1) e).symm
 · refine Vc.skip (Vc.seq (Vc.region hG rfl (by trivial) (Vc.ret ?_)))
   have e : byteF c = _ := ((byte_eq c).trans (cF h0))
   refine ⟨⟨?_, trivial⟩, ?_, trivial⟩
   · exact (congrArg Prod.snd e).symm
   · exact (congrArg (fun r => r.1) e).symm
noncomputable def P38 : PFun := ⟨.pure Y13, [.int .i64], [.pure (.int .i64)], fun x xs => (fun c (_ : Int) => curOk c) x xs.1, fun x xs => (belowF x xs.1).2, fun x xs => ((belowF x xs.1).1, ())⟩
theorem P38_ok : MeetsP Tryz.prog 38 P38 := by
 refine meetsP_of_vc (C := mkCP 31 [4] [0,1,4,5,6,7,9,11] [] [] [] [⟨69, _, P69_ok⟩] [0]) (mkCP_ok _ _ _ _ _ _ _ _) (fnOf_ok _) Tryz.func38 rfl rfl rfl (by decide) rfl rfl rfl ?_ rfl
 rintro c ⟨(a1 : Int), _⟩ hwc hwf hpre ⟨P, C, B, X, w0, M0, pv⟩ hG rfl rfl
 show Vc _ _ [(0, ⟨0, 0, .c (.ref Z17) c⟩), (1, ⟨0, 0, .c (.pure (.int .i64)) a1⟩)] _
 refine Vc.seq (Vc.region hG rfl (by trivial) (Vc.seq (Vc.seq ?_)))
 refine Vc.region hG rfl (by trivial) ?_
 refine Vc.cond rfl (fun h0 => ?_) (fun h0 => ?_)
 · refine Vc.seq (Vc.region hG rfl (by trivial) (Vc.ret ?_))
   have e : belowF c a1 = _ := ((bel_eq c a1).trans (cT h0))
   refine ⟨⟨?_, trivial⟩, ?_, trivial⟩
   · exact (congrArg Prod.snd e).symm
   · exact (congrArg (fun r => r.1) e).symm
 · have g0 : ¬ a1 ≤ 0 := of_decide_eq_false h0
   have g1 : a1 ≠ 0 := by omega
   refine Vc.skip (Vc.seq (Vc.seq (Vc.region hG rfl (by trivial) ?_)))
   refine Vc.cond rfl (fun h1 => ?_) (fun h1 => ?_)
   · refine Vc.seq ?_
     refine Vc.region hG rfl ?_ ?_
     · exact ⟨hpre, g1⟩
     refine Vc.ret ?_
     have e : belowF c a1 = _ := ((bel_eq c a1).trans ((cF h0).trans (cT h1)))
     refine ⟨⟨?_, trivial⟩, ?_, trivial⟩
     · exact (congrArg Prod.snd e).symm
     · exact (congrArg (fun r => r.1) e).symm
   · refine Vc.skip (Vc.seq ?_)
     refine Vc.region hG rfl ?_ ?_
     · repeat' (first | exact trivial | exact hpre | exact byte_ok hpre | exact byte_ok (byte_ok hpre) | refine And.intro ?_ ?_ | intro _)
     refine Vc.seq ?_
     refine Vc.region hG rfl ?_ ?_
     · repeat' (first | exact trivial | exact hpre | exact byte_ok hpre | exact byte_ok (byte_ok hpre) | refine And.intro ?_ ?_ | intro _)
     refine Vc.seq ?_
     refine Vc.region hG rfl ?_ ?_
     · repeat' (first | exact trivial | exact hpre | exact byte_ok hpre | exact byte_ok (byte_ok hpre) | refine And.intro ?_ ?_ | intro _)
     refine Vc.seq ?_
     refine Vc.region hG rfl ?_ ?_
     · exact g1
     refine Vc.ret ?_
     have e : belowF c a1 = _ := ((bel_eq c a1).trans ((cF h0).trans (cF h1)))
     refine ⟨⟨?_, trivial⟩, ?_, trivial⟩
     · exact (congrArg Prod.snd e).symm
     · exact (congrArg (fun r => r.1) e).symm
noncomputable def P159 : PFun := ⟨.pure Y13, [.slice (.str)], [.pure (.str)], fun x xs => (fun c (l : List (List UInt8)) => curOk c ∧ 0 < List.length l) x xs.1, fun x xs => (strF x xs.1).2, fun x xs => ((strF x xs.1).1, ())⟩
theorem P159_ok : MeetsP Tryz.prog 159 P159 := by
 refine meetsP_of_vc (C := mkCP 12 [4] [0,1,4] [] [] [] [⟨38, _, P38_ok⟩] [0]) (mkCP_ok _ _ _ _ _ _ _ _) (fnOf_ok _) Tryz.func159 rfl rfl rfl (by decide) rfl rfl rfl ?_ rfl
 rintro c ⟨a1, _⟩ hwc hwf hpre ⟨P, C, B, X, w0, M0, pv⟩ hG rfl rfl
 show Vc _ _ [(0, ⟨0, 0, .c (.ref Z17) c⟩), (1, ⟨0, 0, .c (.pure (.slice (.str))) a1⟩)] _
 refine Vc.seq (Vc.region hG rfl (by trivial) (Vc.seq ?_))
 refine Vc.region hG rfl ?_ ?_
 · exact ⟨hpre.1, int_range hpre.2⟩
 refine Vc.ret ?_
 refine ⟨⟨?_, trivial⟩, ?_, trivial⟩
 all_goals exact rfl
noncomputable def P153 : PFun := ⟨.pure Y13, [], [.pure (.str)], fun x xs => curOk x, fun x xs => (wordF x).2, fun x xs => ((wordF x).1, ())⟩
theorem P153_ok : MeetsP Tryz.prog 153 P153 := by
 refine meetsP_of_vc (C := mkCP 6 [2] [0,2] [] [] [] [⟨159, _, P159_ok⟩] [0]) (mkCP_ok _ _ _ _ _ _ _ _) (fnOf_ok _) Tryz.func153 rfl rfl rfl (by decide) rfl rfl rfl ?_ rfl
 rintro c ⟨_⟩ hwc hwf hpre ⟨P, C, B, X, w0, M0, pv⟩ hG rfl rfl
 show Vc _ _ [(0, ⟨0, 0, .c (.ref Z17) c⟩)] _
 refine Vc.seq (Vc.region hG rfl (by trivial) (Vc.seq ?_))
 refine Vc.region hG rfl ?_ ?_
 · exact ⟨hpre, Nat.succ_pos _⟩
 refine Vc.ret ?_
 refine ⟨⟨?_, trivial⟩, ?_, trivial⟩
 all_goals exact rfl
noncomputable def F98 : Fun := ⟨[.int .i64, .int .i64, .int .i64], [.pure (.bool)], fun _ => True, fun x => (inRangeF x.1 x.2.1 x.2.2.1, ())⟩
theorem F98_ok : Meets Tryz.prog 98 F98 := by
 refine meets_of_vc (C := mkC 15 [6] [0,1,2,6] []) (mkC_ok _ _ _ _) (fnOf_ok _) Tryz.func98 rfl rfl rfl (by decide) rfl ?_
 rintro ⟨(a0 : Int), (a1 : Int), (a2 : Int), _⟩ hwf hpre ⟨P, C, B, X, w0, M0, pv⟩ hG rfl rfl
 show Vc _ _ [(0, ⟨0, 0, .c (.pure (.int .i64)) a0⟩), (1, ⟨0, 0, .c (.pure (.int .i64)) a1⟩), (2, ⟨0, 0, .c (.pure (.int .i64)) a2⟩)] _
 refine Vc.seq (Vc.region hG rfl (by trivial) (Vc.seq (Vc.region hG rfl (by trivial) ?_)))
 refine Vc.ret ?_
 refine ⟨?_, trivial⟩
 all_goals exact rfl
noncomputable def F152 : Fun := ⟨[.int .i64, .int .i64], [.pure (.int .i64)], fun _ => True, fun x => (modF x.1 x.2.1, ())⟩
theorem F152_ok : Meets Tryz.prog 152 F152 := by
 refine meets_of_vc (C := mkC 15 [4] [0,1,4,7] [⟨98, _, F98_ok⟩]) (mkC_ok _ _ _ _) (fnOf_ok _) Tryz.func152 rfl rfl rfl (by decide) rfl ?_
 rintro ⟨(a0 : Int), (a1 : Int), _⟩ hwf hpre ⟨P, C, B, X, w0, M0, pv⟩ hG rfl rfl
 show Vc _ _ [(0, ⟨0, 0, .c (.pure (.int .i64)) a0⟩), (1, ⟨0, 0, .c (.pure (.int .i64)) a1⟩)] _
 refine Vc.seq (Vc.region hG rfl (by trivial) (Vc.seq (Vc.seq ?_)))
 refine Vc.region hG rfl (by trivial) ?_
 refine Vc.cond rfl (fun h0 => ?_) (fun h0 => ?_)
 · have g0 : (!(inRangeF a1 1 1000000000000)) = true := h0
   refine Vc.seq (Vc.region hG rfl (by trivial) (Vc.ret ?_))
   refine ⟨?_, trivial⟩
   show (0 : Int) = modF a0 a1
   unfold modF
   rw [if_neg (by simpa using g0)]
 · have g0 : (!(inRangeF a1 1 1000000000000)) = false := h0
   refine Vc.skip (Vc.seq ?_)
   refine Vc.region hG rfl ?_ ?_
   · exact ⟨inR_pos h0, inR_pos h0⟩
   refine Vc.ret ?_
   refine ⟨?_, trivial⟩
   show _ = modF a0 a1
   unfold modF
   rw [if_pos (by simpa using g0)]
noncomputable def F135 : Fun := ⟨[.slice (.int .i64)], [.pure (.int .i64)], fun _ => True, fun x => (hashF x.1, ())⟩
theorem F135_ok : Meets Tryz.prog 135 F135 := by
 refine meets_of_vc (C := mkC 22 [2] [0,2,3,4,8] [⟨152, _, F152_ok⟩]) (mkC_ok _ _ _ _) (fnOf_ok _) Tryz.func135 rfl rfl rfl (by decide) rfl ?_
 rintro ⟨a0, _⟩ hwf hpre ⟨P, C, B, X, w0, M0, pv⟩ hG rfl rfl
 show Vc _ _ [(0, ⟨0, 0, .c Z3 a0⟩)] _
 have hb : List.length a0 ≤ bigLen := hwf.1.1
 refine Vc.seq (Vc.region hG rfl (by trivial) (Vc.seq (Vc.region hG rfl (by trivial) ?_)))
 refine Vc.seq (Vc.seq (Vc.region hG rfl (by trivial) (Vc.block ?_)))
 refine Vc.loopF [(3, false, .pure (.int .i64)), (4, false, .pure (.int .i64))] [0, 2] (fun v => foInv (hstep) (11) a0 v.1 v.2.1) (fun v => ((List.length a0 : Int) - v.2.1).toNat) rfl ?_ ?_
 · exact foStart
 rintro ⟨acc, (i : Int), _⟩ hI
 have hI : foInv (hstep) (11) a0 acc i := hI
 refine Vc.seq (Vc.seq (Vc.region hG rfl (by trivial) ?_))
 refine Vc.cond rfl (fun h0 => ?_) (fun h0 => ?_)
 · have hl : i < (List.length a0 : Int) := of_decide_eq_true h0
   refine Vc.skip (Vc.seq (Vc.block ?_))
   refine Vc.region hG rfl ?_ ?_
   · exact ⟨foRange hI hl, trivial, (show (2147483647 : Int) ≠ 0 by decide)⟩
   refine Vc.region hG rfl (by trivial) ?_
   refine ⟨rfl, ?_⟩
   exact foStep hI hl hb
 · have hl : ¬ i < (List.length a0 : Int) := of_decide_eq_false h0
   refine Vc.exit (Vc.seq (Vc.region hG rfl (by trivial) (Vc.ret ?_)))
   refine ⟨?_, trivial⟩
   exact foEnd hI hl
noncomputable def F115 : Fun := ⟨[.int .i64, .slice (.int .i64)], [.pure (.int .i64)], fun x => (fun (_ : Int) (l : List Int) => l.length ≤ 1000000001) x.1 x.2.1, fun x => (keyedF x.1 x.2.1, ())⟩
theorem F115_ok : Meets Tryz.prog 115 F115 := by
 refine meets_of_vc (C := mkC 13 [4] [0,1,4] [⟨135, _, F135_ok⟩]) (mkC_ok _ _ _ _) (fnOf_ok _) Tryz.func115 rfl rfl rfl (by decide) rfl ?_
 rintro ⟨(a0 : Int), a1, _⟩ hwf hpre ⟨P, C, B, X, w0, M0, pv⟩ hG rfl rfl
 show Vc _ _ [(0, ⟨0, 0, .c (.pure (.int .i64)) a0⟩), (1, ⟨0, 0, .c Z3 a1⟩)] _
 have hp : List.length a1 ≤ 1000000001 := hpre
 refine Vc.seq (Vc.region hG rfl (by trivial) (Vc.seq ?_))
 refine Vc.region hG rfl ?_ ?_
 · refine ⟨?_, ?_, trivial⟩
   · show 1 + List.length a1 ≤ maxApp
     unfold maxApp; omega
   · show (List.length a1 + 1) + 1 ≤ maxApp
     unfold maxApp; omega
 refine Vc.ret ?_
 refine ⟨?_, trivial⟩
 all_goals exact rfl
noncomputable def F160 : Fun := ⟨[.int .i64, .int .i64], [.pure (.int .i64)], fun _ => True, fun x => ((fun (a b : Int) => max a b) x.1 x.2.1, ())⟩
theorem F160_ok : Meets Tryz.prog 160 F160 := by
 refine meets_of_vc (C := mkC 10 [4] [0,1,4,7] []) (mkC_ok _ _ _ _) (fnOf_ok _) Tryz.func160 rfl rfl rfl (by decide) rfl ?_
 rintro ⟨(a0 : Int), (a1 : Int), _⟩ hwf hpre ⟨P, C, B, X, w0, M0, pv⟩ hG rfl rfl
 show Vc _ _ [(0, ⟨0, 0, .c (.pure (.int .i64)) a0⟩), (1, ⟨0, 0, .c (.pure (.int .i64)) a1⟩)] _
 refine Vc.seq (Vc.region hG rfl (by trivial) (Vc.seq (Vc.seq ?_)))
 refine Vc.region hG rfl (by trivial) ?_
 refine Vc.cond rfl (fun h0 => ?_) (fun h0 => ?_)
 · refine Vc.seq (Vc.region hG rfl (by trivial) (Vc.ret ?_))
   refine ⟨?_, trivial⟩
   exact maxT h0
 · refine Vc.skip (Vc.seq (Vc.region hG rfl (by trivial) (Vc.ret ?_)))
   refine ⟨?_, trivial⟩
   exact maxE h0
end Fw
