/- Walks of functions of the program: what each computes. Conditions: those that each contract names. -/
import Derived.Test.YtacmkmcclbpolaaGreatW36T
namespace Fw
open Go Go.Proofs
set_option linter.unusedSimpArgs false
set_option maxRecDepth 100000
noncomputable def F66 : Fun := ⟨[.slice (.int .u8)], [.ref Z17], fun _ => True, fun x => (curNewF x.1, ())⟩
theorem F66_ok : Meets Tryz.prog 66 F66 := by
 refine meets_of_vc (C := mkC 32 [2] [0,2,3,4,15] []) (mkC_ok _ _ _ _) (fnOf_ok _) Tryz.func66 rfl rfl rfl (by decide) rfl ?_
 rintro ⟨a0, _⟩ hwf hpre ⟨P, C, B, X, w0, M0, pv⟩ hG rfl rfl
 show Vc _ _ [(0, ⟨0, 0, .c Z1 a0⟩)] _
 have hb : List.length a0 ≤ bigLen := hwf.1.1
 refine Vc.seq (Vc.region hG rfl (by trivial) (Vc.seq (Vc.region hG rfl (by trivial) ?_)))
 refine Vc.seq (Vc.seq (Vc.region hG rfl (by trivial) (Vc.block ?_)))
 refine Vc.loopF [(3, false, .pure (.int .i64)), (4, false, .pure (.int .i64))] [0, 2] (fun v => foInv curNewG (IntKind.i64.wrap (193017 + (List.length a0 : Int))) (List.take n4k a0) v.1 v.2.1) (fun v => ((List.length (List.take n4k a0) : Int) - v.2.1).toNat) rfl ?_ ?_
 · exact foStart
 rintro ⟨(h : Int), (i : Int), _⟩ hI
 have hI : foInv curNewG (IntKind.i64.wrap (193017 + (List.length a0 : Int))) (List.take n4k a0) h i := hI
 refine Vc.seq (Vc.seq (Vc.region hG rfl (by trivial) ?_))
 refine Vc.cond rfl (fun h0 => ?_) (fun h0 => ?_)
 · have hl := cnLt (code := a0) h0
   have ri := cnRange hI hl
   refine Vc.skip (Vc.seq (Vc.block ?_))
   refine Vc.region hG rfl ?_ ?_
   · exact ri
   refine Vc.region hG rfl (by trivial) ?_
   refine ⟨Eq.trans (b := [(0, ⟨0, 0, .c Z1 a0⟩), (2, ⟨1, 0, .junk⟩)]) rfl rfl, ?_⟩
   exact foStepE (d := (0 : Int)) hI hl (cnBig a0) (cnElem hI hl)
 · have hl := cnGe (code := a0) h0
   refine Vc.exit (Vc.seq (Vc.region hG rfl (by trivial) (Vc.ret ?_)))
   refine ⟨?_, trivial⟩
   exact cnEnd hI hl
noncomputable def P106 : PFun := ⟨.pure Y13, [], [.pure (.int .i64)], fun x _ => curOk x, fun x _ => (byteF x).2, fun x _ => ((byteF x).1, ())⟩
theorem P106_ok : MeetsP Tryz.prog 106 P106 := by
 refine meetsP_of_vc (C := mkCP 58 [2] [0,2,3,34] [] [] [] [] [0]) (mkCP_ok _ _ _ _ _ _ _ _) (fnOf_ok _) Tryz.func106 rfl rfl rfl (by decide) rfl rfl rfl ?_ rfl
 rintro c ⟨_⟩ hwc hwf hpre ⟨P, C, B, X, w0, M0, pv⟩ hG rfl rfl
 show Vc _ _ [(0, ⟨0, 0, .c (.ref Z17) c⟩)] _
 refine Vc.seq (Vc.region hG rfl (by trivial) (Vc.seq (Vc.region hG rfl (by trivial) ?_)))
 refine Vc.seq ?_
 refine Vc.regionD mixed hG rfl (by kernel_rfl) ?_ ?_
 · exact ⟨(by decide : (0 : Int) ≤ 33), (by decide : (0 : Int) ≤ 47)⟩
 refine Vc.seq (Vc.seq (Vc.regionD mixed hG rfl (by kernel_rfl) (by trivial) ?_))
 refine Vc.cond rfl (fun h0 => ?_) (fun h0 => ?_)
 · have g0 : decide (c.2.1 < (List.length c.1 : Int)) = true := h0
   refine Vc.seq ?_
   refine Vc.regionD mixed hG rfl (by kernel_rfl) ?_ ?_
   · exact ⟨hpre.1, of_decide_eq_true g0⟩
   refine Vc.region hG rfl (by trivial) (Vc.seq (Vc.region hG rfl (by trivial) (Vc.ret ?_)))
   have e : byteF c = _ := ((byte_eq c).trans (cT h0))
   refine ⟨⟨?_, trivial⟩, ?_, trivial⟩
   · exact (congrArg Prod.snd e).symm
   · exact (congrArg (fun r => r.1) e).symm
 · refine Vc.skip (Vc.seq (Vc.region hG rfl (by trivial) (Vc.ret ?_)))
   have e : byteF c = _ := ((byte_eq c).trans (cF h0))
   refine ⟨⟨?_, trivial⟩, ?_, trivial⟩
   · exact (congrArg Prod.snd e).symm
   · exact (congrArg (fun r => r.1) e).symm
noncomputable def P67 : PFun := ⟨.pure Y13, [.int .i64], [.pure (.int .i64)], fun x xs => (fun c (_ : Int) => curOk c) x xs.1, fun x xs => (belowF x xs.1).2, fun x xs => ((belowF x xs.1).1, ())⟩
theorem P67_ok : MeetsP Tryz.prog 67 P67 := by
 refine meetsP_of_vc (C := mkCP 31 [4] [0,1,4,5,6,7,9,11] [] [] [] [⟨106, _, P106_ok⟩] [0]) (mkCP_ok _ _ _ _ _ _ _ _) (fnOf_ok _) Tryz.func67 rfl rfl rfl (by decide) rfl rfl rfl ?_ rfl
 rintro c ⟨(a1 : Int), _⟩ hwc hwf hpre ⟨P, C, B, X, w0, M0, pv⟩ hG rfl rfl
 show Vc _ _ [(0, ⟨0, 0, .c (.ref Z17) c⟩), (1, ⟨0, 0, .c (.pure (.int .i64)) a1⟩)] _
 refine Vc.seq (Vc.region hG rfl (by trivial) (Vc.seq (Vc.seq ?_)))
 refine Vc.region hG rfl (by trivial) ?_
 refine Vc.cond rfl (fun h0 => ?_) (fun h0 => ?_)
 · refine Vc.seq (Vc.region hG rfl (by trivial) (Vc.ret ?_))
   have e : belowF c a1 = _ := ((bel_eq c a1).trans (cT h0))
   refine ⟨⟨?_, trivial⟩, ?_, trivial⟩
   · exact (congrArg Prod.snd e).symm
   · exact (congrArg (fun r => r.1) e).symm
 · have g0 : ¬ a1 ≤ 0 := of_decide_eq_false h0
   have g1 : a1 ≠ 0 := by omega
   refine Vc.skip (Vc.seq (Vc.seq (Vc.region hG rfl (by trivial) ?_)))
   refine Vc.cond rfl (fun h1 => ?_) (fun h1 => ?_)
   · refine Vc.seq ?_
     refine Vc.region hG rfl ?_ ?_
     · exact ⟨hpre, g1⟩
     refine Vc.ret ?_
     have e : belowF c a1 = _ := ((bel_eq c a1).trans ((cF h0).trans (cT h1)))
     refine ⟨⟨?_, trivial⟩, ?_, trivial⟩
     · exact (congrArg Prod.snd e).symm
     · exact (congrArg (fun r => r.1) e).symm
   · refine Vc.skip (Vc.seq ?_)
     refine Vc.region hG rfl ?_ ?_
     · repeat' (first | exact trivial | exact hpre | exact byte_ok hpre | exact byte_ok (byte_ok hpre) | refine And.intro ?_ ?_ | intro _)
     refine Vc.seq ?_
     refine Vc.region hG rfl ?_ ?_
     · repeat' (first | exact trivial | exact hpre | exact byte_ok hpre | exact byte_ok (byte_ok hpre) | refine And.intro ?_ ?_ | intro _)
     refine Vc.seq ?_
     refine Vc.region hG rfl ?_ ?_
     · repeat' (first | exact trivial | exact hpre | exact byte_ok hpre | exact byte_ok (byte_ok hpre) | refine And.intro ?_ ?_ | intro _)
     refine Vc.seq ?_
     refine Vc.region hG rfl ?_ ?_
     · exact g1
     refine Vc.ret ?_
     have e : belowF c a1 = _ := ((bel_eq c a1).trans ((cF h0).trans (cF h1)))
     refine ⟨⟨?_, trivial⟩, ?_, trivial⟩
     · exact (congrArg Prod.snd e).symm
     · exact (congrArg (fun r => r.1) e).symm
noncomputable def F69 : Fun := ⟨[], [.own Z27], fun _ => True, fun x => (keysT , ())⟩
theorem F69_ok : Meets Tryz.prog 69 F69 := by
 refine meets_of_vc (C := mkC 12 [0] [0] []) (mkC_ok _ _ _ _) (fnOf_ok _) Tryz.func69 rfl rfl rfl (by decide) rfl ?_
 rintro ⟨_⟩ hwf hpre ⟨P, C, B, X, w0, M0, pv⟩ hG rfl rfl
 show Vc _ _ [] _
 refine Vc.seq (Vc.region hG rfl (by trivial) (Vc.seq (Vc.region hG rfl (by trivial) ?_)))
 refine Vc.ret ?_
 refine ⟨?_, trivial⟩
 all_goals exact rfl
noncomputable def F70 : Fun := ⟨[], [.own (.pure Y10)], fun _ => True, fun x => (authsT , ())⟩
theorem F70_ok : Meets Tryz.prog 70 F70 := by
 refine meets_of_vc (C := mkC 6 [0] [0] []) (mkC_ok _ _ _ _) (fnOf_ok _) Tryz.func70 rfl rfl rfl (by decide) rfl ?_
 rintro ⟨_⟩ hwf hpre ⟨P, C, B, X, w0, M0, pv⟩ hG rfl rfl
 show Vc _ _ [] _
 refine Vc.seq (Vc.region hG rfl (by trivial) (Vc.seq (Vc.region hG rfl (by trivial) ?_)))
 refine Vc.ret ?_
 refine ⟨?_, trivial⟩
 all_goals exact rfl
noncomputable def F111 : Fun := ⟨[.slice Y10, .int .i64], [.pure (.int .i64)], fun _ => True, fun x => ((fun a0 a1 => findI (fun x => x.1 == a1) a0) x.1 x.2.1, ())⟩
theorem F111_ok : Meets Tryz.prog 111 F111 := by
 refine meets_of_vc (C := mkC 20 [4] [0,1,4,5,9,18] []) (mkC_ok _ _ _ _) (fnOf_ok _) Tryz.func111 rfl rfl rfl (by decide) rfl ?_
 rintro ⟨a0, (a1 : Int), _⟩ hwf hpre ⟨P, C, B, X, w0, M0, pv⟩ hG rfl rfl
 show Vc _ _ [(0, ⟨0, 0, .c Z18 a0⟩), (1, ⟨0, 0, .c (.pure (.int .i64)) a1⟩)] _
 have hb : List.length a0 ≤ bigLen := hwf.1.1
 refine Vc.seq (Vc.region hG rfl (by trivial) (Vc.seq (Vc.seq ?_)))
 refine Vc.region hG rfl (by trivial) (Vc.block ?_)
 refine Vc.loopF [(5, false, .pure (.int .i64))] [0, 1] (fun v => fInv (fun x => x.1 == a1) a0 v.1) (fun v => ((List.length a0 : Int) - v.1).toNat) rfl ?_ ?_
 · exact fStart
 rintro ⟨(i : Int), _⟩ hI
 have hI : fInv (fun x => x.1 == a1) a0 i := hI
 refine Vc.seq (Vc.seq (Vc.region hG rfl (by trivial) ?_))
 refine Vc.cond rfl (fun h0 => ?_) (fun h0 => ?_)
 · have hl : i < (List.length a0 : Int) := of_decide_eq_true h0
   refine Vc.skip (Vc.seq (Vc.block (Vc.seq ?_)))
   refine Vc.region hG rfl ?_ ?_
   · exact fRange hI hl
   refine Vc.cond rfl (fun h1 => ?_) (fun h1 => ?_)
   · have g1 : (fun x => x.1 == a1) (List.getD a0 i.toNat (dflt Y10)) = true := h1
     refine Vc.seq (Vc.region hG rfl (by trivial) (Vc.ret ?_))
     refine ⟨?_, trivial⟩
     exact fHit hI hl g1
   · have g1 : (fun x => x.1 == a1) (List.getD a0 i.toNat (dflt Y10)) = false := h1
     refine Vc.skip (Vc.region hG rfl (by trivial) ?_)
     refine ⟨rfl, ?_⟩
     exact fStep hI hl hb g1
 · have hl : ¬ i < (List.length a0 : Int) := of_decide_eq_false h0
   refine Vc.exit (Vc.seq (Vc.region hG rfl (by trivial) (Vc.ret ?_)))
   refine ⟨?_, trivial⟩
   exact fEnd hI hl
noncomputable def F172 : Fun := ⟨[.int .i64, .int .i64, .int .i64], [.pure (.bool)], fun _ => True, fun x => (inRangeF x.1 x.2.1 x.2.2.1, ())⟩
theorem F172_ok : Meets Tryz.prog 172 F172 := by
 refine meets_of_vc (C := mkC 15 [6] [0,1,2,6] []) (mkC_ok _ _ _ _) (fnOf_ok _) Tryz.func172 rfl rfl rfl (by decide) rfl ?_
 rintro ⟨(a0 : Int), (a1 : Int), (a2 : Int), _⟩ hwf hpre ⟨P, C, B, X, w0, M0, pv⟩ hG rfl rfl
 show Vc _ _ [(0, ⟨0, 0, .c (.pure (.int .i64)) a0⟩), (1, ⟨0, 0, .c (.pure (.int .i64)) a1⟩), (2, ⟨0, 0, .c (.pure (.int .i64)) a2⟩)] _
 refine Vc.seq (Vc.region hG rfl (by trivial) (Vc.seq (Vc.region hG rfl (by trivial) ?_)))
 refine Vc.ret ?_
 refine ⟨?_, trivial⟩
 all_goals exact rfl
noncomputable def F112 : Fun := ⟨[.int .i64], [.pure (.bool)], fun _ => True, fun x => (isTimeF x.1, ())⟩
theorem F112_ok : Meets Tryz.prog 112 F112 := by
 refine meets_of_vc (C := mkC 5 [2] [0,2] [⟨172, _, F172_ok⟩]) (mkC_ok _ _ _ _) (fnOf_ok _) Tryz.func112 rfl rfl rfl (by decide) rfl ?_
 rintro ⟨(a0 : Int), _⟩ hwf hpre ⟨P, C, B, X, w0, M0, pv⟩ hG rfl rfl
 show Vc _ _ [(0, ⟨0, 0, .c (.pure (.int .i64)) a0⟩)] _
 refine Vc.seq (Vc.region hG rfl (by trivial) (Vc.seq (Vc.region hG rfl (by trivial) ?_)))
 refine Vc.ret ?_
 refine ⟨?_, trivial⟩
 all_goals exact rfl
noncomputable def F113 : Fun := ⟨[.slice Y26, .int .i64], [.pure (.int .i64)], fun _ => True, fun x => ((fun a0 a1 => findI (fun x => x.1 == a1) a0) x.1 x.2.1, ())⟩
theorem F113_ok : Meets Tryz.prog 113 F113 := by
 refine meets_of_vc (C := mkC 20 [4] [0,1,4,5,9,18] []) (mkC_ok _ _ _ _) (fnOf_ok _) Tryz.func113 rfl rfl rfl (by decide) rfl ?_
 rintro ⟨a0, (a1 : Int), _⟩ hwf hpre ⟨P, C, B, X, w0, M0, pv⟩ hG rfl rfl
 show Vc _ _ [(0, ⟨0, 0, .c Z30 a0⟩), (1, ⟨0, 0, .c (.pure (.int .i64)) a1⟩)] _
 have hb : List.length a0 ≤ bigLen := hwf.1.1
 refine Vc.seq (Vc.region hG rfl (by trivial) (Vc.seq (Vc.seq ?_)))
 refine Vc.region hG rfl (by trivial) (Vc.block ?_)
 refine Vc.loopF [(5, false, .pure (.int .i64))] [0, 1] (fun v => fInv (fun x => x.1 == a1) a0 v.1) (fun v => ((List.length a0 : Int) - v.1).toNat) rfl ?_ ?_
 · exact fStart
 rintro ⟨(i : Int), _⟩ hI
 have hI : fInv (fun x => x.1 == a1) a0 i := hI
 refine Vc.seq (Vc.seq (Vc.region hG rfl (by trivial) ?_))
 refine Vc.cond rfl (fun h0 => ?_) (fun h0 => ?_)
 · have hl : i < (List.length a0 : Int) := of_decide_eq_true h0
   refine Vc.skip (Vc.seq (Vc.block (Vc.seq ?_)))
   refine Vc.region hG rfl ?_ ?_
   · exact fRange hI hl
   refine Vc.cond rfl (fun h1 => ?_) (fun h1 => ?_)
   · have g1 : (fun x => x.1 == a1) (List.getD a0 i.toNat (dflt Y26)) = true := h1
     refine Vc.seq (Vc.region hG rfl (by trivial) (Vc.ret ?_))
     refine ⟨?_, trivial⟩
     exact fHit hI hl g1
   · have g1 : (fun x => x.1 == a1) (List.getD a0 i.toNat (dflt Y26)) = false := h1
     refine Vc.skip (Vc.region hG rfl (by trivial) ?_)
     refine ⟨rfl, ?_⟩
     exact fStep hI hl hb g1
 · have hl : ¬ i < (List.length a0 : Int) := of_decide_eq_false h0
   refine Vc.exit (Vc.seq (Vc.region hG rfl (by trivial) (Vc.ret ?_)))
   refine ⟨?_, trivial⟩
   exact fEnd hI hl
noncomputable def F115 : Fun := ⟨[.pair (.int .i64) Y21], [.own (.pure (.int .i64))], fun _ => True, fun x => (stampIntsF x.1, ())⟩
theorem F115_ok : Meets Tryz.prog 115 F115 := by
 refine meets_of_vc (C := mkC 12 [2] [0,1,2] []) (mkC_ok _ _ _ _) (fnOf_ok _) Tryz.func115 rfl rfl rfl (by decide) rfl ?_
 rintro ⟨a0, _⟩ hwf hpre ⟨P, C, B, X, w0, M0, pv⟩ hG rfl rfl
 show Vc _ _ [(0, ⟨0, 0, .c Z27 a0⟩)] _
 refine Vc.seq (Vc.region hG rfl (by trivial) (Vc.seq (Vc.region hG rfl (by trivial) ?_)))
 refine Vc.ret ?_
 refine ⟨?_, trivial⟩
 all_goals exact rfl
noncomputable def F279 : Fun := ⟨[.int .i64, .int .i64], [.pure (.int .i64)], fun _ => True, fun x => (modF x.1 x.2.1, ())⟩
theorem F279_ok : Meets Tryz.prog 279 F279 := by
 refine meets_of_vc (C := mkC 15 [4] [0,1,4,7] [⟨172, _, F172_ok⟩]) (mkC_ok _ _ _ _) (fnOf_ok _) Tryz.func279 rfl rfl rfl (by decide) rfl ?_
 rintro ⟨(a0 : Int), (a1 : Int), _⟩ hwf hpre ⟨P, C, B, X, w0, M0, pv⟩ hG rfl rfl
 show Vc _ _ [(0, ⟨0, 0, .c (.pure (.int .i64)) a0⟩), (1, ⟨0, 0, .c (.pure (.int .i64)) a1⟩)] _
 refine Vc.seq (Vc.region hG rfl (by trivial) (Vc.seq (Vc.seq ?_)))
 refine Vc.region hG rfl (by trivial) ?_
 refine Vc.cond rfl (fun h0 => ?_) (fun h0 => ?_)
 · have g0 : (!(inRangeF a1 1 1000000000000)) = true := h0
   refine Vc.seq (Vc.region hG rfl (by trivial) (Vc.ret ?_))
   refine ⟨?_, trivial⟩
   show (0 : Int) = modF a0 a1
   unfold modF
   rw [if_neg (by simpa using g0)]
 · have g0 : (!(inRangeF a1 1 1000000000000)) = false := h0
   refine Vc.skip (Vc.seq ?_)
   refine Vc.region hG rfl ?_ ?_
   · exact ⟨inR_pos h0, inR_pos h0⟩
   refine Vc.ret ?_
   refine ⟨?_, trivial⟩
   show _ = modF a0 a1
   unfold modF
   rw [if_pos (by simpa using g0)]
noncomputable def F207 : Fun := ⟨[.slice (.int .i64)], [.pure (.int .i64)], fun _ => True, fun x => (hashF x.1, ())⟩
theorem F207_ok : Meets Tryz.prog 207 F207 := by
 refine meets_of_vc (C := mkC 22 [2] [0,2,3,4,8] [⟨279, _, F279_ok⟩]) (mkC_ok _ _ _ _) (fnOf_ok _) Tryz.func207 rfl rfl rfl (by decide) rfl ?_
 rintro ⟨a0, _⟩ hwf hpre ⟨P, C, B, X, w0, M0, pv⟩ hG rfl rfl
 show Vc _ _ [(0, ⟨0, 0, .c Z3 a0⟩)] _
 have hb : List.length a0 ≤ bigLen := hwf.1.1
 refine Vc.seq (Vc.region hG rfl (by trivial) (Vc.seq (Vc.region hG rfl (by trivial) ?_)))
 refine Vc.seq (Vc.seq (Vc.region hG rfl (by trivial) (Vc.block ?_)))
 refine Vc.loopF [(3, false, .pure (.int .i64)), (4, false, .pure (.int .i64))] [0, 2] (fun v => foInv (hstep) (11) a0 v.1 v.2.1) (fun v => ((List.length a0 : Int) - v.2.1).toNat) rfl ?_ ?_
 · exact foStart
 rintro ⟨acc, (i : Int), _⟩ hI
 have hI : foInv (hstep) (11) a0 acc i := hI
 refine Vc.seq (Vc.seq (Vc.region hG rfl (by trivial) ?_))
 refine Vc.cond rfl (fun h0 => ?_) (fun h0 => ?_)
 · have hl : i < (List.length a0 : Int) := of_decide_eq_true h0
   refine Vc.skip (Vc.seq (Vc.block ?_))
   refine Vc.region hG rfl ?_ ?_
   · exact ⟨foRange hI hl, trivial, (show (2147483647 : Int) ≠ 0 by decide)⟩
   refine Vc.region hG rfl (by trivial) ?_
   refine ⟨rfl, ?_⟩
   exact foStep hI hl hb
 · have hl : ¬ i < (List.length a0 : Int) := of_decide_eq_false h0
   refine Vc.exit (Vc.seq (Vc.region hG rfl (by trivial) (Vc.ret ?_)))
   refine ⟨?_, trivial⟩
   exact foEnd hI hl
noncomputable def F173 : Fun := ⟨[.int .i64, .slice (.int .i64)], [.pure (.int .i64)], fun x => (fun (_ : Int) (l : List Int) => l.length ≤ 1000000001) x.1 x.2.1, fun x => (keyedF x.1 x.2.1, ())⟩
theorem F173_ok : Meets Tryz.prog 173 F173 := by
 refine meets_of_vc (C := mkC 13 [4] [0,1,4] [⟨207, _, F207_ok⟩]) (mkC_ok _ _ _ _) (fnOf_ok _) Tryz.func173 rfl rfl rfl (by decide) rfl ?_
 rintro ⟨(a0 : Int), a1, _⟩ hwf hpre ⟨P, C, B, X, w0, M0, pv⟩ hG rfl rfl
 show Vc _ _ [(0, ⟨0, 0, .c (.pure (.int .i64)) a0⟩), (1, ⟨0, 0, .c Z3 a1⟩)] _
 have hp : List.length a1 ≤ 1000000001 := hpre
 refine Vc.seq (Vc.region hG rfl (by trivial) (Vc.seq ?_))
 refine Vc.region hG rfl ?_ ?_
 · refine ⟨?_, ?_, trivial⟩
   · show 1 + List.length a1 ≤ maxApp
     unfold maxApp; omega
   · show (List.length a1 + 1) + 1 ≤ maxApp
     unfold maxApp; omega
 refine Vc.ret ?_
 refine ⟨?_, trivial⟩
 all_goals exact rfl
noncomputable def F114 : Fun := ⟨[.pair (.int .i64) Y21, .slice (.int .i64)], [.pure (.int .i64)], fun x => (fun (_ : Key) (l : List Int) => smallL l) x.1 x.2.1, fun x => (markWithF x.1 x.2.1, ())⟩
theorem F114_ok : Meets Tryz.prog 114 F114 := by
 refine meets_of_vc (C := mkC 13 [4] [0,1,2,4] [⟨173, _, F173_ok⟩]) (mkC_ok _ _ _ _) (fnOf_ok _) Tryz.func114 rfl rfl rfl (by decide) rfl ?_
 rintro ⟨a0, a1, _⟩ hwf hpre ⟨P, C, B, X, w0, M0, pv⟩ hG rfl rfl
 show Vc _ _ [(0, ⟨0, 0, .c Z27 a0⟩), (1, ⟨0, 0, .c Z3 a1⟩)] _
 have hp : List.length a1 ≤ 1000000000 := hpre
 refine Vc.seq (Vc.region hG rfl (by trivial) (Vc.seq ?_))
 refine Vc.regionD mixed hG rfl (by kernel_rfl) ?_ ?_
 · refine ⟨?_, ?_⟩
   · show 1 + List.length a1 ≤ maxApp
     unfold maxApp; omega
   · show List.length a1 + 1 ≤ 1000000001
     omega
 refine Vc.ret ?_
 refine ⟨?_, trivial⟩
 all_goals exact rfl
noncomputable def F74 : Fun := ⟨[.slice Y26, .slice Y10, .pair (.int .i64) Y21], [.pure Y26, .pure (.bool)], fun _ => True, fun x => ((makeStampF x.1 x.2.1 x.2.2.1).1, (makeStampF x.1 x.2.1 x.2.2.1).2, ())⟩
theorem F74_ok : Meets Tryz.prog 74 F74 := by
 refine meets_of_vc (C := mkC 47 [6, 7] [0,1,2,5,6,7,8,9,26,36] [⟨111, _, F111_ok⟩, ⟨112, _, F112_ok⟩, ⟨113, _, F113_ok⟩, ⟨115, _, F115_ok⟩, ⟨114, _, F114_ok⟩]) (mkC_ok _ _ _ _) (fnOf_ok _) Tryz.func74 rfl rfl rfl (by decide) rfl ?_
 rintro ⟨a0, a1, a2, _⟩ hwf hpre ⟨P, C, B, X, w0, M0, pv⟩ hG rfl rfl
 show Vc _ _ [(0, ⟨0, 0, .c Z30 a0⟩), (1, ⟨0, 0, .c Z18 a1⟩), (2, ⟨0, 0, .c Z27 a2⟩)] _
 refine Vc.seq (Vc.region hG rfl (by trivial) (Vc.seq (Vc.region hG rfl (by trivial) ?_)))
 refine Vc.seq (Vc.seq ?_)
 refine Vc.region hG rfl ?_ ?_
 · intro _; exact trivial
 refine Vc.cond rfl (fun h0 => ?_) (fun h0 => ?_)
 · have g0 : stampBad a1 a2 = true := h0
   refine Vc.seq (Vc.region hG rfl (by trivial) (Vc.ret ?_))
   have e := ms_1 (keys := a0) g0
   refine ⟨?_, ?_, trivial⟩
   · exact (congrArg Prod.fst e).symm
   · exact (congrArg Prod.snd e).symm
 · have g0 : stampBad a1 a2 = false := h0
   refine Vc.skip (Vc.seq ?_)
   refine Vc.region hG rfl ?_ ?_
   · exact ⟨bad_idx g0, trivial⟩
   refine Vc.seq (Vc.seq (Vc.region hG rfl (by trivial) ?_))
   refine Vc.cond rfl (fun h1 => ?_) (fun h1 => ?_)
   · have g1 : keyI a0 (authAt a1 a2.1).2.1 < 0 := of_decide_eq_true h1
     refine Vc.seq (Vc.region hG rfl (by trivial) (Vc.ret ?_))
     have e := ms_2 (keys := a0) g0 g1
     refine ⟨?_, ?_, trivial⟩
     · exact (congrArg Prod.fst e).symm
     · exact (congrArg Prod.snd e).symm
   · have g1 : ¬ keyI a0 (authAt a1 a2.1).2.1 < 0 := of_decide_eq_false h1
     refine Vc.skip (Vc.seq ?_)
     refine Vc.regionD mixed hG rfl (by kernel_rfl) ?_ ?_
     · exact ⟨findRange g1, trivial, smallLit (n := 5) rfl (by decide)⟩
     refine Vc.seq (Vc.region hG rfl (by trivial) (Vc.ret ?_))
     have e := ms_3 (keys := a0) g0 g1
     refine ⟨?_, ?_, trivial⟩
     · exact (congrArg Prod.fst e).symm
     · exact (congrArg Prod.snd e).symm
noncomputable def P107 : PFun := ⟨.pure Y13, [], [.pure Y26], fun x _ => curOk x, fun x _ => (stampD x).2, fun x _ => ((stampD x).1, ())⟩
theorem P107_ok : MeetsP Tryz.prog 107 P107 := by
 refine meetsP_of_vc (C := mkCP 22 [2] [0,2,3] [⟨69, _, F69_ok⟩, ⟨70, _, F70_ok⟩, ⟨74, _, F74_ok⟩] [] [] [⟨67, _, P67_ok⟩] [0]) (mkCP_ok _ _ _ _ _ _ _ _) (fnOf_ok _) Tryz.func107 rfl rfl rfl (by decide) rfl rfl rfl ?_ rfl
 rintro c ⟨_⟩ hwc hwf hpre ⟨P, C, B, X, w0, M0, pv⟩ hG rfl rfl
 show Vc _ _ [(0, ⟨0, 0, .c (.ref Z17) c⟩)] _
 refine Vc.seq (Vc.region hG rfl (by trivial) (Vc.seq ?_))
 refine Vc.region hG rfl ?_ ?_
 · repeat' (first | exact trivial | exact hpre | exact below_ok hpre | exact below_ok (below_ok hpre) | exact below_ok (below_ok (below_ok hpre)) | refine And.intro ?_ ?_ | intro _)
 refine Vc.seq (Vc.region hG rfl (by trivial) (Vc.ret ?_))
 refine ⟨⟨?_, trivial⟩, ?_, trivial⟩
 all_goals exact rfl
noncomputable def P108 : PFun := ⟨.pure Y13, [.slice (.int .i64)], [.pure (.int .i64)], fun x xs => (fun c (l : List Int) => curOk c ∧ 0 < List.length l) x xs.1, fun x xs => (intF x xs.1).2, fun x xs => ((intF x xs.1).1, ())⟩
theorem P108_ok : MeetsP Tryz.prog 108 P108 := by
 refine meetsP_of_vc (C := mkCP 12 [4] [0,1,4] [] [] [] [⟨67, _, P67_ok⟩] [0]) (mkCP_ok _ _ _ _ _ _ _ _) (fnOf_ok _) Tryz.func108 rfl rfl rfl (by decide) rfl rfl rfl ?_ rfl
 rintro c ⟨a1, _⟩ hwc hwf hpre ⟨P, C, B, X, w0, M0, pv⟩ hG rfl rfl
 show Vc _ _ [(0, ⟨0, 0, .c (.ref Z17) c⟩), (1, ⟨0, 0, .c Z3 a1⟩)] _
 refine Vc.seq (Vc.region hG rfl (by trivial) (Vc.seq ?_))
 refine Vc.region hG rfl ?_ ?_
 · exact ⟨hpre.1, int_range hpre.2⟩
 refine Vc.ret ?_
 refine ⟨⟨?_, trivial⟩, ?_, trivial⟩
 all_goals exact rfl
noncomputable def P73 : PFun := ⟨.pure Y13, [.int .i64], [.pure (.bool)], fun x xs => (fun c (_ : Int) => curOk c) x xs.1, fun x xs => (onceF x xs.1).2, fun x xs => ((onceF x xs.1).1, ())⟩
theorem P73_ok : MeetsP Tryz.prog 73 P73 := by
 refine meetsP_of_vc (C := mkCP 9 [4] [0,1,4] [] [] [] [⟨67, _, P67_ok⟩] [0]) (mkCP_ok _ _ _ _ _ _ _ _) (fnOf_ok _) Tryz.func73 rfl rfl rfl (by decide) rfl rfl rfl ?_ rfl
 rintro c ⟨(a1 : Int), _⟩ hwc hwf hpre ⟨P, C, B, X, w0, M0, pv⟩ hG rfl rfl
 show Vc _ _ [(0, ⟨0, 0, .c (.ref Z17) c⟩), (1, ⟨0, 0, .c (.pure (.int .i64)) a1⟩)] _
 refine Vc.seq (Vc.region hG rfl (by trivial) (Vc.seq ?_))
 refine Vc.region hG rfl ?_ ?_
 · repeat' (first | exact trivial | exact hpre | refine And.intro ?_ ?_ | intro _)
 refine Vc.ret ?_
 refine ⟨⟨?_, trivial⟩, ?_, trivial⟩
 all_goals exact rfl
noncomputable def P109 : PFun := ⟨.pure Y13, [], [.pure (.int .i64)], fun x _ => curOk x, fun x _ => (rawD x).2, fun x _ => ((rawD x).1, ())⟩
theorem P109_ok : MeetsP Tryz.prog 109 P109 := by
 refine meetsP_of_vc (C := mkCP 10 [2] [0,2,4] [] [] [] [⟨73, _, P73_ok⟩, ⟨108, _, P108_ok⟩, ⟨67, _, P67_ok⟩] [0]) (mkCP_ok _ _ _ _ _ _ _ _) (fnOf_ok _) Tryz.func109 rfl rfl rfl (by decide) rfl rfl rfl ?_ rfl
 rintro c ⟨_⟩ hwc hwf hpre ⟨P, C, B, X, w0, M0, pv⟩ hG rfl rfl
 show Vc _ _ [(0, ⟨0, 0, .c (.ref Z17) c⟩)] _
 refine Vc.seq (Vc.region hG rfl (by trivial) (Vc.seq (Vc.seq ?_)))
 refine Vc.region hG rfl ?_ ?_
 · repeat' (first | exact trivial | exact hpre | exact once_ok hpre | exact Nat.succ_pos _ | refine And.intro ?_ ?_ | intro _)
 refine Vc.cond rfl (fun h0 => ?_) (fun h0 => ?_)
 · refine Vc.seq ?_
   refine Vc.region hG rfl ?_ ?_
   · repeat' (first | exact trivial | exact hpre | exact once_ok hpre | exact Nat.succ_pos _ | refine And.intro ?_ ?_ | intro _)
   refine Vc.ret ?_
   have e : rawD c = _ := (cT h0)
   refine ⟨⟨?_, trivial⟩, ?_, trivial⟩
   · exact (congrArg Prod.snd e).symm
   · exact (congrArg (fun r => r.1) e).symm
 · refine Vc.skip (Vc.seq ?_)
   refine Vc.region hG rfl ?_ ?_
   · repeat' (first | exact trivial | exact hpre | exact once_ok hpre | exact Nat.succ_pos _ | refine And.intro ?_ ?_ | intro _)
   refine Vc.ret ?_
   have e : rawD c = _ := (cF h0)
   refine ⟨⟨?_, trivial⟩, ?_, trivial⟩
   · exact (congrArg Prod.snd e).symm
   · exact (congrArg (fun r => r.1) e).symm
noncomputable def P68 : PFun := ⟨.pure Y13, [], [.pure Y26], fun x _ => curOk x, fun x _ => (bentD x).2, fun x _ => ((bentD x).1, ())⟩
theorem P68_ok : MeetsP Tryz.prog 68 P68 := by
 refine meetsP_of_vc (C := mkCP 37 [2] [0,2,3,7,8,13,19,24,30] [] [] [] [⟨107, _, P107_ok⟩, ⟨67, _, P67_ok⟩, ⟨108, _, P108_ok⟩, ⟨109, _, P109_ok⟩] [0]) (mkCP_ok _ _ _ _ _ _ _ _) (fnOf_ok _) Tryz.func68 rfl rfl rfl (by decide) rfl rfl rfl ?_ rfl
 rintro c ⟨_⟩ hwc hwf hpre ⟨P, C, B, X, w0, M0, pv⟩ hG rfl rfl
 show Vc _ _ [(0, ⟨0, 0, .c (.ref Z17) c⟩)] _
 refine Vc.seq (Vc.region hG rfl (by trivial) (Vc.seq ?_))
 refine Vc.region hG rfl ?_ ?_
 · repeat' (first | exact trivial | exact hpre | exact stampD_ok hpre | exact bs1_ok hpre | exact Nat.succ_pos _ | refine And.intro ?_ ?_ | intro _)
 refine Vc.seq (Vc.seq ?_)
 refine Vc.region hG rfl ?_ ?_
 · repeat' (first | exact trivial | exact hpre | exact stampD_ok hpre | exact bs1_ok hpre | exact Nat.succ_pos _ | refine And.intro ?_ ?_ | intro _)
 refine Vc.block (Vc.seq (Vc.region hG rfl (by trivial) ?_))
 refine Vc.cond rfl (fun h0 => ?_) (fun h0 => ?_)
 · refine Vc.region hG rfl ?_ ?_
   · repeat' (first | exact trivial | exact hpre | exact stampD_ok hpre | exact bs1_ok hpre | exact Nat.succ_pos _ | refine And.intro ?_ ?_ | intro _)
   refine Vc.seq (Vc.region hG rfl (by trivial) (Vc.ret ?_))
   have e : bentD c = _ := ((bent_eq c).trans (cT h0))
   refine ⟨⟨?_, trivial⟩, ?_, trivial⟩
   · exact (congrArg Prod.snd e).symm
   · exact (congrArg (fun r => r.1) e).symm
 · refine Vc.seq (Vc.region hG rfl (by trivial) ?_)
   refine Vc.cond rfl (fun h1 => ?_) (fun h1 => ?_)
   · refine Vc.region hG rfl ?_ ?_
     · repeat' (first | exact trivial | exact hpre | exact stampD_ok hpre | exact bs1_ok hpre | exact Nat.succ_pos _ | refine And.intro ?_ ?_ | intro _)
     refine Vc.seq (Vc.region hG rfl (by trivial) (Vc.ret ?_))
     have e : bentD c = _ := ((bent_eq c).trans ((cF h0).trans (cT h1)))
     refine ⟨⟨?_, trivial⟩, ?_, trivial⟩
     · exact (congrArg Prod.snd e).symm
     · exact (congrArg (fun r => r.1) e).symm
   · refine Vc.seq (Vc.region hG rfl (by trivial) ?_)
     refine Vc.cond rfl (fun h2 => ?_) (fun h2 => ?_)
     · refine Vc.region hG rfl ?_ ?_
       · repeat' (first | exact trivial | exact hpre | exact stampD_ok hpre | exact bs1_ok hpre | exact Nat.succ_pos _ | refine And.intro ?_ ?_ | intro _)
       refine Vc.seq (Vc.region hG rfl (by trivial) (Vc.ret ?_))
       have e : bentD c = _ := ((bent_eq c).trans ((cF h0).trans ((cF h1).trans (cT h2))))
       refine ⟨⟨?_, trivial⟩, ?_, trivial⟩
       · exact (congrArg Prod.snd e).symm
       · exact (congrArg (fun r => r.1) e).symm
     · refine Vc.seq (Vc.region hG rfl (by trivial) ?_)
       refine Vc.cond rfl (fun h3 => ?_) (fun h3 => ?_)
       · refine Vc.region hG rfl (by trivial) (Vc.seq (Vc.region hG rfl (by trivial) (Vc.ret ?_)))
         have e : bentD c = _ := ((bent_eq c).trans ((cF h0).trans ((cF h1).trans ((cF h2).trans (cT h3)))))
         refine ⟨⟨?_, trivial⟩, ?_, trivial⟩
         · exact (congrArg Prod.snd e).symm
         · exact (congrArg (fun r => r.1) e).symm
       · refine Vc.seq (Vc.region hG rfl (by trivial) ?_)
         refine Vc.cond rfl (fun h4 => ?_) (fun h4 => ?_)
         · refine Vc.region hG rfl (by trivial) (Vc.seq (Vc.region hG rfl (by trivial) (Vc.ret ?_)))
           have e : bentD c = _ := ((bent_eq c).trans ((cF h0).trans ((cF h1).trans ((cF h2).trans ((cF h3).trans (cT h4))))))
           refine ⟨⟨?_, trivial⟩, ?_, trivial⟩
           · exact (congrArg Prod.snd e).symm
           · exact (congrArg (fun r => r.1) e).symm
         · refine Vc.skip (Vc.seq (Vc.region hG rfl (by trivial) (Vc.ret ?_)))
           have e : bentD c = _ := ((bent_eq c).trans ((cF h0).trans ((cF h1).trans ((cF h2).trans ((cF h3).trans (cF h4))))))
           refine ⟨⟨?_, trivial⟩, ?_, trivial⟩
           · exact (congrArg Prod.snd e).symm
           · exact (congrArg (fun r => r.1) e).symm
noncomputable def F22 : Fun := ⟨[.slice (.int .u8)], [.pure Y28, .pure Y14, .pure Y28], fun _ => True, fun x => (((fun code => (keysT, authsT, findC code)) x.1).1, ((fun code => (keysT, authsT, findC code)) x.1).2.1, ((fun code => (keysT, authsT, findC code)) x.1).2.2, ())⟩
theorem F22_ok : Meets Tryz.prog 22 F22 := by
 refine meets_of_vc (C := mkCP 25 [2, 3, 4, 5] [0,2,3,4,5,6,7,14] [⟨66, _, F66_ok⟩, ⟨69, _, F69_ok⟩, ⟨70, _, F70_ok⟩] [] [] [⟨67, _, P67_ok⟩, ⟨68, _, P68_ok⟩] []) (mkCP_ok _ _ _ _ _ _ _ _) (fnOf_ok _) Tryz.func22 rfl rfl rfl (by decide) rfl ?_
 rintro ⟨a0, _⟩ hwf hpre ⟨P, C, B, X, w0, M0, pv⟩ hG rfl rfl
 show Vc _ _ [(0, ⟨0, 0, .c Z1 a0⟩)] _
 have hb : List.length a0 ≤ bigLen := hwf.1.1
 refine Vc.seq (Vc.region hG rfl (by trivial) (Vc.seq ?_))
 refine Vc.region hG rfl ?_ ?_
 · repeat' (first | exact trivial | exact newCur_ok hb | exact hc2 | exact hA | refine And.intro ?_ ?_ | intro _)
 refine Vc.seq (Vc.region hG rfl (by trivial) (Vc.seq (Vc.seq ?_)))
 refine Vc.region hG rfl ?_ ?_
 · repeat' (first | exact trivial | exact newCur_ok hb | exact hc2 | exact hA | refine And.intro ?_ ?_ | intro _)
 refine Vc.block ?_
 refine Vc.loopF [(5, true, .pure Y13), (6, false, .own Z27), (7, false, .pure (.int .i64))] [0, 2, 3, 4] (fun v => dnInv fcS ((fc1 a0).2, []) (fc1 a0).1 (v.1, v.2.1) v.2.2.1) (fun v => (v.2.2.1 : Int).toNat) rfl ?_ ?_
 · exact dnStart (fc1_n a0)
 rintro ⟨c2, l, (i : Int), _⟩ hI
 have hI : dnInv fcS ((fc1 a0).2, []) (fc1 a0).1 (c2, l) i := hI
 refine Vc.seq (Vc.seq (Vc.region hG rfl (by trivial) ?_))
 refine Vc.cond rfl (fun h0 => ?_) (fun h0 => ?_)
 · have hl : i > 0 := of_decide_eq_true h0
   obtain ⟨hc2, hA⟩ := fcInv_P hb hI
   refine Vc.skip (Vc.seq (Vc.block ?_))
   refine Vc.region hG rfl ?_ ?_
   · repeat' (first | exact trivial | exact newCur_ok hb | exact hc2 | exact hA | refine And.intro ?_ ?_ | intro _)
   refine Vc.region hG rfl (by trivial) ?_
   refine ⟨rfl, ?_⟩
   exact dnStep hI hl
 · have hl : ¬ i > 0 := of_decide_eq_false h0
   have hE := dnEnd hI hl
   refine Vc.exit (Vc.seq ?_)
   refine Vc.region hG rfl ?_ ?_
   · repeat' (first | exact trivial | exact newCur_ok hb | exact hc2 | exact hA | refine And.intro ?_ ?_ | intro _)
   refine Vc.frz 2 rfl ?_
   refine Vc.frz 3 rfl ?_
   refine Vc.frz 4 rfl ?_
   refine Vc.ret ?_
   refine ⟨?_, ?_, ?_, trivial⟩
   · rfl
   · rfl
   · exact findC_leaf hE
noncomputable def F110 : Fun := ⟨[.slice Y26, .slice Y10, .pair (.int .i64) Y21], [.pure (.bool)], fun _ => True, fun x => (checkStampF x.1 x.2.1 x.2.2.1, ())⟩
theorem F110_ok : Meets Tryz.prog 110 F110 := by
 refine meets_of_vc (C := mkC 22 [6] [0,1,2,5,6,7,8] [⟨74, _, F74_ok⟩]) (mkC_ok _ _ _ _) (fnOf_ok _) Tryz.func110 rfl rfl rfl (by decide) rfl ?_
 rintro ⟨a0, a1, a2, _⟩ hwf hpre ⟨P, C, B, X, w0, M0, pv⟩ hG rfl rfl
 show Vc _ _ [(0, ⟨0, 0, .c Z30 a0⟩), (1, ⟨0, 0, .c Z18 a1⟩), (2, ⟨0, 0, .c Z27 a2⟩)] _
 refine Vc.seq (Vc.region hG rfl (by trivial) (Vc.seq (Vc.region hG rfl (by trivial) ?_)))
 refine Vc.seq (Vc.region hG rfl (by trivial) (Vc.ret ?_))
 refine ⟨?_, trivial⟩
 all_goals exact rfl
noncomputable def F71 : Fun := ⟨[.slice Y26, .slice Y10, .pair (.int .i64) Y21, .pair (.int .i64) Y21], [.pure (.bool)], fun _ => True, fun x => (contraryF x.1 x.2.1 x.2.2.1 x.2.2.2.1, ())⟩
theorem F71_ok : Meets Tryz.prog 71 F71 := by
 refine meets_of_vc (C := mkC 66 [8] [0,1,2,3,6,7,8,27] [⟨110, _, F110_ok⟩]) (mkC_ok _ _ _ _) (fnOf_ok _) Tryz.func71 rfl rfl rfl (by decide) rfl ?_
 rintro ⟨a0, a1, a2, a3, _⟩ hwf hpre ⟨P, C, B, X, w0, M0, pv⟩ hG rfl rfl
 show Vc _ _ [(0, ⟨0, 0, .c Z30 a0⟩), (1, ⟨0, 0, .c Z18 a1⟩), (2, ⟨0, 0, .c Z27 a2⟩), (3, ⟨0, 0, .c Z27 a3⟩)] _
 refine Vc.seq (Vc.region hG rfl (by trivial) (Vc.seq (Vc.seq ?_)))
 refine Vc.region hG rfl ?_ ?_
 · repeat' (first | exact trivial | refine And.intro ?_ ?_ | intro _)
 refine Vc.cond rfl (fun h0 => ?_) (fun h0 => ?_)
 · refine Vc.seq (Vc.region hG rfl (by trivial) (Vc.ret ?_))
   refine ⟨?_, trivial⟩
   exact con_s1 h0
 · refine Vc.skip (Vc.seq (Vc.region hG rfl (by trivial) (Vc.ret ?_)))
   refine ⟨?_, trivial⟩
   exact con_s2 h0
noncomputable def F24 : Fun := ⟨[.slice Y26, .slice Y10, .slice Y26], [.pure Y45, .pure (.bool)], fun _ => True, fun x => (((fun a0 a1 a2 => fpF (contraryF a0 a1) (dflt Y45) a2) x.1 x.2.1 x.2.2.1).1, ((fun a0 a1 a2 => fpF (contraryF a0 a1) (dflt Y45) a2) x.1 x.2.1 x.2.2.1).2, ())⟩
theorem F24_ok : Meets Tryz.prog 24 F24 := by
 refine meets_of_vc (C := mkC 45 [6, 7] [0,1,2,6,7,8,9,13,21,34] [⟨71, _, F71_ok⟩]) (mkC_ok _ _ _ _) (fnOf_ok _) Tryz.func24 rfl rfl rfl (by decide) rfl ?_
 rintro ⟨a0, a1, a2, _⟩ hwf hpre ⟨P, C, B, X, w0, M0, pv⟩ hG rfl rfl
 show Vc _ _ [(0, ⟨0, 0, .c Z30 a0⟩), (1, ⟨0, 0, .c Z18 a1⟩), (2, ⟨0, 0, .c Z30 a2⟩)] _
 have hb : List.length a2 ≤ bigLen := hwf.2.2.1.1
 refine Vc.seq (Vc.region hG rfl (by trivial) (Vc.seq (Vc.seq ?_)))
 refine Vc.region hG rfl (by trivial) (Vc.block ?_)
 refine Vc.loopF [(6, true, .pure Y45), (8, false, .pure (.int .i64))] [0, 1, 2] (fun v => fpInv (contraryF a0 a1) (dflt Y45) a2 v.2.1) (fun v => ((List.length a2 : Int) - v.2.1).toNat) rfl ?_ ?_
 · exact fpStart
 rintro ⟨zi, (i : Int), _⟩ hI
 have hI : fpInv (contraryF a0 a1) (dflt Y45) a2 i := hI
 refine Vc.seq (Vc.seq (Vc.region hG rfl (by trivial) ?_))
 refine Vc.cond rfl (fun h0 => ?_) (fun h0 => ?_)
 · have hl : i < (List.length a2 : Int) := of_decide_eq_true h0
   refine Vc.skip (Vc.seq (Vc.block (Vc.seq ?_)))
   refine Vc.region hG rfl (by trivial) (Vc.block ?_)
   refine Vc.loopF [(6, true, .pure Y45), (9, false, .pure (.int .i64))] [0, 1, 2, 8, 13] (fun v => gInv (contraryF a0 a1 (List.getD a2 i.toNat (dflt Y26))) a2 (i.toNat + 1) v.2.1) (fun v => ((List.length a2 : Int) - v.2.1).toNat) rfl ?_ ?_
   · exact gStart hI.1 hl hb
   rintro ⟨zj, (j : Int), _⟩ hJ
   have hJ : gInv (contraryF a0 a1 (List.getD a2 i.toNat (dflt Y26))) a2 (i.toNat + 1) j := hJ
   refine Vc.seq (Vc.seq (Vc.region hG rfl (by trivial) ?_))
   refine Vc.cond rfl (fun h1 => ?_) (fun h1 => ?_)
   · have hm : j < (List.length a2 : Int) := of_decide_eq_true h1
     refine Vc.skip (Vc.seq (Vc.block (Vc.seq ?_)))
     refine Vc.regionD mixed hG rfl (by kernel_rfl) ?_ ?_
     · exact ⟨fpRange hI hl, gRange hJ hm, trivial⟩
     refine Vc.cond rfl (fun h2 => ?_) (fun h2 => ?_)
     · have g2 : contraryF a0 a1 (List.getD a2 i.toNat (dflt Y26)) (List.getD a2 j.toNat (dflt Y26)) = true := h2
       refine Vc.seq ?_
       refine Vc.regionD mixed hG rfl (by kernel_rfl) ?_ ?_
       · exact ⟨fpRange hI hl, gRange hJ hm⟩
       refine Vc.ret ?_
       have e := fpHit hI hl (gHit hJ hm g2)
       refine ⟨?_, ?_, trivial⟩
       · exact congrArg Prod.fst e
       · exact congrArg Prod.snd e
     · have g2 : contraryF a0 a1 (List.getD a2 i.toNat (dflt Y26)) (List.getD a2 j.toNat (dflt Y26)) = false := h2
       refine Vc.skip (Vc.region hG rfl (by trivial) ?_)
       refine ⟨rfl, ?_⟩
       exact gStep hJ hm hb g2
   · have hm : ¬ j < (List.length a2 : Int) := of_decide_eq_false h1
     refine Vc.exit (Vc.region hG rfl (by trivial) ?_)
     refine ⟨rfl, ?_⟩
     exact fpNext hI hl hb (gEnd hJ hm)
 · have hl : ¬ i < (List.length a2 : Int) := of_decide_eq_false h0
   refine Vc.exit (Vc.seq (Vc.region hG rfl (by trivial) (Vc.ret ?_)))
   have e := fpEnd hI hl
   refine ⟨?_, ?_, trivial⟩
   · exact congrArg Prod.fst e
   · exact congrArg Prod.snd e
noncomputable def F28 : Fun := ⟨[.slice (.int .u8)], [.pure Y28, .pure Y14, .pure Y26, .pure Y26], fun _ => True, fun x => ((conC x.1).1, (conC x.1).2.1, (conC x.1).2.2.1, (conC x.1).2.2.2, ())⟩
theorem F28_ok : Meets Tryz.prog 28 F28 := by
 refine meets_of_vc (C := mkCP 34 [2, 3, 4, 5, 6] [0,2,3,4,5,6,7,8,16] [⟨66, _, F66_ok⟩, ⟨69, _, F69_ok⟩, ⟨70, _, F70_ok⟩, ⟨74, _, F74_ok⟩] [] [] [⟨68, _, P68_ok⟩, ⟨73, _, P73_ok⟩, ⟨67, _, P67_ok⟩] []) (mkCP_ok _ _ _ _ _ _ _ _) (fnOf_ok _) Tryz.func28 rfl rfl rfl (by decide) rfl ?_
 rintro ⟨a0, _⟩ hwf hpre ⟨P, C, B, X, w0, M0, pv⟩ hG rfl rfl
 show Vc _ _ [(0, ⟨0, 0, .c Z1 a0⟩)] _
 have hb : List.length a0 ≤ bigLen := hwf.1.1
 have hk := cy_ok hb
 refine Vc.seq (Vc.region hG rfl (by trivial) (Vc.seq ?_))
 refine Vc.region hG rfl ?_ ?_
 · repeat' (first | exact trivial | exact newCur_ok hb | exact hk.1 | exact hk.2.1 | exact hk.2.2.1 | exact hk.2.2.2 | refine And.intro ?_ ?_ | intro _)
 refine Vc.seq ?_
 refine Vc.region hG rfl ?_ ?_
 · repeat' (first | exact trivial | exact newCur_ok hb | exact hk.1 | exact hk.2.1 | exact hk.2.2.1 | exact hk.2.2.2 | refine And.intro ?_ ?_ | intro _)
 refine Vc.seq ?_
 refine Vc.region hG rfl ?_ ?_
 · repeat' (first | exact trivial | exact newCur_ok hb | exact hk.1 | exact hk.2.1 | exact hk.2.2.1 | exact hk.2.2.2 | refine And.intro ?_ ?_ | intro _)
 refine Vc.seq (Vc.seq ?_)
 refine Vc.region hG rfl ?_ ?_
 · repeat' (first | exact trivial | exact newCur_ok hb | exact hk.1 | exact hk.2.1 | exact hk.2.2.1 | exact hk.2.2.2 | refine And.intro ?_ ?_ | intro _)
 refine Vc.cond rfl (fun h0 => ?_) (fun h0 => ?_)
 · refine Vc.regionD mixed hG rfl (by kernel_rfl) ?_ ?_
   · repeat' (first | exact trivial | exact newCur_ok hb | exact hk.1 | exact hk.2.1 | exact hk.2.2.1 | exact hk.2.2.2 | refine And.intro ?_ ?_ | intro _)
   refine Vc.seq ?_
   refine Vc.regionD mixed hG rfl (by kernel_rfl) ?_ ?_
   · repeat' (first | exact trivial | exact newCur_ok hb | exact hk.1 | exact hk.2.1 | exact hk.2.2.1 | exact hk.2.2.2 | refine And.intro ?_ ?_ | intro _)
   refine Vc.frz 2 rfl ?_
   refine Vc.frz 3 rfl ?_
   refine Vc.ret ?_
   have e : conC a0 = _ := (cT h0)
   refine ⟨?_, ?_, ?_, ?_, trivial⟩
   · exact (congrArg (fun r => r.1) e).symm
   · exact (congrArg (fun r => r.2.1) e).symm
   · exact (congrArg (fun r => r.2.2.1) e).symm
   · exact (congrArg (fun r => r.2.2.2) e).symm
 · refine Vc.skip (Vc.seq ?_)
   refine Vc.regionD mixed hG rfl (by kernel_rfl) ?_ ?_
   · repeat' (first | exact trivial | exact newCur_ok hb | exact hk.1 | exact hk.2.1 | exact hk.2.2.1 | exact hk.2.2.2 | refine And.intro ?_ ?_ | intro _)
   refine Vc.frz 2 rfl ?_
   refine Vc.frz 3 rfl ?_
   refine Vc.ret ?_
   have e : conC a0 = _ := (cF h0)
   refine ⟨?_, ?_, ?_, ?_, trivial⟩
   · exact (congrArg (fun r => r.1) e).symm
   · exact (congrArg (fun r => r.2.1) e).symm
   · exact (congrArg (fun r => r.2.2.1) e).symm
   · exact (congrArg (fun r => r.2.2.2) e).symm
noncomputable def P370 : PFun := ⟨.pure Y13, [.slice (.str)], [.pure (.str)], fun x xs => (fun c (l : List (List UInt8)) => curOk c ∧ 0 < List.length l) x xs.1, fun x xs => (strF x xs.1).2, fun x xs => ((strF x xs.1).1, ())⟩
theorem P370_ok : MeetsP Tryz.prog 370 P370 := by
 refine meetsP_of_vc (C := mkCP 12 [4] [0,1,4] [] [] [] [⟨67, _, P67_ok⟩] [0]) (mkCP_ok _ _ _ _ _ _ _ _) (fnOf_ok _) Tryz.func370 rfl rfl rfl (by decide) rfl rfl rfl ?_ rfl
 rintro c ⟨a1, _⟩ hwc hwf hpre ⟨P, C, B, X, w0, M0, pv⟩ hG rfl rfl
 show Vc _ _ [(0, ⟨0, 0, .c (.ref Z17) c⟩), (1, ⟨0, 0, .c (.pure (.slice (.str))) a1⟩)] _
 refine Vc.seq (Vc.region hG rfl (by trivial) (Vc.seq ?_))
 refine Vc.region hG rfl ?_ ?_
 · exact ⟨hpre.1, int_range hpre.2⟩
 refine Vc.ret ?_
 refine ⟨⟨?_, trivial⟩, ?_, trivial⟩
 all_goals exact rfl
noncomputable def P360 : PFun := ⟨.pure Y13, [], [.pure (.str)], fun x _ => curOk x, fun x _ => (wordF x).2, fun x _ => ((wordF x).1, ())⟩
theorem P360_ok : MeetsP Tryz.prog 360 P360 := by
 refine meetsP_of_vc (C := mkCP 6 [2] [0,2] [] [] [] [⟨370, _, P370_ok⟩] [0]) (mkCP_ok _ _ _ _ _ _ _ _) (fnOf_ok _) Tryz.func360 rfl rfl rfl (by decide) rfl rfl rfl ?_ rfl
 rintro c ⟨_⟩ hwc hwf hpre ⟨P, C, B, X, w0, M0, pv⟩ hG rfl rfl
 show Vc _ _ [(0, ⟨0, 0, .c (.ref Z17) c⟩)] _
 refine Vc.seq (Vc.region hG rfl (by trivial) (Vc.seq ?_))
 refine Vc.region hG rfl ?_ ?_
 · exact ⟨hpre, Nat.succ_pos _⟩
 refine Vc.ret ?_
 refine ⟨⟨?_, trivial⟩, ?_, trivial⟩
 all_goals exact rfl
noncomputable def F199 : Fun := ⟨[.int .i64, .int .i64], [.pure (.int .i64)], fun _ => True, fun x => ((fun (a b : Int) => max a b) x.1 x.2.1, ())⟩
theorem F199_ok : Meets Tryz.prog 199 F199 := by
 refine meets_of_vc (C := mkC 10 [4] [0,1,4,7] []) (mkC_ok _ _ _ _) (fnOf_ok _) Tryz.func199 rfl rfl rfl (by decide) rfl ?_
 rintro ⟨(a0 : Int), (a1 : Int), _⟩ hwf hpre ⟨P, C, B, X, w0, M0, pv⟩ hG rfl rfl
 show Vc _ _ [(0, ⟨0, 0, .c (.pure (.int .i64)) a0⟩), (1, ⟨0, 0, .c (.pure (.int .i64)) a1⟩)] _
 refine Vc.seq (Vc.region hG rfl (by trivial) (Vc.seq (Vc.seq ?_)))
 refine Vc.region hG rfl (by trivial) ?_
 refine Vc.cond rfl (fun h0 => ?_) (fun h0 => ?_)
 · refine Vc.seq (Vc.region hG rfl (by trivial) (Vc.ret ?_))
   refine ⟨?_, trivial⟩
   exact maxT h0
 · refine Vc.skip (Vc.seq (Vc.region hG rfl (by trivial) (Vc.ret ?_)))
   refine ⟨?_, trivial⟩
   exact maxE h0
noncomputable def F136 : Fun := ⟨[.pair (.int .i64) Y9], [.pure (.bool)], fun _ => True, fun x => (docF x.1, ())⟩
theorem F136_ok : Meets Tryz.prog 136 F136 := by
 refine meets_of_vc (C := mkC 51 [2] [0,1,2,3,4,9,18,23,32] [⟨172, _, F172_ok⟩]) (mkC_ok _ _ _ _) (fnOf_ok _) Tryz.func136 rfl rfl rfl (by decide) rfl ?_
 rintro ⟨a0, _⟩ hwf hpre ⟨P, C, B, X, w0, M0, pv⟩ hG rfl rfl
 show Vc _ _ [(0, ⟨0, 0, .c Z22 a0⟩)] _
 have hb0 : List.length a0.2.1 ≤ bigLen := hwf.1.2.1.1
 have hb1 : List.length a0.2.2 ≤ bigLen := hwf.1.2.2.1
 refine Vc.seq (Vc.region hG rfl (by trivial) (Vc.seq (Vc.seq ?_)))
 refine Vc.region hG rfl (by trivial) (Vc.block ?_)
 refine Vc.loopF [(3, false, .pure (.int .i64))] [0, 1, 4, 23, 32] (fun v => kInv (fun k => (List.length (List.getD a0.2.1 k (dflt .str)) : Int) ≤ 40) a0.2.1 v.1) (fun v => ((List.length a0.2.1 : Int) - v.1).toNat) rfl ?_ ?_
 · exact kStart
 rintro ⟨(i : Int), _⟩ hI0
 have hI0 : kInv (fun k => (List.length (List.getD a0.2.1 k (dflt .str)) : Int) ≤ 40) a0.2.1 i := hI0
 refine Vc.seq (Vc.seq (Vc.region hG rfl (by trivial) ?_))
 refine Vc.cond rfl (fun h0 => ?_) (fun h0 => ?_)
 · have hl0 : i < (List.length a0.2.1 : Int) := of_decide_eq_true h0
   refine Vc.skip (Vc.seq (Vc.block (Vc.seq ?_)))
   refine Vc.region hG rfl ?_ ?_
   · exact kRange hI0 hl0
   refine Vc.cond rfl (fun h1 => ?_) (fun h1 => ?_)
   · have g1 : (List.length (List.getD a0.2.1 i.toNat (dflt .str)) : Int) > 40 := of_decide_eq_true h1
     refine Vc.seq (Vc.region hG rfl (by trivial) (Vc.ret ?_))
     refine ⟨?_, trivial⟩
     refine boolC_no (P := docP a0) (fun h => ?_)
     have q := h.2.2.2.1 i.toNat (kLt hI0 hl0)
     exact absurd q (Int.not_le.2 g1)
   · have g1 : ¬ (List.length (List.getD a0.2.1 i.toNat (dflt .str)) : Int) > 40 := of_decide_eq_false h1
     refine Vc.skip (Vc.region hG rfl (by trivial) ?_)
     refine ⟨rfl, ?_⟩
     exact kStep hI0 hl0 hb0 (show (List.length (List.getD a0.2.1 i.toNat (dflt .str)) : Int) ≤ 40 from Int.not_lt.1 g1)
 · have hl0 : ¬ i < (List.length a0.2.1 : Int) := of_decide_eq_false h0
   refine Vc.exit (Vc.seq (Vc.seq (Vc.region hG rfl (by trivial) ?_)))
   refine Vc.block ?_
   refine Vc.loopF [(4, false, .pure (.int .i64))] [0, 1, 3, 9, 18] (fun v => kInv (fun k => inRangeF (List.getD a0.2.2 k (dflt (.int .i64))) 1 1000000000000 = true) a0.2.2 v.1) (fun v => ((List.length a0.2.2 : Int) - v.1).toNat) rfl ?_ ?_
   · exact kStart
   rintro ⟨(i : Int), _⟩ hI1
   have hI1 : kInv (fun k => inRangeF (List.getD a0.2.2 k (dflt (.int .i64))) 1 1000000000000 = true) a0.2.2 i := hI1
   refine Vc.seq (Vc.seq (Vc.region hG rfl (by trivial) ?_))
   refine Vc.cond rfl (fun h2 => ?_) (fun h2 => ?_)
   · have hl1 : i < (List.length a0.2.2 : Int) := of_decide_eq_true h2
     refine Vc.skip (Vc.seq (Vc.block (Vc.seq ?_)))
     refine Vc.region hG rfl ?_ ?_
     · exact ⟨kRange hI1 hl1, trivial⟩
     refine Vc.cond rfl (fun h3 => ?_) (fun h3 => ?_)
     · have g3 : (!(inRangeF (List.getD a0.2.2 i.toNat (dflt (.int .i64))) 1 1000000000000)) = true := h3
       refine Vc.seq (Vc.region hG rfl (by trivial) (Vc.ret ?_))
       refine ⟨?_, trivial⟩
       refine boolC_no (P := docP a0) (fun h => ?_)
       exact nself (h.2.2.2.2 i.toNat (kLt hI1 hl1)) g3
     · have g3 : (!(inRangeF (List.getD a0.2.2 i.toNat (dflt (.int .i64))) 1 1000000000000)) = false := h3
       refine Vc.skip (Vc.region hG rfl (by trivial) ?_)
       refine ⟨rfl, ?_⟩
       exact kStep hI1 hl1 hb1 (notF g3)
   · have hl1 : ¬ i < (List.length a0.2.2 : Int) := of_decide_eq_false h2
     refine Vc.exit (Vc.seq ?_)
     refine Vc.region hG rfl ?_ ?_
     · repeat' (first | exact trivial | refine And.intro ?_ ?_ | intro _)
     refine Vc.ret ?_
     refine ⟨?_, trivial⟩
     refine boolC_by (P := docP a0) (fun e => ?_) (fun h => ?_)
     · exact ⟨(andT (andT e).1).1, (andT (andT e).1).2, lenBeqI (andT e).2, kEnd hI0 hl0, kEnd hI1 hl1⟩
     · exact yesAnd (yesAnd h.1 h.2.1) (lenBeq h.2.2.1)
noncomputable def F350 : Fun := ⟨[.int .i64], [.pure (.bool)], fun _ => True, fun x => (validKeyF x.1, ())⟩
theorem F350_ok : Meets Tryz.prog 350 F350 := by
 refine meets_of_vc (C := mkC 5 [2] [0,2] [⟨172, _, F172_ok⟩]) (mkC_ok _ _ _ _) (fnOf_ok _) Tryz.func350 rfl rfl rfl (by decide) rfl ?_
 rintro ⟨(a0 : Int), _⟩ hwf hpre ⟨P, C, B, X, w0, M0, pv⟩ hG rfl rfl
 show Vc _ _ [(0, ⟨0, 0, .c (.pure (.int .i64)) a0⟩)] _
 refine Vc.seq (Vc.region hG rfl (by trivial) (Vc.seq (Vc.region hG rfl (by trivial) ?_)))
 refine Vc.ret ?_
 refine ⟨?_, trivial⟩
 all_goals exact rfl
noncomputable def F361 : Fun := ⟨[.int .i64, .slice (.str), .int .i64], [.pair (.pure (.int .i64)) Z12, .pure (.bool)], fun x => (fun (_ : Int) (l : List (List UInt8)) (_ : Int) => List.length l ≤ big20) x.1 x.2.1 x.2.2.1, fun x => ((makeDocF x.1 x.2.1 x.2.2.1).1, (makeDocF x.1 x.2.1 x.2.2.1).2, ())⟩
theorem F361_ok : Meets Tryz.prog 361 F361 := by
 refine meets_of_vc (C := mkC 42 [6, 7] [0,1,2,6,7,8,9,18,39] [⟨173, _, F173_ok⟩, ⟨199, _, F199_ok⟩, ⟨136, _, F136_ok⟩, ⟨350, _, F350_ok⟩]) (mkC_ok _ _ _ _) (fnOf_ok _) Tryz.func361 rfl rfl rfl (by decide) rfl ?_
 rintro ⟨(a0 : Int), a1, (a2 : Int), _⟩ hwf hpre ⟨P, C, B, X, w0, M0, pv⟩ hG rfl rfl
 show Vc _ _ [(0, ⟨0, 0, .c (.pure (.int .i64)) a0⟩), (1, ⟨0, 0, .c (.pure (.slice (.str))) a1⟩), (2, ⟨0, 0, .c (.pure (.int .i64)) a2⟩)] _
 have hs : List.length a1 ≤ big20 := hpre
 refine Vc.seq (Vc.region hG rfl (by trivial) (Vc.seq ?_))
 refine Vc.region hG rfl ?_ ?_
 · exact appOk hs
 refine Vc.seq (Vc.seq (Vc.region hG rfl (by trivial) (Vc.block ?_)))
 refine Vc.loopF [(8, true, .pair (.pure (.int .i64)) Z12), (9, false, .pure (.int .i64))] [0, 1, 2, 6, 7, 39] (fun v => mdInv a0 a1 a2 v.1 v.2.1) (fun v => ((List.length a1 : Int) - v.2.1).toNat) rfl ?_ ?_
 · exact mdStart
 rintro ⟨d, (i : Int), _⟩ hI
 have hI : mdInv a0 a1 a2 d i := hI
 refine Vc.seq (Vc.seq (Vc.region hG rfl (by trivial) ?_))
 refine Vc.cond rfl (fun h0 => ?_) (fun h0 => ?_)
 · have hl : i < (List.length a1 : Int) := of_decide_eq_true h0
   refine Vc.skip (Vc.seq (Vc.block ?_))
   refine Vc.regionD mixed hG rfl (by kernel_rfl) ?_ ?_
   · repeat' (first | exact trivial | exact (Nat.le_of_ble_eq_true rfl : (2 : Nat) ≤ 1000000001) | exact mdLen hI hs | refine And.intro ?_ ?_ | intro _)
   refine Vc.region hG rfl (by trivial) ?_
   refine ⟨rfl, ?_⟩
   exact mdStep hI hl hs rfl
 · have hl : ¬ i < (List.length a1 : Int) := of_decide_eq_false h0
   refine Vc.exit (Vc.seq (Vc.seq ?_))
   refine Vc.region hG rfl ?_ ?_
   · repeat' (first | exact trivial | refine And.intro ?_ ?_ | intro _)
   refine Vc.cond rfl (fun h1 => ?_) (fun h1 => ?_)
   · refine Vc.seq (Vc.region hG rfl (by trivial) (Vc.ret ?_))
     have e := md0 hI hl h1
     refine ⟨?_, ?_, trivial⟩
     · exact (congrArg Prod.fst e).symm
     · exact (congrArg Prod.snd e).symm
   · refine Vc.skip (Vc.seq (Vc.region hG rfl (by trivial) (Vc.ret ?_)))
     have e := md1 hI hl h1
     refine ⟨?_, ?_, trivial⟩
     · exact (congrArg Prod.fst e).symm
     · exact (congrArg Prod.snd e).symm
noncomputable def P341 : PFun := ⟨.pure Y13, [], [.pair (.pure (.int .i64)) Z12], fun x _ => curOk x, fun x _ => (docD x).2, fun x _ => ((docD x).1, ())⟩
theorem P341_ok : MeetsP Tryz.prog 341 P341 := by
 refine meetsP_of_vc (C := mkCP 28 [2] [0,2,3,4,5,12] [⟨361, _, F361_ok⟩] [] [] [⟨67, _, P67_ok⟩, ⟨360, _, P360_ok⟩] [0]) (mkCP_ok _ _ _ _ _ _ _ _) (fnOf_ok _) Tryz.func341 rfl rfl rfl (by decide) rfl rfl rfl ?_ rfl
 rintro c ⟨_⟩ hwc hwf hpre ⟨P, C, B, X, w0, M0, pv⟩ hG rfl rfl
 show Vc _ _ [(0, ⟨0, 0, .c (.ref Z17) c⟩)] _
 refine Vc.seq (Vc.region hG rfl (by trivial) (Vc.seq (Vc.region hG rfl (by trivial) ?_)))
 refine Vc.seq (Vc.seq ?_)
 refine Vc.region hG rfl ?_ ?_
 · exact hpre
 refine Vc.block ?_
 refine Vc.loopF [(0, true, .pure Y13), (3, false, .own (.pure (.str))), (4, false, .pure (.int .i64))] [2, 5] (fun v => dnInv partS ((belowF c 3).2, []) (IntKind.i64.wrap (1 + (belowF c 3).1)) (v.1, v.2.1) v.2.2.1) (fun v => (v.2.2.1 : Int).toNat) rfl ?_ ?_
 · exact dnStart ⟨(bel3n c).1, (bel3n c).2.1⟩
 rintro ⟨c2, acc, (i : Int), _⟩ hI
 have hI : dnInv partS ((belowF c 3).2, []) (IntKind.i64.wrap (1 + (belowF c 3).1)) (c2, acc) i := hI
 obtain ⟨k, hk, hc2, hlen, _⟩ := dnP partP ⟨below_ok hpre, rfl, by simp⟩ partS_P hI
 have hlen : List.length acc = k := hlen
 have hc2 : curOk c2 := hc2
 have hn := (bel3n c).2.1
 refine Vc.seq (Vc.seq (Vc.region hG rfl (by trivial) ?_))
 refine Vc.cond rfl (fun h0 => ?_) (fun h0 => ?_)
 · have hl : i > 0 := of_decide_eq_true h0
   refine Vc.skip (Vc.seq (Vc.block ?_))
   refine Vc.region hG rfl ?_ ?_
   · exact ⟨hc2, dnApp hlen hk hn⟩
   refine Vc.region hG rfl (by trivial) ?_
   refine ⟨rfl, ?_⟩
   exact dnStep hI hl
 · have hl : ¬ i > 0 := of_decide_eq_false h0
   have hE := dnEnd hI hl
   refine Vc.exit (Vc.seq ?_)
   refine Vc.region hG rfl ?_ ?_
   · repeat' (first | exact trivial | exact hc2 | exact dnBig hlen hk hn | refine And.intro ?_ ?_ | intro _)
   refine Vc.seq (Vc.region hG rfl (by trivial) (Vc.ret ?_))
   have e := docD_leaf hE
   refine ⟨⟨?_, trivial⟩, ?_, trivial⟩
   · exact (congrArg Prod.snd e).symm
   · exact (congrArg Prod.fst e).symm
noncomputable def F138 : Fun := ⟨[.int .i64, .slice (.int .i64)], [.pure (.int .i64)], fun x => (fun (_ : Int) (l : List Int) => smallL l) x.1 x.2.1, fun x => (digestF x.1 x.2.1, ())⟩
theorem F138_ok : Meets Tryz.prog 138 F138 := by
 refine meets_of_vc (C := mkC 10 [4] [0,1,4] [⟨207, _, F207_ok⟩]) (mkC_ok _ _ _ _) (fnOf_ok _) Tryz.func138 rfl rfl rfl (by decide) rfl ?_
 rintro ⟨(a0 : Int), a1, _⟩ hwf hpre ⟨P, C, B, X, w0, M0, pv⟩ hG rfl rfl
 show Vc _ _ [(0, ⟨0, 0, .c (.pure (.int .i64)) a0⟩), (1, ⟨0, 0, .c Z3 a1⟩)] _
 have hp : List.length a1 ≤ 1000000000 := hpre
 refine Vc.seq (Vc.region hG rfl (by trivial) (Vc.seq ?_))
 refine Vc.region hG rfl ?_ ?_
 · refine ⟨?_, trivial⟩
   show 2 + List.length a1 ≤ maxApp
   unfold maxApp; omega
 refine Vc.ret ?_
 refine ⟨?_, trivial⟩
 exact (digest_eq a0 a1).symm
noncomputable def F137 : Fun := ⟨[.int .i64, .str, .int .i64], [.pure (.int .i64)], fun x => (fun (_ : Int) (s : List UInt8) (_ : Int) => s.length ≤ 40) x.1 x.2.1 x.2.2.1, fun x => (partF x.1 x.2.1 x.2.2.1, ())⟩
theorem F137_ok : Meets Tryz.prog 137 F137 := by
 refine meets_of_vc (C := mkC 27 [6] [0,1,2,6,7,8,14] [⟨138, _, F138_ok⟩]) (mkC_ok _ _ _ _) (fnOf_ok _) Tryz.func137 rfl rfl rfl (by decide) rfl ?_
 rintro ⟨(a0 : Int), a1, (a2 : Int), _⟩ hwf hpre ⟨P, C, B, X, w0, M0, pv⟩ hG rfl rfl
 show Vc _ _ [(0, ⟨0, 0, .c (.pure (.int .i64)) a0⟩), (1, ⟨0, 0, .c (.pure (.str)) a1⟩), (2, ⟨0, 0, .c (.pure (.int .i64)) a2⟩)] _
 have hp : List.length a1 ≤ 40 := hpre
 have hb : List.length a1 ≤ bigLen := hwf.2.1
 refine Vc.seq (Vc.region hG rfl (by trivial) (Vc.seq (Vc.region hG rfl (by trivial) ?_)))
 refine Vc.seq (Vc.seq (Vc.region hG rfl (by trivial) (Vc.block ?_)))
 refine Vc.loopF [(7, false, .own (.pure (.int .i64))), (8, false, .pure (.int .i64))] [0, 1, 2, 6] (fun v => gsInv (partG a1) [a2] a1 v.1 v.2.1) (fun v => ((List.length a1 : Int) - v.2.1).toNat) rfl ?_ ?_
 · exact gsStart
 rintro ⟨acc, (i : Int), _⟩ hI
 have hI : gsInv (partG a1) [a2] a1 acc i := hI
 have hA : List.length acc ≤ 41 := gsLen (c := 1) (m := 40) hI (fun _ => Nat.le_refl _) hp (by simp)
 refine Vc.seq (Vc.seq (Vc.region hG rfl (by trivial) ?_))
 refine Vc.cond rfl (fun h0 => ?_) (fun h0 => ?_)
 · have hl : i < (List.length a1 : Int) := of_decide_eq_true h0
   refine Vc.skip (Vc.seq (Vc.block ?_))
   refine Vc.region hG rfl ?_ ?_
   · exact ⟨gsRange hI hl, (show List.length acc + 1 ≤ maxApp from by unfold maxApp; omega)⟩
   refine Vc.region hG rfl (by trivial) ?_
   refine ⟨rfl, ?_⟩
   exact gsStep hI hl hb rfl
 · have hl : ¬ i < (List.length a1 : Int) := of_decide_eq_false h0
   refine Vc.exit (Vc.seq ?_)
   refine Vc.region hG rfl ?_ ?_
   · exact (show List.length acc ≤ 1000000000 from by omega)
   refine Vc.ret ?_
   refine ⟨?_, trivial⟩
   exact congrArg (digestF a0) (gsEnd hI hl)
noncomputable def F83 : Fun := ⟨[.int .i64, .pair (.int .i64) Y9], [.pure (.int .i64)], fun _ => True, fun x => (docDigF x.1 x.2.1, ())⟩
theorem F83_ok : Meets Tryz.prog 83 F83 := by
 refine meets_of_vc (C := mkC 38 [4] [0,1,3,4,5,6,9,17] [⟨136, _, F136_ok⟩, ⟨137, _, F137_ok⟩, ⟨138, _, F138_ok⟩]) (mkC_ok _ _ _ _) (fnOf_ok _) Tryz.func83 rfl rfl rfl (by decide) rfl ?_
 rintro ⟨(a0 : Int), a1, _⟩ hwf hpre ⟨P, C, B, X, w0, M0, pv⟩ hG rfl rfl
 show Vc _ _ [(0, ⟨0, 0, .c (.pure (.int .i64)) a0⟩), (1, ⟨0, 0, .c Z22 a1⟩)] _
 have hb : List.length a1.2.1 ≤ bigLen := hwf.2.1.2.1.1
 refine Vc.seq (Vc.region hG rfl (by trivial) (Vc.seq (Vc.seq ?_)))
 refine Vc.region hG rfl (by trivial) ?_
 refine Vc.cond rfl (fun h0 => ?_) (fun h0 => ?_)
 · have g0 : (!(docF a1)) = true := h0
   refine Vc.seq (Vc.region hG rfl (by trivial) (Vc.ret ?_))
   refine ⟨?_, trivial⟩
   exact docDig0 g0
 · have g0 : (!(docF a1)) = false := h0
   have hd := docP_of g0
   have h6 : List.length a1.2.1 ≤ 6 := docN hd
   refine Vc.skip (Vc.seq (Vc.region hG rfl (by trivial) (Vc.seq ?_)))
   refine Vc.seq (Vc.region hG rfl (by trivial) (Vc.block ?_))
   refine Vc.loopF [(5, false, .own (.pure (.int .i64))), (6, false, .pure (.int .i64))] [0, 1, 3, 4, 9] (fun v => gsInv (docG a0 a1) [a1.1] a1.2.1 v.1 v.2.1) (fun v => ((List.length a1.2.1 : Int) - v.2.1).toNat) rfl ?_ ?_
   · exact gsStart
   rintro ⟨acc, (i : Int), _⟩ hI
   have hI : gsInv (docG a0 a1) [a1.1] a1.2.1 acc i := hI
   have hA : List.length acc ≤ 7 := gsLen (c := 1) (m := 6) hI (fun _ => Nat.le_refl _) h6 (by simp)
   refine Vc.seq (Vc.seq (Vc.region hG rfl (by trivial) ?_))
   refine Vc.cond rfl (fun h1 => ?_) (fun h1 => ?_)
   · have hl : i < (List.length a1.2.1 : Int) := of_decide_eq_true h1
     refine Vc.skip (Vc.seq (Vc.block ?_))
     refine Vc.regionD mixed hG rfl (by kernel_rfl) ?_ ?_
     · exact ⟨gsRange hI hl, docX hd hI hl, doc40 hd hI hl, (show List.length acc + 1 ≤ maxApp from by unfold maxApp; omega)⟩
     refine Vc.region hG rfl (by trivial) ?_
     refine ⟨rfl, ?_⟩
     exact gsStep hI hl hb rfl
   · have hl : ¬ i < (List.length a1.2.1 : Int) := of_decide_eq_false h1
     refine Vc.exit (Vc.seq ?_)
     refine Vc.region hG rfl ?_ ?_
     · exact (show List.length acc ≤ 1000000000 from by omega)
     refine Vc.ret ?_
     refine ⟨?_, trivial⟩
     have e := docDig1 (id := a0) (d := a1) (acc := acc) (i := i) g0 hI hl
     exact e
noncomputable def F186 : Fun := ⟨[.pair (.int .i64) Y38], [.pure (.bool)], fun _ => True, fun x => (isSigF x.1, ())⟩
theorem F186_ok : Meets Tryz.prog 186 F186 := by
 refine meets_of_vc (C := mkC 41 [2] [0,1,2] [⟨172, _, F172_ok⟩]) (mkC_ok _ _ _ _) (fnOf_ok _) Tryz.func186 rfl rfl rfl (by decide) rfl ?_
 rintro ⟨a0, _⟩ hwf hpre ⟨P, C, B, X, w0, M0, pv⟩ hG rfl rfl
 show Vc _ _ [(0, ⟨0, 0, .c Z42 a0⟩)] _
 refine Vc.seq (Vc.region hG rfl (by trivial) (Vc.seq ?_))
 refine Vc.region hG rfl ?_ ?_
 · repeat' (first | exact trivial | refine And.intro ?_ ?_ | intro _)
 refine Vc.ret ?_
 refine ⟨?_, trivial⟩
 all_goals exact rfl
noncomputable def F191 : Fun := ⟨[.pair (.int .i64) Y38], [.own (.pure (.int .i64))], fun _ => True, fun x => (sigIntsF x.1, ())⟩
theorem F191_ok : Meets Tryz.prog 191 F191 := by
 refine meets_of_vc (C := mkC 20 [2] [0,1,2] []) (mkC_ok _ _ _ _) (fnOf_ok _) Tryz.func191 rfl rfl rfl (by decide) rfl ?_
 rintro ⟨a0, _⟩ hwf hpre ⟨P, C, B, X, w0, M0, pv⟩ hG rfl rfl
 show Vc _ _ [(0, ⟨0, 0, .c Z42 a0⟩)] _
 refine Vc.seq (Vc.region hG rfl (by trivial) (Vc.seq (Vc.region hG rfl (by trivial) ?_)))
 refine Vc.ret ?_
 refine ⟨?_, trivial⟩
 all_goals exact rfl
noncomputable def F242 : Fun := ⟨[.slice Y26, .pair (.int .i64) Y38], [.pure Y41, .pure (.bool)], fun _ => True, fun x => ((signDigestF x.1 x.2.1).1, (signDigestF x.1 x.2.1).2, ())⟩
theorem F242_ok : Meets Tryz.prog 242 F242 := by
 refine meets_of_vc (C := mkC 28 [4, 5] [0,1,3,4,5,6,17] [⟨113, _, F113_ok⟩, ⟨186, _, F186_ok⟩, ⟨191, _, F191_ok⟩, ⟨114, _, F114_ok⟩]) (mkC_ok _ _ _ _) (fnOf_ok _) Tryz.func242 rfl rfl rfl (by decide) rfl ?_
 rintro ⟨a0, a1, _⟩ hwf hpre ⟨P, C, B, X, w0, M0, pv⟩ hG rfl rfl
 show Vc _ _ [(0, ⟨0, 0, .c Z30 a0⟩), (1, ⟨0, 0, .c Z42 a1⟩)] _
 refine Vc.seq (Vc.region hG rfl (by trivial) (Vc.seq ?_))
 refine Vc.region hG rfl ?_ ?_
 · repeat' (first | exact trivial | exact sgRange h0 | exact smallLit (n := 9) rfl (by decide) | refine And.intro ?_ ?_ | intro _)
 refine Vc.seq (Vc.seq ?_)
 refine Vc.region hG rfl ?_ ?_
 · repeat' (first | exact trivial | exact sgRange h0 | exact smallLit (n := 9) rfl (by decide) | refine And.intro ?_ ?_ | intro _)
 refine Vc.cond rfl (fun h0 => ?_) (fun h0 => ?_)
 · refine Vc.seq (Vc.region hG rfl (by trivial) (Vc.ret ?_))
   have e : signDigestF a0 a1 = _ := (cT h0)
   refine ⟨?_, ?_, trivial⟩
   · exact (congrArg (fun r => r.1) e).symm
   · exact (congrArg (fun r => r.2) e).symm
 · refine Vc.skip (Vc.seq ?_)
   refine Vc.regionD mixed hG rfl (by kernel_rfl) ?_ ?_
   · repeat' (first | exact trivial | exact sgRange h0 | exact smallLit (n := 9) rfl (by decide) | refine And.intro ?_ ?_ | intro _)
   refine Vc.seq (Vc.region hG rfl (by trivial) (Vc.ret ?_))
   have e : signDigestF a0 a1 = _ := (cF h0)
   refine ⟨?_, ?_, trivial⟩
   · exact (congrArg (fun r => r.1) e).symm
   · exact (congrArg (fun r => r.2) e).symm
noncomputable def F342 : Fun := ⟨[.slice Y26, .int .i64, .int .i64, .int .i64, .pair (.int .i64) Y9, .int .i64], [.pure Y41, .pure (.bool)], fun _ => True, fun x => ((signDocF x.1 x.2.1 x.2.2.1 x.2.2.2.1 x.2.2.2.2.1 x.2.2.2.2.2.1).1, (signDocF x.1 x.2.1 x.2.2.1 x.2.2.2.1 x.2.2.2.2.1 x.2.2.2.2.2.1).2, ())⟩
theorem F342_ok : Meets Tryz.prog 342 F342 := by
 refine meets_of_vc (C := mkC 26 [12, 13] [0,1,2,3,4,5,10,12,13] [⟨83, _, F83_ok⟩, ⟨242, _, F242_ok⟩]) (mkC_ok _ _ _ _) (fnOf_ok _) Tryz.func342 rfl rfl rfl (by decide) rfl ?_
 rintro ⟨a0, (a1 : Int), (a2 : Int), (a3 : Int), a4, (a5 : Int), _⟩ hwf hpre ⟨P, C, B, X, w0, M0, pv⟩ hG rfl rfl
 show Vc _ _ [(0, ⟨0, 0, .c Z30 a0⟩), (1, ⟨0, 0, .c (.pure (.int .i64)) a1⟩), (2, ⟨0, 0, .c (.pure (.int .i64)) a2⟩), (3, ⟨0, 0, .c (.pure (.int .i64)) a3⟩), (4, ⟨0, 0, .c Z22 a4⟩), (5, ⟨0, 0, .c (.pure (.int .i64)) a5⟩)] _
 refine Vc.seq (Vc.region hG rfl (by trivial) (Vc.seq ?_))
 refine Vc.region hG rfl ?_ ?_
 · repeat' (first | exact trivial | refine And.intro ?_ ?_ | intro _)
 refine Vc.ret ?_
 refine ⟨?_, ?_, trivial⟩
 all_goals exact rfl
noncomputable def P308 : PFun := ⟨.pure Y13, [], [.pure Y41, .pair (.pure (.int .i64)) Z12], fun x _ => curOk x, fun x _ => (signD x).2, fun x _ => ((signD x).1.1, (signD x).1.2, ())⟩
theorem P308_ok : MeetsP Tryz.prog 308 P308 := by
 refine meetsP_of_vc (C := mkCP 29 [2, 3] [0,2,3,4,5,6] [⟨69, _, F69_ok⟩, ⟨342, _, F342_ok⟩] [] [] [⟨341, _, P341_ok⟩, ⟨67, _, P67_ok⟩] [0]) (mkCP_ok _ _ _ _ _ _ _ _) (fnOf_ok _) Tryz.func308 rfl rfl rfl (by decide) rfl rfl rfl ?_ rfl
 rintro c ⟨_⟩ hwc hwf hpre ⟨P, C, B, X, w0, M0, pv⟩ hG rfl rfl
 show Vc _ _ [(0, ⟨0, 0, .c (.ref Z17) c⟩)] _
 refine Vc.seq (Vc.region hG rfl (by trivial) (Vc.seq ?_))
 refine Vc.region hG rfl ?_ ?_
 · repeat' (first | exact trivial | exact hpre | exact docD_ok hpre | exact below_ok (docD_ok hpre) | refine And.intro ?_ ?_ | intro _)
 refine Vc.seq ?_
 refine Vc.region hG rfl ?_ ?_
 · repeat' (first | exact trivial | exact hpre | exact docD_ok hpre | exact below_ok (docD_ok hpre) | refine And.intro ?_ ?_ | intro _)
 refine Vc.seq ?_
 refine Vc.regionD mixed hG rfl (by kernel_rfl) ?_ ?_
 · repeat' (first | exact trivial | exact hpre | exact docD_ok hpre | exact below_ok (docD_ok hpre) | refine And.intro ?_ ?_ | intro _)
 refine Vc.seq (Vc.regionD mixed hG rfl (by kernel_rfl) (by trivial) (Vc.ret ?_))
 refine ⟨⟨?_, trivial⟩, ?_, ?_, trivial⟩
 all_goals exact rfl
noncomputable def F124 : Fun := ⟨[.pair (.int .i64) Y38], [.pair (.pure (.int .i64)) Z11], fun _ => True, fun x => (signPieceF x.1, ())⟩
theorem F124_ok : Meets Tryz.prog 124 F124 := by
 refine meets_of_vc (C := mkC 10 [2] [0,1,2] [⟨191, _, F191_ok⟩]) (mkC_ok _ _ _ _) (fnOf_ok _) Tryz.func124 rfl rfl rfl (by decide) rfl ?_
 rintro ⟨a0, _⟩ hwf hpre ⟨P, C, B, X, w0, M0, pv⟩ hG rfl rfl
 show Vc _ _ [(0, ⟨0, 0, .c Z42 a0⟩)] _
 refine Vc.seq (Vc.region hG rfl (by trivial) (Vc.seq (Vc.regionD mixed hG rfl (by kernel_rfl) (by trivial) ?_)))
 refine Vc.ret ?_
 refine ⟨?_, trivial⟩
 all_goals exact rfl
noncomputable def F277 : Fun := ⟨[.pair (.int .i64) Y32], [.pure Y4], fun _ => True, fun x => (certSpanF x.1, ())⟩
theorem F277_ok : Meets Tryz.prog 277 F277 := by
 refine meets_of_vc (C := mkC 8 [2] [0,1,2] []) (mkC_ok _ _ _ _) (fnOf_ok _) Tryz.func277 rfl rfl rfl (by decide) rfl ?_
 rintro ⟨a0, _⟩ hwf hpre ⟨P, C, B, X, w0, M0, pv⟩ hG rfl rfl
 show Vc _ _ [(0, ⟨0, 0, .c Z36 a0⟩)] _
 refine Vc.seq (Vc.region hG rfl (by trivial) (Vc.seq (Vc.region hG rfl (by trivial) ?_)))
 refine Vc.ret ?_
 refine ⟨?_, trivial⟩
 all_goals exact rfl
noncomputable def F204 : Fun := ⟨[.pair (.int .i64) (.int .i64)], [.pure (.bool)], fun _ => True, fun x => (isSpanF x.1, ())⟩
theorem F204_ok : Meets Tryz.prog 204 F204 := by
 refine meets_of_vc (C := mkC 18 [2] [0,1,2] [⟨112, _, F112_ok⟩]) (mkC_ok _ _ _ _) (fnOf_ok _) Tryz.func204 rfl rfl rfl (by decide) rfl ?_
 rintro ⟨a0, _⟩ hwf hpre ⟨P, C, B, X, w0, M0, pv⟩ hG rfl rfl
 show Vc _ _ [(0, ⟨0, 0, .c (.pure Y4) a0⟩)] _
 refine Vc.seq (Vc.region hG rfl (by trivial) (Vc.seq ?_))
 refine Vc.region hG rfl ?_ ?_
 · repeat' (first | exact trivial | refine And.intro ?_ ?_ | intro _)
 refine Vc.ret ?_
 refine ⟨?_, trivial⟩
 all_goals exact rfl
noncomputable def F264 : Fun := ⟨[.pair (.int .i64) Y32], [.pure (.bool)], fun _ => True, fun x => (isCertF x.1, ())⟩
theorem F264_ok : Meets Tryz.prog 264 F264 := by
 refine meets_of_vc (C := mkC 33 [2] [0,1,2] [⟨172, _, F172_ok⟩, ⟨277, _, F277_ok⟩, ⟨204, _, F204_ok⟩]) (mkC_ok _ _ _ _) (fnOf_ok _) Tryz.func264 rfl rfl rfl (by decide) rfl ?_
 rintro ⟨a0, _⟩ hwf hpre ⟨P, C, B, X, w0, M0, pv⟩ hG rfl rfl
 show Vc _ _ [(0, ⟨0, 0, .c Z36 a0⟩)] _
 refine Vc.seq (Vc.region hG rfl (by trivial) (Vc.seq ?_))
 refine Vc.region hG rfl ?_ ?_
 · repeat' (first | exact trivial | refine And.intro ?_ ?_ | intro _)
 refine Vc.ret ?_
 refine ⟨?_, trivial⟩
 all_goals exact rfl
noncomputable def F265 : Fun := ⟨[.pair (.int .i64) Y32], [.own (.pure (.int .i64))], fun _ => True, fun x => (certIntsF x.1, ())⟩
theorem F265_ok : Meets Tryz.prog 265 F265 := by
 refine meets_of_vc (C := mkC 16 [2] [0,1,2] []) (mkC_ok _ _ _ _) (fnOf_ok _) Tryz.func265 rfl rfl rfl (by decide) rfl ?_
 rintro ⟨a0, _⟩ hwf hpre ⟨P, C, B, X, w0, M0, pv⟩ hG rfl rfl
 show Vc _ _ [(0, ⟨0, 0, .c Z36 a0⟩)] _
 refine Vc.seq (Vc.region hG rfl (by trivial) (Vc.seq (Vc.region hG rfl (by trivial) ?_)))
 refine Vc.ret ?_
 refine ⟨?_, trivial⟩
 all_goals exact rfl
noncomputable def F343 : Fun := ⟨[.slice Y26, .pair (.int .i64) Y32], [.pure Y35, .pure (.bool)], fun _ => True, fun x => ((issueCertF x.1 x.2.1).1, (issueCertF x.1 x.2.1).2, ())⟩
theorem F343_ok : Meets Tryz.prog 343 F343 := by
 refine meets_of_vc (C := mkC 35 [4, 5] [0,1,3,4,5,6,24] [⟨113, _, F113_ok⟩, ⟨264, _, F264_ok⟩, ⟨265, _, F265_ok⟩, ⟨114, _, F114_ok⟩]) (mkC_ok _ _ _ _) (fnOf_ok _) Tryz.func343 rfl rfl rfl (by decide) rfl ?_
 rintro ⟨a0, a1, _⟩ hwf hpre ⟨P, C, B, X, w0, M0, pv⟩ hG rfl rfl
 show Vc _ _ [(0, ⟨0, 0, .c Z30 a0⟩), (1, ⟨0, 0, .c Z36 a1⟩)] _
 refine Vc.seq (Vc.region hG rfl (by trivial) (Vc.seq ?_))
 refine Vc.region hG rfl ?_ ?_
 · repeat' (first | exact trivial | exact icRange h0 | exact smallLit (n := 7) rfl (by decide) | refine And.intro ?_ ?_ | intro _)
 refine Vc.seq (Vc.seq ?_)
 refine Vc.region hG rfl ?_ ?_
 · repeat' (first | exact trivial | exact icRange h0 | exact smallLit (n := 7) rfl (by decide) | refine And.intro ?_ ?_ | intro _)
 refine Vc.cond rfl (fun h0 => ?_) (fun h0 => ?_)
 · refine Vc.seq (Vc.region hG rfl (by trivial) (Vc.ret ?_))
   have e : issueCertF a0 a1 = _ := (cT h0)
   refine ⟨?_, ?_, trivial⟩
   · exact (congrArg (fun r => r.1) e).symm
   · exact (congrArg (fun r => r.2) e).symm
 · refine Vc.skip (Vc.seq ?_)
   refine Vc.regionD mixed hG rfl (by kernel_rfl) ?_ ?_
   · repeat' (first | exact trivial | exact icRange h0 | exact smallLit (n := 7) rfl (by decide) | refine And.intro ?_ ?_ | intro _)
   refine Vc.seq (Vc.region hG rfl (by trivial) (Vc.ret ?_))
   have e : issueCertF a0 a1 = _ := (cF h0)
   refine ⟨?_, ?_, trivial⟩
   · exact (congrArg (fun r => r.1) e).symm
   · exact (congrArg (fun r => r.2) e).symm
noncomputable def F310 : Fun := ⟨[], [.own Z36], fun _ => True, fun x => (certsT , ())⟩
theorem F310_ok : Meets Tryz.prog 310 F310 := by
 refine meets_of_vc (C := mkC 29 [0] [0,1,3,5] [⟨69, _, F69_ok⟩, ⟨343, _, F343_ok⟩]) (mkC_ok _ _ _ _) (fnOf_ok _) Tryz.func310 rfl rfl rfl (by decide) rfl ?_
 rintro ⟨_⟩ hwf hpre ⟨P, C, B, X, w0, M0, pv⟩ hG rfl rfl
 show Vc _ _ [] _
 refine Vc.seq (Vc.region hG rfl (by trivial) (Vc.seq ?_))
 refine Vc.region hG rfl ?_ ?_
 · repeat' (first | exact trivial | refine And.intro ?_ ?_ | intro _)
 refine Vc.seq ?_
 refine Vc.region hG rfl ?_ ?_
 · repeat' (first | exact trivial | refine And.intro ?_ ?_ | intro _)
 refine Vc.seq ?_
 refine Vc.region hG rfl ?_ ?_
 · repeat' (first | exact trivial | refine And.intro ?_ ?_ | intro _)
 refine Vc.seq (Vc.region hG rfl (by trivial) (Vc.ret ?_))
 refine ⟨?_, trivial⟩
 all_goals exact rfl
noncomputable def F309 : Fun := ⟨[.pair (.int .i64) Y32], [.pair (.pure (.int .i64)) Z11], fun _ => True, fun x => (certPieceF x.1, ())⟩
theorem F309_ok : Meets Tryz.prog 309 F309 := by
 refine meets_of_vc (C := mkC 10 [2] [0,1,2] [⟨265, _, F265_ok⟩]) (mkC_ok _ _ _ _) (fnOf_ok _) Tryz.func309 rfl rfl rfl (by decide) rfl ?_
 rintro ⟨a0, _⟩ hwf hpre ⟨P, C, B, X, w0, M0, pv⟩ hG rfl rfl
 show Vc _ _ [(0, ⟨0, 0, .c Z36 a0⟩)] _
 refine Vc.seq (Vc.region hG rfl (by trivial) (Vc.seq (Vc.regionD mixed hG rfl (by kernel_rfl) (by trivial) ?_)))
 refine Vc.ret ?_
 refine ⟨?_, trivial⟩
 all_goals exact rfl
noncomputable def F344 : Fun := ⟨[.pair (.int .i64) Y21], [.pure (.bool)], fun _ => True, fun x => (isStatusF x.1, ())⟩
theorem F344_ok : Meets Tryz.prog 344 F344 := by
 refine meets_of_vc (C := mkC 24 [2] [0,1,2] [⟨172, _, F172_ok⟩, ⟨112, _, F112_ok⟩]) (mkC_ok _ _ _ _) (fnOf_ok _) Tryz.func344 rfl rfl rfl (by decide) rfl ?_
 rintro ⟨a0, _⟩ hwf hpre ⟨P, C, B, X, w0, M0, pv⟩ hG rfl rfl
 show Vc _ _ [(0, ⟨0, 0, .c Z27 a0⟩)] _
 refine Vc.seq (Vc.region hG rfl (by trivial) (Vc.seq ?_))
 refine Vc.region hG rfl ?_ ?_
 · repeat' (first | exact trivial | refine And.intro ?_ ?_ | intro _)
 refine Vc.ret ?_
 refine ⟨?_, trivial⟩
 all_goals exact rfl
noncomputable def F345 : Fun := ⟨[.pair (.int .i64) Y21], [.own (.pure (.int .i64))], fun _ => True, fun x => (statusIntsF x.1, ())⟩
theorem F345_ok : Meets Tryz.prog 345 F345 := by
 refine meets_of_vc (C := mkC 12 [2] [0,1,2] []) (mkC_ok _ _ _ _) (fnOf_ok _) Tryz.func345 rfl rfl rfl (by decide) rfl ?_
 rintro ⟨a0, _⟩ hwf hpre ⟨P, C, B, X, w0, M0, pv⟩ hG rfl rfl
 show Vc _ _ [(0, ⟨0, 0, .c Z27 a0⟩)] _
 refine Vc.seq (Vc.region hG rfl (by trivial) (Vc.seq (Vc.region hG rfl (by trivial) ?_)))
 refine Vc.ret ?_
 refine ⟨?_, trivial⟩
 all_goals exact rfl
noncomputable def F311 : Fun := ⟨[.slice Y26, .pair (.int .i64) Y21], [.pure Y26, .pure (.bool)], fun _ => True, fun x => ((makeStatusF x.1 x.2.1).1, (makeStatusF x.1 x.2.1).2, ())⟩
theorem F311_ok : Meets Tryz.prog 311 F311 := by
 refine meets_of_vc (C := mkC 28 [4, 5] [0,1,3,4,5,6,17] [⟨113, _, F113_ok⟩, ⟨344, _, F344_ok⟩, ⟨345, _, F345_ok⟩, ⟨114, _, F114_ok⟩]) (mkC_ok _ _ _ _) (fnOf_ok _) Tryz.func311 rfl rfl rfl (by decide) rfl ?_
 rintro ⟨a0, a1, _⟩ hwf hpre ⟨P, C, B, X, w0, M0, pv⟩ hG rfl rfl
 show Vc _ _ [(0, ⟨0, 0, .c Z30 a0⟩), (1, ⟨0, 0, .c Z27 a1⟩)] _
 refine Vc.seq (Vc.region hG rfl (by trivial) (Vc.seq ?_))
 refine Vc.region hG rfl ?_ ?_
 · repeat' (first | exact trivial | exact sgRange h0 | exact smallLit (n := 5) rfl (by decide) | refine And.intro ?_ ?_ | intro _)
 refine Vc.seq (Vc.seq ?_)
 refine Vc.region hG rfl ?_ ?_
 · repeat' (first | exact trivial | exact sgRange h0 | exact smallLit (n := 5) rfl (by decide) | refine And.intro ?_ ?_ | intro _)
 refine Vc.cond rfl (fun h0 => ?_) (fun h0 => ?_)
 · refine Vc.seq (Vc.region hG rfl (by trivial) (Vc.ret ?_))
   have e : makeStatusF a0 a1 = _ := (cT h0)
   refine ⟨?_, ?_, trivial⟩
   · exact (congrArg (fun r => r.1) e).symm
   · exact (congrArg (fun r => r.2) e).symm
 · refine Vc.skip (Vc.seq ?_)
   refine Vc.regionD mixed hG rfl (by kernel_rfl) ?_ ?_
   · repeat' (first | exact trivial | exact sgRange h0 | exact smallLit (n := 5) rfl (by decide) | refine And.intro ?_ ?_ | intro _)
   refine Vc.seq (Vc.region hG rfl (by trivial) (Vc.ret ?_))
   have e : makeStatusF a0 a1 = _ := (cF h0)
   refine ⟨?_, ?_, trivial⟩
   · exact (congrArg (fun r => r.1) e).symm
   · exact (congrArg (fun r => r.2) e).symm
noncomputable def F312 : Fun := ⟨[.pair (.int .i64) Y21], [.pair (.pure (.int .i64)) Z11], fun _ => True, fun x => (statusPieceF x.1, ())⟩
theorem F312_ok : Meets Tryz.prog 312 F312 := by
 refine meets_of_vc (C := mkC 10 [2] [0,1,2] [⟨345, _, F345_ok⟩]) (mkC_ok _ _ _ _) (fnOf_ok _) Tryz.func312 rfl rfl rfl (by decide) rfl ?_
 rintro ⟨a0, _⟩ hwf hpre ⟨P, C, B, X, w0, M0, pv⟩ hG rfl rfl
 show Vc _ _ [(0, ⟨0, 0, .c Z27 a0⟩)] _
 refine Vc.seq (Vc.region hG rfl (by trivial) (Vc.seq (Vc.regionD mixed hG rfl (by kernel_rfl) (by trivial) ?_)))
 refine Vc.ret ?_
 refine ⟨?_, trivial⟩
 all_goals exact rfl
noncomputable def F184 : Fun := ⟨[.pair (.int .i64) Y7], [.pair (.pure (.int .i64)) Z11], fun x => Sm big20 Y15 x.1, fun x => (id x.1, ())⟩
theorem F184_ok : Meets Tryz.prog 184 F184 := by
 refine meets_of_vc (C := mkC 12 [2] [0,1,2] []) (mkC_ok _ _ _ _) (fnOf_ok _) Tryz.func184 rfl rfl rfl (by decide) rfl ?_
 rintro ⟨a0, _⟩ hwf hpre ⟨P, C, B, X, w0, M0, pv⟩ hG rfl rfl
 show Vc _ _ [(0, ⟨0, 0, .c Z19 a0⟩)] _
 have hp : List.length a0.2.1 ≤ big20 := hpre.2.1.1
 refine Vc.seq (Vc.region hG rfl (by trivial) (Vc.seq ?_))
 refine Vc.regionD mixed hG rfl (by kernel_rfl) ?_ ?_
 · exact appOk hp
 refine Vc.ret ?_
 refine ⟨?_, trivial⟩
 all_goals exact rfl
noncomputable def F120 : Fun := ⟨[.slice Y15], [.own Z24], fun x => Sm big20 Y20 x.1, fun x => (id x.1, ())⟩
theorem F120_ok : Meets Tryz.prog 120 F120 := by
 refine meets_of_vc (C := mkC 21 [2] [0,2,3,4,9] [⟨184, _, F184_ok⟩]) (mkC_ok _ _ _ _) (fnOf_ok _) Tryz.func120 rfl rfl rfl (by decide) rfl ?_
 rintro ⟨a0, _⟩ hwf hpre ⟨P, C, B, X, w0, M0, pv⟩ hG rfl rfl
 show Vc _ _ [(0, ⟨0, 0, .c Z23 a0⟩)] _
 have hp : _ ∧ _ := hpre
 have hb : List.length a0 ≤ bigLen := hwf.1.1
 refine Vc.seq (Vc.region hG rfl (by trivial) (Vc.seq (Vc.region hG rfl (by trivial) ?_)))
 refine Vc.seq (Vc.seq (Vc.region hG rfl (by trivial) (Vc.block ?_)))
 refine Vc.loopF [(3, false, .own Z24), (4, false, .pure (.int .i64))] [0, 2] (fun v => cpInv a0 v.1 v.2.1) (fun v => ((List.length a0 : Int) - v.2.1).toNat) rfl ?_ ?_
 · exact cpStart
 rintro ⟨acc, (i : Int), _⟩ hI
 have hI : cpInv a0 acc i := hI
 refine Vc.seq (Vc.seq (Vc.region hG rfl (by trivial) ?_))
 refine Vc.cond rfl (fun h0 => ?_) (fun h0 => ?_)
 · have hl : i < (List.length a0 : Int) := of_decide_eq_true h0
   have hE : Sm big20 Y15 (List.getD a0 i.toNat (dflt Y15)) := hp.2 _ (upElem hI.1 hl)
   refine Vc.skip (Vc.seq (Vc.block ?_))
   refine Vc.region hG rfl ?_ ?_
   · exact ⟨cpRange hI hl, hE, cpLen hI hl hp.1⟩
   refine Vc.region hG rfl (by trivial) ?_
   refine ⟨rfl, ?_⟩
   exact cpStep (d := dflt Y15) hI hl hb rfl
 · have hl : ¬ i < (List.length a0 : Int) := of_decide_eq_false h0
   refine Vc.exit (Vc.seq (Vc.region hG rfl (by trivial) (Vc.ret ?_)))
   refine ⟨?_, trivial⟩
   exact cpEnd hI hl
noncomputable def F121 : Fun := ⟨[.pair (.int .i64) Y43], [.pair (.pure (.int .i64)) Z47], fun x => Sm big20 Y46 x.1, fun x => (id x.1, ())⟩
theorem F121_ok : Meets Tryz.prog 121 F121 := by
 refine meets_of_vc (C := mkC 14 [2] [0,1,2] []) (mkC_ok _ _ _ _) (fnOf_ok _) Tryz.func121 rfl rfl rfl (by decide) rfl ?_
 rintro ⟨a0, _⟩ hwf hpre ⟨P, C, B, X, w0, M0, pv⟩ hG rfl rfl
 show Vc _ _ [(0, ⟨0, 0, .c Z48 a0⟩)] _
 have hp1 : List.length a0.2.2.2.1 ≤ big20 := hpre.2.2.2.1.1
 have hp2 : List.length a0.2.2.2.2 ≤ big20 := hpre.2.2.2.2.1
 refine Vc.seq (Vc.region hG rfl (by trivial) (Vc.seq ?_))
 refine Vc.region hG rfl ?_ ?_
 · exact appOk hp1
 refine Vc.seq ?_
 refine Vc.region hG rfl ?_ ?_
 · exact appOk hp2
 refine Vc.seq (Vc.region hG rfl (by trivial) (Vc.ret ?_))
 refine ⟨?_, trivial⟩
 all_goals exact rfl
noncomputable def F80 : Fun := ⟨[.pair Y20 Y49], [.pair Z25 Z51], fun x => Sm big20 Y52 x.1, fun x => (id x.1, ())⟩
theorem F80_ok : Meets Tryz.prog 80 F80 := by
 refine meets_of_vc (C := mkC 28 [2] [0,1,2,3,4,13] [⟨120, _, F120_ok⟩, ⟨121, _, F121_ok⟩]) (mkC_ok _ _ _ _) (fnOf_ok _) Tryz.func80 rfl rfl rfl (by decide) rfl ?_
 rintro ⟨a0, _⟩ hwf hpre ⟨P, C, B, X, w0, M0, pv⟩ hG rfl rfl
 show Vc _ _ [(0, ⟨0, 0, .c Z53 a0⟩)] _
 have hp0 : Sm big20 Y20 a0.1 := hpre.1
 have hp : _ ∧ _ := hpre.2
 have hb : List.length a0.2 ≤ bigLen := hwf.1.2.1
 refine Vc.seq (Vc.region hG rfl (by trivial) (Vc.seq ?_))
 refine Vc.region hG rfl ?_ ?_
 · exact hp0
 refine Vc.seq (Vc.seq (Vc.region hG rfl (by trivial) (Vc.block ?_)))
 refine Vc.loopF [(3, true, .pair Z25 Z51), (4, false, .pure (.int .i64))] [0, 1, 2] (fun v => v.1.1 = a0.1 ∧ cpInv a0.2 v.1.2 v.2.1) (fun v => ((List.length a0.2 : Int) - v.2.1).toNat) rfl ?_ ?_
 · exact ⟨rfl, cpStart⟩
 rintro ⟨acc, (i : Int), _⟩ hI
 have hI : acc.1 = a0.1 ∧ cpInv a0.2 acc.2 i := hI
 refine Vc.seq (Vc.seq (Vc.region hG rfl (by trivial) ?_))
 refine Vc.cond rfl (fun h0 => ?_) (fun h0 => ?_)
 · have hl : i < (List.length a0.2 : Int) := of_decide_eq_true h0
   have hE : Sm big20 Y46 (List.getD a0.2 i.toNat (dflt Y46)) := hp.2 _ (upElem hI.2.1 hl)
   refine Vc.skip (Vc.seq (Vc.block ?_))
   refine Vc.regionD mixed hG rfl (by kernel_rfl) ?_ ?_
   · exact ⟨cpRange hI.2 hl, hE, cpLen hI.2 hl hp.1⟩
   refine Vc.region hG rfl (by trivial) ?_
   refine ⟨rfl, ?_⟩
   have e := cpStep (d := dflt Y46) hI.2 hl hb rfl
   exact ⟨⟨hI.1, e.1⟩, e.2⟩
 · have hl : ¬ i < (List.length a0.2 : Int) := of_decide_eq_false h0
   refine Vc.exit (Vc.seq (Vc.region hG rfl (by trivial) (Vc.ret ?_)))
   refine ⟨?_, trivial⟩
   exact Prod.ext hI.1 (cpEnd hI.2 hl)
noncomputable def F326 : Fun := ⟨[.slice (.int .i64), .slice (.int .i64)], [.pure (.bool)], fun _ => True, fun x => (eqC x.1 x.2.1, ())⟩
theorem F326_ok : Meets Tryz.prog 326 F326 := by
 refine meets_of_vc (C := mkC 26 [4] [0,1,4,5,10,14,25] []) (mkC_ok _ _ _ _) (fnOf_ok _) Tryz.func326 rfl rfl rfl (by decide) rfl ?_
 rintro ⟨a0, a1, _⟩ hwf hpre ⟨P, C, B, X, w0, M0, pv⟩ hG rfl rfl
 show Vc _ _ [(0, ⟨0, 0, .c Z3 a0⟩), (1, ⟨0, 0, .c Z3 a1⟩)] _
 have hb0 : List.length a0 ≤ bigLen := hwf.1.1
 refine Vc.seq (Vc.region hG rfl (by trivial) (Vc.seq (Vc.seq ?_)))
 refine Vc.region hG rfl (by trivial) ?_
 refine Vc.cond rfl (fun h0 => ?_) (fun h0 => ?_)
 · refine Vc.seq (Vc.region hG rfl (by trivial) (Vc.ret ?_))
   refine ⟨?_, trivial⟩
   refine eqC_no (fun e => ?_)
   have e : a0 = a1 := e
   have g : ((List.length a0 : Int) != (List.length a1 : Int)) = true := h0
   subst e
   exact bself g
 · have g0 : ((List.length a0 : Int) != (List.length a1 : Int)) = false := h0
   have f0_0 : List.length a0 = List.length a1 := (lenEq g0)
   refine Vc.skip (Vc.seq (Vc.seq (Vc.region hG rfl (by trivial) ?_)))
   refine Vc.block ?_
   refine Vc.loopF [(5, false, .pure (.int .i64))] [0, 1, 10] (fun v => eqInv a0 a1 v.1) (fun v => ((List.length a0 : Int) - v.1).toNat) rfl ?_ ?_
   · exact eqStart f0_0
   rintro ⟨(i0 : Int), _⟩ hI0
   have hI0 : eqInv a0 a1 i0 := hI0
   refine Vc.seq (Vc.seq (Vc.region hG rfl (by trivial) ?_))
   refine Vc.cond rfl (fun h1 => ?_) (fun h1 => ?_)
   · have hl0 : i0 < (List.length a0 : Int) := of_decide_eq_true h1
     refine Vc.skip (Vc.seq (Vc.block (Vc.seq ?_)))
     refine Vc.regionD mixed hG rfl (by kernel_rfl) ?_ ?_
     · exact ⟨(eqRange hI0 hl0).1, (eqRange hI0 hl0).2⟩
     refine Vc.cond rfl (fun h2 => ?_) (fun h2 => ?_)
     · refine Vc.seq (Vc.region hG rfl (by trivial) (Vc.ret ?_))
       refine ⟨?_, trivial⟩
       refine eqC_no (fun e => ?_)
       have e : a0 = a1 := e
       have g : ((List.getD a0 i0.toNat (dflt (.int .i64))) != (List.getD a1 i0.toNat (dflt (.int .i64)))) = true := h2
       subst e
       exact bself g
     · have g2 : ((List.getD a0 i0.toNat (dflt (.int .i64))) != (List.getD a1 i0.toNat (dflt (.int .i64)))) = false := h2
       have f2_0 : (List.getD a0 i0.toNat (dflt (.int .i64))) = (List.getD a1 i0.toNat (dflt (.int .i64))) := (bneI g2)
       have s0 : (List.getD a0 i0.toNat (dflt (.int .i64))) = (List.getD a1 i0.toNat (dflt (.int .i64))) := f2_0
       refine Vc.skip (Vc.region hG rfl (by trivial) ?_)
       refine ⟨rfl, ?_⟩
       exact ⟨eqStep (d := dflt (.int .i64)) hI0 hl0 hb0 s0, (upStep hI0.1 hl0 hb0).2.2⟩
   · have hl0 : ¬ i0 < (List.length a0 : Int) := of_decide_eq_false h1
     have e0 : a0 = a1 := eqEnd hI0 hl0
     refine Vc.exit (Vc.seq (Vc.region hG rfl (by trivial) (Vc.ret ?_)))
     refine ⟨?_, trivial⟩
     exact eqC_yes e0
noncomputable def F262 : Fun := ⟨[.pair (.int .i64) Y7, .pair (.int .i64) Y7], [.pure (.bool)], fun _ => True, fun x => (eqC x.1 x.2.1, ())⟩
theorem F262_ok : Meets Tryz.prog 262 F262 := by
 refine meets_of_vc (C := mkC 24 [4] [0,1,2,3,4] [⟨326, _, F326_ok⟩]) (mkC_ok _ _ _ _) (fnOf_ok _) Tryz.func262 rfl rfl rfl (by decide) rfl ?_
 rintro ⟨a0, a1, _⟩ hwf hpre ⟨P, C, B, X, w0, M0, pv⟩ hG rfl rfl
 show Vc _ _ [(0, ⟨0, 0, .c Z19 a0⟩), (1, ⟨0, 0, .c Z19 a1⟩)] _
 refine Vc.seq (Vc.region hG rfl (by trivial) (Vc.seq ?_))
 refine Vc.region hG rfl ?_ ?_
 · repeat' (first | exact trivial | refine And.intro ?_ ?_ | intro _)
 refine Vc.ret ?_
 refine ⟨?_, trivial⟩
 refine eqC_by (fun e => ?_) (fun e => ?_)
 · have e : (pick2 (pick2 (a0.1 == a1.1) (a0.2.2 == a1.2.2) false) (eqC a0.2.1 a1.2.1) false) = true := e
   have r_0 : a0.1 = a1.1 := (beqI2 (andT (andT e).1).1)
   have r_1 : a0.2.2 = a1.2.2 := (beqI2 (andT (andT e).1).2)
   have r_2 : a0.2.1 = a1.2.1 := (eqC_iff.1 (andT e).2)
   exact (Prod.ext r_0 (Prod.ext r_2 r_1))
 · have e : a0 = a1 := e
   subst e
   exact (yesAnd (yesAnd beqSelf beqSelf) (eqC_self _))
noncomputable def F258 : Fun := ⟨[.pair Y20 Y49, .pair (.int .i64) Y7], [.pure (.int .i64)], fun _ => True, fun x => ((fun a0 a1 => findI (fun x => eqC x a1) a0.1) x.1 x.2.1, ())⟩
theorem F258_ok : Meets Tryz.prog 258 F258 := by
 refine meets_of_vc (C := mkC 21 [4] [0,1,2,3,4,5,10,19] [⟨262, _, F262_ok⟩]) (mkC_ok _ _ _ _) (fnOf_ok _) Tryz.func258 rfl rfl rfl (by decide) rfl ?_
 rintro ⟨a0, a1, _⟩ hwf hpre ⟨P, C, B, X, w0, M0, pv⟩ hG rfl rfl
 show Vc _ _ [(0, ⟨0, 0, .c Z53 a0⟩), (1, ⟨0, 0, .c Z19 a1⟩)] _
 have hb : List.length a0.1 ≤ bigLen := hwf.1.1.1
 refine Vc.seq (Vc.region hG rfl (by trivial) (Vc.seq (Vc.seq ?_)))
 refine Vc.region hG rfl (by trivial) (Vc.block ?_)
 refine Vc.loopF [(5, false, .pure (.int .i64))] [0, 1, 2, 3] (fun v => fInv (fun x => eqC x a1) a0.1 v.1) (fun v => ((List.length a0.1 : Int) - v.1).toNat) rfl ?_ ?_
 · exact fStart
 rintro ⟨(i : Int), _⟩ hI
 have hI : fInv (fun x => eqC x a1) a0.1 i := hI
 refine Vc.seq (Vc.seq (Vc.region hG rfl (by trivial) ?_))
 refine Vc.cond rfl (fun h0 => ?_) (fun h0 => ?_)
 · have hl : i < (List.length a0.1 : Int) := of_decide_eq_true h0
   refine Vc.skip (Vc.seq (Vc.block (Vc.seq ?_)))
   refine Vc.regionD mixed hG rfl (by kernel_rfl) ?_ ?_
   · exact ⟨fRange hI hl, trivial⟩
   refine Vc.cond rfl (fun h1 => ?_) (fun h1 => ?_)
   · have g1 : (fun x => eqC x a1) (List.getD a0.1 i.toNat (dflt Y15)) = true := h1
     refine Vc.seq (Vc.region hG rfl (by trivial) (Vc.ret ?_))
     refine ⟨?_, trivial⟩
     exact fHit hI hl g1
   · have g1 : (fun x => eqC x a1) (List.getD a0.1 i.toNat (dflt Y15)) = false := h1
     refine Vc.skip (Vc.region hG rfl (by trivial) ?_)
     refine ⟨rfl, ?_⟩
     exact fStep hI hl hb g1
 · have hl : ¬ i < (List.length a0.1 : Int) := of_decide_eq_false h0
   refine Vc.exit (Vc.seq (Vc.region hG rfl (by trivial) (Vc.ret ?_)))
   refine ⟨?_, trivial⟩
   exact fEnd hI hl
noncomputable def F250 : Fun := ⟨[.pair Y20 Y49], [.pure (.bool)], fun _ => True, fun x => (strandF x.1, ())⟩
theorem F250_ok : Meets Tryz.prog 250 F250 := by
 refine meets_of_vc (C := mkC 69 [2] [0,1,2,3,4,9,20,25,58] [⟨258, _, F258_ok⟩, ⟨172, _, F172_ok⟩]) (mkC_ok _ _ _ _) (fnOf_ok _) Tryz.func250 rfl rfl rfl (by decide) rfl ?_
 rintro ⟨a0, _⟩ hwf hpre ⟨P, C, B, X, w0, M0, pv⟩ hG rfl rfl
 show Vc _ _ [(0, ⟨0, 0, .c Z53 a0⟩)] _
 have hb0 : List.length a0.1 ≤ bigLen := hwf.1.1.1
 have hb1 : List.length a0.2 ≤ bigLen := hwf.1.2.1
 refine Vc.seq (Vc.region hG rfl (by trivial) (Vc.seq (Vc.seq ?_)))
 refine Vc.region hG rfl (by trivial) (Vc.block ?_)
 refine Vc.loopF [(3, false, .pure (.int .i64))] [0, 1, 4, 25, 58] (fun v => kInv (fun k => newP a0 k) a0.1 v.1) (fun v => ((List.length a0.1 : Int) - v.1).toNat) rfl ?_ ?_
 · exact kStart
 rintro ⟨(i : Int), _⟩ hI0
 have hI0 : kInv (fun k => newP a0 k) a0.1 i := hI0
 refine Vc.seq (Vc.seq (Vc.region hG rfl (by trivial) ?_))
 refine Vc.cond rfl (fun h0 => ?_) (fun h0 => ?_)
 · have hl0 : i < (List.length a0.1 : Int) := of_decide_eq_true h0
   refine Vc.skip (Vc.seq (Vc.block (Vc.seq ?_)))
   refine Vc.regionD mixed hG rfl (by kernel_rfl) ?_ ?_
   · exact ⟨kRange hI0 hl0, trivial⟩
   refine Vc.cond rfl (fun h1 => ?_) (fun h1 => ?_)
   · have g1 : ¬ newP a0 i.toNat := newBad hI0 hl0 (of_decide_eq_true h1)
     refine Vc.seq (Vc.region hG rfl (by trivial) (Vc.ret ?_))
     refine ⟨?_, trivial⟩
     refine boolC_no (P := strandP a0) (fun h => ?_)
     exact g1 (h.2.2.1 i.toNat (kLt hI0 hl0))
   · have g1 : newP a0 i.toNat := newGood hI0 hl0 (of_decide_eq_false h1)
     refine Vc.skip (Vc.region hG rfl (by trivial) ?_)
     refine ⟨rfl, ?_⟩
     exact kStep hI0 hl0 hb0 g1
 · have hl0 : ¬ i < (List.length a0.1 : Int) := of_decide_eq_false h0
   refine Vc.exit (Vc.seq (Vc.seq (Vc.region hG rfl (by trivial) ?_)))
   refine Vc.block ?_
   refine Vc.loopF [(4, false, .pure (.int .i64))] [0, 1, 3, 9, 20] (fun v => kInv (fun k => renP a0 k) a0.2 v.1) (fun v => ((List.length a0.2 : Int) - v.1).toNat) rfl ?_ ?_
   · exact kStart
   rintro ⟨(i : Int), _⟩ hI1
   have hI1 : kInv (fun k => renP a0 k) a0.2 i := hI1
   refine Vc.seq (Vc.seq (Vc.region hG rfl (by trivial) ?_))
   refine Vc.cond rfl (fun h2 => ?_) (fun h2 => ?_)
   · have hl1 : i < (List.length a0.2 : Int) := of_decide_eq_true h2
     refine Vc.skip (Vc.seq (Vc.block (Vc.seq ?_)))
     refine Vc.regionD mixed hG rfl (by kernel_rfl) ?_ ?_
     · exact ⟨kRange hI1 hl1, trivial, fun h2 => backRange hI1 hl1 hb1 (of_decide_eq_true h2), fun _ => kRange hI1 hl1⟩
     refine Vc.cond rfl (fun h3 => ?_) (fun h3 => ?_)
     · have g3 : renBadF a0 i = true := h3
       refine Vc.seq (Vc.region hG rfl (by trivial) (Vc.ret ?_))
       refine ⟨?_, trivial⟩
       refine boolC_no (P := strandP a0) (fun h => ?_)
       exact renBad hI1 hl1 hb1 g3 (h.2.2.2 i.toNat (kLt hI1 hl1))
     · have g3 : renBadF a0 i = false := h3
       refine Vc.skip (Vc.region hG rfl (by trivial) ?_)
       refine ⟨rfl, ?_⟩
       exact kStep hI1 hl1 hb1 (renGood hI1 hl1 hb1 g3)
   · have hl1 : ¬ i < (List.length a0.2 : Int) := of_decide_eq_false h2
     refine Vc.exit (Vc.seq ?_)
     refine Vc.region hG rfl ?_ ?_
     · repeat' (first | exact trivial | refine And.intro ?_ ?_ | intro _)
     refine Vc.ret ?_
     refine ⟨?_, trivial⟩
     refine boolC_by (P := strandP a0) (fun e => ?_) (fun h => ?_)
     · exact ⟨(andT e).1, of_decide_eq_true (andT e).2, kEnd hI0 hl0, kEnd hI1 hl1⟩
     · exact yesAnd h.1 (decide_eq_true h.2.1)
noncomputable def F180 : Fun := ⟨[.pair Y20 Y49, .pair (.int .i64) Y7], [.pair Z25 Z51, .pure (.bool)], fun x => (fun (s : Strand) (p : Piece) => Sm big20 Y52 s ∧ Sm big20 Y15 p) x.1 x.2.1, fun x => ((addPieceF x.1 x.2.1).1, (addPieceF x.1 x.2.1).2, ())⟩
theorem F180_ok : Meets Tryz.prog 180 F180 := by
 refine meets_of_vc (C := mkC 22 [4, 5] [0,1,2,3,4,5,6,18] [⟨80, _, F80_ok⟩, ⟨184, _, F184_ok⟩, ⟨250, _, F250_ok⟩]) (mkC_ok _ _ _ _) (fnOf_ok _) Tryz.func180 rfl rfl rfl (by decide) rfl ?_
 rintro ⟨a0, a1, _⟩ hwf hpre ⟨P, C, B, X, w0, M0, pv⟩ hG rfl rfl
 show Vc _ _ [(0, ⟨0, 0, .c Z53 a0⟩), (1, ⟨0, 0, .c Z19 a1⟩)] _
 have hp1 : Sm big20 Y52 a0 := hpre.1
 have hp2 : Sm big20 Y15 a1 := hpre.2
 refine Vc.seq (Vc.region hG rfl (by trivial) (Vc.seq ?_))
 refine Vc.region hG rfl ?_ ?_
 · exact hp1
 refine Vc.seq ?_
 refine Vc.regionD mixed hG rfl (by kernel_rfl) ?_ ?_
 · exact ⟨hp2, apLen hp1.1.1⟩
 refine Vc.seq (Vc.seq (Vc.region hG rfl (by trivial) ?_))
 refine Vc.cond rfl (fun h0 => ?_) (fun h0 => ?_)
 · have g0 : (!(strandF (a0.1 ++ [a1], a0.2))) = true := h0
   refine Vc.seq ?_
   refine Vc.region hG rfl ?_ ?_
   · exact hp1
   refine Vc.ret ?_
   have e := ap0 g0
   refine ⟨?_, ?_, trivial⟩
   · exact (congrArg Prod.fst e).symm
   · exact (congrArg Prod.snd e).symm
 · have g0 : (!(strandF (a0.1 ++ [a1], a0.2))) = false := h0
   refine Vc.skip (Vc.seq (Vc.region hG rfl (by trivial) (Vc.ret ?_)))
   have e := ap1 g0
   refine ⟨?_, ?_, trivial⟩
   · exact (congrArg Prod.fst e).symm
   · exact (congrArg Prod.snd e).symm
noncomputable def F180o : Fun := ⟨[.pair Y20 Y49, .pair (.int .i64) Y7], [.pure Y52, .pure (.bool)], fun x => (fun (s : Strand) (p : Piece) => Sm big20 Y52 s ∧ Sm big20 Y15 p) x.1 x.2.1, fun x => ((addPieceF x.1 x.2.1).1, (addPieceF x.1 x.2.1).2, ())⟩
theorem F180o_ok : Meets Tryz.prog 180 F180o := by
 refine meets_of_vc (C := mkC 22 [4, 5] [0,1,2,3,4,5,6,18] [⟨80, _, F80_ok⟩, ⟨184, _, F184_ok⟩, ⟨250, _, F250_ok⟩]) (mkC_ok _ _ _ _) (fnOf_ok _) Tryz.func180 rfl rfl rfl (by decide) rfl ?_
 rintro ⟨a0, a1, _⟩ hwf hpre ⟨P, C, B, X, w0, M0, pv⟩ hG rfl rfl
 show Vc _ _ [(0, ⟨0, 0, .c Z53 a0⟩), (1, ⟨0, 0, .c Z19 a1⟩)] _
 have hp1 : Sm big20 Y52 a0 := hpre.1
 have hp2 : Sm big20 Y15 a1 := hpre.2
 refine Vc.seq (Vc.region hG rfl (by trivial) (Vc.seq ?_))
 refine Vc.region hG rfl ?_ ?_
 · exact hp1
 refine Vc.seq ?_
 refine Vc.regionD mixed hG rfl (by kernel_rfl) ?_ ?_
 · exact ⟨hp2, apLen hp1.1.1⟩
 refine Vc.seq (Vc.seq (Vc.region hG rfl (by trivial) ?_))
 refine Vc.cond rfl (fun h0 => ?_) (fun h0 => ?_)
 · have g0 : (!(strandF (a0.1 ++ [a1], a0.2))) = true := h0
   refine Vc.seq ?_
   refine Vc.region hG rfl ?_ ?_
   · exact hp1
   refine Vc.frz 4 rfl ?_
   refine Vc.ret ?_
   have e := ap0 g0
   refine ⟨?_, ?_, trivial⟩
   · exact (congrArg Prod.fst e).symm
   · exact (congrArg Prod.snd e).symm
 · have g0 : (!(strandF (a0.1 ++ [a1], a0.2))) = false := h0
   refine Vc.skip (Vc.seq (Vc.region hG rfl (by trivial) ?_))
   refine Vc.frz 4 rfl ?_
   refine Vc.ret ?_
   have e := ap1 g0
   refine ⟨?_, ?_, trivial⟩
   · exact (congrArg Prod.fst e).symm
   · exact (congrArg Prod.snd e).symm
noncomputable def P319 : PFun := ⟨.pure Y13, [], [.pure Y26], fun x _ => curOk x, fun x _ => (statD x).2, fun x _ => ((statD x).1, ())⟩
theorem P319_ok : MeetsP Tryz.prog 319 P319 := by
 refine meetsP_of_vc (C := mkCP 29 [2] [0,2,3,4,16] [⟨69, _, F69_ok⟩, ⟨311, _, F311_ok⟩] [] [] [⟨67, _, P67_ok⟩, ⟨73, _, P73_ok⟩] [0]) (mkCP_ok _ _ _ _ _ _ _ _) (fnOf_ok _) Tryz.func319 rfl rfl rfl (by decide) rfl rfl rfl ?_ rfl
 rintro c ⟨_⟩ hwc hwf hpre ⟨P, C, B, X, w0, M0, pv⟩ hG rfl rfl
 show Vc _ _ [(0, ⟨0, 0, .c (.ref Z17) c⟩)] _
 refine Vc.seq (Vc.region hG rfl (by trivial) (Vc.seq ?_))
 refine Vc.region hG rfl ?_ ?_
 · repeat' (first | exact trivial | exact hpre | exact below_ok hpre | exact below_ok (below_ok hpre) | exact below_ok (below_ok (below_ok hpre)) | exact dst4_ok hpre | refine And.intro ?_ ?_ | intro _)
 refine Vc.seq ?_
 refine Vc.region hG rfl ?_ ?_
 · repeat' (first | exact trivial | exact hpre | exact below_ok hpre | exact below_ok (below_ok hpre) | exact below_ok (below_ok (below_ok hpre)) | exact dst4_ok hpre | refine And.intro ?_ ?_ | intro _)
 refine Vc.seq (Vc.seq ?_)
 refine Vc.region hG rfl ?_ ?_
 · repeat' (first | exact trivial | exact hpre | exact below_ok hpre | exact below_ok (below_ok hpre) | exact below_ok (below_ok (below_ok hpre)) | exact dst4_ok hpre | refine And.intro ?_ ?_ | intro _)
 refine Vc.cond rfl (fun h0 => ?_) (fun h0 => ?_)
 · refine Vc.region hG rfl ?_ ?_
   · repeat' (first | exact trivial | exact hpre | exact below_ok hpre | exact below_ok (below_ok hpre) | exact below_ok (below_ok (below_ok hpre)) | exact dst4_ok hpre | refine And.intro ?_ ?_ | intro _)
   refine Vc.seq ?_
   refine Vc.regionD mixed hG rfl (by kernel_rfl) ?_ ?_
   · repeat' (first | exact trivial | exact hpre | exact below_ok hpre | exact below_ok (below_ok hpre) | exact below_ok (below_ok (below_ok hpre)) | exact dst4_ok hpre | refine And.intro ?_ ?_ | intro _)
   refine Vc.seq (Vc.region hG rfl (by trivial) (Vc.ret ?_))
   have e : statD c = _ := (cT h0)
   refine ⟨⟨?_, trivial⟩, ?_, trivial⟩
   · exact (congrArg Prod.snd e).symm
   · exact (congrArg (fun r => r.1) e).symm
 · refine Vc.skip (Vc.seq ?_)
   refine Vc.regionD mixed hG rfl (by kernel_rfl) ?_ ?_
   · repeat' (first | exact trivial | exact hpre | exact below_ok hpre | exact below_ok (below_ok hpre) | exact below_ok (below_ok (below_ok hpre)) | exact dst4_ok hpre | refine And.intro ?_ ?_ | intro _)
   refine Vc.seq (Vc.region hG rfl (by trivial) (Vc.ret ?_))
   have e : statD c = _ := (cF h0)
   refine ⟨⟨?_, trivial⟩, ?_, trivial⟩
   · exact (congrArg Prod.snd e).symm
   · exact (congrArg (fun r => r.1) e).symm
noncomputable def F268 : Fun := ⟨[.slice Y10, .pair (.int .i64) Y21], [.pure (.int .i64)], fun _ => True, fun x => (stampKeyF x.1 x.2.1, ())⟩
theorem F268_ok : Meets Tryz.prog 268 F268 := by
 refine meets_of_vc (C := mkC 17 [4] [0,1,3,4,5,11] [⟨111, _, F111_ok⟩]) (mkC_ok _ _ _ _) (fnOf_ok _) Tryz.func268 rfl rfl rfl (by decide) rfl ?_
 rintro ⟨a0, a1, _⟩ hwf hpre ⟨P, C, B, X, w0, M0, pv⟩ hG rfl rfl
 show Vc _ _ [(0, ⟨0, 0, .c Z18 a0⟩), (1, ⟨0, 0, .c Z27 a1⟩)] _
 refine Vc.seq (Vc.region hG rfl (by trivial) (Vc.seq (Vc.region hG rfl (by trivial) ?_)))
 refine Vc.seq (Vc.seq (Vc.region hG rfl (by trivial) ?_))
 refine Vc.cond rfl (fun h0 => ?_) (fun h0 => ?_)
 · have g0 : authI a0 a1.1 < 0 := of_decide_eq_true h0
   refine Vc.seq (Vc.region hG rfl (by trivial) (Vc.ret ?_))
   refine ⟨?_, trivial⟩
   exact stampKey0 g0
 · have g0 : ¬ authI a0 a1.1 < 0 := of_decide_eq_false h0
   refine Vc.skip (Vc.seq ?_)
   refine Vc.region hG rfl ?_ ?_
   · exact findRange g0
   refine Vc.ret ?_
   refine ⟨?_, trivial⟩
   exact stampKey1 g0
noncomputable def F243 : Fun := ⟨[.int .i64, .pair (.int .i64) Y21], [.pair (.pure (.int .i64)) Z11], fun _ => True, fun x => (stampPieceF x.1 x.2.1, ())⟩
theorem F243_ok : Meets Tryz.prog 243 F243 := by
 refine meets_of_vc (C := mkC 11 [4] [0,1,3,4] [⟨115, _, F115_ok⟩]) (mkC_ok _ _ _ _) (fnOf_ok _) Tryz.func243 rfl rfl rfl (by decide) rfl ?_
 rintro ⟨(a0 : Int), a1, _⟩ hwf hpre ⟨P, C, B, X, w0, M0, pv⟩ hG rfl rfl
 show Vc _ _ [(0, ⟨0, 0, .c (.pure (.int .i64)) a0⟩), (1, ⟨0, 0, .c Z27 a1⟩)] _
 refine Vc.seq (Vc.region hG rfl (by trivial) (Vc.seq (Vc.regionD mixed hG rfl (by kernel_rfl) (by trivial) ?_)))
 refine Vc.ret ?_
 refine ⟨?_, trivial⟩
 all_goals exact rfl
noncomputable def F313 : Fun := ⟨[.pair (.int .i64) Y26], [.pure (.bool)], fun _ => True, fun x => (isMandF x.1, ())⟩
theorem F313_ok : Meets Tryz.prog 313 F313 := by
 refine meets_of_vc (C := mkC 24 [2] [0,1,2] [⟨172, _, F172_ok⟩, ⟨204, _, F204_ok⟩]) (mkC_ok _ _ _ _) (fnOf_ok _) Tryz.func313 rfl rfl rfl (by decide) rfl ?_
 rintro ⟨a0, _⟩ hwf hpre ⟨P, C, B, X, w0, M0, pv⟩ hG rfl rfl
 show Vc _ _ [(0, ⟨0, 0, .c Z34 a0⟩)] _
 refine Vc.seq (Vc.region hG rfl (by trivial) (Vc.seq ?_))
 refine Vc.region hG rfl ?_ ?_
 · repeat' (first | exact trivial | refine And.intro ?_ ?_ | intro _)
 refine Vc.ret ?_
 refine ⟨?_, trivial⟩
 all_goals exact rfl
noncomputable def F314 : Fun := ⟨[.pair (.int .i64) Y26], [.own (.pure (.int .i64))], fun _ => True, fun x => (mandIntsF x.1, ())⟩
theorem F314_ok : Meets Tryz.prog 314 F314 := by
 refine meets_of_vc (C := mkC 14 [2] [0,1,2] []) (mkC_ok _ _ _ _) (fnOf_ok _) Tryz.func314 rfl rfl rfl (by decide) rfl ?_
 rintro ⟨a0, _⟩ hwf hpre ⟨P, C, B, X, w0, M0, pv⟩ hG rfl rfl
 show Vc _ _ [(0, ⟨0, 0, .c Z34 a0⟩)] _
 refine Vc.seq (Vc.region hG rfl (by trivial) (Vc.seq (Vc.region hG rfl (by trivial) ?_)))
 refine Vc.ret ?_
 refine ⟨?_, trivial⟩
 all_goals exact rfl
noncomputable def F244 : Fun := ⟨[.slice Y26, .pair (.int .i64) Y26], [.pure Y32, .pure (.bool)], fun _ => True, fun x => ((makeMandF x.1 x.2.1).1, (makeMandF x.1 x.2.1).2, ())⟩
theorem F244_ok : Meets Tryz.prog 244 F244 := by
 refine meets_of_vc (C := mkC 28 [4, 5] [0,1,3,4,5,6,17] [⟨113, _, F113_ok⟩, ⟨313, _, F313_ok⟩, ⟨314, _, F314_ok⟩, ⟨114, _, F114_ok⟩]) (mkC_ok _ _ _ _) (fnOf_ok _) Tryz.func244 rfl rfl rfl (by decide) rfl ?_
 rintro ⟨a0, a1, _⟩ hwf hpre ⟨P, C, B, X, w0, M0, pv⟩ hG rfl rfl
 show Vc _ _ [(0, ⟨0, 0, .c Z30 a0⟩), (1, ⟨0, 0, .c Z34 a1⟩)] _
 refine Vc.seq (Vc.region hG rfl (by trivial) (Vc.seq ?_))
 refine Vc.region hG rfl ?_ ?_
 · repeat' (first | exact trivial | exact sgRange h0 | exact smallLit (n := 6) rfl (by decide) | refine And.intro ?_ ?_ | intro _)
 refine Vc.seq (Vc.seq ?_)
 refine Vc.region hG rfl ?_ ?_
 · repeat' (first | exact trivial | exact sgRange h0 | exact smallLit (n := 6) rfl (by decide) | refine And.intro ?_ ?_ | intro _)
 refine Vc.cond rfl (fun h0 => ?_) (fun h0 => ?_)
 · refine Vc.seq (Vc.region hG rfl (by trivial) (Vc.ret ?_))
   have e : makeMandF a0 a1 = _ := (cT h0)
   refine ⟨?_, ?_, trivial⟩
   · exact (congrArg (fun r => r.1) e).symm
   · exact (congrArg (fun r => r.2) e).symm
 · refine Vc.skip (Vc.seq ?_)
   refine Vc.regionD mixed hG rfl (by kernel_rfl) ?_ ?_
   · repeat' (first | exact trivial | exact sgRange h0 | exact smallLit (n := 6) rfl (by decide) | refine And.intro ?_ ?_ | intro _)
   refine Vc.seq (Vc.region hG rfl (by trivial) (Vc.ret ?_))
   have e : makeMandF a0 a1 = _ := (cF h0)
   refine ⟨?_, ?_, trivial⟩
   · exact (congrArg (fun r => r.1) e).symm
   · exact (congrArg (fun r => r.2) e).symm
noncomputable def P320 : PFun := ⟨.pure Y13, [], [.pure Y32], fun x _ => curOk x, fun x _ => (mandD x).2, fun x _ => ((mandD x).1, ())⟩
theorem P320_ok : MeetsP Tryz.prog 320 P320 := by
 refine meetsP_of_vc (C := mkCP 23 [2] [0,2,3,4] [⟨69, _, F69_ok⟩, ⟨244, _, F244_ok⟩] [] [] [⟨67, _, P67_ok⟩] [0]) (mkCP_ok _ _ _ _ _ _ _ _) (fnOf_ok _) Tryz.func320 rfl rfl rfl (by decide) rfl rfl rfl ?_ rfl
 rintro c ⟨_⟩ hwc hwf hpre ⟨P, C, B, X, w0, M0, pv⟩ hG rfl rfl
 show Vc _ _ [(0, ⟨0, 0, .c (.ref Z17) c⟩)] _
 refine Vc.seq (Vc.region hG rfl (by trivial) (Vc.seq ?_))
 refine Vc.region hG rfl ?_ ?_
 · repeat' (first | exact trivial | exact hpre | exact below_ok hpre | exact below_ok (below_ok hpre) | exact below_ok (below_ok (below_ok hpre)) | refine And.intro ?_ ?_ | intro _)
 refine Vc.seq ?_
 refine Vc.region hG rfl ?_ ?_
 · repeat' (first | exact trivial | exact hpre | exact below_ok hpre | exact below_ok (below_ok hpre) | exact below_ok (below_ok (below_ok hpre)) | refine And.intro ?_ ?_ | intro _)
 refine Vc.seq (Vc.region hG rfl (by trivial) (Vc.ret ?_))
 refine ⟨⟨?_, trivial⟩, ?_, trivial⟩
 all_goals exact rfl
noncomputable def F246 : Fun := ⟨[.pair (.int .i64) Y26], [.pair (.pure (.int .i64)) Z11], fun _ => True, fun x => (mandPieceF x.1, ())⟩
theorem F246_ok : Meets Tryz.prog 246 F246 := by
 refine meets_of_vc (C := mkC 10 [2] [0,1,2] [⟨314, _, F314_ok⟩]) (mkC_ok _ _ _ _) (fnOf_ok _) Tryz.func246 rfl rfl rfl (by decide) rfl ?_
 rintro ⟨a0, _⟩ hwf hpre ⟨P, C, B, X, w0, M0, pv⟩ hG rfl rfl
 show Vc _ _ [(0, ⟨0, 0, .c Z34 a0⟩)] _
 refine Vc.seq (Vc.region hG rfl (by trivial) (Vc.seq (Vc.regionD mixed hG rfl (by kernel_rfl) (by trivial) ?_)))
 refine Vc.ret ?_
 refine ⟨?_, trivial⟩
 all_goals exact rfl
end Fw
