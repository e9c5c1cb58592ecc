/- Walks of functions of the program: what each computes. Conditions: those that each contract names. -/
import Derived.Test.YtoccddagjnebbaaGreatW59T
import Derived.Test.YtoccddagjnebbaaGreatW59s0
import Derived.Test.YtoccddagjnebbaaGreatW59s1
namespace Fw
open Go Go.Proofs
set_option linter.unusedSimpArgs false
set_option maxRecDepth 100000
noncomputable def F59 : Fun := ⟨[.slice Y20, .pair (.int .i64) Y39], [.own Z33], fun x => (fun a0 _ => List.length a0 ≤ 2000000000) x.1 x.2.1, fun x => (statusesF x.1 x.2.1, ())⟩
theorem F59_ok : Meets Tryz.prog 59 F59 := by
 refine meets_of_vc (C := mkC 44 [4] [0,1,3,4,5,6,7,8,13,38] [⟨133, _, F133_ok⟩]) (mkC_ok _ _ _ _) (fnOf_ok _) Tryz.func59 rfl rfl rfl (by decide) rfl ?_
 rintro ⟨a0, a1, _⟩ hwf hpre ⟨P, C, B, X, w0, M0, pv⟩ hG rfl rfl
 show Vc _ _ [(0, ⟨0, 0, .c Z25 a0⟩), (1, ⟨0, 0, .c Z47 a1⟩)] _
 have hb : List.length a0 ≤ bigLen := hwf.1.1
 have hs : List.length a0 ≤ 2000000000 := hpre
 refine Vc.seq (Vc.region hG rfl (by trivial) (Vc.seq (Vc.region hG rfl (by trivial) ?_)))
 refine Vc.seq (Vc.seq (Vc.region hG rfl (by trivial) (Vc.block ?_)))
 refine Vc.loopF [(5, false, .own Z33), (6, false, .pure (.int .i64))] [0, 1, 3, 4] (fun v => pkInv (statFor a1) a0 v.1 v.2.1) (fun v => ((List.length a0 : Int) - v.2.1).toNat) rfl ?_ ?_
 · exact pkStart
 rintro ⟨acc, (i : Int), _⟩ hI
 have hI : pkInv (statFor a1) a0 acc i := hI
 refine Vc.seq (Vc.seq (Vc.region hG rfl (by trivial) ?_))
 refine Vc.cond rfl (fun h0 => ?_) (fun h0 => ?_)
 · have hl : i < (List.length a0 : Int) := of_decide_eq_true h0
   refine Vc.skip (Vc.seq (Vc.block (Vc.seq ?_)))
   refine Vc.region hG rfl ?_ ?_
   · exact ⟨pkRange hI hl, trivial⟩
   refine Vc.seq (Vc.region hG rfl (by trivial) ?_)
   refine Vc.cond rfl (fun h1 => ?_) (fun h1 => ?_)
   · have g1 : ((statFor a1) (List.getD a0 i.toNat (dflt Y20))).2 = true := h1
     refine Vc.region hG rfl ?_ ?_
     · exact pkLenW hI hs
     refine Vc.region hG rfl (by trivial) ?_
     refine ⟨rfl, ?_⟩
     first
       | exact pkYes (d := dflt Y20) hI hl hb g1
       | exact pkNo (d := dflt Y20) hI hl hb g1
   · have g1 : ((statFor a1) (List.getD a0 i.toNat (dflt Y20))).2 = false := h1
     refine Vc.skip (Vc.region hG rfl (by trivial) ?_)
     refine ⟨rfl, ?_⟩
     first
       | exact pkYes (d := dflt Y20) hI hl hb g1
       | exact pkNo (d := dflt Y20) hI hl hb g1
 · have hl : ¬ i < (List.length a0 : Int) := of_decide_eq_false h0
   refine Vc.exit (Vc.seq (Vc.region hG rfl (by trivial) (Vc.ret ?_)))
   refine ⟨?_, trivial⟩
   exact pkEnd hI hl
noncomputable def T227 : TFun := ⟨.own Z8, [.int .i64, .int .i64], .own Z8, fun x xs => (fun (l : List Span) (_ _ : Int) => List.length l ≤ 1000) x xs.1 xs.2.1, fun x xs => bPut x xs.1 xs.2.1⟩
theorem T227_ok : MeetsT Tryz.prog 227 T227 := by
 refine meetsT_of_vc (C := mkCM 22 [6] [0,1,2,6,7,8,16] [⟨230, _, F230_ok⟩] [] [] []) (mkCM_ok _ _ _ _ _ _ _) (fnOf_ok _) Tryz.func227 rfl rfl rfl (by decide) rfl rfl rfl rfl ?_ rfl
 rintro a0 ⟨(a1 : Int), (a2 : Int), _⟩ hwf0 hwf hpre ⟨P, C, B, X, w0, M0, pv⟩ hG rfl rfl
 show Vc _ _ [(0, ⟨0, 0, .c (.own Z8) a0⟩), (1, ⟨0, 0, .c (.pure (.int .i64)) a1⟩), (2, ⟨0, 0, .c (.pure (.int .i64)) a2⟩)] _
 have hs : List.length a0 ≤ 1000 := hpre
 refine Vc.seq (Vc.region hG rfl (by trivial) (Vc.seq (Vc.region hG rfl (by trivial) ?_)))
 refine Vc.seq (Vc.seq (Vc.region hG rfl (by trivial) ?_))
 refine Vc.cond rfl (fun h0 => ?_) (fun h0 => ?_)
 · refine Vc.seq (Vc.region hG rfl (by trivial) (Vc.ret ?_))
   refine ⟨?_, trivial⟩
   exact bpN (notT' h0)
 · refine Vc.skip (Vc.seq ?_)
   refine Vc.region hG rfl ?_ ?_
   · exact bpApp hs
   refine Vc.ret ?_
   refine ⟨?_, trivial⟩
   exact bpY (notF h0)
noncomputable def F228 : Fun := ⟨[.slice Y32, .int .i64], [.pure (.int .i64)], fun _ => True, fun x => (badFromF x.1 x.2.1, ())⟩
theorem F228_ok : Meets Tryz.prog 228 F228 := by
 refine meets_of_vc (C := mkC 47 [4] [0,1,4,5,6,7,11,20,26,42] [⟨132, _, F132_ok⟩]) (mkC_ok _ _ _ _) (fnOf_ok _) Tryz.func228 rfl rfl rfl (by decide) rfl ?_
 rintro ⟨a0, (a1 : Int), _⟩ hwf hpre ⟨P, C, B, X, w0, M0, pv⟩ hG rfl rfl
 show Vc _ _ [(0, ⟨0, 0, .c Z37 a0⟩), (1, ⟨0, 0, .c (.pure (.int .i64)) a1⟩)] _
 have hb : List.length a0 ≤ bigLen := hwf.1.1
 refine Vc.seq (Vc.region hG rfl (by trivial) (Vc.seq (Vc.region hG rfl (by trivial) ?_)))
 refine Vc.seq (Vc.region hG rfl (by trivial) (Vc.seq (Vc.seq ?_)))
 refine Vc.region hG rfl (by trivial) (Vc.block ?_)
 refine Vc.loopF [(5, false, .pure (.int .i64)), (6, false, .pure (.int .i64)), (7, false, .pure (.int .i64))] [0, 1, 4, 42] (fun v => foInv (msS a1) (-1) a0 v.1 v.2.2.1 ∧ foInv (gsS a1) (-1) a0 v.2.1 v.2.2.1) (fun v => ((List.length a0 : Int) - v.2.2.1).toNat) rfl ?_ ?_
 · exact ⟨foStart, foStart⟩
 rintro ⟨(x : Int), (y : Int), (i : Int), _⟩ hI
 have hI : foInv (msS a1) (-1) a0 x i ∧ foInv (gsS a1) (-1) a0 y i := hI
 refine Vc.seq (Vc.seq (Vc.region hG rfl (by trivial) ?_))
 refine Vc.cond rfl (fun h0 => ?_) (fun h0 => ?_)
 · have hl : i < (List.length a0 : Int) := of_decide_eq_true h0
   refine Vc.skip (Vc.seq (Vc.block (Vc.seq ?_)))
   refine Vc.seq ?_
   refine Vc.region hG rfl ?_ ?_
   · exact foRange hI.1 hl
   refine Vc.cond rfl (fun h1 => ?_) (fun h1 => ?_)
   · have g1 : ((List.getD a0 i.toNat (dflt Y32)).1 != a1) = true := h1
     have st := fo2 (d := dflt Y32) hI hl hb (msN1 g1) (gsN1 g1)
     refine Vc.exit (Vc.region hG rfl (by trivial) ?_)
     refine ⟨rfl, ?_⟩
     exact st
   · have g1 : ((List.getD a0 i.toNat (dflt Y32)).1 != a1) = false := h1
     refine Vc.skip (Vc.seq ?_)
     refine Vc.region hG rfl ?_ ?_
     · exact foRange hI.1 hl
     refine Vc.cond rfl (fun h2 => ?_) (fun h2 => ?_)
     · have g2 : ¬ (List.getD a0 i.toNat (dflt Y32)).2.2.1 < 0 := Int.not_lt.2 (of_decide_eq_true h2)
       have st := fo2 (d := dflt Y32) hI hl hb (msY g1 g2) (gsN2 g2)
       refine Vc.region hG rfl ?_ ?_
       · exact ⟨foRange hI.1 hl, trivial⟩
       refine Vc.region hG rfl (by trivial) ?_
       refine ⟨rfl, ?_⟩
       exact st
     · have g2 : (List.getD a0 i.toNat (dflt Y32)).2.2.1 < 0 := Int.not_le.1 (of_decide_eq_false h2)
       have st := fo2 (d := dflt Y32) hI hl hb (msN2 g2) (gsY g1 g2)
       refine Vc.region hG rfl ?_ ?_
       · exact ⟨foRange hI.1 hl, trivial⟩
       refine Vc.region hG rfl (by trivial) ?_
       refine ⟨rfl, ?_⟩
       exact st
 · have hl : ¬ i < (List.length a0 : Int) := of_decide_eq_false h0
   refine Vc.exit (Vc.seq (Vc.seq (Vc.region hG rfl (by trivial) ?_)))
   refine Vc.cond rfl (fun h3 => ?_) (fun h3 => ?_)
   · refine Vc.seq (Vc.region hG rfl (by trivial) (Vc.ret ?_))
     refine ⟨?_, trivial⟩
     exact bfA (foEnd hI.1 hl) h3
   · refine Vc.skip (Vc.seq (Vc.region hG rfl (by trivial) (Vc.ret ?_)))
     refine ⟨?_, trivial⟩
     exact bfB (foEnd hI.1 hl) (foEnd hI.2 hl) h3
noncomputable def F289 : Fun := ⟨[.slice Y4, .pair (.int .i64) (.int .i64)], [.own Z8], fun x => (fun (l : List Span) (_ : Span) => List.length l ≤ 2000000000) x.1 x.2.1, fun x => (jPut x.1 x.2.1, ())⟩
theorem F289_ok : Meets Tryz.prog 289 F289 := by
 refine meets_of_vc (C := mkC 78 [4] [0,1,3,4,5,6,7,8,13,33,63] [⟨122, _, F122_ok⟩, ⟨132, _, F132_ok⟩]) (mkC_ok _ _ _ _) (fnOf_ok _) Tryz.func289 rfl rfl rfl (by decide) rfl ?_
 rintro ⟨a0, a1, _⟩ hwf hpre ⟨P, C, B, X, w0, M0, pv⟩ hG rfl rfl
 show Vc _ _ [(0, ⟨0, 0, .c Z14 a0⟩), (1, ⟨0, 0, .c Z8 a1⟩)] _
 have hs : List.length a0 ≤ 2000000000 := hpre
 have hb : List.length a0 ≤ bigLen := hwf.1.1
 refine Vc.seq (Vc.region hG rfl (by trivial) (Vc.seq (Vc.region hG rfl (by trivial) ?_)))
 refine Vc.seq (Vc.seq (Vc.region hG rfl (by trivial) (Vc.block ?_)))
 refine Vc.loopF [(3, true, .pure Y4), (5, false, .own Z8), (6, false, .pure (.int .i64))] [0, 1, 4, 8, 63] (fun v => foInv jG ([], a1) a0 (v.2.1, v.1) v.2.2.1) (fun v => ((List.length a0 : Int) - v.2.2.1).toNat) rfl ?_ ?_
 · exact foStart
 rintro ⟨s, nx, (j : Int), _⟩ hJ
 have hJ : foInv jG ([], a1) a0 (nx, s) j := hJ
 have hN : List.length nx ≤ 2000000000 := jLenI hJ hs
 refine Vc.seq (Vc.seq (Vc.region hG rfl (by trivial) ?_))
 refine Vc.cond rfl (fun h0 => ?_) (fun h0 => ?_)
 · have hm : j < (List.length a0 : Int) := of_decide_eq_true h0
   refine Vc.skip (Vc.seq (Vc.block (Vc.seq ?_)))
   refine Vc.region hG rfl ?_ ?_
   · exact foRange hJ hm
   refine Vc.seq (Vc.seq (Vc.region hG rfl (by trivial) ?_))
   refine Vc.cond rfl (fun h1 => ?_) (fun h1 => ?_)
   · have g3 : jApart (List.getD a0 j.toNat (dflt Y4)) s = true := h1
     have st2 := foStepE (d := dflt Y4) hJ hm hb (jY (n := nx) g3)
     refine Vc.seq ?_
     refine Vc.region hG rfl ?_ ?_
     · exact jApp hN
     refine Vc.exit (Vc.region hG rfl (by trivial) ?_)
     refine ⟨rfl, ?_⟩
     exact st2
   · have g3 : jApart (List.getD a0 j.toNat (dflt Y4)) s = false := h1
     have st2 := foStepE (d := dflt Y4) hJ hm hb (jN (n := nx) g3)
     refine Vc.skip (Vc.seq (Vc.region hG rfl (by trivial) (Vc.region hG rfl (by trivial) ?_)))
     refine Vc.region hG rfl (by trivial) ?_
     refine ⟨rfl, ?_⟩
     exact st2
 · have hm : ¬ j < (List.length a0 : Int) := of_decide_eq_false h0
   refine Vc.exit (Vc.seq (Vc.region hG rfl (by trivial) (Vc.seq ?_)))
   refine Vc.block ?_
   refine Vc.loopF [(8, false, .pure (.int .i64))] [0, 1, 3, 4, 5, 6, 7, 13, 33] (fun v => tkInv (jP s) nx v.1) (fun v => ((List.length nx : Int) - v.1).toNat) rfl ?_ ?_
   · exact tkStart
   rintro ⟨(k : Int), _⟩ hQ
   have hQ : tkInv (jP s) nx k := hQ
   refine Vc.seq (Vc.seq ?_)
   refine Vc.regionD mixed hG rfl (by kernel_rfl) ?_ ?_
   · exact fun h => tkRange hQ (of_decide_eq_true h)
   refine Vc.cond rfl (fun h2 => ?_) (fun h2 => ?_)
   · have g4 : pick2 (decide (k < (List.length nx : Int))) (jP s (List.getD nx k.toNat (dflt Y4))) false = true := h2
     refine Vc.skip (Vc.block (Vc.region hG rfl (by trivial) ?_))
     refine ⟨rfl, ?_⟩
     exact tkStepW (p := jP s) hQ hN g4
   · have g4 : pick2 (decide (k < (List.length nx : Int))) (jP s (List.getD nx k.toNat (dflt Y4))) false = false := h2
     have hk := tkEnd (p := jP s) hQ g4
     refine Vc.exit (Vc.seq ?_)
     refine Vc.regionD mixed hG rfl (by kernel_rfl) ?_ ?_
     · exact jConds hQ hN
     refine Vc.ret ?_
     refine ⟨?_, trivial⟩
     exact jDone hJ hm hQ hk
noncomputable def F225 : Fun := ⟨[.slice Y4], [.own Z8], fun x => (fun (l : List Span) => List.length l ≤ 2000000000) x.1, fun x => (joinF x.1, ())⟩
theorem F225_ok : Meets Tryz.prog 225 F225 := by
 refine meets_of_vc (C := mkC 24 [2] [0,2,3,4,9,16] [⟨137, _, F137_ok⟩, ⟨289, _, F289_ok⟩]) (mkC_ok _ _ _ _) (fnOf_ok _) Tryz.func225 rfl rfl rfl (by decide) rfl ?_
 rintro ⟨a0, _⟩ hwf hpre ⟨P, C, B, X, w0, M0, pv⟩ hG rfl rfl
 show Vc _ _ [(0, ⟨0, 0, .c Z14 a0⟩)] _
 have hs : List.length a0 ≤ 2000000000 := hpre
 have hb : List.length a0 ≤ bigLen := hwf.1.1
 refine Vc.seq (Vc.region hG rfl (by trivial) (Vc.seq (Vc.region hG rfl (by trivial) ?_)))
 refine Vc.seq (Vc.seq (Vc.region hG rfl (by trivial) (Vc.block ?_)))
 refine Vc.loopF [(3, false, .own Z8), (4, false, .pure (.int .i64))] [0, 2] (fun v => foInv joinG [] a0 v.1 v.2.1) (fun v => ((List.length a0 : Int) - v.2.1).toNat) rfl ?_ ?_
 · exact foStart
 rintro ⟨acc, (i : Int), _⟩ hI
 have hI : foInv joinG [] a0 acc i := hI
 have hA : List.length acc ≤ 2000000000 := joinLenI hI hs
 refine Vc.seq (Vc.seq (Vc.region hG rfl (by trivial) ?_))
 refine Vc.cond rfl (fun h0 => ?_) (fun h0 => ?_)
 · have hl : i < (List.length a0 : Int) := of_decide_eq_true h0
   refine Vc.skip (Vc.seq (Vc.block (Vc.seq ?_)))
   refine Vc.region hG rfl ?_ ?_
   · exact ⟨foRange hI hl, trivial⟩
   refine Vc.cond rfl (fun h1 => ?_) (fun h1 => ?_)
   · have g1 : isSpanF (List.getD a0 i.toNat (dflt Y4)) = true := h1
     have st := foStepE (d := dflt Y4) hI hl hb (joinY g1)
     refine Vc.region hG rfl ?_ ?_
     · exact ⟨foRange hI hl, hA⟩
     refine Vc.region hG rfl (by trivial) ?_
     refine ⟨rfl, ?_⟩
     exact st
   · have g1 : isSpanF (List.getD a0 i.toNat (dflt Y4)) = false := h1
     have st := foStepE (d := dflt Y4) hI hl hb (joinN g1)
     refine Vc.skip (Vc.region hG rfl (by trivial) ?_)
     refine ⟨rfl, ?_⟩
     exact st
 · have hl : ¬ i < (List.length a0 : Int) := of_decide_eq_false h0
   refine Vc.exit (Vc.seq (Vc.region hG rfl (by trivial) (Vc.ret ?_)))
   refine ⟨?_, trivial⟩
   exact foEnd hI hl
noncomputable def F135 : Fun := ⟨[.pair (.int .i64) Y39, .slice Y32], [.own Z8], fun _ => True, fun x => (badSpansF x.1 x.2.1, ())⟩
theorem F135_ok : Meets Tryz.prog 135 F135 := by
 refine meets_of_vc (C := mkCM 30 [4] [0,1,2,4,5,9,17] [⟨228, _, F228_ok⟩, ⟨225, _, F225_ok⟩] [] [⟨227, _, T227_ok⟩] []) (mkCM_ok _ _ _ _ _ _ _) (fnOf_ok _) Tryz.func135 rfl rfl rfl (by decide) rfl ?_
 rintro ⟨a0, a1, _⟩ hwf hpre ⟨P, C, B, X, w0, M0, pv⟩ hG rfl rfl
 show Vc _ _ [(0, ⟨0, 0, .c Z47 a0⟩), (1, ⟨0, 0, .c Z37 a1⟩)] _
 refine Vc.seq (Vc.region hG rfl (by trivial) (Vc.seq (Vc.region hG rfl (by trivial) ?_)))
 refine Vc.seq (Vc.seq (Vc.region hG rfl (by trivial) ?_))
 refine Vc.cond rfl (fun h0 => ?_) (fun h0 => ?_)
 · refine Vc.region hG rfl ?_ ?_
   · exact Nat.zero_le _
   refine Vc.seq (Vc.seq (Vc.region hG rfl (by trivial) ?_))
   refine Vc.cond rfl (fun h1 => ?_) (fun h1 => ?_)
   · refine Vc.region hG rfl ?_ ?_
     · first
         | exact bp1
         | exact Nat.zero_le _
     refine Vc.seq ?_
     refine Vc.region hG rfl ?_ ?_
     · exact ⟨trivial, (by first | exact bp2 | exact bp1 | exact Nat.zero_le _), (Nat.le_trans (by first | exact bp3 | exact bp2 | exact bp1) (show 1000 ≤ 2000000000 by decide))⟩
     refine Vc.ret ?_
     refine ⟨?_, trivial⟩
     exact bdYY h0 h1
   · refine Vc.skip (Vc.seq ?_)
     refine Vc.region hG rfl ?_ ?_
     · exact ⟨trivial, (by first | exact bp2 | exact bp1 | exact Nat.zero_le _), (Nat.le_trans (by first | exact bp3 | exact bp2 | exact bp1) (show 1000 ≤ 2000000000 by decide))⟩
     refine Vc.ret ?_
     refine ⟨?_, trivial⟩
     exact bdYN h0 h1
 · refine Vc.skip (Vc.seq (Vc.seq (Vc.region hG rfl (by trivial) ?_)))
   refine Vc.cond rfl (fun h2 => ?_) (fun h2 => ?_)
   · refine Vc.region hG rfl ?_ ?_
     · first
         | exact bp1
         | exact Nat.zero_le _
     refine Vc.seq ?_
     refine Vc.region hG rfl ?_ ?_
     · exact ⟨trivial, (by first | exact bp2 | exact bp1 | exact Nat.zero_le _), (Nat.le_trans (by first | exact bp3 | exact bp2 | exact bp1) (show 1000 ≤ 2000000000 by decide))⟩
     refine Vc.ret ?_
     refine ⟨?_, trivial⟩
     exact bdNY h0 h2
   · refine Vc.skip (Vc.seq ?_)
     refine Vc.region hG rfl ?_ ?_
     · exact ⟨trivial, (by first | exact bp2 | exact bp1 | exact Nat.zero_le _), (Nat.le_trans (by first | exact bp3 | exact bp2 | exact bp1) (show 1000 ≤ 2000000000 by decide))⟩
     refine Vc.ret ?_
     refine ⟨?_, trivial⟩
     exact bdNN h0 h2
noncomputable def F226 : Fun := ⟨[.pair (.int .i64) (.int .i64), .pair (.int .i64) (.int .i64)], [.pure (.bool)], fun _ => True, fun x => (isInsideF x.1 x.2.1, ())⟩
theorem F226_ok : Meets Tryz.prog 226 F226 := by
 refine meets_of_vc (C := mkC 25 [4] [0,1,2,3,4] [⟨137, _, F137_ok⟩]) (mkC_ok _ _ _ _) (fnOf_ok _) Tryz.func226 rfl rfl rfl (by decide) rfl ?_
 rintro ⟨a0, a1, _⟩ hwf hpre ⟨P, C, B, X, w0, M0, pv⟩ hG rfl rfl
 show Vc _ _ [(0, ⟨0, 0, .c Z8 a0⟩), (1, ⟨0, 0, .c Z8 a1⟩)] _
 refine Vc.seq (Vc.region hG rfl (by trivial) (Vc.seq ?_))
 refine Vc.region hG rfl ?_ ?_
 · repeat' (first | exact trivial | refine And.intro ?_ ?_ | intro _)
 refine Vc.ret ?_
 refine ⟨?_, trivial⟩
 all_goals exact rfl
noncomputable def F134 : Fun := ⟨[.slice Y4, .pair (.int .i64) (.int .i64)], [.pure (.bool)], fun x => (fun (l : List Span) (_ : Span) => List.length l ≤ 2000000000) x.1 x.2.1, fun x => (coversF x.1 x.2.1, ())⟩
theorem F134_ok : Meets Tryz.prog 134 F134 := by
 refine meets_of_vc (C := mkC 21 [4] [0,1,3,4,5,6,12,20] [⟨225, _, F225_ok⟩, ⟨226, _, F226_ok⟩]) (mkC_ok _ _ _ _) (fnOf_ok _) Tryz.func134 rfl rfl rfl (by decide) rfl ?_
 rintro ⟨a0, a1, _⟩ hwf hpre ⟨P, C, B, X, w0, M0, pv⟩ hG rfl rfl
 show Vc _ _ [(0, ⟨0, 0, .c Z14 a0⟩), (1, ⟨0, 0, .c Z8 a1⟩)] _
 have hs : List.length a0 ≤ 2000000000 := hpre
 have hb : List.length a0 ≤ bigLen := hwf.1.1
 have hbj : List.length (joinF a0) ≤ bigLen := Nat.le_trans (joinLen a0) hb
 refine Vc.seq (Vc.region hG rfl (by trivial) (Vc.seq ?_))
 refine Vc.region hG rfl ?_ ?_
 · exact hs
 refine Vc.seq (Vc.seq (Vc.region hG rfl (by trivial) (Vc.block ?_)))
 refine Vc.loopF [(6, false, .pure (.int .i64))] [0, 1, 3, 5] (fun v => fInv (fun x => isInsideF a1 x) (joinF a0) v.1) (fun v => ((List.length (joinF a0) : Int) - v.1).toNat) rfl ?_ ?_
 · exact fStart
 rintro ⟨(i : Int), _⟩ hI
 have hI : fInv (fun x => isInsideF a1 x) (joinF a0) i := hI
 refine Vc.seq (Vc.seq (Vc.region hG rfl (by trivial) ?_))
 refine Vc.cond rfl (fun h0 => ?_) (fun h0 => ?_)
 · have hl : i < (List.length (joinF a0) : Int) := of_decide_eq_true h0
   refine Vc.skip (Vc.seq (Vc.block (Vc.seq ?_)))
   refine Vc.regionD mixed hG rfl (by kernel_rfl) ?_ ?_
   · exact ⟨fRange hI hl, trivial⟩
   refine Vc.cond rfl (fun h1 => ?_) (fun h1 => ?_)
   · have g1 : isInsideF a1 (List.getD (joinF a0) i.toNat (dflt Y4)) = true := h1
     refine Vc.seq (Vc.region hG rfl (by trivial) (Vc.ret ?_))
     refine ⟨?_, trivial⟩
     exact cvHit rfl hI hl g1
   · have g1 : (fun x => isInsideF a1 x) (List.getD (joinF a0) i.toNat (dflt Y4)) = false := h1
     refine Vc.skip (Vc.region hG rfl (by trivial) ?_)
     refine ⟨rfl, ?_⟩
     exact fStep hI hl hbj g1
 · have hl : ¬ i < (List.length (joinF a0) : Int) := of_decide_eq_false h0
   refine Vc.exit (Vc.seq (Vc.region hG rfl (by trivial) (Vc.ret ?_)))
   refine ⟨?_, trivial⟩
   exact cvEnd rfl hI hl
noncomputable def F60 : Fun := ⟨[.pair (.int .i64) Y39, .slice Y32, .pair (.int .i64) (.int .i64)], [.pure (.bool)], fun _ => True, fun x => ((fun c l s => coversF (badSpansF c l) s) x.1 x.2.1 x.2.2.1, ())⟩
theorem F60_ok : Meets Tryz.prog 60 F60 := by
 refine meets_of_vc (C := mkC 12 [6] [0,1,2,3,5,6] [⟨135, _, F135_ok⟩, ⟨134, _, F134_ok⟩]) (mkC_ok _ _ _ _) (fnOf_ok _) Tryz.func60 rfl rfl rfl (by decide) rfl ?_
 rintro ⟨a0, a1, a2, _⟩ hwf hpre ⟨P, C, B, X, w0, M0, pv⟩ hG rfl rfl
 show Vc _ _ [(0, ⟨0, 0, .c Z47 a0⟩), (1, ⟨0, 0, .c Z37 a1⟩), (2, ⟨0, 0, .c Z8 a2⟩)] _
 refine Vc.seq (Vc.region hG rfl (by trivial) (Vc.seq ?_))
 refine Vc.regionD mixed hG rfl (by kernel_rfl) ?_ ?_
 · exact ⟨trivial, Nat.le_trans (badLen a0 a1) (by decide)⟩
 refine Vc.ret ?_
 refine ⟨?_, trivial⟩
 all_goals exact rfl
noncomputable def F229 : Fun := ⟨[.slice Y32, .int .i64], [.pure (.int .i64)], fun _ => True, fun x => (goodUntilF x.1 x.2.1, ())⟩
theorem F229_ok : Meets Tryz.prog 229 F229 := by
 refine meets_of_vc (C := mkC 55 [4] [0,1,4,5,6,7,11,20,26,44,51] [⟨132, _, F132_ok⟩]) (mkC_ok _ _ _ _) (fnOf_ok _) Tryz.func229 rfl rfl rfl (by decide) rfl ?_
 rintro ⟨a0, (a1 : Int), _⟩ hwf hpre ⟨P, C, B, X, w0, M0, pv⟩ hG rfl rfl
 show Vc _ _ [(0, ⟨0, 0, .c Z37 a0⟩), (1, ⟨0, 0, .c (.pure (.int .i64)) a1⟩)] _
 have hb : List.length a0 ≤ bigLen := hwf.1.1
 refine Vc.seq (Vc.region hG rfl (by trivial) (Vc.seq (Vc.region hG rfl (by trivial) ?_)))
 refine Vc.seq (Vc.region hG rfl (by trivial) (Vc.seq (Vc.seq ?_)))
 refine Vc.region hG rfl (by trivial) (Vc.block ?_)
 refine Vc.loopF [(5, false, .pure (.int .i64)), (6, false, .pure (.int .i64)), (7, false, .pure (.int .i64))] [0, 1, 4, 51] (fun v => foInv (lsS a1) (-1) a0 v.1 v.2.2.1 ∧ foInv (gsS a1) (-1) a0 v.2.1 v.2.2.1) (fun v => ((List.length a0 : Int) - v.2.2.1).toNat) rfl ?_ ?_
 · exact ⟨foStart, foStart⟩
 rintro ⟨(x : Int), (y : Int), (i : Int), _⟩ hI
 have hI : foInv (lsS a1) (-1) a0 x i ∧ foInv (gsS a1) (-1) a0 y i := hI
 refine Vc.seq (Vc.seq (Vc.region hG rfl (by trivial) ?_))
 refine Vc.cond rfl (fun h0 => ?_) (fun h0 => ?_)
 · have hl : i < (List.length a0 : Int) := of_decide_eq_true h0
   refine Vc.skip (Vc.seq (Vc.block (Vc.seq ?_)))
   refine Vc.seq ?_
   refine Vc.region hG rfl ?_ ?_
   · exact foRange hI.1 hl
   refine Vc.cond rfl (fun h1 => ?_) (fun h1 => ?_)
   · have g1 : ((List.getD a0 i.toNat (dflt Y32)).1 != a1) = true := h1
     have st := fo2 (d := dflt Y32) hI hl hb (lsN1 g1) (gsN1 g1)
     refine Vc.exit (Vc.region hG rfl (by trivial) ?_)
     refine ⟨rfl, ?_⟩
     exact st
   · have g1 : ((List.getD a0 i.toNat (dflt Y32)).1 != a1) = false := h1
     refine Vc.skip (Vc.seq ?_)
     refine Vc.region hG rfl ?_ ?_
     · exact foRange hI.1 hl
     refine Vc.cond rfl (fun h2 => ?_) (fun h2 => ?_)
     · have g2 : (List.getD a0 i.toNat (dflt Y32)).2.2.1 < 0 := of_decide_eq_true h2
       have st := fo2 (d := dflt Y32) hI hl hb (lsN2 g2) (gsY g1 g2)
       refine Vc.region hG rfl ?_ ?_
       · exact ⟨foRange hI.1 hl, trivial⟩
       refine Vc.region hG rfl (by trivial) ?_
       refine ⟨rfl, ?_⟩
       exact st
     · have g2 : ¬ (List.getD a0 i.toNat (dflt Y32)).2.2.1 < 0 := of_decide_eq_false h2
       refine Vc.seq ?_
       refine Vc.region hG rfl ?_ ?_
       · repeat' (first | exact trivial | exact foRange hI.1 hl | refine And.intro ?_ ?_ | intro _)
       refine Vc.cond rfl (fun h3 => ?_) (fun h3 => ?_)
       · have st := fo2 (d := dflt Y32) hI hl hb (lsY g1 g2 h3) (gsN2 g2)
         refine Vc.region hG rfl ?_ ?_
         · exact foRange hI.1 hl
         refine Vc.region hG rfl (by trivial) ?_
         refine ⟨rfl, ?_⟩
         exact st
       · have st := fo2 (d := dflt Y32) hI hl hb (lsN3 h3) (gsN2 g2)
         refine Vc.skip (Vc.region hG rfl (by trivial) ?_)
         refine ⟨rfl, ?_⟩
         exact st
 · have hl : ¬ i < (List.length a0 : Int) := of_decide_eq_false h0
   refine Vc.exit (Vc.seq (Vc.seq (Vc.region hG rfl (by trivial) ?_)))
   refine Vc.cond rfl (fun h4 => ?_) (fun h4 => ?_)
   · refine Vc.seq (Vc.region hG rfl (by trivial) (Vc.ret ?_))
     refine ⟨?_, trivial⟩
     exact guA (foEnd hI.1 hl) h4
   · refine Vc.skip (Vc.seq (Vc.region hG rfl (by trivial) (Vc.ret ?_)))
     refine ⟨?_, trivial⟩
     exact guB (foEnd hI.1 hl) (foEnd hI.2 hl) h4
noncomputable def F290 : Fun := ⟨[.pair (.int .i64) (.int .i64), .pair (.int .i64) (.int .i64)], [.pure Y4, .pure (.bool)], fun _ => True, fun x => ((meetF x.1 x.2.1).1, (meetF x.1 x.2.1).2, ())⟩
theorem F290_ok : Meets Tryz.prog 290 F290 := by
 refine meets_of_vc (C := mkC 28 [4, 5] [0,1,2,3,4,5,13] [⟨137, _, F137_ok⟩, ⟨132, _, F132_ok⟩, ⟨122, _, F122_ok⟩, ⟨230, _, F230_ok⟩]) (mkC_ok _ _ _ _) (fnOf_ok _) Tryz.func290 rfl rfl rfl (by decide) rfl ?_
 rintro ⟨a0, a1, _⟩ hwf hpre ⟨P, C, B, X, w0, M0, pv⟩ hG rfl rfl
 show Vc _ _ [(0, ⟨0, 0, .c Z8 a0⟩), (1, ⟨0, 0, .c Z8 a1⟩)] _
 refine Vc.seq (Vc.region hG rfl (by trivial) (Vc.seq (Vc.seq ?_)))
 refine Vc.region hG rfl ?_ ?_
 · repeat' (first | exact trivial | refine And.intro ?_ ?_ | intro _)
 refine Vc.cond rfl (fun h0 => ?_) (fun h0 => ?_)
 · refine Vc.seq (Vc.region hG rfl (by trivial) (Vc.ret ?_))
   have e := meS0 h0
   refine ⟨?_, ?_, trivial⟩
   · exact (congrArg Prod.fst e).symm
   · exact (congrArg Prod.snd e).symm
 · refine Vc.skip (Vc.seq (Vc.regionD mixed hG rfl (by kernel_rfl) (by trivial) (Vc.ret ?_)))
   have e := meS1 h0
   refine ⟨?_, ?_, trivial⟩
   · exact (congrArg Prod.fst e).symm
   · exact (congrArg Prod.snd e).symm
noncomputable def F231 : Fun := ⟨[.slice Y4, .slice Y4], [.own Z8], fun x => (fun (a b : List Span) => List.length a ≤ 1000 ∧ List.length b ≤ 1000) x.1 x.2.1, fun x => (meetAllF x.1 x.2.1, ())⟩
theorem F231_ok : Meets Tryz.prog 231 F231 := by
 refine meets_of_vc (C := mkC 42 [4] [0,1,4,5,6,7,8,9,14,20,35] [⟨290, _, F290_ok⟩, ⟨225, _, F225_ok⟩]) (mkC_ok _ _ _ _) (fnOf_ok _) Tryz.func231 rfl rfl rfl (by decide) rfl ?_
 rintro ⟨a0, a1, _⟩ hwf hpre ⟨P, C, B, X, w0, M0, pv⟩ hG rfl rfl
 show Vc _ _ [(0, ⟨0, 0, .c Z14 a0⟩), (1, ⟨0, 0, .c Z14 a1⟩)] _
 have hp1 : List.length a0 ≤ 1000 := hpre.1
 have hp2 : List.length a1 ≤ 1000 := hpre.2
 have hb : List.length a0 ≤ bigLen := hwf.1.1
 have hb1 : List.length a1 ≤ bigLen := hwf.2.1.1
 refine Vc.seq (Vc.region hG rfl (by trivial) (Vc.seq (Vc.region hG rfl (by trivial) ?_)))
 refine Vc.seq (Vc.seq (Vc.region hG rfl (by trivial) (Vc.block ?_)))
 refine Vc.loopF [(5, false, .own Z8), (6, false, .pure (.int .i64))] [0, 1, 4] (fun v => foInv (meR a1) [] a0 v.1 v.2.1) (fun v => ((List.length a0 : Int) - v.2.1).toNat) rfl ?_ ?_
 · exact foStart
 rintro ⟨acc, (i : Int), _⟩ hI
 have hI : foInv (meR a1) [] a0 acc i := hI
 have hA : List.length acc ≤ 1000000 := meLenI hI hp1 hp2
 refine Vc.seq (Vc.seq (Vc.region hG rfl (by trivial) ?_))
 refine Vc.cond rfl (fun h0 => ?_) (fun h0 => ?_)
 · have hl : i < (List.length a0 : Int) := of_decide_eq_true h0
   refine Vc.skip (Vc.seq (Vc.block (Vc.seq ?_)))
   refine Vc.region hG rfl (by trivial) (Vc.block ?_)
   refine Vc.loopF [(5, false, .own Z8), (7, false, .pure (.int .i64))] [0, 1, 4, 6, 14] (fun v => foInv (meG (List.getD a0 i.toNat (dflt Y4))) acc a1 v.1 v.2.1) (fun v => ((List.length a1 : Int) - v.2.1).toNat) rfl ?_ ?_
   · exact foStart
   rintro ⟨ac2, (k : Int), _⟩ hK
   have hK : foInv (meG (List.getD a0 i.toNat (dflt Y4))) acc a1 ac2 k := hK
   have hA2 : List.length ac2 ≤ 2000000 := meLenJ hK hA hp2
   refine Vc.seq (Vc.seq (Vc.region hG rfl (by trivial) ?_))
   refine Vc.cond rfl (fun h1 => ?_) (fun h1 => ?_)
   · have hm : k < (List.length a1 : Int) := of_decide_eq_true h1
     refine Vc.skip (Vc.seq (Vc.block (Vc.seq ?_)))
     refine Vc.regionD mixed hG rfl (by kernel_rfl) ?_ ?_
     · exact ⟨foRange hI hl, foRange hK hm, trivial⟩
     refine Vc.seq (Vc.region hG rfl (by trivial) ?_)
     refine Vc.cond rfl (fun h2 => ?_) (fun h2 => ?_)
     · have g2 : (meetF (List.getD a0 i.toNat (dflt Y4)) (List.getD a1 k.toNat (dflt Y4))).2 = true := h2
       have st := foStepE (d := dflt Y4) hK hm hb1 (meY g2)
       refine Vc.region hG rfl ?_ ?_
       · exact meApp hA2
       refine Vc.region hG rfl (by trivial) ?_
       refine ⟨rfl, ?_⟩
       exact st
     · have g2 : (meetF (List.getD a0 i.toNat (dflt Y4)) (List.getD a1 k.toNat (dflt Y4))).2 = false := h2
       have st := foStepE (d := dflt Y4) hK hm hb1 (meN (acc := ac2) g2)
       refine Vc.skip (Vc.region hG rfl (by trivial) ?_)
       refine ⟨rfl, ?_⟩
       exact st
   · have hm : ¬ k < (List.length a1 : Int) := of_decide_eq_false h1
     refine Vc.exit (Vc.region hG rfl (by trivial) ?_)
     refine ⟨rfl, ?_⟩
     exact foStepE (d := dflt Y4) hI hl hb (foEnd hK hm)
 · have hl : ¬ i < (List.length a0 : Int) := of_decide_eq_false h0
   refine Vc.exit (Vc.seq ?_)
   refine Vc.region hG rfl ?_ ?_
   · exact meBig hp1 hp2 (foEnd hI hl)
   refine Vc.ret ?_
   refine ⟨?_, trivial⟩
   exact congrArg joinF (foEnd hI hl)
noncomputable def F136 : Fun := ⟨[.pair (.int .i64) Y39, .slice Y32], [.own Z8], fun _ => True, fun x => (goodSpansF x.1 x.2.1, ())⟩
theorem F136_ok : Meets Tryz.prog 136 F136 := by
 refine meets_of_vc (C := mkC 30 [4] [0,1,2,4,5,6,7,22] [⟨229, _, F229_ok⟩, ⟨230, _, F230_ok⟩, ⟨232, _, F232_ok⟩, ⟨231, _, F231_ok⟩]) (mkC_ok _ _ _ _) (fnOf_ok _) Tryz.func136 rfl rfl rfl (by decide) rfl ?_
 rintro ⟨a0, a1, _⟩ hwf hpre ⟨P, C, B, X, w0, M0, pv⟩ hG rfl rfl
 show Vc _ _ [(0, ⟨0, 0, .c Z47 a0⟩), (1, ⟨0, 0, .c Z37 a1⟩)] _
 refine Vc.seq (Vc.region hG rfl (by trivial) (Vc.seq (Vc.region hG rfl (by trivial) ?_)))
 refine Vc.seq (Vc.region hG rfl (by trivial) (Vc.seq (Vc.seq ?_)))
 refine Vc.region hG rfl (by trivial) ?_
 refine Vc.cond rfl (fun h0 => ?_) (fun h0 => ?_)
 · refine Vc.seq (Vc.region hG rfl (by trivial) (Vc.ret ?_))
   refine ⟨?_, trivial⟩
   exact gsNone h0
 · refine Vc.skip (Vc.seq ?_)
   refine Vc.regionD mixed hG rfl (by kernel_rfl) ?_ ?_
   · exact ⟨trivial, one1, one1⟩
   refine Vc.ret ?_
   refine ⟨?_, trivial⟩
   exact gsSome h0
noncomputable def F61 : Fun := ⟨[.pair (.int .i64) Y39, .slice Y32, .pair (.int .i64) (.int .i64)], [.pure (.bool)], fun _ => True, fun x => ((fun c l s => coversF (goodSpansF c l) s) x.1 x.2.1 x.2.2.1, ())⟩
theorem F61_ok : Meets Tryz.prog 61 F61 := by
 refine meets_of_vc (C := mkC 12 [6] [0,1,2,3,5,6] [⟨136, _, F136_ok⟩, ⟨134, _, F134_ok⟩]) (mkC_ok _ _ _ _) (fnOf_ok _) Tryz.func61 rfl rfl rfl (by decide) rfl ?_
 rintro ⟨a0, a1, a2, _⟩ hwf hpre ⟨P, C, B, X, w0, M0, pv⟩ hG rfl rfl
 show Vc _ _ [(0, ⟨0, 0, .c Z47 a0⟩), (1, ⟨0, 0, .c Z37 a1⟩), (2, ⟨0, 0, .c Z8 a2⟩)] _
 refine Vc.seq (Vc.region hG rfl (by trivial) (Vc.seq ?_))
 refine Vc.regionD mixed hG rfl (by kernel_rfl) ?_ ?_
 · exact ⟨trivial, Nat.le_trans (goodLen a0 a1) (by decide)⟩
 refine Vc.ret ?_
 refine ⟨?_, trivial⟩
 all_goals exact rfl
noncomputable def F63 : Fun := ⟨[.slice Y20], [.own Z41], fun x => (fun a0 => List.length a0 ≤ 2000000000) x.1, fun x => (mandatesF x.1, ())⟩
theorem F63_ok : Meets Tryz.prog 63 F63 := by
 refine meets_of_vc (C := mkC 28 [2] [0,2,3,4,5,6,11,22] [⟨139, _, F139_ok⟩]) (mkC_ok _ _ _ _) (fnOf_ok _) Tryz.func63 rfl rfl rfl (by decide) rfl ?_
 rintro ⟨a0, _⟩ hwf hpre ⟨P, C, B, X, w0, M0, pv⟩ hG rfl rfl
 show Vc _ _ [(0, ⟨0, 0, .c Z25 a0⟩)] _
 have hb : List.length a0 ≤ bigLen := hwf.1.1
 have hs : List.length a0 ≤ 2000000000 := hpre
 refine Vc.seq (Vc.region hG rfl (by trivial) (Vc.seq (Vc.region hG rfl (by trivial) ?_)))
 refine Vc.seq (Vc.seq (Vc.region hG rfl (by trivial) (Vc.block ?_)))
 refine Vc.loopF [(3, false, .own Z41), (4, false, .pure (.int .i64))] [0, 2] (fun v => pkInv (pieceMandF) a0 v.1 v.2.1) (fun v => ((List.length a0 : Int) - v.2.1).toNat) rfl ?_ ?_
 · exact pkStart
 rintro ⟨acc, (i : Int), _⟩ hI
 have hI : pkInv (pieceMandF) a0 acc i := hI
 refine Vc.seq (Vc.seq (Vc.region hG rfl (by trivial) ?_))
 refine Vc.cond rfl (fun h0 => ?_) (fun h0 => ?_)
 · have hl : i < (List.length a0 : Int) := of_decide_eq_true h0
   refine Vc.skip (Vc.seq (Vc.block (Vc.seq ?_)))
   refine Vc.region hG rfl ?_ ?_
   · exact ⟨pkRange hI hl, trivial⟩
   refine Vc.seq (Vc.region hG rfl (by trivial) ?_)
   refine Vc.cond rfl (fun h1 => ?_) (fun h1 => ?_)
   · have g1 : ((pieceMandF) (List.getD a0 i.toNat (dflt Y20))).2 = true := h1
     refine Vc.region hG rfl ?_ ?_
     · exact pkLenW hI hs
     refine Vc.region hG rfl (by trivial) ?_
     refine ⟨rfl, ?_⟩
     first
       | exact pkYes (d := dflt Y20) hI hl hb g1
       | exact pkNo (d := dflt Y20) hI hl hb g1
   · have g1 : ((pieceMandF) (List.getD a0 i.toNat (dflt Y20))).2 = false := h1
     refine Vc.skip (Vc.region hG rfl (by trivial) ?_)
     refine ⟨rfl, ?_⟩
     first
       | exact pkYes (d := dflt Y20) hI hl hb g1
       | exact pkNo (d := dflt Y20) hI hl hb g1
 · have hl : ¬ i < (List.length a0 : Int) := of_decide_eq_false h0
   refine Vc.exit (Vc.seq (Vc.region hG rfl (by trivial) (Vc.ret ?_)))
   refine ⟨?_, trivial⟩
   exact pkEnd hI hl
noncomputable def F291 : Fun := ⟨[.pair (.int .i64) Y32], [.pure (.bool)], fun _ => True, fun x => (isMandF x.1, ())⟩
theorem F291_ok : Meets Tryz.prog 291 F291 := by
 refine meets_of_vc (C := mkC 24 [2] [0,1,2] [⟨207, _, F207_ok⟩, ⟨137, _, F137_ok⟩]) (mkC_ok _ _ _ _) (fnOf_ok _) Tryz.func291 rfl rfl rfl (by decide) rfl ?_
 rintro ⟨a0, _⟩ hwf hpre ⟨P, C, B, X, w0, M0, pv⟩ hG rfl rfl
 show Vc _ _ [(0, ⟨0, 0, .c Z41 a0⟩)] _
 refine Vc.seq (Vc.region hG rfl (by trivial) (Vc.seq ?_))
 refine Vc.region hG rfl ?_ ?_
 · repeat' (first | exact trivial | refine And.intro ?_ ?_ | intro _)
 refine Vc.ret ?_
 refine ⟨?_, trivial⟩
 all_goals exact rfl
noncomputable def F292 : Fun := ⟨[.pair (.int .i64) Y32], [.own (.pure (.int .i64))], fun _ => True, fun x => (mandIntsF x.1, ())⟩
theorem F292_ok : Meets Tryz.prog 292 F292 := by
 refine meets_of_vc (C := mkC 14 [2] [0,1,2] []) (mkC_ok _ _ _ _) (fnOf_ok _) Tryz.func292 rfl rfl rfl (by decide) rfl ?_
 rintro ⟨a0, _⟩ hwf hpre ⟨P, C, B, X, w0, M0, pv⟩ hG rfl rfl
 show Vc _ _ [(0, ⟨0, 0, .c Z41 a0⟩)] _
 refine Vc.seq (Vc.region hG rfl (by trivial) (Vc.seq (Vc.region hG rfl (by trivial) ?_)))
 refine Vc.ret ?_
 refine ⟨?_, trivial⟩
 all_goals exact rfl
noncomputable def F233 : Fun := ⟨[.slice Y32, .pair (.int .i64) Y32], [.pure (.bool)], fun _ => True, fun x => (checkMandF x.1 x.2.1, ())⟩
theorem F233_ok : Meets Tryz.prog 233 F233 := by
 refine meets_of_vc (C := mkC 26 [4] [0,1,3,4] [⟨291, _, F291_ok⟩, ⟨219, _, F219_ok⟩, ⟨292, _, F292_ok⟩, ⟨209, _, F209_ok⟩]) (mkC_ok _ _ _ _) (fnOf_ok _) Tryz.func233 rfl rfl rfl (by decide) rfl ?_
 rintro ⟨a0, a1, _⟩ hwf hpre ⟨P, C, B, X, w0, M0, pv⟩ hG rfl rfl
 show Vc _ _ [(0, ⟨0, 0, .c Z37 a0⟩), (1, ⟨0, 0, .c Z41 a1⟩)] _
 refine Vc.seq (Vc.region hG rfl (by trivial) (Vc.seq ?_))
 refine Vc.regionD mixed hG rfl (by kernel_rfl) ?_ ?_
 · repeat' (first | exact trivial | exact smallLit (n := 6) rfl (by decide) | refine And.intro ?_ ?_ | intro _)
 refine Vc.ret ?_
 refine ⟨?_, trivial⟩
 all_goals exact rfl
noncomputable def F138 : Fun := ⟨[.slice Y32, .slice Y39, .int .i64, .int .i64], [.own Z8], fun x => (fun (_ : List Key) (l : List Mandate) (_ _ : Int) => List.length l ≤ 2000000000) x.1 x.2.1 x.2.2.1 x.2.2.2.1, fun x => (mandSpansF x.1 x.2.1 x.2.2.1 x.2.2.2.1, ())⟩
theorem F138_ok : Meets Tryz.prog 138 F138 := by
 refine meets_of_vc (C := mkC 58 [8] [0,1,2,3,8,9,10,15,41] [⟨233, _, F233_ok⟩, ⟨225, _, F225_ok⟩]) (mkC_ok _ _ _ _) (fnOf_ok _) Tryz.func138 rfl rfl rfl (by decide) rfl ?_
 rintro ⟨a0, a1, (a2 : Int), (a3 : Int), _⟩ hwf hpre ⟨P, C, B, X, w0, M0, pv⟩ hG rfl rfl
 show Vc _ _ [(0, ⟨0, 0, .c Z37 a0⟩), (1, ⟨0, 0, .c Z44 a1⟩), (2, ⟨0, 0, .c (.pure (.int .i64)) a2⟩), (3, ⟨0, 0, .c (.pure (.int .i64)) a3⟩)] _
 have hs : List.length a1 ≤ 2000000000 := hpre
 have hb : List.length a1 ≤ bigLen := hwf.2.1.1
 refine Vc.seq (Vc.region hG rfl (by trivial) (Vc.seq (Vc.region hG rfl (by trivial) ?_)))
 refine Vc.seq (Vc.seq (Vc.region hG rfl (by trivial) (Vc.block ?_)))
 refine Vc.loopF [(9, false, .own Z8), (10, false, .pure (.int .i64))] [0, 1, 2, 3, 8] (fun v => pkInv (mdF a0 a2 a3) a1 v.1 v.2.1) (fun v => ((List.length a1 : Int) - v.2.1).toNat) rfl ?_ ?_
 · exact pkStart
 rintro ⟨acc, (i : Int), _⟩ hI
 have hI : pkInv (mdF a0 a2 a3) a1 acc i := hI
 refine Vc.seq (Vc.seq (Vc.region hG rfl (by trivial) ?_))
 refine Vc.cond rfl (fun h0 => ?_) (fun h0 => ?_)
 · have hl : i < (List.length a1 : Int) := of_decide_eq_true h0
   refine Vc.skip (Vc.seq (Vc.block (Vc.seq ?_)))
   refine Vc.region hG rfl ?_ ?_
   · repeat' (first | exact pkRange hI hl | exact trivial | refine And.intro ?_ ?_ | intro _)
   refine Vc.cond rfl (fun h1 => ?_) (fun h1 => ?_)
   · have g1 : ((mdF a0 a2 a3) (List.getD a1 i.toNat (dflt Y39))).2 = true := h1
     have st := pkYes (d := dflt Y39) hI hl hb g1
     refine Vc.regionD mixed hG rfl (by kernel_rfl) ?_ ?_
     · exact ⟨pkRange hI hl, pkRange hI hl, pkLenW hI hs⟩
     refine Vc.region hG rfl (by trivial) ?_
     refine ⟨rfl, ?_⟩
     exact st
   · have g1 : ((mdF a0 a2 a3) (List.getD a1 i.toNat (dflt Y39))).2 = false := h1
     have st := pkNo (d := dflt Y39) hI hl hb g1
     refine Vc.skip (Vc.region hG rfl (by trivial) ?_)
     refine ⟨rfl, ?_⟩
     exact st
 · have hl : ¬ i < (List.length a1 : Int) := of_decide_eq_false h0
   refine Vc.exit (Vc.seq ?_)
   refine Vc.region hG rfl ?_ ?_
   · exact pkBigW hs (pkEnd hI hl)
   refine Vc.ret ?_
   refine ⟨?_, trivial⟩
   exact congrArg joinF (pkEnd hI hl)
noncomputable def F62 : Fun := ⟨[.slice Y32, .slice Y39, .int .i64, .int .i64, .pair (.int .i64) (.int .i64)], [.pure (.bool)], fun x => (fun (_ : List Key) (l : List Mandate) (_ _ : Int) (_ : Span) => List.length l ≤ 2000000000) x.1 x.2.1 x.2.2.1 x.2.2.2.1 x.2.2.2.2.1, fun x => (maySignF x.1 x.2.1 x.2.2.1 x.2.2.2.1 x.2.2.2.2.1, ())⟩
theorem F62_ok : Meets Tryz.prog 62 F62 := by
 refine meets_of_vc (C := mkC 22 [10] [0,1,2,3,4,9,10,12] [⟨137, _, F137_ok⟩, ⟨138, _, F138_ok⟩, ⟨134, _, F134_ok⟩]) (mkC_ok _ _ _ _) (fnOf_ok _) Tryz.func62 rfl rfl rfl (by decide) rfl ?_
 rintro ⟨a0, a1, (a2 : Int), (a3 : Int), a4, _⟩ hwf hpre ⟨P, C, B, X, w0, M0, pv⟩ hG rfl rfl
 show Vc _ _ [(0, ⟨0, 0, .c Z37 a0⟩), (1, ⟨0, 0, .c Z44 a1⟩), (2, ⟨0, 0, .c (.pure (.int .i64)) a2⟩), (3, ⟨0, 0, .c (.pure (.int .i64)) a3⟩), (4, ⟨0, 0, .c Z8 a4⟩)] _
 have hs : List.length a1 ≤ 2000000000 := hpre
 refine Vc.seq (Vc.region hG rfl (by trivial) (Vc.seq (Vc.seq ?_)))
 refine Vc.region hG rfl (by trivial) ?_
 refine Vc.cond rfl (fun h0 => ?_) (fun h0 => ?_)
 · refine Vc.seq (Vc.region hG rfl (by trivial) (Vc.ret ?_))
   refine ⟨?_, trivial⟩
   exact mayS h0
 · refine Vc.skip (Vc.seq ?_)
   refine Vc.regionD mixed hG rfl (by kernel_rfl) ?_ ?_
   · exact ⟨hs, mandSpLen hs⟩
   refine Vc.ret ?_
   refine ⟨?_, trivial⟩
   exact mayN h0
noncomputable def F13 : Fun := ⟨[.pair Y34 Y58, .pair Y69 Y38, .slice (.slice (.int .i64)), .int .i64, .pair (.int .i64) Y49], [.pure Y24], fun x => (fun (_ : Frame) (e : Evidence) (_ : List (List Int)) (_ : Int) (_ : Sig) => Sm big20 Y73 e ∧ ((cellsC Y69 e.1 : Nat) : Int) ≤ 2000000000) x.1 x.2.1 x.2.2.1 x.2.2.2.1 x.2.2.2.2.1, fun x => (judgeF x.1 x.2.1 x.2.2.1 x.2.2.2.1 x.2.2.2.2.1, ())⟩
set_option maxHeartbeats 2000000 in
theorem F13_ok : Meets Tryz.prog 13 F13 := by
 refine meets_of_vc (C := mkC 120 [10] [0,1,2,3,4,5,6,9,10,11,12,13,14,15,16,17,18,19,26,58,72,81,89,96,104] [⟨50, _, F50_ok⟩, ⟨52, _, F52_ok⟩, ⟨51, _, F51_ok⟩, ⟨53, _, F53_ok⟩, ⟨54, _, F54_ok⟩, ⟨55, _, F55_ok⟩, ⟨56, _, F56_ok⟩, ⟨57, _, F57_ok⟩, ⟨58, _, F58_ok⟩, ⟨59, _, F59_ok⟩, ⟨60, _, F60_ok⟩, ⟨61, _, F61_ok⟩, ⟨63, _, F63_ok⟩, ⟨62, _, F62_ok⟩]) (mkC_ok _ _ _ _) (fnOf_ok _) Tryz.func13 rfl rfl rfl (by decide) rfl ?_
 rintro ⟨a0, a1, a2, (a3 : Int), a4, _⟩ hwf hpre ⟨P, C, B, X, w0, M0, pv⟩ hG rfl rfl
 show Vc _ _ [(0, ⟨0, 0, .c Z70 a0⟩), (1, ⟨0, 0, .c Z74 a1⟩), (2, ⟨0, 0, .c Z7 a2⟩), (3, ⟨0, 0, .c (.pure (.int .i64)) a3⟩), (4, ⟨0, 0, .c Z55 a4⟩)] _
 have hS : Sm big20 Y69 a1.1 := hpre.1.1
 have hT : Sm big20 (.slice (.slice TStamp)) a1.2 := hpre.1.2
 have hc : ((cellsC Y69 a1.1 : Nat) : Int) ≤ 2000000000 := hpre.2
 refine Vc.seq (Vc.region hG rfl (by trivial) (Vc.seq (Vc.region hG rfl (by trivial) ?_)))
 refine Vc.seq (Vc.seq (Vc.region hG rfl (by trivial) ?_))
 refine Vc.cond rfl (fun h0 => ?_) (fun h0 => ?_)
 · refine Vc.seq (Vc.region hG rfl (by trivial) (Vc.ret ?_))
   refine ⟨?_, trivial⟩
   exact juA h0
 · have k0 := foKey (bneI h0)
   refine Vc.skip (Vc.seq ?_)
   refine Vc.regionD mixed hG rfl (by kernel_rfl) ?_ ?_
   · exact ⟨trivial, hS⟩
   refine Vc.seq ?_
   refine Vc.regionD mixed hG rfl (by kernel_rfl) ?_ ?_
   · exact ⟨trivial, findRange k0⟩
   refine Vc.seq (Vc.seq ?_)
   refine Vc.region hG rfl ?_ ?_
   · repeat' (first | exact trivial | refine And.intro ?_ ?_ | intro _)
   refine Vc.cond rfl (fun h1 => ?_) (fun h1 => ?_)
   · have g1 : pick2 (decide (evBoundF a0 a1 a2 (signPieceF a4) ≥ brkKeyF a0 a4.1)) true (decide (evBoundF a0 a1 a2 (signPieceF a4) ≥ breakF a0.2.2.1 a4.2.2.1)) = true := by rw [← bk1 k0]; exact h1
     refine Vc.seq (Vc.region hG rfl (by trivial) (Vc.ret ?_))
     refine ⟨?_, trivial⟩
     exact (boA g1).trans (juC h0)
   · have g1 : pick2 (decide (evBoundF a0 a1 a2 (signPieceF a4) ≥ brkKeyF a0 a4.1)) true (decide (evBoundF a0 a1 a2 (signPieceF a4) ≥ breakF a0.2.2.1 a4.2.2.1)) = false := by rw [← bk1 k0]; exact h1
     refine Vc.skip (Vc.seq ?_)
     refine Vc.region hG rfl ?_ ?_
     · exact ⟨hS, hc⟩
     refine Vc.seq (Vc.region hG rfl (by trivial) (Vc.seq (Vc.seq ?_)))
     refine Vc.region hG rfl (by trivial) ?_
     refine Vc.cond rfl (fun h2 => ?_) (fun h2 => ?_)
     · refine Vc.seq (Vc.region hG rfl (by trivial) (Vc.ret ?_))
       refine ⟨?_, trivial⟩
       exact ((ceA h2).trans (boB g1)).trans (juC h0)
     · refine Vc.skip (Vc.seq ?_)
       refine Vc.region hG rfl ?_ ?_
       · exact hT
       refine Vc.seq (Vc.seq (Vc.region hG rfl (by trivial) ?_))
       refine Vc.cond rfl (fun h3 => ?_) (fun h3 => ?_)
       · refine Vc.seq (Vc.region hG rfl (by trivial) (Vc.ret ?_))
         refine ⟨?_, trivial⟩
         exact ((ceB h2 h3).trans (boB g1)).trans (juC h0)
       · refine Vc.skip (Vc.seq (Vc.region hG rfl (by trivial) (Vc.seq ?_)))
         refine Vc.region hG rfl ?_ ?_
         · exact usPieceLen hc
         refine Vc.seq (Vc.block (Vc.seq (Vc.region hG rfl (by trivial) ?_)))
         refine Vc.cond rfl (fun h4 => ?_) (fun h4 => ?_)
         · refine Vc.seq (Vc.region hG rfl (by trivial) (Vc.ret ?_))
           refine ⟨?_, trivial⟩
           exact (((enA h4).trans (ceC h2 h3)).trans (boB g1)).trans (juC h0)
         · refine Vc.seq (Vc.region hG rfl (by trivial) ?_)
           refine Vc.cond rfl (fun h5 => ?_) (fun h5 => ?_)
           · refine Vc.seq (Vc.region hG rfl (by trivial) (Vc.ret ?_))
             refine ⟨?_, trivial⟩
             exact (((enB h4 h5).trans (ceC h2 h3)).trans (boB g1)).trans (juC h0)
           · refine Vc.seq ?_
             refine Vc.regionD mixed hG rfl (by kernel_rfl) ?_ ?_
             · exact ⟨usPieceLen hc, mandW (usPieceLen hc)⟩
             refine Vc.cond rfl (fun h6 => ?_) (fun h6 => ?_)
             · refine Vc.seq (Vc.region hG rfl (by trivial) (Vc.ret ?_))
               refine ⟨?_, trivial⟩
               exact (((enC h4 h5 h6).trans (ceC h2 h3)).trans (boB g1)).trans (juC h0)
             · refine Vc.skip (Vc.seq (Vc.region hG rfl (by trivial) (Vc.ret ?_)))
               refine ⟨?_, trivial⟩
               exact (((enD h4 h5 h6).trans (ceC h2 h3)).trans (boB g1)).trans (juC h0)
noncomputable def F34 : Fun := ⟨[.pair Y34 Y58, .pair Y69 Y38, .pair (.int .i64) Y46, .pair (.int .i64) Y49], [.pure Y24], fun x => (fun (_ : Frame) (e : Evidence) (_ : Red) (_ : Sig) => Sm big20 Y73 e ∧ ((cellsC Y69 e.1 : Nat) : Int) ≤ 2000000000) x.1 x.2.1 x.2.2.1 x.2.2.2.1, fun x => (judgeRedF x.1 x.2.1 x.2.2.1 x.2.2.2.1, ())⟩
theorem F34_ok : Meets Tryz.prog 34 F34 := by
 refine meets_of_vc (C := mkC 20 [8] [0,1,2,3,4,5,6,7,8] [⟨109, _, F109_ok⟩, ⟨110, _, F110_ok⟩, ⟨13, _, F13_ok⟩]) (mkC_ok _ _ _ _) (fnOf_ok _) Tryz.func34 rfl rfl rfl (by decide) rfl ?_
 rintro ⟨a0, a1, a2, a3, _⟩ hwf hpre ⟨P, C, B, X, w0, M0, pv⟩ hG rfl rfl
 show Vc _ _ [(0, ⟨0, 0, .c Z70 a0⟩), (1, ⟨0, 0, .c Z74 a1⟩), (2, ⟨0, 0, .c Z52 a2⟩), (3, ⟨0, 0, .c Z55 a3⟩)] _
 have hS : Sm big20 Y69 a1.1 := hpre.1.1
 have hT : Sm big20 (.slice (.slice TStamp)) a1.2 := hpre.1.2
 have hc : ((cellsC Y69 a1.1 : Nat) : Int) ≤ 2000000000 := hpre.2
 refine Vc.seq (Vc.region hG rfl (by trivial) (Vc.seq ?_))
 refine Vc.regionD mixed hG rfl (by kernel_rfl) ?_ ?_
 · exact ⟨hS, trivial, hpre⟩
 refine Vc.ret ?_
 refine ⟨?_, trivial⟩
 all_goals exact rfl
end Fw
