/- Walks of functions of the program: what each computes. Conditions: those that each contract names. -/
import Derived.Test.YtcfpjofohnaolaaGreatW41T
import Derived.Test.YtcfpjofohnaolaaGreatW41s0
import Derived.Test.YtcfpjofohnaolaaGreatW41s1
namespace Fw
open Go Go.Proofs
set_option linter.unusedSimpArgs false
set_option maxRecDepth 100000
noncomputable def F111 : Fun := ⟨[.int .i64, .pair (.int .i64) Y9], [.pure (.int .i64)], fun _ => True, fun x => (docDigF x.1 x.2.1, ())⟩
theorem F111_ok : Meets Tryz.prog 111 F111 := by
 refine meets_of_vc (C := mkC 38 [4] [0,1,3,4,5,6,9,17] [⟨119, _, F119_ok⟩, ⟨134, _, F134_ok⟩, ⟨114, _, F114_ok⟩]) (mkC_ok _ _ _ _) (fnOf_ok _) Tryz.func111 rfl rfl rfl (by decide) rfl ?_
 rintro ⟨(a0 : Int), a1, _⟩ hwf hpre ⟨P, C, B, X, w0, M0, pv⟩ hG rfl rfl
 show Vc _ _ [(0, ⟨0, 0, .c (.pure (.int .i64)) a0⟩), (1, ⟨0, 0, .c Z22 a1⟩)] _
 have hb : List.length a1.2.1 ≤ bigLen := hwf.2.1.2.1.1
 refine Vc.seq (Vc.region hG rfl (by trivial) (Vc.seq (Vc.seq ?_)))
 refine Vc.region hG rfl (by trivial) ?_
 refine Vc.cond rfl (fun h0 => ?_) (fun h0 => ?_)
 · have g0 : (!(docF a1)) = true := h0
   refine Vc.seq (Vc.region hG rfl (by trivial) (Vc.ret ?_))
   refine ⟨?_, trivial⟩
   exact docDig0 g0
 · have g0 : (!(docF a1)) = false := h0
   have hd := docP_of g0
   have h6 : List.length a1.2.1 ≤ 6 := docN hd
   refine Vc.skip (Vc.seq (Vc.region hG rfl (by trivial) (Vc.seq ?_)))
   refine Vc.seq (Vc.region hG rfl (by trivial) (Vc.block ?_))
   refine Vc.loopF [(5, false, .own (.pure (.int .i64))), (6, false, .pure (.int .i64))] [0, 1, 3, 4, 9] (fun v => gsInv (docG a0 a1) [a1.1] a1.2.1 v.1 v.2.1) (fun v => ((List.length a1.2.1 : Int) - v.2.1).toNat) rfl ?_ ?_
   · exact gsStart
   rintro ⟨acc, (i : Int), _⟩ hI
   have hI : gsInv (docG a0 a1) [a1.1] a1.2.1 acc i := hI
   have hA : List.length acc ≤ 7 := gsLen (c := 1) (m := 6) hI (fun _ => Nat.le_refl _) h6 (by simp)
   refine Vc.seq (Vc.seq (Vc.region hG rfl (by trivial) ?_))
   refine Vc.cond rfl (fun h1 => ?_) (fun h1 => ?_)
   · have hl : i < (List.length a1.2.1 : Int) := of_decide_eq_true h1
     refine Vc.skip (Vc.seq (Vc.block ?_))
     refine Vc.regionD mixed hG rfl (by kernel_rfl) ?_ ?_
     · exact ⟨gsRange hI hl, docX hd hI hl, doc40 hd hI hl, (show List.length acc + 1 ≤ maxApp from by unfold maxApp; omega)⟩
     refine Vc.region hG rfl (by trivial) ?_
     refine ⟨rfl, ?_⟩
     exact gsStep hI hl hb rfl
   · have hl : ¬ i < (List.length a1.2.1 : Int) := of_decide_eq_false h1
     refine Vc.exit (Vc.seq ?_)
     refine Vc.region hG rfl ?_ ?_
     · exact (show List.length acc ≤ 1000000000 from by omega)
     refine Vc.ret ?_
     refine ⟨?_, trivial⟩
     have e := docDig1 (id := a0) (d := a1) (acc := acc) (i := i) g0 hI hl
     exact e
noncomputable def F95 : Fun := ⟨[.slice Y27, .int .i64], [.pure (.int .i64)], fun _ => True, fun x => ((fun a0 a1 => findI (fun x => x.1 == a1) a0) x.1 x.2.1, ())⟩
theorem F95_ok : Meets Tryz.prog 95 F95 := by
 refine meets_of_vc (C := mkC 20 [4] [0,1,4,5,9,18] []) (mkC_ok _ _ _ _) (fnOf_ok _) Tryz.func95 rfl rfl rfl (by decide) rfl ?_
 rintro ⟨a0, (a1 : Int), _⟩ hwf hpre ⟨P, C, B, X, w0, M0, pv⟩ hG rfl rfl
 show Vc _ _ [(0, ⟨0, 0, .c Z31 a0⟩), (1, ⟨0, 0, .c (.pure (.int .i64)) a1⟩)] _
 have hb : List.length a0 ≤ bigLen := hwf.1.1
 refine Vc.seq (Vc.region hG rfl (by trivial) (Vc.seq (Vc.seq ?_)))
 refine Vc.region hG rfl (by trivial) (Vc.block ?_)
 refine Vc.loopF [(5, false, .pure (.int .i64))] [0, 1] (fun v => fInv (fun x => x.1 == a1) a0 v.1) (fun v => ((List.length a0 : Int) - v.1).toNat) rfl ?_ ?_
 · exact fStart
 rintro ⟨(i : Int), _⟩ hI
 have hI : fInv (fun x => x.1 == a1) a0 i := hI
 refine Vc.seq (Vc.seq (Vc.region hG rfl (by trivial) ?_))
 refine Vc.cond rfl (fun h0 => ?_) (fun h0 => ?_)
 · have hl : i < (List.length a0 : Int) := of_decide_eq_true h0
   refine Vc.skip (Vc.seq (Vc.block (Vc.seq ?_)))
   refine Vc.region hG rfl ?_ ?_
   · exact fRange hI hl
   refine Vc.cond rfl (fun h1 => ?_) (fun h1 => ?_)
   · have g1 : (fun x => x.1 == a1) (List.getD a0 i.toNat (dflt Y27)) = true := h1
     refine Vc.seq (Vc.region hG rfl (by trivial) (Vc.ret ?_))
     refine ⟨?_, trivial⟩
     exact fHit hI hl g1
   · have g1 : (fun x => x.1 == a1) (List.getD a0 i.toNat (dflt Y27)) = false := h1
     refine Vc.skip (Vc.region hG rfl (by trivial) ?_)
     refine ⟨rfl, ?_⟩
     exact fStep hI hl hb g1
 · have hl : ¬ i < (List.length a0 : Int) := of_decide_eq_false h0
   refine Vc.exit (Vc.seq (Vc.region hG rfl (by trivial) (Vc.ret ?_)))
   refine ⟨?_, trivial⟩
   exact fEnd hI hl
noncomputable def F162 : Fun := ⟨[.pair (.int .i64) Y37], [.pure (.bool)], fun _ => True, fun x => (isSigF x.1, ())⟩
theorem F162_ok : Meets Tryz.prog 162 F162 := by
 refine meets_of_vc (C := mkC 41 [2] [0,1,2] [⟨98, _, F98_ok⟩]) (mkC_ok _ _ _ _) (fnOf_ok _) Tryz.func162 rfl rfl rfl (by decide) rfl ?_
 rintro ⟨a0, _⟩ hwf hpre ⟨P, C, B, X, w0, M0, pv⟩ hG rfl rfl
 show Vc _ _ [(0, ⟨0, 0, .c Z41 a0⟩)] _
 refine Vc.seq (Vc.region hG rfl (by trivial) (Vc.seq ?_))
 refine Vc.region hG rfl ?_ ?_
 · repeat' (first | exact trivial | refine And.intro ?_ ?_ | intro _)
 refine Vc.ret ?_
 refine ⟨?_, trivial⟩
 all_goals exact rfl
noncomputable def F138 : Fun := ⟨[.pair (.int .i64) Y37], [.own (.pure (.int .i64))], fun _ => True, fun x => (sigIntsF x.1, ())⟩
theorem F138_ok : Meets Tryz.prog 138 F138 := by
 refine meets_of_vc (C := mkC 20 [2] [0,1,2] []) (mkC_ok _ _ _ _) (fnOf_ok _) Tryz.func138 rfl rfl rfl (by decide) rfl ?_
 rintro ⟨a0, _⟩ hwf hpre ⟨P, C, B, X, w0, M0, pv⟩ hG rfl rfl
 show Vc _ _ [(0, ⟨0, 0, .c Z41 a0⟩)] _
 refine Vc.seq (Vc.region hG rfl (by trivial) (Vc.seq (Vc.region hG rfl (by trivial) ?_)))
 refine Vc.ret ?_
 refine ⟨?_, trivial⟩
 all_goals exact rfl
noncomputable def F96 : Fun := ⟨[.pair (.int .i64) Y21, .slice (.int .i64)], [.pure (.int .i64)], fun x => (fun (_ : Key) (l : List Int) => smallL l) x.1 x.2.1, fun x => (markWithF x.1 x.2.1, ())⟩
theorem F96_ok : Meets Tryz.prog 96 F96 := by
 refine meets_of_vc (C := mkC 13 [4] [0,1,2,4] [⟨115, _, F115_ok⟩]) (mkC_ok _ _ _ _) (fnOf_ok _) Tryz.func96 rfl rfl rfl (by decide) rfl ?_
 rintro ⟨a0, a1, _⟩ hwf hpre ⟨P, C, B, X, w0, M0, pv⟩ hG rfl rfl
 show Vc _ _ [(0, ⟨0, 0, .c Z28 a0⟩), (1, ⟨0, 0, .c Z3 a1⟩)] _
 have hp : List.length a1 ≤ 1000000000 := hpre
 refine Vc.seq (Vc.region hG rfl (by trivial) (Vc.seq ?_))
 refine Vc.regionD mixed hG rfl (by kernel_rfl) ?_ ?_
 · refine ⟨?_, ?_⟩
   · show 1 + List.length a1 ≤ maxApp
     unfold maxApp; omega
   · show List.length a1 + 1 ≤ 1000000001
     omega
 refine Vc.ret ?_
 refine ⟨?_, trivial⟩
 all_goals exact rfl
noncomputable def F155 : Fun := ⟨[.slice Y27, .pair (.int .i64) Y37], [.pure Y40, .pure (.bool)], fun _ => True, fun x => ((signDigestF x.1 x.2.1).1, (signDigestF x.1 x.2.1).2, ())⟩
theorem F155_ok : Meets Tryz.prog 155 F155 := by
 refine meets_of_vc (C := mkC 28 [4, 5] [0,1,3,4,5,6,17] [⟨95, _, F95_ok⟩, ⟨162, _, F162_ok⟩, ⟨138, _, F138_ok⟩, ⟨96, _, F96_ok⟩]) (mkC_ok _ _ _ _) (fnOf_ok _) Tryz.func155 rfl rfl rfl (by decide) rfl ?_
 rintro ⟨a0, a1, _⟩ hwf hpre ⟨P, C, B, X, w0, M0, pv⟩ hG rfl rfl
 show Vc _ _ [(0, ⟨0, 0, .c Z31 a0⟩), (1, ⟨0, 0, .c Z41 a1⟩)] _
 refine Vc.seq (Vc.region hG rfl (by trivial) (Vc.seq ?_))
 refine Vc.region hG rfl ?_ ?_
 · repeat' (first | exact trivial | exact sgRange h0 | exact smallLit (n := 9) rfl (by decide) | refine And.intro ?_ ?_ | intro _)
 refine Vc.seq (Vc.seq ?_)
 refine Vc.region hG rfl ?_ ?_
 · repeat' (first | exact trivial | exact sgRange h0 | exact smallLit (n := 9) rfl (by decide) | refine And.intro ?_ ?_ | intro _)
 refine Vc.cond rfl (fun h0 => ?_) (fun h0 => ?_)
 · refine Vc.seq (Vc.region hG rfl (by trivial) (Vc.ret ?_))
   have e : signDigestF a0 a1 = _ := (cT h0)
   refine ⟨?_, ?_, trivial⟩
   · exact (congrArg (fun r => r.1) e).symm
   · exact (congrArg (fun r => r.2) e).symm
 · refine Vc.skip (Vc.seq ?_)
   refine Vc.regionD mixed hG rfl (by kernel_rfl) ?_ ?_
   · repeat' (first | exact trivial | exact sgRange h0 | exact smallLit (n := 9) rfl (by decide) | refine And.intro ?_ ?_ | intro _)
   refine Vc.seq (Vc.region hG rfl (by trivial) (Vc.ret ?_))
   have e : signDigestF a0 a1 = _ := (cF h0)
   refine ⟨?_, ?_, trivial⟩
   · exact (congrArg (fun r => r.1) e).symm
   · exact (congrArg (fun r => r.2) e).symm
noncomputable def F140 : Fun := ⟨[.slice Y27, .int .i64, .int .i64, .int .i64, .pair (.int .i64) Y9, .int .i64], [.pure Y40, .pure (.bool)], fun _ => True, fun x => ((signDocF x.1 x.2.1 x.2.2.1 x.2.2.2.1 x.2.2.2.2.1 x.2.2.2.2.2.1).1, (signDocF x.1 x.2.1 x.2.2.1 x.2.2.2.1 x.2.2.2.2.1 x.2.2.2.2.2.1).2, ())⟩
theorem F140_ok : Meets Tryz.prog 140 F140 := by
 refine meets_of_vc (C := mkC 26 [12, 13] [0,1,2,3,4,5,10,12,13] [⟨111, _, F111_ok⟩, ⟨155, _, F155_ok⟩]) (mkC_ok _ _ _ _) (fnOf_ok _) Tryz.func140 rfl rfl rfl (by decide) rfl ?_
 rintro ⟨a0, (a1 : Int), (a2 : Int), (a3 : Int), a4, (a5 : Int), _⟩ hwf hpre ⟨P, C, B, X, w0, M0, pv⟩ hG rfl rfl
 show Vc _ _ [(0, ⟨0, 0, .c Z31 a0⟩), (1, ⟨0, 0, .c (.pure (.int .i64)) a1⟩), (2, ⟨0, 0, .c (.pure (.int .i64)) a2⟩), (3, ⟨0, 0, .c (.pure (.int .i64)) a3⟩), (4, ⟨0, 0, .c Z22 a4⟩), (5, ⟨0, 0, .c (.pure (.int .i64)) a5⟩)] _
 refine Vc.seq (Vc.region hG rfl (by trivial) (Vc.seq ?_))
 refine Vc.region hG rfl ?_ ?_
 · repeat' (first | exact trivial | refine And.intro ?_ ?_ | intro _)
 refine Vc.ret ?_
 refine ⟨?_, ?_, trivial⟩
 all_goals exact rfl
noncomputable def P123 : PFun := ⟨.pure Y13, [], [.pure Y40, .pair (.pure (.int .i64)) Z12], fun x xs => curOk x, fun x xs => (signD x).2, fun x xs => ((signD x).1.1, (signD x).1.2, ())⟩
theorem P123_ok : MeetsP Tryz.prog 123 P123 := by
 refine meetsP_of_vc (C := mkCP 29 [2, 3] [0,2,3,4,5,6] [⟨42, _, F42_ok⟩, ⟨140, _, F140_ok⟩] [] [] [⟨139, _, P139_ok⟩, ⟨38, _, P38_ok⟩] [0]) (mkCP_ok _ _ _ _ _ _ _ _) (fnOf_ok _) Tryz.func123 rfl rfl rfl (by decide) rfl rfl rfl ?_ rfl
 rintro c ⟨_⟩ hwc hwf hpre ⟨P, C, B, X, w0, M0, pv⟩ hG rfl rfl
 show Vc _ _ [(0, ⟨0, 0, .c (.ref Z17) c⟩)] _
 refine Vc.seq (Vc.region hG rfl (by trivial) (Vc.seq ?_))
 refine Vc.region hG rfl ?_ ?_
 · repeat' (first | exact trivial | exact hpre | exact docD_ok hpre | exact below_ok (docD_ok hpre) | refine And.intro ?_ ?_ | intro _)
 refine Vc.seq ?_
 refine Vc.region hG rfl ?_ ?_
 · repeat' (first | exact trivial | exact hpre | exact docD_ok hpre | exact below_ok (docD_ok hpre) | refine And.intro ?_ ?_ | intro _)
 refine Vc.seq ?_
 refine Vc.regionD mixed hG rfl (by kernel_rfl) ?_ ?_
 · repeat' (first | exact trivial | exact hpre | exact docD_ok hpre | exact below_ok (docD_ok hpre) | refine And.intro ?_ ?_ | intro _)
 refine Vc.seq (Vc.regionD mixed hG rfl (by kernel_rfl) (by trivial) (Vc.ret ?_))
 refine ⟨⟨?_, trivial⟩, ?_, ?_, trivial⟩
 all_goals exact rfl
noncomputable def F122 : Fun := ⟨[.pair (.int .i64) Y37], [.pair (.pure (.int .i64)) Z11], fun _ => True, fun x => (signPieceF x.1, ())⟩
theorem F122_ok : Meets Tryz.prog 122 F122 := by
 refine meets_of_vc (C := mkC 10 [2] [0,1,2] [⟨138, _, F138_ok⟩]) (mkC_ok _ _ _ _) (fnOf_ok _) Tryz.func122 rfl rfl rfl (by decide) rfl ?_
 rintro ⟨a0, _⟩ hwf hpre ⟨P, C, B, X, w0, M0, pv⟩ hG rfl rfl
 show Vc _ _ [(0, ⟨0, 0, .c Z41 a0⟩)] _
 refine Vc.seq (Vc.region hG rfl (by trivial) (Vc.seq (Vc.regionD mixed hG rfl (by kernel_rfl) (by trivial) ?_)))
 refine Vc.ret ?_
 refine ⟨?_, trivial⟩
 all_goals exact rfl
noncomputable def F164 : Fun := ⟨[.pair (.int .i64) Y32], [.pure Y4], fun _ => True, fun x => (certSpanF x.1, ())⟩
theorem F164_ok : Meets Tryz.prog 164 F164 := by
 refine meets_of_vc (C := mkC 8 [2] [0,1,2] []) (mkC_ok _ _ _ _) (fnOf_ok _) Tryz.func164 rfl rfl rfl (by decide) rfl ?_
 rintro ⟨a0, _⟩ hwf hpre ⟨P, C, B, X, w0, M0, pv⟩ hG rfl rfl
 show Vc _ _ [(0, ⟨0, 0, .c Z35 a0⟩)] _
 refine Vc.seq (Vc.region hG rfl (by trivial) (Vc.seq (Vc.region hG rfl (by trivial) ?_)))
 refine Vc.ret ?_
 refine ⟨?_, trivial⟩
 all_goals exact rfl
noncomputable def F94 : Fun := ⟨[.int .i64], [.pure (.bool)], fun _ => True, fun x => (isTimeF x.1, ())⟩
theorem F94_ok : Meets Tryz.prog 94 F94 := by
 refine meets_of_vc (C := mkC 5 [2] [0,2] [⟨98, _, F98_ok⟩]) (mkC_ok _ _ _ _) (fnOf_ok _) Tryz.func94 rfl rfl rfl (by decide) rfl ?_
 rintro ⟨(a0 : Int), _⟩ hwf hpre ⟨P, C, B, X, w0, M0, pv⟩ hG rfl rfl
 show Vc _ _ [(0, ⟨0, 0, .c (.pure (.int .i64)) a0⟩)] _
 refine Vc.seq (Vc.region hG rfl (by trivial) (Vc.seq (Vc.region hG rfl (by trivial) ?_)))
 refine Vc.ret ?_
 refine ⟨?_, trivial⟩
 all_goals exact rfl
noncomputable def F163 : Fun := ⟨[.pair (.int .i64) (.int .i64)], [.pure (.bool)], fun _ => True, fun x => (isSpanF x.1, ())⟩
theorem F163_ok : Meets Tryz.prog 163 F163 := by
 refine meets_of_vc (C := mkC 18 [2] [0,1,2] [⟨94, _, F94_ok⟩]) (mkC_ok _ _ _ _) (fnOf_ok _) Tryz.func163 rfl rfl rfl (by decide) rfl ?_
 rintro ⟨a0, _⟩ hwf hpre ⟨P, C, B, X, w0, M0, pv⟩ hG rfl rfl
 show Vc _ _ [(0, ⟨0, 0, .c (.pure Y4) a0⟩)] _
 refine Vc.seq (Vc.region hG rfl (by trivial) (Vc.seq ?_))
 refine Vc.region hG rfl ?_ ?_
 · repeat' (first | exact trivial | refine And.intro ?_ ?_ | intro _)
 refine Vc.ret ?_
 refine ⟨?_, trivial⟩
 all_goals exact rfl
noncomputable def F156 : Fun := ⟨[.pair (.int .i64) Y32], [.pure (.bool)], fun _ => True, fun x => (isCertF x.1, ())⟩
theorem F156_ok : Meets Tryz.prog 156 F156 := by
 refine meets_of_vc (C := mkC 33 [2] [0,1,2] [⟨98, _, F98_ok⟩, ⟨164, _, F164_ok⟩, ⟨163, _, F163_ok⟩]) (mkC_ok _ _ _ _) (fnOf_ok _) Tryz.func156 rfl rfl rfl (by decide) rfl ?_
 rintro ⟨a0, _⟩ hwf hpre ⟨P, C, B, X, w0, M0, pv⟩ hG rfl rfl
 show Vc _ _ [(0, ⟨0, 0, .c Z35 a0⟩)] _
 refine Vc.seq (Vc.region hG rfl (by trivial) (Vc.seq ?_))
 refine Vc.region hG rfl ?_ ?_
 · repeat' (first | exact trivial | refine And.intro ?_ ?_ | intro _)
 refine Vc.ret ?_
 refine ⟨?_, trivial⟩
 all_goals exact rfl
noncomputable def F141 : Fun := ⟨[.pair (.int .i64) Y32], [.own (.pure (.int .i64))], fun _ => True, fun x => (certIntsF x.1, ())⟩
theorem F141_ok : Meets Tryz.prog 141 F141 := by
 refine meets_of_vc (C := mkC 16 [2] [0,1,2] []) (mkC_ok _ _ _ _) (fnOf_ok _) Tryz.func141 rfl rfl rfl (by decide) rfl ?_
 rintro ⟨a0, _⟩ hwf hpre ⟨P, C, B, X, w0, M0, pv⟩ hG rfl rfl
 show Vc _ _ [(0, ⟨0, 0, .c Z35 a0⟩)] _
 refine Vc.seq (Vc.region hG rfl (by trivial) (Vc.seq (Vc.region hG rfl (by trivial) ?_)))
 refine Vc.ret ?_
 refine ⟨?_, trivial⟩
 all_goals exact rfl
noncomputable def F142 : Fun := ⟨[.slice Y27, .pair (.int .i64) Y32], [.pure Y34, .pure (.bool)], fun _ => True, fun x => ((issueCertF x.1 x.2.1).1, (issueCertF x.1 x.2.1).2, ())⟩
theorem F142_ok : Meets Tryz.prog 142 F142 := by
 refine meets_of_vc (C := mkC 35 [4, 5] [0,1,3,4,5,6,24] [⟨95, _, F95_ok⟩, ⟨156, _, F156_ok⟩, ⟨141, _, F141_ok⟩, ⟨96, _, F96_ok⟩]) (mkC_ok _ _ _ _) (fnOf_ok _) Tryz.func142 rfl rfl rfl (by decide) rfl ?_
 rintro ⟨a0, a1, _⟩ hwf hpre ⟨P, C, B, X, w0, M0, pv⟩ hG rfl rfl
 show Vc _ _ [(0, ⟨0, 0, .c Z31 a0⟩), (1, ⟨0, 0, .c Z35 a1⟩)] _
 refine Vc.seq (Vc.region hG rfl (by trivial) (Vc.seq ?_))
 refine Vc.region hG rfl ?_ ?_
 · repeat' (first | exact trivial | exact icRange h0 | exact smallLit (n := 7) rfl (by decide) | refine And.intro ?_ ?_ | intro _)
 refine Vc.seq (Vc.seq ?_)
 refine Vc.region hG rfl ?_ ?_
 · repeat' (first | exact trivial | exact icRange h0 | exact smallLit (n := 7) rfl (by decide) | refine And.intro ?_ ?_ | intro _)
 refine Vc.cond rfl (fun h0 => ?_) (fun h0 => ?_)
 · refine Vc.seq (Vc.region hG rfl (by trivial) (Vc.ret ?_))
   have e : issueCertF a0 a1 = _ := (cT h0)
   refine ⟨?_, ?_, trivial⟩
   · exact (congrArg (fun r => r.1) e).symm
   · exact (congrArg (fun r => r.2) e).symm
 · refine Vc.skip (Vc.seq ?_)
   refine Vc.regionD mixed hG rfl (by kernel_rfl) ?_ ?_
   · repeat' (first | exact trivial | exact icRange h0 | exact smallLit (n := 7) rfl (by decide) | refine And.intro ?_ ?_ | intro _)
   refine Vc.seq (Vc.region hG rfl (by trivial) (Vc.ret ?_))
   have e : issueCertF a0 a1 = _ := (cF h0)
   refine ⟨?_, ?_, trivial⟩
   · exact (congrArg (fun r => r.1) e).symm
   · exact (congrArg (fun r => r.2) e).symm
noncomputable def F125 : Fun := ⟨[], [.own Z35], fun _ => True, fun x => (certsT , ())⟩
theorem F125_ok : Meets Tryz.prog 125 F125 := by
 refine meets_of_vc (C := mkC 29 [0] [0,1,3,5] [⟨42, _, F42_ok⟩, ⟨142, _, F142_ok⟩]) (mkC_ok _ _ _ _) (fnOf_ok _) Tryz.func125 rfl rfl rfl (by decide) rfl ?_
 rintro ⟨_⟩ hwf hpre ⟨P, C, B, X, w0, M0, pv⟩ hG rfl rfl
 show Vc _ _ [] _
 refine Vc.seq (Vc.region hG rfl (by trivial) (Vc.seq ?_))
 refine Vc.region hG rfl ?_ ?_
 · repeat' (first | exact trivial | refine And.intro ?_ ?_ | intro _)
 refine Vc.seq ?_
 refine Vc.region hG rfl ?_ ?_
 · repeat' (first | exact trivial | refine And.intro ?_ ?_ | intro _)
 refine Vc.seq ?_
 refine Vc.region hG rfl ?_ ?_
 · repeat' (first | exact trivial | refine And.intro ?_ ?_ | intro _)
 refine Vc.seq (Vc.region hG rfl (by trivial) (Vc.ret ?_))
 refine ⟨?_, trivial⟩
 all_goals exact rfl
noncomputable def F124 : Fun := ⟨[.pair (.int .i64) Y32], [.pair (.pure (.int .i64)) Z11], fun _ => True, fun x => (certPieceF x.1, ())⟩
theorem F124_ok : Meets Tryz.prog 124 F124 := by
 refine meets_of_vc (C := mkC 10 [2] [0,1,2] [⟨141, _, F141_ok⟩]) (mkC_ok _ _ _ _) (fnOf_ok _) Tryz.func124 rfl rfl rfl (by decide) rfl ?_
 rintro ⟨a0, _⟩ hwf hpre ⟨P, C, B, X, w0, M0, pv⟩ hG rfl rfl
 show Vc _ _ [(0, ⟨0, 0, .c Z35 a0⟩)] _
 refine Vc.seq (Vc.region hG rfl (by trivial) (Vc.seq (Vc.regionD mixed hG rfl (by kernel_rfl) (by trivial) ?_)))
 refine Vc.ret ?_
 refine ⟨?_, trivial⟩
 all_goals exact rfl
noncomputable def P80 : PFun := ⟨.pure Y13, [.slice (.int .i64)], [.pure (.int .i64)], fun x xs => (fun c (l : List Int) => curOk c ∧ 0 < List.length l) x xs.1, fun x xs => (intF x xs.1).2, fun x xs => ((intF x xs.1).1, ())⟩
theorem P80_ok : MeetsP Tryz.prog 80 P80 := by
 refine meetsP_of_vc (C := mkCP 12 [4] [0,1,4] [] [] [] [⟨38, _, P38_ok⟩] [0]) (mkCP_ok _ _ _ _ _ _ _ _) (fnOf_ok _) Tryz.func80 rfl rfl rfl (by decide) rfl rfl rfl ?_ rfl
 rintro c ⟨a1, _⟩ hwc hwf hpre ⟨P, C, B, X, w0, M0, pv⟩ hG rfl rfl
 show Vc _ _ [(0, ⟨0, 0, .c (.ref Z17) c⟩), (1, ⟨0, 0, .c Z3 a1⟩)] _
 refine Vc.seq (Vc.region hG rfl (by trivial) (Vc.seq ?_))
 refine Vc.region hG rfl ?_ ?_
 · exact ⟨hpre.1, int_range hpre.2⟩
 refine Vc.ret ?_
 refine ⟨⟨?_, trivial⟩, ?_, trivial⟩
 all_goals exact rfl
noncomputable def F143 : Fun := ⟨[.pair (.int .i64) Y21], [.pure (.bool)], fun _ => True, fun x => (isStatusF x.1, ())⟩
theorem F143_ok : Meets Tryz.prog 143 F143 := by
 refine meets_of_vc (C := mkC 24 [2] [0,1,2] [⟨98, _, F98_ok⟩, ⟨94, _, F94_ok⟩]) (mkC_ok _ _ _ _) (fnOf_ok _) Tryz.func143 rfl rfl rfl (by decide) rfl ?_
 rintro ⟨a0, _⟩ hwf hpre ⟨P, C, B, X, w0, M0, pv⟩ hG rfl rfl
 show Vc _ _ [(0, ⟨0, 0, .c Z28 a0⟩)] _
 refine Vc.seq (Vc.region hG rfl (by trivial) (Vc.seq ?_))
 refine Vc.region hG rfl ?_ ?_
 · repeat' (first | exact trivial | refine And.intro ?_ ?_ | intro _)
 refine Vc.ret ?_
 refine ⟨?_, trivial⟩
 all_goals exact rfl
noncomputable def F144 : Fun := ⟨[.pair (.int .i64) Y21], [.own (.pure (.int .i64))], fun _ => True, fun x => (statusIntsF x.1, ())⟩
theorem F144_ok : Meets Tryz.prog 144 F144 := by
 refine meets_of_vc (C := mkC 12 [2] [0,1,2] []) (mkC_ok _ _ _ _) (fnOf_ok _) Tryz.func144 rfl rfl rfl (by decide) rfl ?_
 rintro ⟨a0, _⟩ hwf hpre ⟨P, C, B, X, w0, M0, pv⟩ hG rfl rfl
 show Vc _ _ [(0, ⟨0, 0, .c Z28 a0⟩)] _
 refine Vc.seq (Vc.region hG rfl (by trivial) (Vc.seq (Vc.region hG rfl (by trivial) ?_)))
 refine Vc.ret ?_
 refine ⟨?_, trivial⟩
 all_goals exact rfl
noncomputable def F126 : Fun := ⟨[.slice Y27, .pair (.int .i64) Y21], [.pure Y27, .pure (.bool)], fun _ => True, fun x => ((makeStatusF x.1 x.2.1).1, (makeStatusF x.1 x.2.1).2, ())⟩
theorem F126_ok : Meets Tryz.prog 126 F126 := by
 refine meets_of_vc (C := mkC 28 [4, 5] [0,1,3,4,5,6,17] [⟨95, _, F95_ok⟩, ⟨143, _, F143_ok⟩, ⟨144, _, F144_ok⟩, ⟨96, _, F96_ok⟩]) (mkC_ok _ _ _ _) (fnOf_ok _) Tryz.func126 rfl rfl rfl (by decide) rfl ?_
 rintro ⟨a0, a1, _⟩ hwf hpre ⟨P, C, B, X, w0, M0, pv⟩ hG rfl rfl
 show Vc _ _ [(0, ⟨0, 0, .c Z31 a0⟩), (1, ⟨0, 0, .c Z28 a1⟩)] _
 refine Vc.seq (Vc.region hG rfl (by trivial) (Vc.seq ?_))
 refine Vc.region hG rfl ?_ ?_
 · repeat' (first | exact trivial | exact sgRange h0 | exact smallLit (n := 5) rfl (by decide) | refine And.intro ?_ ?_ | intro _)
 refine Vc.seq (Vc.seq ?_)
 refine Vc.region hG rfl ?_ ?_
 · repeat' (first | exact trivial | exact sgRange h0 | exact smallLit (n := 5) rfl (by decide) | refine And.intro ?_ ?_ | intro _)
 refine Vc.cond rfl (fun h0 => ?_) (fun h0 => ?_)
 · refine Vc.seq (Vc.region hG rfl (by trivial) (Vc.ret ?_))
   have e : makeStatusF a0 a1 = _ := (cT h0)
   refine ⟨?_, ?_, trivial⟩
   · exact (congrArg (fun r => r.1) e).symm
   · exact (congrArg (fun r => r.2) e).symm
 · refine Vc.skip (Vc.seq ?_)
   refine Vc.regionD mixed hG rfl (by kernel_rfl) ?_ ?_
   · repeat' (first | exact trivial | exact sgRange h0 | exact smallLit (n := 5) rfl (by decide) | refine And.intro ?_ ?_ | intro _)
   refine Vc.seq (Vc.region hG rfl (by trivial) (Vc.ret ?_))
   have e : makeStatusF a0 a1 = _ := (cF h0)
   refine ⟨?_, ?_, trivial⟩
   · exact (congrArg (fun r => r.1) e).symm
   · exact (congrArg (fun r => r.2) e).symm
noncomputable def P25 : PFun := ⟨.pure Y13, [.int .i64], [.pure (.bool)], fun x xs => (fun c (_ : Int) => curOk c) x xs.1, fun x xs => (onceF x xs.1).2, fun x xs => ((onceF x xs.1).1, ())⟩
theorem P25_ok : MeetsP Tryz.prog 25 P25 := by
 refine meetsP_of_vc (C := mkCP 9 [4] [0,1,4] [] [] [] [⟨38, _, P38_ok⟩] [0]) (mkCP_ok _ _ _ _ _ _ _ _) (fnOf_ok _) Tryz.func25 rfl rfl rfl (by decide) rfl rfl rfl ?_ rfl
 rintro c ⟨(a1 : Int), _⟩ hwc hwf hpre ⟨P, C, B, X, w0, M0, pv⟩ hG rfl rfl
 show Vc _ _ [(0, ⟨0, 0, .c (.ref Z17) c⟩), (1, ⟨0, 0, .c (.pure (.int .i64)) a1⟩)] _
 refine Vc.seq (Vc.region hG rfl (by trivial) (Vc.seq ?_))
 refine Vc.region hG rfl ?_ ?_
 · repeat' (first | exact trivial | exact hpre | refine And.intro ?_ ?_ | intro _)
 refine Vc.ret ?_
 refine ⟨⟨?_, trivial⟩, ?_, trivial⟩
 all_goals exact rfl
noncomputable def F128 : Fun := ⟨[.pair (.int .i64) Y21], [.pair (.pure (.int .i64)) Z11], fun _ => True, fun x => (statusPieceF x.1, ())⟩
theorem F128_ok : Meets Tryz.prog 128 F128 := by
 refine meets_of_vc (C := mkC 10 [2] [0,1,2] [⟨144, _, F144_ok⟩]) (mkC_ok _ _ _ _) (fnOf_ok _) Tryz.func128 rfl rfl rfl (by decide) rfl ?_
 rintro ⟨a0, _⟩ hwf hpre ⟨P, C, B, X, w0, M0, pv⟩ hG rfl rfl
 show Vc _ _ [(0, ⟨0, 0, .c Z28 a0⟩)] _
 refine Vc.seq (Vc.region hG rfl (by trivial) (Vc.seq (Vc.regionD mixed hG rfl (by kernel_rfl) (by trivial) ?_)))
 refine Vc.ret ?_
 refine ⟨?_, trivial⟩
 all_goals exact rfl
noncomputable def F133 : Fun := ⟨[.pair (.int .i64) Y7], [.pair (.pure (.int .i64)) Z11], fun x => Sm big20 Y14 x.1, fun x => (id x.1, ())⟩
theorem F133_ok : Meets Tryz.prog 133 F133 := by
 refine meets_of_vc (C := mkC 12 [2] [0,1,2] []) (mkC_ok _ _ _ _) (fnOf_ok _) Tryz.func133 rfl rfl rfl (by decide) rfl ?_
 rintro ⟨a0, _⟩ hwf hpre ⟨P, C, B, X, w0, M0, pv⟩ hG rfl rfl
 show Vc _ _ [(0, ⟨0, 0, .c Z18 a0⟩)] _
 have hp : List.length a0.2.1 ≤ big20 := hpre.2.1.1
 refine Vc.seq (Vc.region hG rfl (by trivial) (Vc.seq ?_))
 refine Vc.regionD mixed hG rfl (by kernel_rfl) ?_ ?_
 · exact appOk hp
 refine Vc.ret ?_
 refine ⟨?_, trivial⟩
 all_goals exact rfl
end Fw
