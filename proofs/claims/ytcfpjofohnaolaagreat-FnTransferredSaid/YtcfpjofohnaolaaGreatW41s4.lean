/- Walks of functions of the program: what each computes. Conditions: those that each contract names. -/
import Derived.Test.YtcfpjofohnaolaaGreatW41T
import Derived.Test.YtcfpjofohnaolaaGreatW41s0
import Derived.Test.YtcfpjofohnaolaaGreatW41s1
import Derived.Test.YtcfpjofohnaolaaGreatW41s2
import Derived.Test.YtcfpjofohnaolaaGreatW41s3
namespace Fw
open Go Go.Proofs
set_option linter.unusedSimpArgs false
set_option maxRecDepth 100000
noncomputable def F127 : Fun := ⟨[.pair Y20 Y47, .pair (.int .i64) Y7], [.pair Z26 Z49, .pure (.bool)], fun x => (fun (s : Strand) (p : Piece) => Sm big20 Y50 s ∧ Sm big20 Y14 p) x.1 x.2.1, fun x => ((addPieceF x.1 x.2.1).1, (addPieceF x.1 x.2.1).2, ())⟩
theorem F127_ok : Meets Tryz.prog 127 F127 := by
 refine meets_of_vc (C := mkC 22 [4, 5] [0,1,2,3,4,5,6,18] [⟨91, _, F91_ok⟩, ⟨133, _, F133_ok⟩, ⟨120, _, F120_ok⟩]) (mkC_ok _ _ _ _) (fnOf_ok _) Tryz.func127 rfl rfl rfl (by decide) rfl ?_
 rintro ⟨a0, a1, _⟩ hwf hpre ⟨P, C, B, X, w0, M0, pv⟩ hG rfl rfl
 show Vc _ _ [(0, ⟨0, 0, .c Z51 a0⟩), (1, ⟨0, 0, .c Z18 a1⟩)] _
 have hp1 : Sm big20 Y50 a0 := hpre.1
 have hp2 : Sm big20 Y14 a1 := hpre.2
 refine Vc.seq (Vc.region hG rfl (by trivial) (Vc.seq ?_))
 refine Vc.region hG rfl ?_ ?_
 · exact hp1
 refine Vc.seq ?_
 refine Vc.regionD mixed hG rfl (by kernel_rfl) ?_ ?_
 · exact ⟨hp2, apLen hp1.1.1⟩
 refine Vc.seq (Vc.seq (Vc.region hG rfl (by trivial) ?_))
 refine Vc.cond rfl (fun h0 => ?_) (fun h0 => ?_)
 · have g0 : (!(strandF (a0.1 ++ [a1], a0.2))) = true := h0
   refine Vc.seq ?_
   refine Vc.region hG rfl ?_ ?_
   · exact hp1
   refine Vc.ret ?_
   have e := ap0 g0
   refine ⟨?_, ?_, trivial⟩
   · exact (congrArg Prod.fst e).symm
   · exact (congrArg Prod.snd e).symm
 · have g0 : (!(strandF (a0.1 ++ [a1], a0.2))) = false := h0
   refine Vc.skip (Vc.seq (Vc.region hG rfl (by trivial) (Vc.ret ?_)))
   have e := ap1 g0
   refine ⟨?_, ?_, trivial⟩
   · exact (congrArg Prod.fst e).symm
   · exact (congrArg Prod.snd e).symm
noncomputable def P145 : PFun := ⟨.pure Y13, [], [.pure Y27], fun x xs => curOk x, fun x xs => (statD x).2, fun x xs => ((statD x).1, ())⟩
theorem P145_ok : MeetsP Tryz.prog 145 P145 := by
 refine meetsP_of_vc (C := mkCP 29 [2] [0,2,3,4,16] [⟨42, _, F42_ok⟩, ⟨126, _, F126_ok⟩] [] [] [⟨38, _, P38_ok⟩, ⟨25, _, P25_ok⟩] [0]) (mkCP_ok _ _ _ _ _ _ _ _) (fnOf_ok _) Tryz.func145 rfl rfl rfl (by decide) rfl rfl rfl ?_ rfl
 rintro c ⟨_⟩ hwc hwf hpre ⟨P, C, B, X, w0, M0, pv⟩ hG rfl rfl
 show Vc _ _ [(0, ⟨0, 0, .c (.ref Z17) c⟩)] _
 refine Vc.seq (Vc.region hG rfl (by trivial) (Vc.seq ?_))
 refine Vc.region hG rfl ?_ ?_
 · repeat' (first | exact trivial | exact hpre | exact below_ok hpre | exact below_ok (below_ok hpre) | exact below_ok (below_ok (below_ok hpre)) | exact dst4_ok hpre | refine And.intro ?_ ?_ | intro _)
 refine Vc.seq ?_
 refine Vc.region hG rfl ?_ ?_
 · repeat' (first | exact trivial | exact hpre | exact below_ok hpre | exact below_ok (below_ok hpre) | exact below_ok (below_ok (below_ok hpre)) | exact dst4_ok hpre | refine And.intro ?_ ?_ | intro _)
 refine Vc.seq (Vc.seq ?_)
 refine Vc.region hG rfl ?_ ?_
 · repeat' (first | exact trivial | exact hpre | exact below_ok hpre | exact below_ok (below_ok hpre) | exact below_ok (below_ok (below_ok hpre)) | exact dst4_ok hpre | refine And.intro ?_ ?_ | intro _)
 refine Vc.cond rfl (fun h0 => ?_) (fun h0 => ?_)
 · refine Vc.region hG rfl ?_ ?_
   · repeat' (first | exact trivial | exact hpre | exact below_ok hpre | exact below_ok (below_ok hpre) | exact below_ok (below_ok (below_ok hpre)) | exact dst4_ok hpre | refine And.intro ?_ ?_ | intro _)
   refine Vc.seq ?_
   refine Vc.regionD mixed hG rfl (by kernel_rfl) ?_ ?_
   · repeat' (first | exact trivial | exact hpre | exact below_ok hpre | exact below_ok (below_ok hpre) | exact below_ok (below_ok (below_ok hpre)) | exact dst4_ok hpre | refine And.intro ?_ ?_ | intro _)
   refine Vc.seq (Vc.region hG rfl (by trivial) (Vc.ret ?_))
   have e : statD c = _ := (cT h0)
   refine ⟨⟨?_, trivial⟩, ?_, trivial⟩
   · exact (congrArg Prod.snd e).symm
   · exact (congrArg (fun r => r.1) e).symm
 · refine Vc.skip (Vc.seq ?_)
   refine Vc.regionD mixed hG rfl (by kernel_rfl) ?_ ?_
   · repeat' (first | exact trivial | exact hpre | exact below_ok hpre | exact below_ok (below_ok hpre) | exact below_ok (below_ok (below_ok hpre)) | exact dst4_ok hpre | refine And.intro ?_ ?_ | intro _)
   refine Vc.seq (Vc.region hG rfl (by trivial) (Vc.ret ?_))
   have e : statD c = _ := (cF h0)
   refine ⟨⟨?_, trivial⟩, ?_, trivial⟩
   · exact (congrArg Prod.snd e).symm
   · exact (congrArg (fun r => r.1) e).symm
noncomputable def F43 : Fun := ⟨[], [.own (.pure Y10)], fun _ => True, fun x => (authsT , ())⟩
theorem F43_ok : Meets Tryz.prog 43 F43 := by
 refine meets_of_vc (C := mkC 6 [0] [0] []) (mkC_ok _ _ _ _) (fnOf_ok _) Tryz.func43 rfl rfl rfl (by decide) rfl ?_
 rintro ⟨_⟩ hwf hpre ⟨P, C, B, X, w0, M0, pv⟩ hG rfl rfl
 show Vc _ _ [] _
 refine Vc.seq (Vc.region hG rfl (by trivial) (Vc.seq (Vc.region hG rfl (by trivial) ?_)))
 refine Vc.ret ?_
 refine ⟨?_, trivial⟩
 all_goals exact rfl
noncomputable def F93 : Fun := ⟨[.slice Y10, .int .i64], [.pure (.int .i64)], fun _ => True, fun x => ((fun a0 a1 => findI (fun x => x.1 == a1) a0) x.1 x.2.1, ())⟩
theorem F93_ok : Meets Tryz.prog 93 F93 := by
 refine meets_of_vc (C := mkC 20 [4] [0,1,4,5,9,18] []) (mkC_ok _ _ _ _) (fnOf_ok _) Tryz.func93 rfl rfl rfl (by decide) rfl ?_
 rintro ⟨a0, (a1 : Int), _⟩ hwf hpre ⟨P, C, B, X, w0, M0, pv⟩ hG rfl rfl
 show Vc _ _ [(0, ⟨0, 0, .c Z19 a0⟩), (1, ⟨0, 0, .c (.pure (.int .i64)) a1⟩)] _
 have hb : List.length a0 ≤ bigLen := hwf.1.1
 refine Vc.seq (Vc.region hG rfl (by trivial) (Vc.seq (Vc.seq ?_)))
 refine Vc.region hG rfl (by trivial) (Vc.block ?_)
 refine Vc.loopF [(5, false, .pure (.int .i64))] [0, 1] (fun v => fInv (fun x => x.1 == a1) a0 v.1) (fun v => ((List.length a0 : Int) - v.1).toNat) rfl ?_ ?_
 · exact fStart
 rintro ⟨(i : Int), _⟩ hI
 have hI : fInv (fun x => x.1 == a1) a0 i := hI
 refine Vc.seq (Vc.seq (Vc.region hG rfl (by trivial) ?_))
 refine Vc.cond rfl (fun h0 => ?_) (fun h0 => ?_)
 · have hl : i < (List.length a0 : Int) := of_decide_eq_true h0
   refine Vc.skip (Vc.seq (Vc.block (Vc.seq ?_)))
   refine Vc.region hG rfl ?_ ?_
   · exact fRange hI hl
   refine Vc.cond rfl (fun h1 => ?_) (fun h1 => ?_)
   · have g1 : (fun x => x.1 == a1) (List.getD a0 i.toNat (dflt Y10)) = true := h1
     refine Vc.seq (Vc.region hG rfl (by trivial) (Vc.ret ?_))
     refine ⟨?_, trivial⟩
     exact fHit hI hl g1
   · have g1 : (fun x => x.1 == a1) (List.getD a0 i.toNat (dflt Y10)) = false := h1
     refine Vc.skip (Vc.region hG rfl (by trivial) ?_)
     refine ⟨rfl, ?_⟩
     exact fStep hI hl hb g1
 · have hl : ¬ i < (List.length a0 : Int) := of_decide_eq_false h0
   refine Vc.exit (Vc.seq (Vc.region hG rfl (by trivial) (Vc.ret ?_)))
   refine ⟨?_, trivial⟩
   exact fEnd hI hl
noncomputable def F97 : Fun := ⟨[.pair (.int .i64) Y21], [.own (.pure (.int .i64))], fun _ => True, fun x => (stampIntsF x.1, ())⟩
theorem F97_ok : Meets Tryz.prog 97 F97 := by
 refine meets_of_vc (C := mkC 12 [2] [0,1,2] []) (mkC_ok _ _ _ _) (fnOf_ok _) Tryz.func97 rfl rfl rfl (by decide) rfl ?_
 rintro ⟨a0, _⟩ hwf hpre ⟨P, C, B, X, w0, M0, pv⟩ hG rfl rfl
 show Vc _ _ [(0, ⟨0, 0, .c Z28 a0⟩)] _
 refine Vc.seq (Vc.region hG rfl (by trivial) (Vc.seq (Vc.region hG rfl (by trivial) ?_)))
 refine Vc.ret ?_
 refine ⟨?_, trivial⟩
 all_goals exact rfl
noncomputable def F70 : Fun := ⟨[.slice Y27, .slice Y10, .pair (.int .i64) Y21], [.pure Y27, .pure (.bool)], fun _ => True, fun x => ((makeStampF x.1 x.2.1 x.2.2.1).1, (makeStampF x.1 x.2.1 x.2.2.1).2, ())⟩
theorem F70_ok : Meets Tryz.prog 70 F70 := by
 refine meets_of_vc (C := mkC 47 [6, 7] [0,1,2,5,6,7,8,9,26,36] [⟨93, _, F93_ok⟩, ⟨94, _, F94_ok⟩, ⟨95, _, F95_ok⟩, ⟨97, _, F97_ok⟩, ⟨96, _, F96_ok⟩]) (mkC_ok _ _ _ _) (fnOf_ok _) Tryz.func70 rfl rfl rfl (by decide) rfl ?_
 rintro ⟨a0, a1, a2, _⟩ hwf hpre ⟨P, C, B, X, w0, M0, pv⟩ hG rfl rfl
 show Vc _ _ [(0, ⟨0, 0, .c Z31 a0⟩), (1, ⟨0, 0, .c Z19 a1⟩), (2, ⟨0, 0, .c Z28 a2⟩)] _
 refine Vc.seq (Vc.region hG rfl (by trivial) (Vc.seq (Vc.region hG rfl (by trivial) ?_)))
 refine Vc.seq (Vc.seq ?_)
 refine Vc.region hG rfl ?_ ?_
 · intro _; exact trivial
 refine Vc.cond rfl (fun h0 => ?_) (fun h0 => ?_)
 · have g0 : stampBad a1 a2 = true := h0
   refine Vc.seq (Vc.region hG rfl (by trivial) (Vc.ret ?_))
   have e := ms_1 (keys := a0) g0
   refine ⟨?_, ?_, trivial⟩
   · exact (congrArg Prod.fst e).symm
   · exact (congrArg Prod.snd e).symm
 · have g0 : stampBad a1 a2 = false := h0
   refine Vc.skip (Vc.seq ?_)
   refine Vc.region hG rfl ?_ ?_
   · exact ⟨bad_idx g0, trivial⟩
   refine Vc.seq (Vc.seq (Vc.region hG rfl (by trivial) ?_))
   refine Vc.cond rfl (fun h1 => ?_) (fun h1 => ?_)
   · have g1 : keyI a0 (authAt a1 a2.1).2.1 < 0 := of_decide_eq_true h1
     refine Vc.seq (Vc.region hG rfl (by trivial) (Vc.ret ?_))
     have e := ms_2 (keys := a0) g0 g1
     refine ⟨?_, ?_, trivial⟩
     · exact (congrArg Prod.fst e).symm
     · exact (congrArg Prod.snd e).symm
   · have g1 : ¬ keyI a0 (authAt a1 a2.1).2.1 < 0 := of_decide_eq_false h1
     refine Vc.skip (Vc.seq ?_)
     refine Vc.regionD mixed hG rfl (by kernel_rfl) ?_ ?_
     · exact ⟨findRange g1, trivial, smallLit (n := 5) rfl (by decide)⟩
     refine Vc.seq (Vc.region hG rfl (by trivial) (Vc.ret ?_))
     have e := ms_3 (keys := a0) g0 g1
     refine ⟨?_, ?_, trivial⟩
     · exact (congrArg Prod.fst e).symm
     · exact (congrArg Prod.snd e).symm
noncomputable def P146 : PFun := ⟨.pure Y13, [], [.pure Y27], fun x xs => curOk x, fun x xs => (stampD x).2, fun x xs => ((stampD x).1, ())⟩
theorem P146_ok : MeetsP Tryz.prog 146 P146 := by
 refine meetsP_of_vc (C := mkCP 22 [2] [0,2,3] [⟨42, _, F42_ok⟩, ⟨43, _, F43_ok⟩, ⟨70, _, F70_ok⟩] [] [] [⟨38, _, P38_ok⟩] [0]) (mkCP_ok _ _ _ _ _ _ _ _) (fnOf_ok _) Tryz.func146 rfl rfl rfl (by decide) rfl rfl rfl ?_ rfl
 rintro c ⟨_⟩ hwc hwf hpre ⟨P, C, B, X, w0, M0, pv⟩ hG rfl rfl
 show Vc _ _ [(0, ⟨0, 0, .c (.ref Z17) c⟩)] _
 refine Vc.seq (Vc.region hG rfl (by trivial) (Vc.seq ?_))
 refine Vc.region hG rfl ?_ ?_
 · repeat' (first | exact trivial | exact hpre | exact below_ok hpre | exact below_ok (below_ok hpre) | exact below_ok (below_ok (below_ok hpre)) | refine And.intro ?_ ?_ | intro _)
 refine Vc.seq (Vc.region hG rfl (by trivial) (Vc.ret ?_))
 refine ⟨⟨?_, trivial⟩, ?_, trivial⟩
 all_goals exact rfl
noncomputable def F148 : Fun := ⟨[.slice Y10, .pair (.int .i64) Y21], [.pure (.int .i64)], fun _ => True, fun x => (stampKeyF x.1 x.2.1, ())⟩
theorem F148_ok : Meets Tryz.prog 148 F148 := by
 refine meets_of_vc (C := mkC 17 [4] [0,1,3,4,5,11] [⟨93, _, F93_ok⟩]) (mkC_ok _ _ _ _) (fnOf_ok _) Tryz.func148 rfl rfl rfl (by decide) rfl ?_
 rintro ⟨a0, a1, _⟩ hwf hpre ⟨P, C, B, X, w0, M0, pv⟩ hG rfl rfl
 show Vc _ _ [(0, ⟨0, 0, .c Z19 a0⟩), (1, ⟨0, 0, .c Z28 a1⟩)] _
 refine Vc.seq (Vc.region hG rfl (by trivial) (Vc.seq (Vc.region hG rfl (by trivial) ?_)))
 refine Vc.seq (Vc.seq (Vc.region hG rfl (by trivial) ?_))
 refine Vc.cond rfl (fun h0 => ?_) (fun h0 => ?_)
 · have g0 : authI a0 a1.1 < 0 := of_decide_eq_true h0
   refine Vc.seq (Vc.region hG rfl (by trivial) (Vc.ret ?_))
   refine ⟨?_, trivial⟩
   exact stampKey0 g0
 · have g0 : ¬ authI a0 a1.1 < 0 := of_decide_eq_false h0
   refine Vc.skip (Vc.seq ?_)
   refine Vc.region hG rfl ?_ ?_
   · exact findRange g0
   refine Vc.ret ?_
   refine ⟨?_, trivial⟩
   exact stampKey1 g0
noncomputable def F147 : Fun := ⟨[.int .i64, .pair (.int .i64) Y21], [.pair (.pure (.int .i64)) Z11], fun _ => True, fun x => (stampPieceF x.1 x.2.1, ())⟩
theorem F147_ok : Meets Tryz.prog 147 F147 := by
 refine meets_of_vc (C := mkC 11 [4] [0,1,3,4] [⟨97, _, F97_ok⟩]) (mkC_ok _ _ _ _) (fnOf_ok _) Tryz.func147 rfl rfl rfl (by decide) rfl ?_
 rintro ⟨(a0 : Int), a1, _⟩ hwf hpre ⟨P, C, B, X, w0, M0, pv⟩ hG rfl rfl
 show Vc _ _ [(0, ⟨0, 0, .c (.pure (.int .i64)) a0⟩), (1, ⟨0, 0, .c Z28 a1⟩)] _
 refine Vc.seq (Vc.region hG rfl (by trivial) (Vc.seq (Vc.regionD mixed hG rfl (by kernel_rfl) (by trivial) ?_)))
 refine Vc.ret ?_
 refine ⟨?_, trivial⟩
 all_goals exact rfl
noncomputable def F165 : Fun := ⟨[.pair (.int .i64) Y27], [.pure (.bool)], fun _ => True, fun x => (isMandF x.1, ())⟩
theorem F165_ok : Meets Tryz.prog 165 F165 := by
 refine meets_of_vc (C := mkC 24 [2] [0,1,2] [⟨98, _, F98_ok⟩, ⟨163, _, F163_ok⟩]) (mkC_ok _ _ _ _) (fnOf_ok _) Tryz.func165 rfl rfl rfl (by decide) rfl ?_
 rintro ⟨a0, _⟩ hwf hpre ⟨P, C, B, X, w0, M0, pv⟩ hG rfl rfl
 show Vc _ _ [(0, ⟨0, 0, .c Z33 a0⟩)] _
 refine Vc.seq (Vc.region hG rfl (by trivial) (Vc.seq ?_))
 refine Vc.region hG rfl ?_ ?_
 · repeat' (first | exact trivial | refine And.intro ?_ ?_ | intro _)
 refine Vc.ret ?_
 refine ⟨?_, trivial⟩
 all_goals exact rfl
noncomputable def F157 : Fun := ⟨[.pair (.int .i64) Y27], [.own (.pure (.int .i64))], fun _ => True, fun x => (mandIntsF x.1, ())⟩
theorem F157_ok : Meets Tryz.prog 157 F157 := by
 refine meets_of_vc (C := mkC 14 [2] [0,1,2] []) (mkC_ok _ _ _ _) (fnOf_ok _) Tryz.func157 rfl rfl rfl (by decide) rfl ?_
 rintro ⟨a0, _⟩ hwf hpre ⟨P, C, B, X, w0, M0, pv⟩ hG rfl rfl
 show Vc _ _ [(0, ⟨0, 0, .c Z33 a0⟩)] _
 refine Vc.seq (Vc.region hG rfl (by trivial) (Vc.seq (Vc.region hG rfl (by trivial) ?_)))
 refine Vc.ret ?_
 refine ⟨?_, trivial⟩
 all_goals exact rfl
noncomputable def F158 : Fun := ⟨[.slice Y27, .pair (.int .i64) Y27], [.pure Y32, .pure (.bool)], fun _ => True, fun x => ((makeMandF x.1 x.2.1).1, (makeMandF x.1 x.2.1).2, ())⟩
theorem F158_ok : Meets Tryz.prog 158 F158 := by
 refine meets_of_vc (C := mkC 28 [4, 5] [0,1,3,4,5,6,17] [⟨95, _, F95_ok⟩, ⟨165, _, F165_ok⟩, ⟨157, _, F157_ok⟩, ⟨96, _, F96_ok⟩]) (mkC_ok _ _ _ _) (fnOf_ok _) Tryz.func158 rfl rfl rfl (by decide) rfl ?_
 rintro ⟨a0, a1, _⟩ hwf hpre ⟨P, C, B, X, w0, M0, pv⟩ hG rfl rfl
 show Vc _ _ [(0, ⟨0, 0, .c Z31 a0⟩), (1, ⟨0, 0, .c Z33 a1⟩)] _
 refine Vc.seq (Vc.region hG rfl (by trivial) (Vc.seq ?_))
 refine Vc.region hG rfl ?_ ?_
 · repeat' (first | exact trivial | exact sgRange h0 | exact smallLit (n := 6) rfl (by decide) | refine And.intro ?_ ?_ | intro _)
 refine Vc.seq (Vc.seq ?_)
 refine Vc.region hG rfl ?_ ?_
 · repeat' (first | exact trivial | exact sgRange h0 | exact smallLit (n := 6) rfl (by decide) | refine And.intro ?_ ?_ | intro _)
 refine Vc.cond rfl (fun h0 => ?_) (fun h0 => ?_)
 · refine Vc.seq (Vc.region hG rfl (by trivial) (Vc.ret ?_))
   have e : makeMandF a0 a1 = _ := (cT h0)
   refine ⟨?_, ?_, trivial⟩
   · exact (congrArg (fun r => r.1) e).symm
   · exact (congrArg (fun r => r.2) e).symm
 · refine Vc.skip (Vc.seq ?_)
   refine Vc.regionD mixed hG rfl (by kernel_rfl) ?_ ?_
   · repeat' (first | exact trivial | exact sgRange h0 | exact smallLit (n := 6) rfl (by decide) | refine And.intro ?_ ?_ | intro _)
   refine Vc.seq (Vc.region hG rfl (by trivial) (Vc.ret ?_))
   have e : makeMandF a0 a1 = _ := (cF h0)
   refine ⟨?_, ?_, trivial⟩
   · exact (congrArg (fun r => r.1) e).symm
   · exact (congrArg (fun r => r.2) e).symm
noncomputable def P150 : PFun := ⟨.pure Y13, [], [.pure Y32], fun x xs => curOk x, fun x xs => (mandD x).2, fun x xs => ((mandD x).1, ())⟩
theorem P150_ok : MeetsP Tryz.prog 150 P150 := by
 refine meetsP_of_vc (C := mkCP 23 [2] [0,2,3,4] [⟨42, _, F42_ok⟩, ⟨158, _, F158_ok⟩] [] [] [⟨38, _, P38_ok⟩] [0]) (mkCP_ok _ _ _ _ _ _ _ _) (fnOf_ok _) Tryz.func150 rfl rfl rfl (by decide) rfl rfl rfl ?_ rfl
 rintro c ⟨_⟩ hwc hwf hpre ⟨P, C, B, X, w0, M0, pv⟩ hG rfl rfl
 show Vc _ _ [(0, ⟨0, 0, .c (.ref Z17) c⟩)] _
 refine Vc.seq (Vc.region hG rfl (by trivial) (Vc.seq ?_))
 refine Vc.region hG rfl ?_ ?_
 · repeat' (first | exact trivial | exact hpre | exact below_ok hpre | exact below_ok (below_ok hpre) | exact below_ok (below_ok (below_ok hpre)) | refine And.intro ?_ ?_ | intro _)
 refine Vc.seq ?_
 refine Vc.region hG rfl ?_ ?_
 · repeat' (first | exact trivial | exact hpre | exact below_ok hpre | exact below_ok (below_ok hpre) | exact below_ok (below_ok (below_ok hpre)) | refine And.intro ?_ ?_ | intro _)
 refine Vc.seq (Vc.region hG rfl (by trivial) (Vc.ret ?_))
 refine ⟨⟨?_, trivial⟩, ?_, trivial⟩
 all_goals exact rfl
noncomputable def F149 : Fun := ⟨[.pair (.int .i64) Y27], [.pair (.pure (.int .i64)) Z11], fun _ => True, fun x => (mandPieceF x.1, ())⟩
theorem F149_ok : Meets Tryz.prog 149 F149 := by
 refine meets_of_vc (C := mkC 10 [2] [0,1,2] [⟨157, _, F157_ok⟩]) (mkC_ok _ _ _ _) (fnOf_ok _) Tryz.func149 rfl rfl rfl (by decide) rfl ?_
 rintro ⟨a0, _⟩ hwf hpre ⟨P, C, B, X, w0, M0, pv⟩ hG rfl rfl
 show Vc _ _ [(0, ⟨0, 0, .c Z33 a0⟩)] _
 refine Vc.seq (Vc.region hG rfl (by trivial) (Vc.seq (Vc.regionD mixed hG rfl (by kernel_rfl) (by trivial) ?_)))
 refine Vc.ret ?_
 refine ⟨?_, trivial⟩
 all_goals exact rfl
end Fw
