/- Walks of functions of the program: what each computes. Conditions: those that each contract names. -/
import Derived.Test.YtacmkmcclbpolaaGreatW36T
namespace Fw
open Go Go.Proofs
set_option linter.unusedSimpArgs false
set_option maxRecDepth 100000
noncomputable def F174 : Fun := ⟨[.slice Y10, .int .i64], [.pure (.int .i64)], fun _ => True, fun x => ((fun a0 a1 => findI (fun x => x.1 == a1) a0) x.1 x.2.1, ())⟩
theorem F174_ok : Meets Tryz.prog 174 F174 := by
 refine meets_of_vc (C := mkC 20 [4] [0,1,4,5,6,7,8,9,10,17] []) (mkC_ok _ _ _ _) (fnOf_ok _) Tryz.func174 rfl rfl rfl (by decide) rfl ?_
 rintro ⟨a0, (a1 : Int), _⟩ hwf hpre ⟨P, C, B, X, w0, M0, pv⟩ hG rfl rfl
 show Vc _ _ [(0, ⟨0, 0, .c Z18 a0⟩), (1, ⟨0, 0, .c (.pure (.int .i64)) a1⟩)] _
 have hb : List.length a0 ≤ bigLen := hwf.1.1
 refine Vc.seq (Vc.region hG rfl (by trivial) (Vc.seq (Vc.seq ?_)))
 refine Vc.region hG rfl (by trivial) (Vc.block ?_)
 refine Vc.loopF [(9, false, .pure (.int .i64))] [0, 1, 7, 8] (fun v => fInv (fun x => x.1 == a1) a0 v.1) (fun v => ((List.length a0 : Int) - v.1).toNat) rfl ?_ ?_
 · exact fStart
 rintro ⟨(i : Int), _⟩ hI
 have hI : fInv (fun x => x.1 == a1) a0 i := hI
 refine Vc.seq (Vc.region hG rfl (by trivial) (Vc.seq ?_))
 refine Vc.cond rfl (fun h0 => ?_) (fun h0 => ?_)
 · have hl : i < (List.length a0 : Int) := of_decide_eq_true h0
   refine Vc.skip (Vc.seq (Vc.block (Vc.seq ?_)))
   refine Vc.region hG rfl ?_ ?_
   · exact fRange hI hl
   refine Vc.seq (Vc.region hG rfl (by trivial) ?_)
   refine Vc.cond rfl (fun h1 => ?_) (fun h1 => ?_)
   · have g1 : (fun x => x.1 == a1) (List.getD a0 i.toNat (dflt Y10)) = true := h1
     refine Vc.seq (Vc.region hG rfl (by trivial) (Vc.ret ?_))
     refine ⟨?_, trivial⟩
     exact fHit hI hl g1
   · have g1 : (fun x => x.1 == a1) (List.getD a0 i.toNat (dflt Y10)) = false := h1
     refine Vc.skip (Vc.region hG rfl (by trivial) ?_)
     refine ⟨rfl, ?_⟩
     exact fStep hI hl hb g1
 · have hl : ¬ i < (List.length a0 : Int) := of_decide_eq_false h0
   refine Vc.exit (Vc.seq (Vc.region hG rfl (by trivial) (Vc.ret ?_)))
   refine ⟨?_, trivial⟩
   exact fEnd hI hl
noncomputable def F72 : Fun := ⟨[.int .i64, .int .i64, .int .i64], [.pure (.bool)], fun _ => True, fun x => (inRangeF x.1 x.2.1 x.2.2.1, ())⟩
theorem F72_ok : Meets Tryz.prog 72 F72 := by
 refine meets_of_vc (C := mkC 15 [6] [0,1,2,6] []) (mkC_ok _ _ _ _) (fnOf_ok _) Tryz.func72 rfl rfl rfl (by decide) rfl ?_
 rintro ⟨(a0 : Int), (a1 : Int), (a2 : Int), _⟩ hwf hpre ⟨P, C, B, X, w0, M0, pv⟩ hG rfl rfl
 show Vc _ _ [(0, ⟨0, 0, .c (.pure (.int .i64)) a0⟩), (1, ⟨0, 0, .c (.pure (.int .i64)) a1⟩), (2, ⟨0, 0, .c (.pure (.int .i64)) a2⟩)] _
 refine Vc.seq (Vc.region hG rfl (by trivial) (Vc.seq (Vc.region hG rfl (by trivial) ?_)))
 refine Vc.ret ?_
 refine ⟨?_, trivial⟩
 all_goals exact rfl
noncomputable def F175 : Fun := ⟨[.int .i64], [.pure (.bool)], fun _ => True, fun x => (isTimeF x.1, ())⟩
theorem F175_ok : Meets Tryz.prog 175 F175 := by
 refine meets_of_vc (C := mkC 5 [2] [0,2] [⟨72, _, F72_ok⟩]) (mkC_ok _ _ _ _) (fnOf_ok _) Tryz.func175 rfl rfl rfl (by decide) rfl ?_
 rintro ⟨(a0 : Int), _⟩ hwf hpre ⟨P, C, B, X, w0, M0, pv⟩ hG rfl rfl
 show Vc _ _ [(0, ⟨0, 0, .c (.pure (.int .i64)) a0⟩)] _
 refine Vc.seq (Vc.region hG rfl (by trivial) (Vc.seq (Vc.region hG rfl (by trivial) ?_)))
 refine Vc.ret ?_
 refine ⟨?_, trivial⟩
 all_goals exact rfl
noncomputable def F177 : Fun := ⟨[.pair (.int .i64) Y21], [.own (.pure (.int .i64))], fun _ => True, fun x => (stampIntsF x.1, ())⟩
theorem F177_ok : Meets Tryz.prog 177 F177 := by
 refine meets_of_vc (C := mkC 12 [2] [0,1,2] []) (mkC_ok _ _ _ _) (fnOf_ok _) Tryz.func177 rfl rfl rfl (by decide) rfl ?_
 rintro ⟨a0, _⟩ hwf hpre ⟨P, C, B, X, w0, M0, pv⟩ hG rfl rfl
 show Vc _ _ [(0, ⟨0, 0, .c Z27 a0⟩)] _
 refine Vc.seq (Vc.region hG rfl (by trivial) (Vc.seq (Vc.region hG rfl (by trivial) ?_)))
 refine Vc.ret ?_
 refine ⟨?_, trivial⟩
 all_goals exact rfl
noncomputable def F148 : Fun := ⟨[.slice Y26, .int .i64], [.pure (.int .i64)], fun _ => True, fun x => ((fun a0 a1 => findI (fun x => x.1 == a1) a0) x.1 x.2.1, ())⟩
theorem F148_ok : Meets Tryz.prog 148 F148 := by
 refine meets_of_vc (C := mkC 20 [4] [0,1,4,5,6,7,8,9,10,17] []) (mkC_ok _ _ _ _) (fnOf_ok _) Tryz.func148 rfl rfl rfl (by decide) rfl ?_
 rintro ⟨a0, (a1 : Int), _⟩ hwf hpre ⟨P, C, B, X, w0, M0, pv⟩ hG rfl rfl
 show Vc _ _ [(0, ⟨0, 0, .c Z30 a0⟩), (1, ⟨0, 0, .c (.pure (.int .i64)) a1⟩)] _
 have hb : List.length a0 ≤ bigLen := hwf.1.1
 refine Vc.seq (Vc.region hG rfl (by trivial) (Vc.seq (Vc.seq ?_)))
 refine Vc.region hG rfl (by trivial) (Vc.block ?_)
 refine Vc.loopF [(9, false, .pure (.int .i64))] [0, 1, 7, 8] (fun v => fInv (fun x => x.1 == a1) a0 v.1) (fun v => ((List.length a0 : Int) - v.1).toNat) rfl ?_ ?_
 · exact fStart
 rintro ⟨(i : Int), _⟩ hI
 have hI : fInv (fun x => x.1 == a1) a0 i := hI
 refine Vc.seq (Vc.region hG rfl (by trivial) (Vc.seq ?_))
 refine Vc.cond rfl (fun h0 => ?_) (fun h0 => ?_)
 · have hl : i < (List.length a0 : Int) := of_decide_eq_true h0
   refine Vc.skip (Vc.seq (Vc.block (Vc.seq ?_)))
   refine Vc.region hG rfl ?_ ?_
   · exact fRange hI hl
   refine Vc.seq (Vc.region hG rfl (by trivial) ?_)
   refine Vc.cond rfl (fun h1 => ?_) (fun h1 => ?_)
   · have g1 : (fun x => x.1 == a1) (List.getD a0 i.toNat (dflt Y26)) = true := h1
     refine Vc.seq (Vc.region hG rfl (by trivial) (Vc.ret ?_))
     refine ⟨?_, trivial⟩
     exact fHit hI hl g1
   · have g1 : (fun x => x.1 == a1) (List.getD a0 i.toNat (dflt Y26)) = false := h1
     refine Vc.skip (Vc.region hG rfl (by trivial) ?_)
     refine ⟨rfl, ?_⟩
     exact fStep hI hl hb g1
 · have hl : ¬ i < (List.length a0 : Int) := of_decide_eq_false h0
   refine Vc.exit (Vc.seq (Vc.region hG rfl (by trivial) (Vc.ret ?_)))
   refine ⟨?_, trivial⟩
   exact fEnd hI hl
noncomputable def F305 : Fun := ⟨[.int .i64, .int .i64], [.pure (.int .i64)], fun _ => True, fun x => (modF x.1 x.2.1, ())⟩
theorem F305_ok : Meets Tryz.prog 305 F305 := by
 refine meets_of_vc (C := mkC 15 [4] [0,1,4,7] [⟨72, _, F72_ok⟩]) (mkC_ok _ _ _ _) (fnOf_ok _) Tryz.func305 rfl rfl rfl (by decide) rfl ?_
 rintro ⟨(a0 : Int), (a1 : Int), _⟩ hwf hpre ⟨P, C, B, X, w0, M0, pv⟩ hG rfl rfl
 show Vc _ _ [(0, ⟨0, 0, .c (.pure (.int .i64)) a0⟩), (1, ⟨0, 0, .c (.pure (.int .i64)) a1⟩)] _
 refine Vc.seq (Vc.region hG rfl (by trivial) (Vc.seq (Vc.seq ?_)))
 refine Vc.region hG rfl (by trivial) ?_
 refine Vc.cond rfl (fun h0 => ?_) (fun h0 => ?_)
 · have g0 : (!(inRangeF a1 1 1000000000000)) = true := h0
   refine Vc.seq (Vc.region hG rfl (by trivial) (Vc.ret ?_))
   refine ⟨?_, trivial⟩
   show (0 : Int) = modF a0 a1
   unfold modF
   rw [if_neg (by simpa using g0)]
 · have g0 : (!(inRangeF a1 1 1000000000000)) = false := h0
   refine Vc.skip (Vc.seq ?_)
   refine Vc.region hG rfl ?_ ?_
   · exact ⟨inR_pos h0, inR_pos h0⟩
   refine Vc.ret ?_
   refine ⟨?_, trivial⟩
   show _ = modF a0 a1
   unfold modF
   rw [if_pos (by simpa using g0)]
noncomputable def F236 : Fun := ⟨[.slice (.int .i64)], [.pure (.int .i64)], fun _ => True, fun x => (hashF x.1, ())⟩
theorem F236_ok : Meets Tryz.prog 236 F236 := by
 refine meets_of_vc (C := mkC 21 [2] [0,2,3,5,6,7,8,9] [⟨305, _, F305_ok⟩]) (mkC_ok _ _ _ _) (fnOf_ok _) Tryz.func236 rfl rfl rfl (by decide) rfl ?_
 rintro ⟨a0, _⟩ hwf hpre ⟨P, C, B, X, w0, M0, pv⟩ hG rfl rfl
 show Vc _ _ [(0, ⟨0, 0, .c Z3 a0⟩)] _
 have hb : List.length a0 ≤ bigLen := hwf.1.1
 refine Vc.seq (Vc.region hG rfl (by trivial) (Vc.seq (Vc.region hG rfl (by trivial) ?_)))
 refine Vc.seq (Vc.seq (Vc.region hG rfl (by trivial) (Vc.block ?_)))
 refine Vc.loopF [(3, false, .pure (.int .i64)), (8, false, .pure (.int .i64))] [0, 2, 6, 7] (fun v => foInv (hstep) (11) a0 v.1 v.2.1) (fun v => ((List.length a0 : Int) - v.2.1).toNat) rfl ?_ ?_
 · exact foStart
 rintro ⟨acc, (i : Int), _⟩ hI
 have hI : foInv (hstep) (11) a0 acc i := hI
 refine Vc.seq (Vc.region hG rfl (by trivial) (Vc.seq ?_))
 refine Vc.cond rfl (fun h0 => ?_) (fun h0 => ?_)
 · have hl : i < (List.length a0 : Int) := of_decide_eq_true h0
   refine Vc.skip (Vc.seq (Vc.block (Vc.seq ?_)))
   refine Vc.region hG rfl ?_ ?_
   · exact foRange hI hl
   refine Vc.region hG rfl ?_ ?_
   · exact ⟨trivial, (show (2147483647 : Int) ≠ 0 by decide)⟩
   refine Vc.region hG rfl (by trivial) ?_
   refine ⟨rfl, ?_⟩
   exact foStep hI hl hb
 · have hl : ¬ i < (List.length a0 : Int) := of_decide_eq_false h0
   refine Vc.exit (Vc.seq (Vc.region hG rfl (by trivial) (Vc.ret ?_)))
   refine ⟨?_, trivial⟩
   exact foEnd hI hl
noncomputable def F307 : Fun := ⟨[.int .i64, .slice (.int .i64)], [.pure (.int .i64)], fun x => (fun (_ : Int) (l : List Int) => l.length ≤ 1000000001) x.1 x.2.1, fun x => (keyedF x.1 x.2.1, ())⟩
theorem F307_ok : Meets Tryz.prog 307 F307 := by
 refine meets_of_vc (C := mkC 13 [4] [0,1,4] [⟨236, _, F236_ok⟩]) (mkC_ok _ _ _ _) (fnOf_ok _) Tryz.func307 rfl rfl rfl (by decide) rfl ?_
 rintro ⟨(a0 : Int), a1, _⟩ hwf hpre ⟨P, C, B, X, w0, M0, pv⟩ hG rfl rfl
 show Vc _ _ [(0, ⟨0, 0, .c (.pure (.int .i64)) a0⟩), (1, ⟨0, 0, .c Z3 a1⟩)] _
 have hp : List.length a1 ≤ 1000000001 := hpre
 refine Vc.seq (Vc.region hG rfl (by trivial) (Vc.seq ?_))
 refine Vc.region hG rfl ?_ ?_
 · refine ⟨?_, ?_, trivial⟩
   · show 1 + List.length a1 ≤ maxApp
     unfold maxApp; omega
   · show (List.length a1 + 1) + 1 ≤ maxApp
     unfold maxApp; omega
 refine Vc.ret ?_
 refine ⟨?_, trivial⟩
 all_goals exact rfl
noncomputable def F239 : Fun := ⟨[.pair (.int .i64) Y21, .slice (.int .i64)], [.pure (.int .i64)], fun x => (fun (_ : Key) (l : List Int) => smallL l) x.1 x.2.1, fun x => (markWithF x.1 x.2.1, ())⟩
theorem F239_ok : Meets Tryz.prog 239 F239 := by
 refine meets_of_vc (C := mkC 13 [4] [0,1,2,4] [⟨307, _, F307_ok⟩]) (mkC_ok _ _ _ _) (fnOf_ok _) Tryz.func239 rfl rfl rfl (by decide) rfl ?_
 rintro ⟨a0, a1, _⟩ hwf hpre ⟨P, C, B, X, w0, M0, pv⟩ hG rfl rfl
 show Vc _ _ [(0, ⟨0, 0, .c Z27 a0⟩), (1, ⟨0, 0, .c Z3 a1⟩)] _
 have hp : List.length a1 ≤ 1000000000 := hpre
 refine Vc.seq (Vc.region hG rfl (by trivial) (Vc.seq ?_))
 refine Vc.regionD mixed hG rfl (by kernel_rfl) ?_ ?_
 · refine ⟨?_, ?_⟩
   · show 1 + List.length a1 ≤ maxApp
     unfold maxApp; omega
   · show List.length a1 + 1 ≤ 1000000001
     omega
 refine Vc.ret ?_
 refine ⟨?_, trivial⟩
 all_goals exact rfl
noncomputable def F176 : Fun := ⟨[.slice Y26, .int .i64, .slice (.int .i64)], [.pure (.int .i64), .pure (.bool)], fun x => (fun (_ : List Key) (_ : Int) (l : List Int) => smallL l) x.1 x.2.1 x.2.2.1, fun x => ((markByF x.1 x.2.1 x.2.2.1).1, (markByF x.1 x.2.1 x.2.2.1).2, ())⟩
theorem F176_ok : Meets Tryz.prog 176 F176 := by
 refine meets_of_vc (C := mkC 20 [6, 7] [0,1,2,6,7,8,13] [⟨148, _, F148_ok⟩, ⟨239, _, F239_ok⟩]) (mkC_ok _ _ _ _) (fnOf_ok _) Tryz.func176 rfl rfl rfl (by decide) rfl ?_
 rintro ⟨a0, (a1 : Int), a2, _⟩ hwf hpre ⟨P, C, B, X, w0, M0, pv⟩ hG rfl rfl
 show Vc _ _ [(0, ⟨0, 0, .c Z30 a0⟩), (1, ⟨0, 0, .c (.pure (.int .i64)) a1⟩), (2, ⟨0, 0, .c Z3 a2⟩)] _
 have hp : smallL a2 := hpre
 refine Vc.seq (Vc.region hG rfl (by trivial) (Vc.seq (Vc.region hG rfl (by trivial) ?_)))
 refine Vc.seq (Vc.seq (Vc.region hG rfl (by trivial) ?_))
 refine Vc.cond rfl (fun h0 => ?_) (fun h0 => ?_)
 · have g0 : keyI a0 a1 < 0 := of_decide_eq_true h0
   refine Vc.seq (Vc.region hG rfl (by trivial) (Vc.ret ?_))
   have e := markBy_no (l := a2) g0
   refine ⟨?_, ?_, trivial⟩
   · exact (congrArg Prod.fst e).symm
   · exact (congrArg Prod.snd e).symm
 · have g0 : ¬ keyI a0 a1 < 0 := of_decide_eq_false h0
   refine Vc.skip (Vc.seq ?_)
   refine Vc.region hG rfl ?_ ?_
   · exact ⟨findRange g0, hp⟩
   refine Vc.ret ?_
   have e := markBy_yes (l := a2) g0
   refine ⟨?_, ?_, trivial⟩
   · exact (congrArg Prod.fst e).symm
   · exact (congrArg Prod.snd e).symm
noncomputable def F116 : Fun := ⟨[.slice Y26, .slice Y10, .pair (.int .i64) Y21], [.pure Y26, .pure (.bool)], fun _ => True, fun x => ((makeStampF x.1 x.2.1 x.2.2.1).1, (makeStampF x.1 x.2.1 x.2.2.1).2, ())⟩
theorem F116_ok : Meets Tryz.prog 116 F116 := by
 refine meets_of_vc (C := mkC 47 [6, 7] [0,1,2,5,6,7,8,9,10,27,42] [⟨174, _, F174_ok⟩, ⟨175, _, F175_ok⟩, ⟨177, _, F177_ok⟩, ⟨176, _, F176_ok⟩]) (mkC_ok _ _ _ _) (fnOf_ok _) Tryz.func116 rfl rfl rfl (by decide) rfl ?_
 rintro ⟨a0, a1, a2, _⟩ hwf hpre ⟨P, C, B, X, w0, M0, pv⟩ hG rfl rfl
 show Vc _ _ [(0, ⟨0, 0, .c Z30 a0⟩), (1, ⟨0, 0, .c Z18 a1⟩), (2, ⟨0, 0, .c Z27 a2⟩)] _
 refine Vc.seq (Vc.region hG rfl (by trivial) (Vc.seq (Vc.region hG rfl (by trivial) ?_)))
 refine Vc.seq (Vc.seq ?_)
 refine Vc.region hG rfl ?_ ?_
 · intro _; exact trivial
 refine Vc.cond rfl (fun h0 => ?_) (fun h0 => ?_)
 · have g0 : stampBad a1 a2 = true := h0
   refine Vc.seq (Vc.region hG rfl (by trivial) (Vc.ret ?_))
   have e := ms_1 (keys := a0) g0
   refine ⟨?_, ?_, trivial⟩
   · exact (congrArg Prod.fst e).symm
   · exact (congrArg Prod.snd e).symm
 · have g0 : stampBad a1 a2 = false := h0
   refine Vc.skip (Vc.seq ?_)
   refine Vc.regionD mixed hG rfl (by kernel_rfl) ?_ ?_
   · exact ⟨bad_idx g0, trivial, smallLit (n := 5) rfl (by decide)⟩
   refine Vc.seq (Vc.seq (Vc.region hG rfl (by trivial) ?_))
   refine Vc.cond rfl (fun h1 => ?_) (fun h1 => ?_)
   · have g1 : keyI a0 (authAt a1 a2.1).2.1 < 0 := mb_no h1
     refine Vc.seq (Vc.region hG rfl (by trivial) (Vc.ret ?_))
     have e := ms_2 (keys := a0) g0 g1
     refine ⟨?_, ?_, trivial⟩
     · exact (congrArg Prod.fst e).symm
     · exact (congrArg Prod.snd e).symm
   · have k1 : (!(markByF a0 (authAt a1 a2.1).2.1 (stampIntsF a2)).2) = false := h1
     have g1 : ¬ keyI a0 (authAt a1 a2.1).2.1 < 0 := mb_ok k1
     refine Vc.skip (Vc.seq (Vc.region hG rfl (by trivial) (Vc.seq ?_)))
     refine Vc.region hG rfl (by trivial) (Vc.ret ?_)
     have e := ms_3 (keys := a0) g0 g1
     have e2 := markBy_yes (l := stampIntsF a2) g1
     refine ⟨?_, ?_, trivial⟩
     · refine Eq.trans ?_ (congrArg Prod.fst e).symm
       exact congrArg (fun m => (a2.1, a2.2.1, a2.2.2.1, a2.2.2.2.1, m)) (congrArg Prod.fst e2)
     · exact (congrArg Prod.snd e).symm
noncomputable def F75 : Fun := ⟨[.slice Y26, .slice Y10, .pair (.int .i64) Y21], [.pure (.bool)], fun _ => True, fun x => (checkStampF x.1 x.2.1 x.2.2.1, ())⟩
theorem F75_ok : Meets Tryz.prog 75 F75 := by
 refine meets_of_vc (C := mkC 22 [6] [0,1,2,5,6,7,8] [⟨116, _, F116_ok⟩]) (mkC_ok _ _ _ _) (fnOf_ok _) Tryz.func75 rfl rfl rfl (by decide) rfl ?_
 rintro ⟨a0, a1, a2, _⟩ hwf hpre ⟨P, C, B, X, w0, M0, pv⟩ hG rfl rfl
 show Vc _ _ [(0, ⟨0, 0, .c Z30 a0⟩), (1, ⟨0, 0, .c Z18 a1⟩), (2, ⟨0, 0, .c Z27 a2⟩)] _
 refine Vc.seq (Vc.region hG rfl (by trivial) (Vc.seq (Vc.region hG rfl (by trivial) ?_)))
 refine Vc.seq (Vc.region hG rfl (by trivial) (Vc.ret ?_))
 refine ⟨?_, trivial⟩
 all_goals exact rfl
noncomputable def F29 : Fun := ⟨[.slice Y26, .slice Y10, .pair (.int .i64) Y21, .pair (.int .i64) Y21], [.pure (.bool)], fun _ => True, fun x => (contraryF x.1 x.2.1 x.2.2.1 x.2.2.2.1, ())⟩
theorem F29_ok : Meets Tryz.prog 29 F29 := by
 refine meets_of_vc (C := mkC 59 [8] [0,1,2,3,6,7,8,27,32] [⟨75, _, F75_ok⟩]) (mkC_ok _ _ _ _) (fnOf_ok _) Tryz.func29 rfl rfl rfl (by decide) rfl ?_
 rintro ⟨a0, a1, a2, a3, _⟩ hwf hpre ⟨P, C, B, X, w0, M0, pv⟩ hG rfl rfl
 show Vc _ _ [(0, ⟨0, 0, .c Z30 a0⟩), (1, ⟨0, 0, .c Z18 a1⟩), (2, ⟨0, 0, .c Z27 a2⟩), (3, ⟨0, 0, .c Z27 a3⟩)] _
 refine Vc.seq (Vc.region hG rfl (by trivial) (Vc.seq (Vc.seq ?_)))
 refine Vc.region hG rfl ?_ ?_
 · repeat' (first | exact trivial | refine And.intro ?_ ?_ | intro _)
 refine Vc.cond rfl (fun h0 => ?_) (fun h0 => ?_)
 · refine Vc.seq (Vc.region hG rfl (by trivial) (Vc.ret ?_))
   refine ⟨?_, trivial⟩
   exact con_i1 h0
 · refine Vc.skip (Vc.seq (Vc.seq (Vc.region hG rfl (by trivial) ?_)))
   refine Vc.cond rfl (fun h1 => ?_) (fun h1 => ?_)
   · refine Vc.region hG rfl (by trivial) (Vc.seq (Vc.region hG rfl (by trivial) (Vc.ret ?_)))
     refine ⟨?_, trivial⟩
     exact con_i2 h0 h1
   · refine Vc.skip (Vc.seq (Vc.region hG rfl (by trivial) (Vc.ret ?_)))
     refine ⟨?_, trivial⟩
     exact con_i3 h0 h1
noncomputable def F23 : Fun := ⟨[.slice Y26, .slice Y10, .slice Y26], [.pure Y45, .pure (.bool)], fun _ => True, fun x => (((fun a0 a1 a2 => fpF (contraryF a0 a1) (dflt Y45) a2) x.1 x.2.1 x.2.2.1).1, ((fun a0 a1 a2 => fpF (contraryF a0 a1) (dflt Y45) a2) x.1 x.2.1 x.2.2.1).2, ())⟩
theorem F23_ok : Meets Tryz.prog 23 F23 := by
 refine meets_of_vc (C := mkC 39 [6, 7] [0,1,2,6,7,8,9,11,12,13,14,15,22,23,24,25,32] [⟨29, _, F29_ok⟩]) (mkC_ok _ _ _ _) (fnOf_ok _) Tryz.func23 rfl rfl rfl (by decide) rfl ?_
 rintro ⟨a0, a1, a2, _⟩ hwf hpre ⟨P, C, B, X, w0, M0, pv⟩ hG rfl rfl
 show Vc _ _ [(0, ⟨0, 0, .c Z30 a0⟩), (1, ⟨0, 0, .c Z18 a1⟩), (2, ⟨0, 0, .c Z30 a2⟩)] _
 have hb : List.length a2 ≤ bigLen := hwf.2.2.1.1
 refine Vc.seq (Vc.region hG rfl (by trivial) (Vc.seq (Vc.seq ?_)))
 refine Vc.region hG rfl (by trivial) (Vc.block ?_)
 refine Vc.loopF [(6, true, .pure Y45), (14, false, .pure (.int .i64))] [0, 1, 2, 12, 13] (fun v => fpInv (contraryF a0 a1) (dflt Y45) a2 v.2.1) (fun v => ((List.length a2 : Int) - v.2.1).toNat) rfl ?_ ?_
 · exact fpStart
 rintro ⟨zi, (i : Int), _⟩ hI
 have hI : fpInv (contraryF a0 a1) (dflt Y45) a2 i := hI
 refine Vc.seq (Vc.region hG rfl (by trivial) (Vc.seq ?_))
 refine Vc.cond rfl (fun h0 => ?_) (fun h0 => ?_)
 · have hl : i < (List.length a2 : Int) := of_decide_eq_true h0
   have hT : (subL a2 (IntKind.i64.wrap (i + 1)) (List.length a2 : Int)) = _ := tailEq hI.1 hl hb
   have hd : ((subL a2 (IntKind.i64.wrap (i + 1)) (List.length a2 : Int))).length ≤ bigLen := tailLen hb
   refine Vc.skip (Vc.seq (Vc.block (Vc.seq ?_)))
   refine Vc.region hG rfl ?_ ?_
   · exact fpRange hI hl
   refine Vc.seq ?_
   refine Vc.region hG rfl ?_ ?_
   · exact tailCond hI.1 hl hb
   refine Vc.block ?_
   refine Vc.loopF [(6, true, .pure Y45), (24, false, .pure (.int .i64))] [0, 1, 2, 8, 9, 12, 13, 14, 15, 22, 23] (fun v => fInv (contraryF a0 a1 (List.getD a2 i.toNat (dflt Y26))) (subL a2 (IntKind.i64.wrap (i + 1)) (List.length a2 : Int)) v.2.1) (fun v => ((List.length (subL a2 (IntKind.i64.wrap (i + 1)) (List.length a2 : Int)) : Int) - v.2.1).toNat) rfl ?_ ?_
   · exact fStart
   rintro ⟨zj, (j : Int), _⟩ hJ
   have hJ : fInv (contraryF a0 a1 (List.getD a2 i.toNat (dflt Y26))) (subL a2 (IntKind.i64.wrap (i + 1)) (List.length a2 : Int)) j := hJ
   refine Vc.seq (Vc.region hG rfl (by trivial) (Vc.seq ?_))
   refine Vc.cond rfl (fun h1 => ?_) (fun h1 => ?_)
   · have hm : j < (List.length (subL a2 (IntKind.i64.wrap (i + 1)) (List.length a2 : Int)) : Int) := of_decide_eq_true h1
     refine Vc.skip (Vc.seq (Vc.block (Vc.seq ?_)))
     refine Vc.region hG rfl ?_ ?_
     · exact fRange hJ hm
     refine Vc.seq (Vc.region hG rfl (by trivial) ?_)
     refine Vc.cond rfl (fun h2 => ?_) (fun h2 => ?_)
     · have g2 : contraryF a0 a1 (List.getD a2 i.toNat (dflt Y26)) (List.getD (subL a2 (IntKind.i64.wrap (i + 1)) (List.length a2 : Int)) j.toNat (dflt Y26)) = true := h2
       refine Vc.seq (Vc.region hG rfl (by trivial) (Vc.ret ?_))
       have e := fpHitT hI hl hT (fFindHit hJ hm g2)
       refine ⟨?_, ?_, trivial⟩
       · exact congrArg Prod.fst e
       · exact congrArg Prod.snd e
     · have g2 : contraryF a0 a1 (List.getD a2 i.toNat (dflt Y26)) (List.getD (subL a2 (IntKind.i64.wrap (i + 1)) (List.length a2 : Int)) j.toNat (dflt Y26)) = false := h2
       refine Vc.skip (Vc.region hG rfl (by trivial) ?_)
       refine ⟨rfl, ?_⟩
       exact fStep hJ hm hd g2
   · have hm : ¬ j < (List.length (subL a2 (IntKind.i64.wrap (i + 1)) (List.length a2 : Int)) : Int) := of_decide_eq_false h1
     refine Vc.exit (Vc.region hG rfl (by trivial) ?_)
     refine ⟨rfl, ?_⟩
     exact fpNextT hI hl hb hT (fFindEnd hJ hm)
 · have hl : ¬ i < (List.length a2 : Int) := of_decide_eq_false h0
   refine Vc.exit (Vc.seq (Vc.region hG rfl (by trivial) (Vc.ret ?_)))
   have e := fpEnd hI hl
   refine ⟨?_, ?_, trivial⟩
   · exact congrArg Prod.fst e
   · exact congrArg Prod.snd e
noncomputable def F25 : Fun := ⟨[.slice Y26, .slice Y10, .slice Y26], [.own (.pure (.int .i64))], fun _ => True, fun x => (liarsF x.1 x.2.1 x.2.2.1, ())⟩
theorem F25_ok : Meets Tryz.prog 25 F25 := by
 refine meets_of_vc (C := mkC 57 [6] [0,1,2,6,7,8,9,11,12,13,14,15,16,17,18,24,25,26,27,39,45,46,47,50] [⟨72, _, F72_ok⟩, ⟨29, _, F29_ok⟩]) (mkC_ok _ _ _ _) (fnOf_ok _) Tryz.func25 rfl rfl rfl (by decide) rfl ?_
 rintro ⟨a0, a1, a2, _⟩ hwf hpre ⟨P, C, B, X, w0, M0, pv⟩ hG rfl rfl
 show Vc _ _ [(0, ⟨0, 0, .c Z30 a0⟩), (1, ⟨0, 0, .c Z18 a1⟩), (2, ⟨0, 0, .c Z30 a2⟩)] _
 have hb : List.length a2 ≤ bigLen := hwf.2.2.1.1
 refine Vc.seq (Vc.region hG rfl (by trivial) (Vc.seq (Vc.region hG rfl (by trivial) ?_)))
 refine Vc.seq (Vc.seq (Vc.region hG rfl (by trivial) (Vc.block ?_)))
 refine Vc.loopF [(7, true, .pure (.arr 100 (.bool))), (17, false, .pure (.int .i64))] [0, 1, 2, 6, 12, 13, 14, 15, 16, 45, 46, 47, 50] (fun v => laInv (contraryF a0 a1) a2 v.1 v.2.1) (fun v => ((List.length a2 : Int) - v.2.1).toNat) rfl ?_ ?_
 · exact laStart
 rintro ⟨xs, (i : Int), _⟩ hM
 have hM : laInv (contraryF a0 a1) a2 xs i := hM
 refine Vc.seq (Vc.region hG rfl (by trivial) (Vc.seq ?_))
 refine Vc.cond rfl (fun h0 => ?_) (fun h0 => ?_)
 · have hl : i < (List.length a2 : Int) := of_decide_eq_true h0
   have hr := upRange hM.1 hl
   have hin : (i.toNat : Int) = i := by have := hr.1; omega
   have hi9 : (i.toNat : Int) ≤ 9223372036854775806 := by have := hr.2; unfold bigLen at hb; omega
   have hsl : (List.length (subL a2 0 i) : Int) = (i.toNat : Int) := by rw [sub0L hr]
   refine Vc.skip (Vc.seq (Vc.block (Vc.seq ?_)))
   refine Vc.region hG rfl ?_ ?_
   · exact hr
   refine Vc.seq ?_
   refine Vc.region hG rfl ?_ ?_
   · exact ⟨Int.le_refl _, hr.1, Int.le_of_lt hr.2⟩
   refine Vc.block ?_
   refine Vc.loopF [(7, true, .pure (.arr 100 (.bool))), (26, false, .pure (.int .i64))] [0, 1, 2, 6, 8, 9, 12, 13, 14, 15, 16, 17, 18, 24, 25, 45, 46, 47, 50] (fun v => lbInv (contraryF a0 a1) a2 i.toNat v.1 v.2.1) (fun v => ((i.toNat : Int) - v.2.1).toNat) rfl ?_ ?_
   · exact lbStart hM
   rintro ⟨ys, (k : Int), _⟩ hK
   have hK : lbInv (contraryF a0 a1) a2 i.toNat ys k := hK
   refine Vc.seq (Vc.region hG rfl (by trivial) (Vc.seq ?_))
   refine Vc.cond rfl (fun h1 => ?_) (fun h1 => ?_)
   · have hk : k < (i.toNat : Int) := by rw [← hsl]; exact of_decide_eq_true h1
     have hrk : inRange k (List.length (subL a2 0 i)) := ⟨hK.1, by rw [hsl]; exact hk⟩
     have hsg := sub0G hr hK.1 hk
     refine Vc.skip (Vc.seq (Vc.block (Vc.seq ?_)))
     refine Vc.region hG rfl ?_ ?_
     · exact hrk
     refine Vc.seq ?_
     refine Vc.region hG rfl ?_ ?_
     · repeat' (first | exact trivial | refine And.intro ?_ ?_ | intro _)
     refine Vc.cond rfl (fun h2 => ?_) (fun h2 => ?_)
     · have g2 : pick2 (inRangeF (stAt a2 i.toNat).1 0 99) (contraryF a0 a1 (stAt a2 i.toNat) (stAt a2 k.toNat)) false = true := by rw [← hsg]; exact h2
       have ga := rg (x := (stAt a2 i.toNat).1) (a := 0) (b := 99) (by rw [(andT g2).1]; rfl)
       refine Vc.region hG rfl ?_ ?_
       · exact ⟨⟨ga.1, by have := ga.2; show (stAt a2 i.toNat).1 < 100; omega⟩, (show (stAt a2 i.toNat).1.toNat < ys.length from by rw [hK.2.2.1]; have := ga.2; omega)⟩
       refine Vc.region hG rfl (by trivial) ?_
       refine ⟨rfl, ?_⟩
       first
         | exact lbYes hK hi9 hk g2
         | exact lbNo hK hi9 hk g2
     · have g2 : pick2 (inRangeF (stAt a2 i.toNat).1 0 99) (contraryF a0 a1 (stAt a2 i.toNat) (stAt a2 k.toNat)) false = false := by rw [← hsg]; exact h2
       refine Vc.skip (Vc.region hG rfl (by trivial) ?_)
       refine ⟨rfl, ?_⟩
       first
         | exact lbYes hK hi9 hk g2
         | exact lbNo hK hi9 hk g2
   · have hk : ¬ k < (i.toNat : Int) := by rw [← hsl]; exact of_decide_eq_false h1
     refine Vc.exit (Vc.region hG rfl (by trivial) ?_)
     refine ⟨rfl, ?_⟩
     exact laNext hM hl hb hK hk
 · have hl : ¬ i < (List.length a2 : Int) := of_decide_eq_false h0
   have hall := laEnd hM hl
   refine Vc.exit (Vc.seq (Vc.region hG rfl (by trivial) (Vc.seq ?_)))
   refine Vc.seq (Vc.region hG rfl (by trivial) (Vc.block ?_))
   refine Vc.loopF [(12, false, .own (.pure (.int .i64))), (46, false, .pure (.int .i64))] [0, 1, 2, 6, 7, 8, 9, 11, 15, 16, 17, 18, 24, 25, 26, 27, 39, 45] (fun v => lpInv (contraryF a0 a1) a2 v.1 v.2.1) (fun v => ((100 : Int) - v.2.1).toNat) rfl ?_ ?_
   · exact lpStart
   rintro ⟨acc, (id : Int), _⟩ hP
   have hP : lpInv (contraryF a0 a1) a2 acc id := hP
   refine Vc.seq (Vc.region hG rfl (by trivial) (Vc.seq ?_))
   refine Vc.cond rfl (fun h3 => ?_) (fun h3 => ?_)
   · have hz : id < 100 := of_decide_eq_true h3
     refine Vc.skip (Vc.seq (Vc.block (Vc.seq ?_)))
     refine Vc.region hG rfl ?_ ?_
     · exact lzRange hP hz
     refine Vc.seq (Vc.region hG rfl (by trivial) ?_)
     refine Vc.cond rfl (fun h4 => ?_) (fun h4 => ?_)
     · have g4 : List.getD xs id.toNat false = true := h4
       refine Vc.region hG rfl ?_ ?_
       · exact lpLen hP
       refine Vc.region hG rfl (by trivial) ?_
       refine ⟨rfl, ?_⟩
       first
         | exact lzYes hP hz hall g4
         | exact lzNo hP hz hall g4
     · have g4 : List.getD xs id.toNat false = false := h4
       refine Vc.skip (Vc.region hG rfl (by trivial) ?_)
       refine ⟨rfl, ?_⟩
       first
         | exact lzYes hP hz hall g4
         | exact lzNo hP hz hall g4
   · have hz : ¬ id ≤ 99 := by have : ¬ id < 100 := of_decide_eq_false h3; omega
     refine Vc.exit (Vc.seq (Vc.region hG rfl (by trivial) (Vc.ret ?_)))
     refine ⟨?_, trivial⟩
     exact lpEnd hP hz
noncomputable def F27 : Fun := ⟨[.slice Y26, .slice Y10, .pair Y26 Y26, .int .i64], [.pure (.bool)], fun _ => True, fun x => (isProofF x.1 x.2.1 x.2.2.1 x.2.2.2.1, ())⟩
theorem F27_ok : Meets Tryz.prog 27 F27 := by
 refine meets_of_vc (C := mkC 23 [8] [0,1,2,3,6,8] [⟨29, _, F29_ok⟩]) (mkC_ok _ _ _ _) (fnOf_ok _) Tryz.func27 rfl rfl rfl (by decide) rfl ?_
 rintro ⟨a0, a1, a2, (a3 : Int), _⟩ hwf hpre ⟨P, C, B, X, w0, M0, pv⟩ hG rfl rfl
 show Vc _ _ [(0, ⟨0, 0, .c Z30 a0⟩), (1, ⟨0, 0, .c Z18 a1⟩), (2, ⟨0, 0, .c (.pure Y45) a2⟩), (3, ⟨0, 0, .c (.pure (.int .i64)) a3⟩)] _
 refine Vc.seq (Vc.region hG rfl (by trivial) (Vc.seq (Vc.region hG rfl (by trivial) ?_)))
 refine Vc.ret ?_
 refine ⟨?_, trivial⟩
 exact isProof_i a0 a1 a2 a3
noncomputable def K77 : KFun := ⟨.own Z27, [.slice Y26], fun x xs => (fun (x : List Stamp) (l : List Stamp) => List.length x ≤ 4100000000 ∧ List.length l ≤ 1048576) x xs.1, fun x xs => stAdd x xs.1⟩
theorem K77_ok : MeetsK Tryz.prog 77 K77 := by
 refine meetsK_of_vc (C := mkCM 34 [] [0,1,4,5,7,8,9,10,11,14,15,16,17,28] [] [] [] [1]) (mkCM_ok _ _ _ _ _ _ _) (fnOf_ok _) Tryz.func77 rfl rfl rfl (by decide) rfl rfl rfl ?_ rfl
 rintro x ⟨a0, _⟩ hwx hwf hpre ⟨P, C, B, X, w0, M0, pv⟩ hG rfl rfl
 show Vc _ _ [(1, ⟨0, 0, .c (.ref Z29) x⟩), (0, ⟨0, 0, .c Z30 a0⟩)] _
 have hx : List.length x ≤ 4100000000 := hpre.1
 have hs : List.length a0 ≤ 1048576 := hpre.2
 have hb : List.length a0 ≤ bigLen := by unfold bigLen; omega
 refine Vc.seq (Vc.region hG rfl (by trivial) (Vc.block ?_))
 refine Vc.loopF [(1, true, .own Z27), (10, false, .pure (.int .i64))] [0, 8, 9] (fun v => foInv (newG sEq) x a0 v.1 v.2.1) (fun v => ((List.length a0 : Int) - v.2.1).toNat) rfl ?_ ?_
 · exact foStart
 rintro ⟨acc, (i : Int), _⟩ hI
 have hI : foInv (newG sEq) x a0 acc i := hI
 have hA := adLen hI hx hs
 refine Vc.seq (Vc.region hG rfl (by trivial) (Vc.seq ?_))
 refine Vc.cond rfl (fun h0 => ?_) (fun h0 => ?_)
 · have hl : i < (List.length a0 : Int) := of_decide_eq_true h0
   refine Vc.skip (Vc.seq (Vc.block (Vc.seq ?_)))
   refine Vc.region hG rfl ?_ ?_
   · exact foRange hI hl
   refine Vc.seq (Vc.region hG rfl (by trivial) (Vc.seq (Vc.seq ?_)))
   refine Vc.region hG rfl (by trivial) (Vc.block ?_)
   refine Vc.loopF [(5, false, .pure (.bool)), (16, false, .pure (.int .i64))] [0, 1, 4, 8, 9, 10, 11, 14, 15, 28] (fun v => exInv (fun (y : Stamp) => sEq y (List.getD a0 i.toNat (dflt Y26))) acc v.1 v.2.1) (fun v => ((List.length acc : Int) - v.2.1).toNat) rfl ?_ ?_
   · exact exStart
   rintro ⟨b, (k : Int), _⟩ hK
   have hK : exInv (fun (y : Stamp) => sEq y (List.getD a0 i.toNat (dflt Y26))) acc b k := hK
   refine Vc.seq (Vc.region hG rfl (by trivial) (Vc.seq ?_))
   refine Vc.cond rfl (fun h1 => ?_) (fun h1 => ?_)
   · have hm : k < (List.length acc : Int) := of_decide_eq_true h1
     refine Vc.skip (Vc.seq (Vc.block (Vc.seq ?_)))
     refine Vc.region hG rfl ?_ ?_
     · exact exRange hK hm
     refine Vc.region hG rfl (by trivial) (Vc.region hG rfl (by trivial) ?_)
     refine ⟨rfl, ?_⟩
     exact exStep (d := dflt Y26) hK hm (adBig hA) rfl
   · have hm : ¬ k < (List.length acc : Int) := of_decide_eq_false h1
     have hE := exEnd hK hm
     refine Vc.exit (Vc.seq (Vc.region hG rfl (by trivial) ?_))
     refine Vc.cond rfl (fun h2 => ?_) (fun h2 => ?_)
     · have st := foStepE (d := dflt Y26) hI hl hb (newY hE h2)
       refine Vc.region hG rfl ?_ ?_
       · exact adApp hA
       refine Vc.region hG rfl (by trivial) ?_
       refine ⟨rfl, ?_⟩
       exact st
     · have st := foStepE (d := dflt Y26) hI hl hb (newN hE h2)
       refine Vc.skip (Vc.region hG rfl (by trivial) ?_)
       refine ⟨rfl, ?_⟩
       exact st
 · have hl : ¬ i < (List.length a0 : Int) := of_decide_eq_false h0
   refine Vc.exit ?_
   refine ⟨?_, trivial⟩
   exact foEnd hI hl
noncomputable def F31 : Fun := ⟨[.pair Y54 Y31], [.own Z27], fun x => (fun (e : Evidence) => Sm big20 Y56 e ∧ ((cellsC Y56 e : Nat) : Int) ≤ 2000000000) x.1, fun x => (stampsOfF x.1, ())⟩
theorem F31_ok : Meets Tryz.prog 31 F31 := by
 refine meets_of_vc (C := mkCK 44 [2] [0,1,2,3,4,6,8,10,13,14,15,16,20,21,22,23,33,34,35,36] [] [] [] [⟨77, _, K77_ok⟩] []) (mkCK_ok _ _ _ _ _ _ _ _) (fnOf_ok _) Tryz.func31 rfl rfl rfl (by decide) rfl ?_
 rintro ⟨a0, _⟩ hwf hpre ⟨P, C, B, X, w0, M0, pv⟩ hG rfl rfl
 show Vc _ _ [(0, ⟨0, 0, .c (.pure Y56) a0⟩)] _
 have hS : Sm big20 Y54 a0.1 := hpre.1.1
 have hT : Sm big20 (.slice (.slice TStamp)) a0.2 := hpre.1.2
 have hc : ((cellsC TEv a0 : Nat) : Int) ≤ 2000000000 := hpre.2
 have hb : List.length a0.1 ≤ bigLen := hwf.1.1.1
 have hb2 : List.length a0.2 ≤ bigLen := hwf.1.2.1
 refine Vc.seq (Vc.region hG rfl (by trivial) (Vc.seq (Vc.region hG rfl (by trivial) ?_)))
 refine Vc.seq (Vc.region hG rfl (by trivial) (Vc.seq (Vc.seq ?_)))
 refine Vc.region hG rfl (by trivial) (Vc.block ?_)
 refine Vc.loopC 4 77 3 [(3, true, .own Z27), (15, false, .pure (.int .i64))] [0, 1, 2, 10, 13, 14, 33, 34, 35, 36] (fun v => foInv stStr [] a0.1 v.1 v.2.1) (fun v => ((List.length a0.1 : Int) - v.2.1).toNat) rfl rfl (fun _ => rfl) ?_ rfl ?_
 · exact foStart
 rintro ⟨acc, (i : Int), _⟩ hI
 have hI : foInv stStr [] a0.1 acc i := hI
 refine Vc.seq (Vc.region hG rfl (by trivial) (Vc.seq ?_))
 refine Vc.cond rfl (fun h0 => ?_) (fun h0 => ?_)
 · have hl : i < (List.length a0.1 : Int) := of_decide_eq_true h0
   have ri := foRange hI hl
   have sS : Sm big20 Y52 (List.getD a0.1 i.toNat (dflt Y52)) := hS.2 _ (getD_mem ri _)
   have hbk : List.length (List.getD a0.1 i.toNat (dflt Y52)).2 ≤ bigLen := Nat.le_trans sS.2.1 (by decide)
   refine Vc.skip (Vc.seq (Vc.block (Vc.seq ?_)))
   refine Vc.region hG rfl ?_ ?_
   · exact ri
   refine Vc.seq (Vc.region hG rfl (by trivial) (Vc.block ?_))
   refine Vc.loopC 4 77 3 [(3, true, .own Z27), (22, false, .pure (.int .i64))] [0, 1, 2, 6, 10, 13, 14, 15, 16, 20, 21, 33, 34, 35, 36] (fun v => foInv stRen acc (List.getD a0.1 i.toNat (dflt Y52)).2 v.1 v.2.1) (fun v => ((List.length (List.getD a0.1 i.toNat (dflt Y52)).2 : Int) - v.2.1).toNat) rfl rfl (fun _ => rfl) ?_ rfl ?_
   · exact foStart
   rintro ⟨ac2, (k : Int), _⟩ hK
   have hK : foInv stRen acc (List.getD a0.1 i.toNat (dflt Y52)).2 ac2 k := hK
   refine Vc.seq (Vc.region hG rfl (by trivial) (Vc.seq ?_))
   refine Vc.cond rfl (fun h1 => ?_) (fun h1 => ?_)
   · have hm : k < (List.length (List.getD a0.1 i.toNat (dflt Y52)).2 : Int) := of_decide_eq_true h1
     have rk := foRange hK hm
     have sR : List.length (List.getD (List.getD a0.1 i.toNat (dflt Y52)).2 k.toNat (dflt Y46)).2.2.2.2 ≤ 1048576 := (sS.2.2 _ (getD_mem rk _)).2.2.2.2.1
     refine Vc.skip (Vc.seq (Vc.block (Vc.seq ?_)))
     refine Vc.region hG rfl ?_ ?_
     · exact rk
     refine Vc.region hG rfl ?_ ?_
     · exact ⟨soLen2 hc hI hl hK, sR⟩
     refine Vc.region hG rfl (by trivial) ?_
     refine ⟨rfl, rfl, ?_⟩
     exact foStepE (d := dflt Y46) hK hm hbk rfl
   · have hm : ¬ k < (List.length (List.getD a0.1 i.toNat (dflt Y52)).2 : Int) := of_decide_eq_false h1
     refine Vc.exit (Vc.region hG rfl (by trivial) ?_)
     refine ⟨rfl, rfl, ?_⟩
     exact foStepE (d := dflt Y52) hI hl hb (foEnd hK hm)
 · have hl : ¬ i < (List.length a0.1 : Int) := of_decide_eq_false h0
   have eI := foEnd hI hl
   refine Vc.exit (Vc.seq (Vc.seq (Vc.region hG rfl (by trivial) ?_)))
   refine Vc.block ?_
   refine Vc.loopC 4 77 3 [(3, true, .own Z27), (35, false, .pure (.int .i64))] [0, 1, 2, 6, 8, 13, 14, 15, 16, 20, 21, 22, 23, 33, 34] (fun v => foInv stAdd (List.foldl stStr [] a0.1) a0.2 v.1 v.2.1) (fun v => ((List.length a0.2 : Int) - v.2.1).toNat) rfl rfl (fun _ => rfl) ?_ rfl ?_
   · rw [eI]; exact foStart
   rintro ⟨ac3, (j : Int), _⟩ hJ
   have hJ : foInv stAdd (List.foldl stStr [] a0.1) a0.2 ac3 j := hJ
   refine Vc.seq (Vc.region hG rfl (by trivial) (Vc.seq ?_))
   refine Vc.cond rfl (fun h2 => ?_) (fun h2 => ?_)
   · have hj : j < (List.length a0.2 : Int) := of_decide_eq_true h2
     have rj := foRange hJ hj
     have sJ : List.length (List.getD a0.2 j.toNat (dflt (.slice TStamp))) ≤ 1048576 := (hT.2 _ (getD_mem rj _)).1
     refine Vc.skip (Vc.seq (Vc.block (Vc.seq ?_)))
     refine Vc.region hG rfl ?_ ?_
     · exact rj
     refine Vc.region hG rfl ?_ ?_
     · exact ⟨soLen3 hc hJ, sJ⟩
     refine Vc.region hG rfl (by trivial) ?_
     refine ⟨rfl, rfl, ?_⟩
     exact foStepE (d := dflt (.slice TStamp)) hJ hj hb2 rfl
   · have hj : ¬ j < (List.length a0.2 : Int) := of_decide_eq_false h2
     refine Vc.exit (Vc.seq (Vc.region hG rfl (by trivial) (Vc.ret ?_)))
     refine ⟨?_, trivial⟩
     exact foEnd hJ hj
end Fw
