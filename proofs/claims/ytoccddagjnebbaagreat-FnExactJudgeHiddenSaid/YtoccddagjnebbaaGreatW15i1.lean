/- Walks of functions of the program: what each computes. Conditions: those that each contract names. -/
import Derived.Test.YtoccddagjnebbaaGreatW15T
import Derived.Test.YtoccddagjnebbaaGreatW15i0
namespace Fw
open Go Go.Proofs
set_option linter.unusedSimpArgs false
set_option maxRecDepth 100000
noncomputable def F327 : Fun := ⟨[.int .i64, .pair (.int .i64) Y58], [.pure (.int .i64)], fun x => (fun (_ : Int) (r : Renewal) => Sm big20 TRen r) x.1 x.2.1, fun x => (renDigF x.1 x.2.1, ())⟩
theorem F327_ok : Meets Tryz.prog 327 F327 := by
 refine meets_of_vc (C := mkC 59 [4] [0,1,3,4,5,7,8,10,19,20,21,22,26,41,42,43,44] [⟨249, _, F249_ok⟩, ⟨182, _, F182_ok⟩]) (mkC_ok _ _ _ _) (fnOf_ok _) Tryz.func327 rfl rfl rfl (by decide) rfl ?_
 rintro ⟨(a0 : Int), a1, _⟩ hwf hpre ⟨P, C, B, X, w0, M0, pv⟩ hG rfl rfl
 show Vc _ _ [(0, ⟨0, 0, .c (.pure (.int .i64)) a0⟩), (1, ⟨0, 0, .c Z62 a1⟩)] _
 have hp : Sm big20 TRen a1 := hpre
 have h3 : List.length a1.2.2.2.1 ≤ 1048576 := hp.2.2.2.1.1
 have h4 : List.length a1.2.2.2.2 ≤ 1048576 := hp.2.2.2.2.1
 have hb0 : List.length a1.2.2.2.1 ≤ bigLen := hwf.2.1.2.2.2.1.1
 have hb1 : List.length a1.2.2.2.2 ≤ bigLen := hwf.2.1.2.2.2.2.1
 refine Vc.seq (Vc.region hG rfl (by trivial) (Vc.seq (Vc.region hG rfl (by trivial) ?_)))
 refine Vc.seq (Vc.seq (Vc.region hG rfl (by trivial) (Vc.block ?_)))
 refine Vc.loopF [(5, false, .own (.pure (.int .i64))), (21, false, .pure (.int .i64))] [0, 1, 3, 4, 10, 19, 20, 41, 42, 43, 44] (fun v => gsInv (stepG a1) [4, a1.1, a1.2.1, a1.2.2.1] a1.2.2.2.1 v.1 v.2.1) (fun v => ((List.length a1.2.2.2.1 : Int) - v.2.1).toNat) rfl ?_ ?_
 · exact gsStart
 rintro ⟨acc, (i : Int), _⟩ hI0
 have hI0 : gsInv (stepG a1) [4, a1.1, a1.2.1, a1.2.2.1] a1.2.2.2.1 acc i := hI0
 have hA : List.length acc ≤ 2097156 := gsLen (c := 2) (m := 1048576) hI0 (fun _ => Nat.le_refl _) h3 (by simp)
 refine Vc.seq (Vc.region hG rfl (by trivial) (Vc.seq ?_))
 refine Vc.cond rfl (fun h0 => ?_) (fun h0 => ?_)
 · have hl0 : i < (List.length a1.2.2.2.1 : Int) := of_decide_eq_true h0
   refine Vc.skip (Vc.seq (Vc.block (Vc.seq ?_)))
   refine Vc.region hG rfl ?_ ?_
   · exact gsRange hI0 hl0
   refine Vc.seq (Vc.region hG rfl (by trivial) (Vc.seq (Vc.seq ?_)))
   refine Vc.region hG rfl (by trivial) ?_
   refine Vc.cond rfl (fun h1 => ?_) (fun h1 => ?_)
   · have g1 : (List.getD a1.2.2.2.1 i.toNat (dflt TStep)).2 = true := h1
     refine Vc.region hG rfl (by trivial) ?_
     refine Vc.region hG rfl ?_ ?_
     · exact (show List.length acc + 2 ≤ maxApp from by unfold maxApp; omega)
     refine Vc.region hG rfl (by trivial) ?_
     refine ⟨rfl, ?_⟩
     first | exact gsStep hI0 hl0 hb0 (stepYesI g1) | exact gsStep hI0 hl0 hb0 (stepNoI g1)
   · have g1 : (List.getD a1.2.2.2.1 i.toNat (dflt TStep)).2 = false := h1
     refine Vc.skip ?_
     refine Vc.region hG rfl ?_ ?_
     · exact (show List.length acc + 2 ≤ maxApp from by unfold maxApp; omega)
     refine Vc.region hG rfl (by trivial) ?_
     refine ⟨rfl, ?_⟩
     first | exact gsStep hI0 hl0 hb0 (stepYesI g1) | exact gsStep hI0 hl0 hb0 (stepNoI g1)
 · have hl0 : ¬ i < (List.length a1.2.2.2.1 : Int) := of_decide_eq_false h0
   refine Vc.exit (Vc.seq ?_)
   refine Vc.region hG rfl ?_ ?_
   · exact (show List.length acc + 1 ≤ maxApp from by unfold maxApp; omega)
   refine Vc.seq (Vc.seq (Vc.region hG rfl (by trivial) (Vc.block ?_)))
   refine Vc.loopF [(5, false, .own (.pure (.int .i64))), (43, false, .pure (.int .i64))] [0, 1, 3, 4, 7, 8, 19, 20, 21, 22, 26, 41, 42] (fun v => gsInv (stmpG a1) (renMid a1) a1.2.2.2.2 v.1 v.2.1) (fun v => ((List.length a1.2.2.2.2 : Int) - v.2.1).toNat) rfl ?_ ?_
   · exact gsStart2 (renMidEq hI0 hl0)
   rintro ⟨acc2, (i : Int), _⟩ hI1
   have hI1 : gsInv (stmpG a1) (renMid a1) a1.2.2.2.2 acc2 i := hI1
   have hA2 : List.length acc2 ≤ 8388613 := gsLen (c := 6) (m := 1048576) hI1 (fun _ => Nat.le_refl _) h4 (by have := midLen h3; omega)
   refine Vc.seq (Vc.region hG rfl (by trivial) (Vc.seq ?_))
   refine Vc.cond rfl (fun h2 => ?_) (fun h2 => ?_)
   · have hl1 : i < (List.length a1.2.2.2.2 : Int) := of_decide_eq_true h2
     refine Vc.skip (Vc.seq (Vc.block (Vc.seq ?_)))
     refine Vc.region hG rfl ?_ ?_
     · exact gsRange hI1 hl1
     refine Vc.regionD mixed hG rfl (by kernel_rfl) ?_ ?_
     · exact ⟨trivial, (show List.length acc2 + 5 ≤ maxApp from by unfold maxApp; omega), (by show List.length (acc2 ++ stampIntsF (List.getD a1.2.2.2.2 i.toNat (dflt TStamp))) + 1 ≤ maxApp; rw [List.length_append]; show List.length acc2 + 5 + 1 ≤ maxApp; unfold maxApp; omega)⟩
     refine Vc.region hG rfl (by trivial) ?_
     refine ⟨rfl, ?_⟩
     exact gsStep hI1 hl1 hb1 stmpEq
   · have hl1 : ¬ i < (List.length a1.2.2.2.2 : Int) := of_decide_eq_false h2
     refine Vc.exit (Vc.seq ?_)
     refine Vc.region hG rfl ?_ ?_
     · exact (show List.length acc2 ≤ 1000000000 from by omega)
     refine Vc.ret ?_
     refine ⟨?_, trivial⟩
     have e := congrArg (digestF a0) (gsEnd hI1 hl1)
     exact e
noncomputable def F337 : Fun := ⟨[.int .i64, .slice Y21], [.pure (.int .i64)], fun x => (fun (_ : Int) (l : List Piece) => Sm big20 (.slice TPiece) l) x.1 x.2.1, fun x => (piecesF x.1 x.2.1, ())⟩
theorem F337_ok : Meets Tryz.prog 337 F337 := by
 refine meets_of_vc (C := mkC 32 [4] [0,1,4,5,7,9,10,11,12] [⟨182, _, F182_ok⟩]) (mkC_ok _ _ _ _) (fnOf_ok _) Tryz.func337 rfl rfl rfl (by decide) rfl ?_
 rintro ⟨(a0 : Int), a1, _⟩ hwf hpre ⟨P, C, B, X, w0, M0, pv⟩ hG rfl rfl
 show Vc _ _ [(0, ⟨0, 0, .c (.pure (.int .i64)) a0⟩), (1, ⟨0, 0, .c Z28 a1⟩)] _
 have hp : List.length a1 ≤ big20 ∧ ∀ x ∈ a1, Sm big20 TPiece x := hpre
 have hL : List.length a1 ≤ 1048576 := hp.1
 have hb : List.length a1 ≤ bigLen := hwf.2.1.1
 refine Vc.seq (Vc.region hG rfl (by trivial) (Vc.seq (Vc.region hG rfl (by trivial) ?_)))
 refine Vc.seq (Vc.seq (Vc.region hG rfl (by trivial) (Vc.block ?_)))
 refine Vc.loopF [(5, false, .own (.pure (.int .i64))), (11, false, .pure (.int .i64))] [0, 1, 4, 9, 10] (fun v => gsInv (piecesG a0 a1) [2] a1 v.1 v.2.1) (fun v => ((List.length a1 : Int) - v.2.1).toNat) rfl ?_ ?_
 · exact gsStart
 rintro ⟨acc, (i : Int), _⟩ hI
 have hI : gsInv (piecesG a0 a1) [2] a1 acc i := hI
 have hA : List.length acc ≤ 1048577 := gsLen (c := 1) (m := 1048576) hI (fun _ => Nat.le_refl _) hL (by simp)
 refine Vc.seq (Vc.region hG rfl (by trivial) (Vc.seq ?_))
 refine Vc.cond rfl (fun h0 => ?_) (fun h0 => ?_)
 · have hl : i < (List.length a1 : Int) := of_decide_eq_true h0
   have hE : List.length (List.getD a1 i.toNat (dflt TPiece)).2.1 ≤ 1048576 := (hp.2 _ (upElem hI.1 hl)).2.1.1
   refine Vc.skip (Vc.seq (Vc.block (Vc.seq ?_)))
   refine Vc.region hG rfl ?_ ?_
   · exact gsRange hI hl
   refine Vc.region hG rfl ?_ ?_
   · exact ⟨(show 2 + List.length (List.getD a1 i.toNat (dflt TPiece)).2.1 ≤ maxApp from by unfold maxApp; omega), (show List.length (List.getD a1 i.toNat (dflt TPiece)).2.1 + 2 ≤ 1000000000 from by omega), (show List.length acc + 1 ≤ maxApp from by unfold maxApp; omega)⟩
   refine Vc.region hG rfl (by trivial) ?_
   refine ⟨rfl, ?_⟩
   exact gsStep hI hl hb rfl
 · have hl : ¬ i < (List.length a1 : Int) := of_decide_eq_false h0
   refine Vc.exit (Vc.seq ?_)
   refine Vc.region hG rfl ?_ ?_
   · exact (show List.length acc ≤ 1000000000 from by omega)
   refine Vc.ret ?_
   refine ⟨?_, trivial⟩
   have e := congrArg (digestF a0) (gsEnd hI hl)
   exact e
noncomputable def F328 : Fun := ⟨[.int .i64, .int .i64, .slice Y21, .int .i64], [.pure (.int .i64)], fun x => (fun (_ _ : Int) (l : List Piece) (_ : Int) => Sm big20 (.slice TPiece) l) x.1 x.2.1 x.2.2.1 x.2.2.2.1, fun x => (leafOfF x.1 x.2.1 x.2.2.1 x.2.2.2.1, ())⟩
theorem F328_ok : Meets Tryz.prog 328 F328 := by
 refine meets_of_vc (C := mkC 17 [8] [0,1,2,3,8] [⟨337, _, F337_ok⟩, ⟨182, _, F182_ok⟩]) (mkC_ok _ _ _ _) (fnOf_ok _) Tryz.func328 rfl rfl rfl (by decide) rfl ?_
 rintro ⟨(a0 : Int), (a1 : Int), a2, (a3 : Int), _⟩ hwf hpre ⟨P, C, B, X, w0, M0, pv⟩ hG rfl rfl
 show Vc _ _ [(0, ⟨0, 0, .c (.pure (.int .i64)) a0⟩), (1, ⟨0, 0, .c (.pure (.int .i64)) a1⟩), (2, ⟨0, 0, .c Z28 a2⟩), (3, ⟨0, 0, .c (.pure (.int .i64)) a3⟩)] _
 have hp : Sm big20 (.slice TPiece) a2 := hpre
 refine Vc.seq (Vc.region hG rfl (by trivial) (Vc.seq ?_))
 refine Vc.region hG rfl ?_ ?_
 · exact ⟨hp, smallLit (n := 4) rfl (by decide)⟩
 refine Vc.ret ?_
 refine ⟨?_, trivial⟩
 all_goals exact rfl
noncomputable def F316 : Fun := ⟨[.pair Y25 Y64, .slice (.int .i64), .int .i64], [.pure (.int .i64)], fun x => (fun (s : Strand) (_ : List Int) (_ : Int) => Sm big20 (.slice TPiece) s.1 ∧ ∀ r ∈ s.2, Sm big20 TRen r) x.1 x.2.1 x.2.2.1, fun x => (leafAtF x.1 x.2.1 x.2.2.1, ())⟩
theorem F316_ok : Meets Tryz.prog 316 F316 := by
 refine meets_of_vc (C := mkC 66 [6] [0,1,2,3,6,7,8,36,43] [⟨147, _, F147_ok⟩, ⟨327, _, F327_ok⟩, ⟨328, _, F328_ok⟩]) (mkC_ok _ _ _ _) (fnOf_ok _) Tryz.func316 rfl rfl rfl (by decide) rfl ?_
 rintro ⟨a0, a1, (a2 : Int), _⟩ hwf hpre ⟨P, C, B, X, w0, M0, pv⟩ hG rfl rfl
 show Vc _ _ [(0, ⟨0, 0, .c Z70 a0⟩), (1, ⟨0, 0, .c Z2 a1⟩), (2, ⟨0, 0, .c (.pure (.int .i64)) a2⟩)] _
 have hP : Sm big20 (.slice TPiece) a0.1 := hpre.1
 have hR : ∀ r ∈ a0.2, Sm big20 TRen r := hpre.2
 have hb : List.length a0.2 ≤ bigLen := hwf.1.2.1
 refine Vc.seq (Vc.region hG rfl (by trivial) (Vc.seq (Vc.seq ?_)))
 refine Vc.regionD mixed hG rfl (by kernel_rfl) ?_ ?_
 · exact ⟨trivial, fun h => laIdx (orF h).1 hb, fun _ => trivial⟩
 refine Vc.cond rfl (fun h0 => ?_) (fun h0 => ?_)
 · have g0 : leafAtBad a0 a1 a2 = true := h0
   refine Vc.seq (Vc.region hG rfl (by trivial) (Vc.ret ?_))
   refine ⟨?_, trivial⟩
   exact la0 g0
 · have g0 : leafAtBad a0 a1 a2 = false := h0
   have k1 := laIdx (orF (orF g0).1).1 hb
   have k2 : (List.length a1 : Int) = (List.length a0.2 : Int) := bneI (orF (orF g0).1).2
   have k3 := rg (orF g0).2
   have k4 : inRange a2 (List.length a1) := ⟨k1.1, by have := k1.2; omega⟩
   refine Vc.skip (Vc.seq ?_)
   refine Vc.region hG rfl ?_ ?_
   · exact k1
   refine Vc.seq (Vc.region hG rfl (by trivial) (Vc.seq (Vc.seq ?_)))
   refine Vc.region hG rfl (by trivial) ?_
   refine Vc.cond rfl (fun h1 => ?_) (fun h1 => ?_)
   · have g1 : a2 > 0 := of_decide_eq_true h1
     refine Vc.regionD mixed hG rfl (by kernel_rfl) ?_ ?_
     · exact ⟨prevIdx k1 g1 hb, hR _ (getD_mem (prevIdx k1 g1 hb) (dflt TRen))⟩
     refine Vc.seq ?_
     refine Vc.regionD mixed hG rfl (by kernel_rfl) ?_ ?_
     · exact ⟨k4, Int.le_refl _, k3.1, k3.2, subL_sm hP⟩
     refine Vc.ret ?_
     refine ⟨?_, trivial⟩
     exact la1 g0 g1
   · have g1 : ¬ a2 > 0 := of_decide_eq_false h1
     refine Vc.skip (Vc.seq ?_)
     refine Vc.regionD mixed hG rfl (by kernel_rfl) ?_ ?_
     · exact ⟨k4, Int.le_refl _, k3.1, k3.2, subL_sm hP⟩
     refine Vc.ret ?_
     refine ⟨?_, trivial⟩
     exact la2 g0 g1
noncomputable def F335 : Fun := ⟨[.int .i64, .int .i64, .int .i64], [.pure (.int .i64)], fun _ => True, fun x => (pairDF x.1 x.2.1 x.2.2.1, ())⟩
theorem F335_ok : Meets Tryz.prog 335 F335 := by
 refine meets_of_vc (C := mkC 12 [6] [0,1,2,6] [⟨182, _, F182_ok⟩]) (mkC_ok _ _ _ _) (fnOf_ok _) Tryz.func335 rfl rfl rfl (by decide) rfl ?_
 rintro ⟨(a0 : Int), (a1 : Int), (a2 : Int), _⟩ hwf hpre ⟨P, C, B, X, w0, M0, pv⟩ hG rfl rfl
 show Vc _ _ [(0, ⟨0, 0, .c (.pure (.int .i64)) a0⟩), (1, ⟨0, 0, .c (.pure (.int .i64)) a1⟩), (2, ⟨0, 0, .c (.pure (.int .i64)) a2⟩)] _
 refine Vc.seq (Vc.region hG rfl (by trivial) (Vc.seq ?_))
 refine Vc.region hG rfl ?_ ?_
 · exact smallLit (n := 3) rfl (by decide)
 refine Vc.ret ?_
 refine ⟨?_, trivial⟩
 all_goals exact rfl
noncomputable def F325 : Fun := ⟨[.int .i64, .int .i64, .slice Y1], [.pure (.int .i64)], fun _ => True, fun x => (followF x.1 x.2.1 x.2.2.1, ())⟩
theorem F325_ok : Meets Tryz.prog 325 F325 := by
 refine meets_of_vc (C := mkC 29 [6] [0,1,2,6,8,9,10,11,12,16] [⟨335, _, F335_ok⟩]) (mkC_ok _ _ _ _) (fnOf_ok _) Tryz.func325 rfl rfl rfl (by decide) rfl ?_
 rintro ⟨(a0 : Int), (a1 : Int), a2, _⟩ hwf hpre ⟨P, C, B, X, w0, M0, pv⟩ hG rfl rfl
 show Vc _ _ [(0, ⟨0, 0, .c (.pure (.int .i64)) a0⟩), (1, ⟨0, 0, .c (.pure (.int .i64)) a1⟩), (2, ⟨0, 0, .c Z13 a2⟩)] _
 have hb : List.length a2 ≤ bigLen := hwf.2.2.1.1
 refine Vc.seq (Vc.region hG rfl (by trivial) (Vc.seq (Vc.seq ?_)))
 refine Vc.region hG rfl (by trivial) (Vc.block ?_)
 refine Vc.loopF [(1, false, .pure (.int .i64)), (11, false, .pure (.int .i64))] [0, 2, 6, 9, 10] (fun v => foInv (flStep a0) a1 a2 v.1 v.2.1) (fun v => ((List.length a2 : Int) - v.2.1).toNat) rfl ?_ ?_
 · exact foStart
 rintro ⟨(acc : Int), (i : Int), _⟩ hI
 have hI : foInv (flStep a0) a1 a2 acc i := hI
 refine Vc.seq (Vc.region hG rfl (by trivial) (Vc.seq ?_))
 refine Vc.cond rfl (fun h0 => ?_) (fun h0 => ?_)
 · have hl : i < (List.length a2 : Int) := of_decide_eq_true h0
   refine Vc.skip (Vc.seq (Vc.block (Vc.seq ?_)))
   refine Vc.region hG rfl ?_ ?_
   · exact foRange hI hl
   refine Vc.seq (Vc.region hG rfl (by trivial) ?_)
   refine Vc.cond rfl (fun h1 => ?_) (fun h1 => ?_)
   · have g1 : (List.getD a2 i.toNat (dflt (.pair TI .bool))).2 = true := h1
     have st := foStepE (d := dflt (.pair TI .bool)) hI hl hb (flL (m := a0) (x := acc) g1).symm
     refine Vc.region hG rfl (by trivial) (Vc.region hG rfl (by trivial) ?_)
     refine ⟨rfl, ?_⟩
     exact st
   · have g1 : (List.getD a2 i.toNat (dflt (.pair TI .bool))).2 = false := h1
     have st := foStepE (d := dflt (.pair TI .bool)) hI hl hb (flR (m := a0) (x := acc) g1).symm
     refine Vc.region hG rfl (by trivial) (Vc.region hG rfl (by trivial) ?_)
     refine ⟨rfl, ?_⟩
     exact st
 · have hl : ¬ i < (List.length a2 : Int) := of_decide_eq_false h0
   refine Vc.exit (Vc.seq (Vc.region hG rfl (by trivial) (Vc.ret ?_)))
   refine ⟨?_, trivial⟩
   exact foEnd hI hl
noncomputable def F159 : Fun := ⟨[.slice Y35], [.pure (.bool)], fun _ => True, fun x => (riseF x.1, ())⟩
theorem F159_ok : Meets Tryz.prog 159 F159 := by
 refine meets_of_vc (C := mkC 22 [2] [0,2,3,7,21] []) (mkC_ok _ _ _ _) (fnOf_ok _) Tryz.func159 rfl rfl rfl (by decide) rfl ?_
 rintro ⟨a0, _⟩ hwf hpre ⟨P, C, B, X, w0, M0, pv⟩ hG rfl rfl
 show Vc _ _ [(0, ⟨0, 0, .c Z40 a0⟩)] _
 have hb : List.length a0 ≤ bigLen := hwf.1.1
 refine Vc.seq (Vc.region hG rfl (by trivial) (Vc.seq (Vc.seq ?_)))
 refine Vc.region hG rfl (by trivial) (Vc.block ?_)
 refine Vc.loopF [(3, false, .pure (.int .i64))] [0] (fun v => riInv a0 v.1) (fun v => ((List.length a0 : Int) - v.1).toNat) rfl ?_ ?_
 · exact riStart
 rintro ⟨(i : Int), _⟩ hI
 have hI : riInv a0 i := hI
 refine Vc.seq (Vc.seq (Vc.region hG rfl (by trivial) ?_))
 refine Vc.cond rfl (fun h0 => ?_) (fun h0 => ?_)
 · have hl : i < (List.length a0 : Int) := of_decide_eq_true h0
   refine Vc.skip (Vc.seq (Vc.block (Vc.seq ?_)))
   refine Vc.regionD mixed hG rfl (by kernel_rfl) ?_ ?_
   · exact ⟨riPrev hI hl hb, riRange hI hl⟩
   refine Vc.cond rfl (fun h1 => ?_) (fun h1 => ?_)
   · have g1 := riseBad hI.1 hl hb h1
     refine Vc.seq (Vc.region hG rfl (by trivial) (Vc.ret ?_))
     refine ⟨?_, trivial⟩
     exact riBad hI hl g1
   · have g1 := riseGood hI.1 hl hb h1
     refine Vc.skip (Vc.region hG rfl (by trivial) ?_)
     refine ⟨rfl, ?_⟩
     exact riStep hI hl hb g1
 · have hl : ¬ i < (List.length a0 : Int) := of_decide_eq_false h0
   refine Vc.exit (Vc.seq (Vc.region hG rfl (by trivial) (Vc.ret ?_)))
   refine ⟨?_, trivial⟩
   exact riEnd hI hl
noncomputable def F336 : Fun := ⟨[.slice Y35, .slice Y15, .pair (.int .i64) Y26], [.pure Y35, .pure (.bool)], fun _ => True, fun x => ((makeStampF x.1 x.2.1 x.2.2.1).1, (makeStampF x.1 x.2.1 x.2.2.1).2, ())⟩
theorem F336_ok : Meets Tryz.prog 336 F336 := by
 refine meets_of_vc (C := mkC 47 [6, 7] [0,1,2,5,6,7,8,9,10,27,42] [⟨250, _, F250_ok⟩, ⟨148, _, F148_ok⟩, ⟨249, _, F249_ok⟩, ⟨237, _, F237_ok⟩]) (mkC_ok _ _ _ _) (fnOf_ok _) Tryz.func336 rfl rfl rfl (by decide) rfl ?_
 rintro ⟨a0, a1, a2, _⟩ hwf hpre ⟨P, C, B, X, w0, M0, pv⟩ hG rfl rfl
 show Vc _ _ [(0, ⟨0, 0, .c Z40 a0⟩), (1, ⟨0, 0, .c Z23 a1⟩), (2, ⟨0, 0, .c Z36 a2⟩)] _
 refine Vc.seq (Vc.region hG rfl (by trivial) (Vc.seq (Vc.region hG rfl (by trivial) ?_)))
 refine Vc.seq (Vc.seq ?_)
 refine Vc.region hG rfl ?_ ?_
 · intro _; exact trivial
 refine Vc.cond rfl (fun h0 => ?_) (fun h0 => ?_)
 · have g0 : stampBad a1 a2 = true := h0
   refine Vc.seq (Vc.region hG rfl (by trivial) (Vc.ret ?_))
   have e := ms_1 (keys := a0) g0
   refine ⟨?_, ?_, trivial⟩
   · exact (congrArg Prod.fst e).symm
   · exact (congrArg Prod.snd e).symm
 · have g0 : stampBad a1 a2 = false := h0
   refine Vc.skip (Vc.seq ?_)
   refine Vc.regionD mixed hG rfl (by kernel_rfl) ?_ ?_
   · exact ⟨bad_idx g0, trivial, smallLit (n := 5) rfl (by decide)⟩
   refine Vc.seq (Vc.seq (Vc.region hG rfl (by trivial) ?_))
   refine Vc.cond rfl (fun h1 => ?_) (fun h1 => ?_)
   · have g1 : keyI a0 (authAt a1 a2.1).2.1 < 0 := mb_no h1
     refine Vc.seq (Vc.region hG rfl (by trivial) (Vc.ret ?_))
     have e := ms_2 (keys := a0) g0 g1
     refine ⟨?_, ?_, trivial⟩
     · exact (congrArg Prod.fst e).symm
     · exact (congrArg Prod.snd e).symm
   · have k1 : (!(markByF a0 (authAt a1 a2.1).2.1 (stampIntsF a2)).2) = false := h1
     have g1 : ¬ keyI a0 (authAt a1 a2.1).2.1 < 0 := mb_ok k1
     refine Vc.skip (Vc.seq (Vc.region hG rfl (by trivial) (Vc.seq ?_)))
     refine Vc.region hG rfl (by trivial) (Vc.ret ?_)
     have e := ms_3 (keys := a0) g0 g1
     have e2 := markBy_yes (l := stampIntsF a2) g1
     refine ⟨?_, ?_, trivial⟩
     · refine Eq.trans ?_ (congrArg Prod.fst e).symm
       exact congrArg (fun m => (a2.1, a2.2.1, a2.2.2.1, a2.2.2.2.1, m)) (congrArg Prod.fst e2)
     · exact (congrArg Prod.snd e).symm
noncomputable def F326 : Fun := ⟨[.slice Y35, .slice Y15, .pair (.int .i64) Y26], [.pure (.bool)], fun _ => True, fun x => (checkStampF x.1 x.2.1 x.2.2.1, ())⟩
theorem F326_ok : Meets Tryz.prog 326 F326 := by
 refine meets_of_vc (C := mkC 22 [6] [0,1,2,5,6,7,8] [⟨336, _, F336_ok⟩]) (mkC_ok _ _ _ _) (fnOf_ok _) Tryz.func326 rfl rfl rfl (by decide) rfl ?_
 rintro ⟨a0, a1, a2, _⟩ hwf hpre ⟨P, C, B, X, w0, M0, pv⟩ hG rfl rfl
 show Vc _ _ [(0, ⟨0, 0, .c Z40 a0⟩), (1, ⟨0, 0, .c Z23 a1⟩), (2, ⟨0, 0, .c Z36 a2⟩)] _
 refine Vc.seq (Vc.region hG rfl (by trivial) (Vc.seq (Vc.region hG rfl (by trivial) ?_)))
 refine Vc.seq (Vc.region hG rfl (by trivial) (Vc.ret ?_))
 refine ⟨?_, trivial⟩
 all_goals exact rfl
noncomputable def F315 : Fun := ⟨[.slice Y35, .slice Y15, .pair (.int .i64) Y58, .int .i64], [.pure (.bool)], fun _ => True, fun x => (checkRenF x.1 x.2.1 x.2.2.1 x.2.2.2.1, ())⟩
theorem F315_ok : Meets Tryz.prog 315 F315 := by
 refine meets_of_vc (C := mkC 59 [8] [0,1,2,3,6,8,10,38,40,41,42,43,57] [⟨325, _, F325_ok⟩, ⟨147, _, F147_ok⟩, ⟨159, _, F159_ok⟩, ⟨326, _, F326_ok⟩]) (mkC_ok _ _ _ _) (fnOf_ok _) Tryz.func315 rfl rfl rfl (by decide) rfl ?_
 rintro ⟨a0, a1, a2, (a3 : Int), _⟩ hwf hpre ⟨P, C, B, X, w0, M0, pv⟩ hG rfl rfl
 show Vc _ _ [(0, ⟨0, 0, .c Z40 a0⟩), (1, ⟨0, 0, .c Z23 a1⟩), (2, ⟨0, 0, .c Z62 a2⟩), (3, ⟨0, 0, .c (.pure (.int .i64)) a3⟩)] _
 have hb : List.length a2.2.2.2.2 ≤ bigLen := hwf.2.2.1.2.2.2.2.1
 refine Vc.seq (Vc.region hG rfl (by trivial) (Vc.seq (Vc.seq ?_)))
 refine Vc.regionD mixed hG rfl (by kernel_rfl) ?_ ?_
 · repeat' (first | exact trivial | refine And.intro ?_ ?_ | intro _)
 refine Vc.cond rfl (fun h0 => ?_) (fun h0 => ?_)
 · have g0 := cr0I (keys := a0) (l := a1) (r := a2) (leaf := a3) h0
   refine Vc.seq (Vc.region hG rfl (by trivial) (Vc.ret ?_))
   refine ⟨?_, trivial⟩
   exact g0
 · have g0 := (crPreI rfl).1 h0
   refine Vc.skip (Vc.seq (Vc.seq (Vc.region hG rfl (by trivial) ?_)))
   refine Vc.block ?_
   refine Vc.loopF [(42, false, .pure (.int .i64))] [0, 1, 2, 3, 6, 38, 40, 41] (fun v => kInv (crG a0 a1 a2) a2.2.2.2.2 v.1) (fun v => ((List.length a2.2.2.2.2 : Int) - v.1).toNat) rfl ?_ ?_
   · exact kStart
   rintro ⟨(i : Int), _⟩ hI
   have hI : kInv (crG a0 a1 a2) a2.2.2.2.2 i := hI
   refine Vc.seq (Vc.region hG rfl (by trivial) (Vc.seq ?_))
   refine Vc.cond rfl (fun h1 => ?_) (fun h1 => ?_)
   · have hl : i < (List.length a2.2.2.2.2 : Int) := of_decide_eq_true h1
     refine Vc.skip (Vc.seq (Vc.block (Vc.seq ?_)))
     refine Vc.region hG rfl ?_ ?_
     · exact kRange hI hl
     refine Vc.seq ?_
     refine Vc.region hG rfl ?_ ?_
     · repeat' (first | exact trivial | refine And.intro ?_ ?_ | intro _)
     refine Vc.cond rfl (fun h2 => ?_) (fun h2 => ?_)
     · have g2 : crTestI a0 a1 a2 i = true := h2
       refine Vc.seq (Vc.region hG rfl (by trivial) (Vc.ret ?_))
       refine ⟨?_, trivial⟩
       exact crBadI hI hl g2
     · have g2 : crTestI a0 a1 a2 i = false := h2
       refine Vc.skip (Vc.region hG rfl (by trivial) ?_)
       refine ⟨rfl, ?_⟩
       exact kStep hI hl hb (crTestI_iff.1 g2)
   · have hl : ¬ i < (List.length a2.2.2.2.2 : Int) := of_decide_eq_false h1
     refine Vc.exit (Vc.seq (Vc.region hG rfl (by trivial) (Vc.ret ?_)))
     refine ⟨?_, trivial⟩
     exact crEndI g0 hI hl
noncomputable def F152 : Fun := ⟨[.slice Y26, .int .i64], [.pure (.int .i64)], fun _ => True, fun x => ((fun a0 a1 => findI (fun x => x.1 == a1) a0) x.1 x.2.1, ())⟩
theorem F152_ok : Meets Tryz.prog 152 F152 := by
 refine meets_of_vc (C := mkC 20 [4] [0,1,4,5,6,7,8,9,10,17] []) (mkC_ok _ _ _ _) (fnOf_ok _) Tryz.func152 rfl rfl rfl (by decide) rfl ?_
 rintro ⟨a0, (a1 : Int), _⟩ hwf hpre ⟨P, C, B, X, w0, M0, pv⟩ hG rfl rfl
 show Vc _ _ [(0, ⟨0, 0, .c Z33 a0⟩), (1, ⟨0, 0, .c (.pure (.int .i64)) a1⟩)] _
 have hb : List.length a0 ≤ bigLen := hwf.1.1
 refine Vc.seq (Vc.region hG rfl (by trivial) (Vc.seq (Vc.seq ?_)))
 refine Vc.region hG rfl (by trivial) (Vc.block ?_)
 refine Vc.loopF [(9, false, .pure (.int .i64))] [0, 1, 7, 8] (fun v => fInv (fun x => x.1 == a1) a0 v.1) (fun v => ((List.length a0 : Int) - v.1).toNat) rfl ?_ ?_
 · exact fStart
 rintro ⟨(i : Int), _⟩ hI
 have hI : fInv (fun x => x.1 == a1) a0 i := hI
 refine Vc.seq (Vc.region hG rfl (by trivial) (Vc.seq ?_))
 refine Vc.cond rfl (fun h0 => ?_) (fun h0 => ?_)
 · have hl : i < (List.length a0 : Int) := of_decide_eq_true h0
   refine Vc.skip (Vc.seq (Vc.block (Vc.seq ?_)))
   refine Vc.region hG rfl ?_ ?_
   · exact fRange hI hl
   refine Vc.seq (Vc.region hG rfl (by trivial) ?_)
   refine Vc.cond rfl (fun h1 => ?_) (fun h1 => ?_)
   · have g1 : (fun x => x.1 == a1) (List.getD a0 i.toNat (dflt Y26)) = true := h1
     refine Vc.seq (Vc.region hG rfl (by trivial) (Vc.ret ?_))
     refine ⟨?_, trivial⟩
     exact fHit hI hl g1
   · have g1 : (fun x => x.1 == a1) (List.getD a0 i.toNat (dflt Y26)) = false := h1
     refine Vc.skip (Vc.region hG rfl (by trivial) ?_)
     refine ⟨rfl, ?_⟩
     exact fStep hI hl hb g1
 · have hl : ¬ i < (List.length a0 : Int) := of_decide_eq_false h0
   refine Vc.exit (Vc.seq (Vc.region hG rfl (by trivial) (Vc.ret ?_)))
   refine ⟨?_, trivial⟩
   exact fEnd hI hl
noncomputable def F79 : Fun := ⟨[.slice Y26, .int .i64], [.pure (.int .i64)], fun _ => True, fun x => (breakF x.1 x.2.1, ())⟩
theorem F79_ok : Meets Tryz.prog 79 F79 := by
 refine meets_of_vc (C := mkC 16 [4] [0,1,4,5,10] [⟨152, _, F152_ok⟩]) (mkC_ok _ _ _ _) (fnOf_ok _) Tryz.func79 rfl rfl rfl (by decide) rfl ?_
 rintro ⟨a0, (a1 : Int), _⟩ hwf hpre ⟨P, C, B, X, w0, M0, pv⟩ hG rfl rfl
 show Vc _ _ [(0, ⟨0, 0, .c Z33 a0⟩), (1, ⟨0, 0, .c (.pure (.int .i64)) a1⟩)] _
 refine Vc.seq (Vc.region hG rfl (by trivial) (Vc.seq (Vc.seq ?_)))
 refine Vc.region hG rfl (by trivial) (Vc.seq (Vc.region hG rfl (by trivial) ?_))
 refine Vc.cond rfl (fun h0 => ?_) (fun h0 => ?_)
 · have g0 : ¬ methI a0 a1 < 0 := Int.not_lt.2 (of_decide_eq_true h0)
   refine Vc.seq ?_
   refine Vc.region hG rfl ?_ ?_
   · exact findRange g0
   refine Vc.ret ?_
   refine ⟨?_, trivial⟩
   exact brk1 g0
 · have g0 : methI a0 a1 < 0 := Int.not_le.1 (of_decide_eq_false h0)
   refine Vc.skip (Vc.seq (Vc.region hG rfl (by trivial) (Vc.ret ?_)))
   refine ⟨?_, trivial⟩
   exact brk0 g0
noncomputable def F162 : Fun := ⟨[.slice Y15, .pair (.int .i64) Y26], [.pure (.int .i64)], fun _ => True, fun x => (stampKeyF x.1 x.2.1, ())⟩
theorem F162_ok : Meets Tryz.prog 162 F162 := by
 refine meets_of_vc (C := mkC 17 [4] [0,1,3,4,5,11] [⟨250, _, F250_ok⟩]) (mkC_ok _ _ _ _) (fnOf_ok _) Tryz.func162 rfl rfl rfl (by decide) rfl ?_
 rintro ⟨a0, a1, _⟩ hwf hpre ⟨P, C, B, X, w0, M0, pv⟩ hG rfl rfl
 show Vc _ _ [(0, ⟨0, 0, .c Z23 a0⟩), (1, ⟨0, 0, .c Z36 a1⟩)] _
 refine Vc.seq (Vc.region hG rfl (by trivial) (Vc.seq (Vc.seq ?_)))
 refine Vc.region hG rfl (by trivial) (Vc.seq (Vc.region hG rfl (by trivial) ?_))
 refine Vc.cond rfl (fun h0 => ?_) (fun h0 => ?_)
 · have g0 : ¬ authI a0 a1.1 < 0 := Int.not_lt.2 (of_decide_eq_true h0)
   refine Vc.seq ?_
   refine Vc.region hG rfl ?_ ?_
   · exact findRange g0
   refine Vc.ret ?_
   refine ⟨?_, trivial⟩
   exact stampKey1 g0
 · have g0 : authI a0 a1.1 < 0 := Int.not_le.1 (of_decide_eq_false h0)
   refine Vc.skip (Vc.seq (Vc.region hG rfl (by trivial) (Vc.ret ?_)))
   refine ⟨?_, trivial⟩
   exact stampKey0 g0
noncomputable def F329 : Fun := ⟨[.slice Y35, .slice Y15, .slice Y26, .pair (.int .i64) Y58], [.pure (.int .i64)], fun _ => True, fun x => (rbF x.1 x.2.1 x.2.2.1 x.2.2.2.1, ())⟩
theorem F329_ok : Meets Tryz.prog 329 F329 := by
 refine meets_of_vc (C := mkC 42 [8] [0,1,2,3,7,8,9,11,12,18,19,20,21,30] [⟨79, _, F79_ok⟩, ⟨162, _, F162_ok⟩, ⟨74, _, F74_ok⟩]) (mkC_ok _ _ _ _) (fnOf_ok _) Tryz.func329 rfl rfl rfl (by decide) rfl ?_
 rintro ⟨a0, a1, a2, a3, _⟩ hwf hpre ⟨P, C, B, X, w0, M0, pv⟩ hG rfl rfl
 show Vc _ _ [(0, ⟨0, 0, .c Z40 a0⟩), (1, ⟨0, 0, .c Z23 a1⟩), (2, ⟨0, 0, .c Z33 a2⟩), (3, ⟨0, 0, .c Z62 a3⟩)] _
 have hb : List.length a3.2.2.2.2 ≤ bigLen := hwf.2.2.2.1.2.2.2.2.1
 refine Vc.seq (Vc.region hG rfl (by trivial) (Vc.seq (Vc.region hG rfl (by trivial) ?_)))
 refine Vc.seq (Vc.seq (Vc.region hG rfl (by trivial) (Vc.block ?_)))
 refine Vc.loopF [(9, false, .pure (.int .i64)), (20, false, .pure (.int .i64))] [0, 1, 2, 3, 7, 18, 19] (fun v => efInv (rbBad a0 a1) (rbG a0 a1 a2) 0 (breakF a2 a3.2.1) a3.2.2.2.2 v.1 v.2.1) (fun v => ((List.length a3.2.2.2.2 : Int) - v.2.1).toNat) rfl ?_ ?_
 · exact efStart
 rintro ⟨(m : Int), (i : Int), _⟩ hI
 have hI : efInv (rbBad a0 a1) (rbG a0 a1 a2) 0 (breakF a2 a3.2.1) a3.2.2.2.2 m i := hI
 refine Vc.seq (Vc.region hG rfl (by trivial) (Vc.seq ?_))
 refine Vc.cond rfl (fun h0 => ?_) (fun h0 => ?_)
 · have hl : i < (List.length a3.2.2.2.2 : Int) := of_decide_eq_true h0
   refine Vc.skip (Vc.seq (Vc.block (Vc.seq ?_)))
   refine Vc.region hG rfl ?_ ?_
   · exact efRange hI hl
   refine Vc.seq (Vc.region hG rfl (by trivial) (Vc.seq (Vc.seq ?_)))
   refine Vc.region hG rfl (by trivial) ?_
   refine Vc.cond rfl (fun h1 => ?_) (fun h1 => ?_)
   · have g1 : rbBad a0 a1 (List.getD a3.2.2.2.2 i.toNat (dflt Y35)) = true := h1
     refine Vc.seq (Vc.region hG rfl (by trivial) (Vc.ret ?_))
     refine ⟨?_, trivial⟩
     exact efStop (d := dflt Y35) hI hl g1
   · have g1 : rbBad a0 a1 (List.getD a3.2.2.2.2 i.toNat (dflt Y35)) = false := h1
     have n1 : ¬ keyI a0 (stampKeyF a1 (List.getD a3.2.2.2.2 i.toNat (dflt Y35))) < 0 := of_decide_eq_false h1
     refine Vc.skip ?_
     refine Vc.region hG rfl ?_ ?_
     · exact ⟨findRange n1, trivial⟩
     refine Vc.region hG rfl (by trivial) ?_
     refine ⟨rfl, ?_⟩
     exact efStep (d := dflt Y35) hI hl hb g1
 · have hl : ¬ i < (List.length a3.2.2.2.2 : Int) := of_decide_eq_false h0
   refine Vc.exit (Vc.seq (Vc.region hG rfl (by trivial) (Vc.ret ?_)))
   refine ⟨?_, trivial⟩
   exact efEnd hI hl
noncomputable def F317 : Fun := ⟨[.pair Y37 Y60, .pair Y25 Y64, .int .i64], [.pure (.bool)], fun x => (fun (_ : Frame) (s : Strand) (_ : Int) => Sm big20 (.slice TPiece) s.1 ∧ ∀ r ∈ s.2, Sm big20 TRen r) x.1 x.2.1 x.2.2.1, fun x => (linkF x.1 x.2.1 x.2.2.1, ())⟩
theorem F317_ok : Meets Tryz.prog 317 F317 := by
 refine meets_of_vc (C := mkC 57 [6] [0,1,2,3,4,6,7,8,9,16,34] [⟨147, _, F147_ok⟩, ⟨329, _, F329_ok⟩, ⟨296, _, F296_ok⟩]) (mkC_ok _ _ _ _) (fnOf_ok _) Tryz.func317 rfl rfl rfl (by decide) rfl ?_
 rintro ⟨a0, a1, (a2 : Int), _⟩ hwf hpre ⟨P, C, B, X, w0, M0, pv⟩ hG rfl rfl
 show Vc _ _ [(0, ⟨0, 0, .c Z72 a0⟩), (1, ⟨0, 0, .c Z70 a1⟩), (2, ⟨0, 0, .c (.pure (.int .i64)) a2⟩)] _
 have hP : Sm big20 (.slice TPiece) a1.1 := hpre.1
 have hR : ∀ r ∈ a1.2, Sm big20 TRen r := hpre.2
 have hb : List.length a1.2 ≤ bigLen := hwf.2.1.2.1
 have hSt : ∀ k : Int, inRange k (List.length a1.2) → List.length (chAt a1 k).2.2.2.2 ≤ 1048576 := fun k hk => (hR _ (getD_mem hk (dflt TRen))).2.2.2.2.1
 refine Vc.seq (Vc.region hG rfl (by trivial) (Vc.seq (Vc.seq ?_)))
 refine Vc.region hG rfl (by trivial) ?_
 refine Vc.cond rfl (fun h0 => ?_) (fun h0 => ?_)
 · have g0 := h0
   refine Vc.seq (Vc.region hG rfl (by trivial) (Vc.ret ?_))
   refine ⟨?_, trivial⟩
   exact lk0 g0
 · have g0 := h0
   have k0 := laIdx g0 hb
   refine Vc.skip (Vc.seq ?_)
   refine Vc.regionD mixed hG rfl (by kernel_rfl) ?_ ?_
   · exact ⟨k0, trivial⟩
   refine Vc.seq (Vc.seq (Vc.region hG rfl (by trivial) ?_))
   refine Vc.cond rfl (fun h1 => ?_) (fun h1 => ?_)
   · have g1 := h1
     refine Vc.seq (Vc.region hG rfl (by trivial) (Vc.ret ?_))
     refine ⟨?_, trivial⟩
     exact lk1 g0 g1
   · have g1 := h1
     have k1 := lkNext g0 g1 hb
     refine Vc.skip (Vc.seq ?_)
     refine Vc.regionD mixed hG rfl (by kernel_rfl) ?_ ?_
     · exact ⟨k1, hSt _ k1⟩
     refine Vc.seq (Vc.region hG rfl (by trivial) (Vc.ret ?_))
     refine ⟨?_, trivial⟩
     exact lk2 g0 g1
noncomputable def F295 : Fun := ⟨[.pair Y37 Y60, .pair Y25 Y64, .slice (.int .i64)], [.pure (.int .i64)], fun x => (fun (_ : Frame) (s : Strand) (_ : List Int) => Sm big20 (.slice TPiece) s.1 ∧ ∀ r ∈ s.2, Sm big20 TRen r) x.1 x.2.1 x.2.2.1, fun x => (firstKeptF x.1 x.2.1 x.2.2.1, ())⟩
theorem F295_ok : Meets Tryz.prog 295 F295 := by
 refine meets_of_vc (C := mkC 58 [6] [0,1,2,3,4,6,7,9,14,54] [⟨296, _, F296_ok⟩, ⟨316, _, F316_ok⟩, ⟨315, _, F315_ok⟩, ⟨317, _, F317_ok⟩]) (mkC_ok _ _ _ _) (fnOf_ok _) Tryz.func295 rfl rfl rfl (by decide) rfl ?_
 rintro ⟨a0, a1, a2, _⟩ hwf hpre ⟨P, C, B, X, w0, M0, pv⟩ hG rfl rfl
 show Vc _ _ [(0, ⟨0, 0, .c Z72 a0⟩), (1, ⟨0, 0, .c Z70 a1⟩), (2, ⟨0, 0, .c Z2 a2⟩)] _
 have hP : Sm big20 (.slice TPiece) a1.1 := hpre.1
 have hR : ∀ r ∈ a1.2, Sm big20 TRen r := hpre.2
 have hb : List.length a1.2 ≤ bigLen := hwf.2.1.2.1
 have hSt : ∀ k : Int, inRange k (List.length a1.2) → List.length (chAt a1 k).2.2.2.2 ≤ 1048576 := fun k hk => (hR _ (getD_mem hk (dflt TRen))).2.2.2.2.1
 refine Vc.seq (Vc.region hG rfl (by trivial) (Vc.seq (Vc.region hG rfl (by trivial) ?_)))
 refine Vc.seq (Vc.block ?_)
 refine Vc.loopF [(7, false, .pure (.int .i64))] [0, 1, 2, 3, 4, 6] (fun v => fkInv a0 a1 a2 v.1) (fun v => v.1.toNat) rfl ?_ ?_
 · exact fkStart
 rintro ⟨(j : Int), _⟩ hI
 have hI : fkInv a0 a1 a2 j := hI
 refine Vc.seq (Vc.seq (Vc.region hG rfl (by trivial) ?_))
 refine Vc.cond rfl (fun h0 => ?_) (fun h0 => ?_)
 · have g0 : j > 0 := of_decide_eq_true h0
   have k0 := fkIdx hI g0 hb
   refine Vc.skip (Vc.block (Vc.seq ?_))
   refine Vc.regionD mixed hG rfl (by kernel_rfl) ?_ ?_
   · exact ⟨k0, hSt _ k0⟩
   refine Vc.seq (Vc.seq ?_)
   refine Vc.regionD mixed hG rfl (by kernel_rfl) ?_ ?_
   · repeat' (first | exact trivial | exact k0 | exact ⟨hP, hR⟩ | refine And.intro ?_ ?_ | intro _)
   refine Vc.cond rfl (fun h1 => ?_) (fun h1 => ?_)
   · have g1 : keptF a0 a1 a2 (IntKind.i64.wrap (j - 1)) = false := by have q := keptI.symm.trans h1; simpa using q
     refine Vc.exit (Vc.seq (Vc.region hG rfl (by trivial) (Vc.ret ?_)))
     refine ⟨?_, trivial⟩
     exact fkStop hI g0 hb g1
   · have g1 : keptF a0 a1 a2 (IntKind.i64.wrap (j - 1)) = true := by have q := keptI.symm.trans h1; simpa using q
     refine Vc.skip (Vc.region hG rfl (by trivial) ?_)
     refine ⟨rfl, ?_⟩
     exact fkStep hI g0 hb g1
 · have g0 : ¬ j > 0 := of_decide_eq_false h0
   refine Vc.exit (Vc.seq (Vc.region hG rfl (by trivial) (Vc.ret ?_)))
   refine ⟨?_, trivial⟩
   exact fkZero hI g0
noncomputable def F239 : Fun := ⟨[.pair Y37 Y60, .pair Y25 Y64, .slice (.int .i64), .int .i64], [.pure (.int .i64)], fun x => (fun (_ : Frame) (s : Strand) (_ : List Int) (_ : Int) => Sm big20 (.slice TPiece) s.1 ∧ ∀ r ∈ s.2, Sm big20 TRen r) x.1 x.2.1 x.2.2.1 x.2.2.2.1, fun x => (boundOfF x.1 x.2.1 x.2.2.1 x.2.2.2.1, ())⟩
theorem F239_ok : Meets Tryz.prog 239 F239 := by
 refine meets_of_vc (C := mkC 49 [8] [0,1,2,3,4,5,8,9,10,11,23,43] [⟨295, _, F295_ok⟩, ⟨296, _, F296_ok⟩]) (mkC_ok _ _ _ _) (fnOf_ok _) Tryz.func239 rfl rfl rfl (by decide) rfl ?_
 rintro ⟨a0, a1, a2, (a3 : Int), _⟩ hwf hpre ⟨P, C, B, X, w0, M0, pv⟩ hG rfl rfl
 show Vc _ _ [(0, ⟨0, 0, .c Z72 a0⟩), (1, ⟨0, 0, .c Z70 a1⟩), (2, ⟨0, 0, .c Z2 a2⟩), (3, ⟨0, 0, .c (.pure (.int .i64)) a3⟩)] _
 have hP : Sm big20 (.slice TPiece) a1.1 := hpre.1
 have hR : ∀ r ∈ a1.2, Sm big20 TRen r := hpre.2
 have hb : List.length a1.2 ≤ bigLen := hwf.2.1.2.1
 have hSt : ∀ k : Int, inRange k (List.length a1.2) → List.length (chAt a1 k).2.2.2.2 ≤ 1048576 := fun k hk => (hR _ (getD_mem hk (dflt TRen))).2.2.2.2.1
 refine Vc.seq (Vc.region hG rfl (by trivial) (Vc.seq (Vc.region hG rfl (by trivial) ?_)))
 refine Vc.seq (Vc.seq ?_)
 refine Vc.region hG rfl ?_ ?_
 · exact ⟨hP, hR⟩
 refine Vc.block ?_
 refine Vc.loopF [(9, false, .pure (.int .i64)), (10, false, .pure (.int .i64))] [0, 1, 2, 3, 4, 5, 8] (fun v => boInv a0 a1 a2 a3 v.1 v.2.1) (fun v => ((List.length a1.2 : Int) - v.2.1).toNat) rfl ?_ ?_
 · exact boStart
 rintro ⟨(t : Int), (j : Int), _⟩ hI
 have hI : boInv a0 a1 a2 a3 t j := hI
 refine Vc.seq (Vc.seq (Vc.region hG rfl (by trivial) ?_))
 refine Vc.cond rfl (fun h0 => ?_) (fun h0 => ?_)
 · have hl : j < (List.length a1.2 : Int) := of_decide_eq_true h0
   have k0 := boRange hI hl
   refine Vc.skip (Vc.seq (Vc.block (Vc.seq ?_)))
   refine Vc.regionD mixed hG rfl (by kernel_rfl) ?_ ?_
   · exact ⟨k0, hSt _ k0⟩
   refine Vc.seq ?_
   refine Vc.region hG rfl ?_ ?_
   · exact k0
   refine Vc.cond rfl (fun h1 => ?_) (fun h1 => ?_)
   · have st := boStep hI hl hb (boY (f := a0) (t := t) (r := chAt a1 j) h1).symm
     refine Vc.region hG rfl (by trivial) (Vc.region hG rfl (by trivial) ?_)
     refine ⟨rfl, ?_⟩
     exact st
   · have st := boStep hI hl hb (boN (f := a0) (t := t) (r := chAt a1 j) h1).symm
     refine Vc.skip (Vc.region hG rfl (by trivial) ?_)
     refine ⟨rfl, ?_⟩
     exact st
 · have hl : ¬ j < (List.length a1.2 : Int) := of_decide_eq_false h0
   refine Vc.exit (Vc.seq (Vc.region hG rfl (by trivial) (Vc.ret ?_)))
   refine ⟨?_, trivial⟩
   exact boEnd hI hl
noncomputable def F151 : Fun := ⟨[.pair Y37 Y60, .pair Y25 Y64, .slice (.int .i64), .pair (.int .i64) Y9], [.pure (.int .i64)], fun x => (fun (_ : Frame) (s : Strand) (_ : List Int) (_ : Piece) => Sm big20 (.slice TPiece) s.1 ∧ ∀ r ∈ s.2, Sm big20 TRen r) x.1 x.2.1 x.2.2.1 x.2.2.2.1, fun x => (pieceBoundF x.1 x.2.1 x.2.2.1 x.2.2.2.1, ())⟩
theorem F151_ok : Meets Tryz.prog 151 F151 := by
 refine meets_of_vc (C := mkC 22 [8] [0,1,2,3,4,5,7,8,9,14] [⟨238, _, F238_ok⟩, ⟨239, _, F239_ok⟩]) (mkC_ok _ _ _ _) (fnOf_ok _) Tryz.func151 rfl rfl rfl (by decide) rfl ?_
 rintro ⟨a0, a1, a2, a3, _⟩ hwf hpre ⟨P, C, B, X, w0, M0, pv⟩ hG rfl rfl
 show Vc _ _ [(0, ⟨0, 0, .c Z72 a0⟩), (1, ⟨0, 0, .c Z70 a1⟩), (2, ⟨0, 0, .c Z2 a2⟩), (3, ⟨0, 0, .c Z24 a3⟩)] _
 have hp := hpre
 refine Vc.seq (Vc.region hG rfl (by trivial) (Vc.seq (Vc.region hG rfl (by trivial) ?_)))
 refine Vc.seq (Vc.seq (Vc.region hG rfl (by trivial) ?_))
 refine Vc.cond rfl (fun h0 => ?_) (fun h0 => ?_)
 · have g0 : findPieceF a1 a3 < 0 := of_decide_eq_true h0
   refine Vc.seq (Vc.region hG rfl (by trivial) (Vc.ret ?_))
   refine ⟨?_, trivial⟩
   exact pb0 g0
 · have g0 : ¬ findPieceF a1 a3 < 0 := of_decide_eq_false h0
   refine Vc.skip (Vc.seq ?_)
   refine Vc.region hG rfl ?_ ?_
   · exact hp
   refine Vc.ret ?_
   refine ⟨?_, trivial⟩
   exact pb1 g0
noncomputable def F76 : Fun := ⟨[.pair Y37 Y60, .pair Y71 Y41, .slice (.slice (.int .i64)), .pair (.int .i64) Y9], [.pure (.int .i64)], fun x => (fun (_ : Frame) (e : Evidence) (_ : List (List Int)) (_ : Piece) => Sm big20 Y71 e.1) x.1 x.2.1 x.2.2.1 x.2.2.2.1, fun x => (evBoundF x.1 x.2.1 x.2.2.1 x.2.2.2.1, ())⟩
theorem F76_ok : Meets Tryz.prog 76 F76 := by
 refine meets_of_vc (C := mkC 38 [8] [0,1,2,3,4,5,7,8,9,10,11,15,16,17,18,25] [⟨151, _, F151_ok⟩]) (mkC_ok _ _ _ _) (fnOf_ok _) Tryz.func76 rfl rfl rfl (by decide) rfl ?_
 rintro ⟨a0, a1, a2, a3, _⟩ hwf hpre ⟨P, C, B, X, w0, M0, pv⟩ hG rfl rfl
 show Vc _ _ [(0, ⟨0, 0, .c Z72 a0⟩), (1, ⟨0, 0, .c Z75 a1⟩), (2, ⟨0, 0, .c Z7 a2⟩), (3, ⟨0, 0, .c Z24 a3⟩)] _
 have hS : Sm big20 Y71 a1.1 := hpre
 have hb : List.length a1.1 ≤ bigLen := hwf.2.1.1.1
 refine Vc.seq (Vc.region hG rfl (by trivial) (Vc.seq (Vc.region hG rfl (by trivial) ?_)))
 refine Vc.seq (Vc.seq (Vc.region hG rfl (by trivial) (Vc.block ?_)))
 refine Vc.loopF [(9, false, .pure (.int .i64)), (17, false, .pure (.int .i64))] [0, 1, 2, 3, 4, 5, 7, 8, 15, 16] (fun v => ebInv a0 a1 a2 a3 v.1 v.2.1) (fun v => ((List.length a1.1 : Int) - v.2.1).toNat) rfl ?_ ?_
 · exact ebStart
 rintro ⟨(t : Int), (i : Int), _⟩ hI
 have hI : ebInv a0 a1 a2 a3 t i := hI
 refine Vc.seq (Vc.region hG rfl (by trivial) (Vc.seq ?_))
 refine Vc.cond rfl (fun h0 => ?_) (fun h0 => ?_)
 · have hl : i < (List.length a1.1 : Int) := of_decide_eq_true h0
   refine Vc.skip (Vc.seq (Vc.block (Vc.seq ?_)))
   refine Vc.region hG rfl ?_ ?_
   · exact ebRange hI hl
   refine Vc.seq (Vc.region hG rfl (by trivial) ?_)
   refine Vc.cond rfl (fun h1 => ?_) (fun h1 => ?_)
   · have hd : i < (List.length a2 : Int) := of_decide_eq_true h1
     have st := ebYes (dflt Y68) (dflt (.slice TI)) hI hl hd hb rfl
     have r1 := ebRange hI hl
     have r2 := ebRangeD hI hd
     have r3 := usStrand hS r1
     refine Vc.regionD mixed hG rfl (by kernel_rfl) ?_ ?_
     · exact ⟨r2, r3⟩
     refine Vc.region hG rfl (by trivial) ?_
     refine ⟨rfl, ?_⟩
     exact st
   · have hd : ¬ i < (List.length a2 : Int) := of_decide_eq_false h1
     have st := ebNo hI hl hd hb
     refine Vc.skip (Vc.region hG rfl (by trivial) ?_)
     refine ⟨rfl, ?_⟩
     exact st
 · have hl : ¬ i < (List.length a1.1 : Int) := of_decide_eq_false h0
   refine Vc.exit (Vc.seq (Vc.region hG rfl (by trivial) (Vc.ret ?_)))
   refine ⟨?_, trivial⟩
   exact ebEnd hI (fun q => hl q.1)
noncomputable def F78 : Fun := ⟨[.pair Y37 Y60, .int .i64], [.pure (.int .i64)], fun _ => True, fun x => (brkKeyF x.1 x.2.1, ())⟩
theorem F78_ok : Meets Tryz.prog 78 F78 := by
 refine meets_of_vc (C := mkC 21 [4] [0,1,2,4,5,11] [⟨74, _, F74_ok⟩, ⟨79, _, F79_ok⟩]) (mkC_ok _ _ _ _) (fnOf_ok _) Tryz.func78 rfl rfl rfl (by decide) rfl ?_
 rintro ⟨a0, (a1 : Int), _⟩ hwf hpre ⟨P, C, B, X, w0, M0, pv⟩ hG rfl rfl
 show Vc _ _ [(0, ⟨0, 0, .c Z72 a0⟩), (1, ⟨0, 0, .c (.pure (.int .i64)) a1⟩)] _
 refine Vc.seq (Vc.region hG rfl (by trivial) (Vc.seq (Vc.region hG rfl (by trivial) ?_)))
 refine Vc.seq (Vc.seq (Vc.region hG rfl (by trivial) ?_))
 refine Vc.cond rfl (fun h0 => ?_) (fun h0 => ?_)
 · have g0 : keyI a0.1 a1 < 0 := of_decide_eq_true h0
   refine Vc.seq (Vc.region hG rfl (by trivial) (Vc.ret ?_))
   refine ⟨?_, trivial⟩
   exact bk0 g0
 · have g0 : ¬ keyI a0.1 a1 < 0 := of_decide_eq_false h0
   refine Vc.skip (Vc.seq ?_)
   refine Vc.regionD mixed hG rfl (by kernel_rfl) ?_ ?_
   · exact ⟨findRange g0, trivial⟩
   refine Vc.ret ?_
   refine ⟨?_, trivial⟩
   exact bk1 g0
noncomputable def F153 : Fun := ⟨[.slice Y21, .pair (.int .i64) Y9], [.pure (.bool)], fun _ => True, fun x => (hasF x.1 x.2.1, ())⟩
theorem F153_ok : Meets Tryz.prog 153 F153 := by
 refine meets_of_vc (C := mkC 17 [4] [0,1,3,4,6,7,8,9,10,15] [⟨240, _, F240_ok⟩]) (mkC_ok _ _ _ _) (fnOf_ok _) Tryz.func153 rfl rfl rfl (by decide) rfl ?_
 rintro ⟨a0, a1, _⟩ hwf hpre ⟨P, C, B, X, w0, M0, pv⟩ hG rfl rfl
 show Vc _ _ [(0, ⟨0, 0, .c Z28 a0⟩), (1, ⟨0, 0, .c Z24 a1⟩)] _
 have hb : List.length a0 ≤ bigLen := hwf.1.1
 refine Vc.seq (Vc.region hG rfl (by trivial) (Vc.seq (Vc.seq ?_)))
 refine Vc.region hG rfl (by trivial) (Vc.block ?_)
 refine Vc.loopF [(9, false, .pure (.int .i64))] [0, 1, 3, 7, 8] (fun v => fInv (fun x => eqC x a1) a0 v.1) (fun v => ((List.length a0 : Int) - v.1).toNat) rfl ?_ ?_
 · exact fStart
 rintro ⟨(i : Int), _⟩ hI
 have hI : fInv (fun x => eqC x a1) a0 i := hI
 refine Vc.seq (Vc.region hG rfl (by trivial) (Vc.seq ?_))
 refine Vc.cond rfl (fun h0 => ?_) (fun h0 => ?_)
 · have hl : i < (List.length a0 : Int) := of_decide_eq_true h0
   refine Vc.skip (Vc.seq (Vc.block (Vc.seq ?_)))
   refine Vc.region hG rfl ?_ ?_
   · exact fRange hI hl
   refine Vc.seq (Vc.region hG rfl (by trivial) ?_)
   refine Vc.cond rfl (fun h1 => ?_) (fun h1 => ?_)
   · have g1 : (fun x => eqC x a1) (List.getD a0 i.toNat (dflt Y21)) = true := h1
     refine Vc.seq (Vc.region hG rfl (by trivial) (Vc.ret ?_))
     refine ⟨?_, trivial⟩
     exact hasYes hI hl g1
   · have g1 : (fun x => eqC x a1) (List.getD a0 i.toNat (dflt Y21)) = false := h1
     refine Vc.skip (Vc.region hG rfl (by trivial) ?_)
     refine ⟨rfl, ?_⟩
     exact fStep hI hl hb g1
 · have hl : ¬ i < (List.length a0 : Int) := of_decide_eq_false h0
   refine Vc.exit (Vc.seq (Vc.region hG rfl (by trivial) (Vc.ret ?_)))
   refine ⟨?_, trivial⟩
   exact hasNo hI hl
noncomputable def F241 : Fun := ⟨[.pair (.int .i64) Y9], [.pure (.int .i64)], fun _ => True, fun x => (kindF x.1, ())⟩
theorem F241_ok : Meets Tryz.prog 241 F241 := by
 refine meets_of_vc (C := mkC 32 [2] [0,1,2,27] [⟨147, _, F147_ok⟩]) (mkC_ok _ _ _ _) (fnOf_ok _) Tryz.func241 rfl rfl rfl (by decide) rfl ?_
 rintro ⟨a0, _⟩ hwf hpre ⟨P, C, B, X, w0, M0, pv⟩ hG rfl rfl
 show Vc _ _ [(0, ⟨0, 0, .c Z24 a0⟩)] _
 refine Vc.seq (Vc.region hG rfl (by trivial) (Vc.seq (Vc.seq ?_)))
 refine Vc.regionD mixed hG rfl (by kernel_rfl) ?_ ?_
 · exact ⟨fun h => kLen h, fun _ => trivial, fun h => kLen1 h, fun h => kIdx h⟩
 refine Vc.cond rfl (fun h0 => ?_) (fun h0 => ?_)
 · have g0 : pick2 (kb1 a0) true (kb2 a0) = true := h0
   refine Vc.seq (Vc.region hG rfl (by trivial) (Vc.ret ?_))
   refine ⟨?_, trivial⟩
   exact kindI g0
 · have g0 : pick2 (kb1 a0) true (kb2 a0) = false := h0
   refine Vc.skip (Vc.seq ?_)
   refine Vc.region hG rfl ?_ ?_
   · exact kLen1 (orF g0).1
   refine Vc.ret ?_
   refine ⟨?_, trivial⟩
   exact kind2 (orF g0).1 (orF g0).2
noncomputable def F157 : Fun := ⟨[.pair (.int .i64) Y9], [.pure Y47, .pure (.bool)], fun _ => True, fun x => ((pieceCertF x.1).1, (pieceCertF x.1).2, ())⟩
theorem F157_ok : Meets Tryz.prog 157 F157 := by
 refine meets_of_vc (C := mkC 41 [2, 3] [0,1,2,3,4,16] [⟨241, _, F241_ok⟩]) (mkC_ok _ _ _ _) (fnOf_ok _) Tryz.func157 rfl rfl rfl (by decide) rfl ?_
 rintro ⟨a0, _⟩ hwf hpre ⟨P, C, B, X, w0, M0, pv⟩ hG rfl rfl
 show Vc _ _ [(0, ⟨0, 0, .c Z24 a0⟩)] _
 refine Vc.seq (Vc.region hG rfl (by trivial) (Vc.seq (Vc.seq ?_)))
 refine Vc.regionD mixed hG rfl (by kernel_rfl) ?_ ?_
 · exact ⟨trivial, fun h => seven (kind7 h) 6 (by decide)⟩
 refine Vc.cond rfl (fun h0 => ?_) (fun h0 => ?_)
 · have g0 : pcBad a0 = true := h0
   refine Vc.seq (Vc.region hG rfl (by trivial) (Vc.ret ?_))
   have e := pc0 g0
   refine ⟨?_, ?_, trivial⟩
   · exact (congrArg Prod.fst e).symm
   · exact (congrArg Prod.snd e).symm
 · have g0 : pcBad a0 = false := h0
   refine Vc.skip (Vc.seq (Vc.region hG rfl (by trivial) (Vc.seq ?_)))
   refine Vc.regionD mixed hG rfl (by kernel_rfl) ?_ ?_
   · exact ⟨seven (pc7 g0) 1 (by decide), seven (pc7 g0) 2 (by decide), seven (pc7 g0) 3 (by decide), seven (pc7 g0) 4 (by decide), seven (pc7 g0) 5 (by decide), seven (pc7 g0) 6 (by decide)⟩
   refine Vc.ret ?_
   have e := pc1 g0
   refine ⟨?_, ?_, trivial⟩
   · exact (congrArg Prod.fst e).symm
   · exact (congrArg Prod.snd e).symm
noncomputable def F164 : Fun := ⟨[.pair (.int .i64) Y9], [.pure Y35, .pure (.bool)], fun _ => True, fun x => ((pieceStatF x.1).1, (pieceStatF x.1).2, ())⟩
theorem F164_ok : Meets Tryz.prog 164 F164 := by
 refine meets_of_vc (C := mkC 35 [2, 3] [0,1,2,3,4,16] [⟨241, _, F241_ok⟩]) (mkC_ok _ _ _ _) (fnOf_ok _) Tryz.func164 rfl rfl rfl (by decide) rfl ?_
 rintro ⟨a0, _⟩ hwf hpre ⟨P, C, B, X, w0, M0, pv⟩ hG rfl rfl
 show Vc _ _ [(0, ⟨0, 0, .c Z24 a0⟩)] _
 refine Vc.seq (Vc.region hG rfl (by trivial) (Vc.seq (Vc.seq ?_)))
 refine Vc.regionD mixed hG rfl (by kernel_rfl) ?_ ?_
 · exact ⟨trivial, fun h => nIdx (psN h) 4 (by decide)⟩
 refine Vc.cond rfl (fun h0 => ?_) (fun h0 => ?_)
 · have g0 : psBad a0 = true := h0
   refine Vc.seq (Vc.region hG rfl (by trivial) (Vc.ret ?_))
   have e := ps0 g0
   refine ⟨?_, ?_, trivial⟩
   · exact (congrArg Prod.fst e).symm
   · exact (congrArg Prod.snd e).symm
 · have g0 : psBad a0 = false := h0
   refine Vc.skip (Vc.seq (Vc.region hG rfl (by trivial) (Vc.seq ?_)))
   refine Vc.regionD mixed hG rfl (by kernel_rfl) ?_ ?_
   · exact ⟨nIdx (psN (orF g0).1) 1 (by decide), nIdx (psN (orF g0).1) 2 (by decide), nIdx (psN (orF g0).1) 3 (by decide), nIdx (psN (orF g0).1) 4 (by decide)⟩
   refine Vc.ret ?_
   have e := ps1 g0
   refine ⟨?_, ?_, trivial⟩
   · exact (congrArg Prod.fst e).symm
   · exact (congrArg Prod.snd e).symm
noncomputable def F242 : Fun := ⟨[.pair (.int .i64) Y9], [.pure Y35, .pure (.bool)], fun _ => True, fun x => ((pieceStampF x.1).1, (pieceStampF x.1).2, ())⟩
theorem F242_ok : Meets Tryz.prog 242 F242 := by
 refine meets_of_vc (C := mkC 26 [2, 3] [0,1,2,3,4,7] [⟨241, _, F241_ok⟩]) (mkC_ok _ _ _ _) (fnOf_ok _) Tryz.func242 rfl rfl rfl (by decide) rfl ?_
 rintro ⟨a0, _⟩ hwf hpre ⟨P, C, B, X, w0, M0, pv⟩ hG rfl rfl
 show Vc _ _ [(0, ⟨0, 0, .c Z24 a0⟩)] _
 refine Vc.seq (Vc.region hG rfl (by trivial) (Vc.seq (Vc.seq ?_)))
 refine Vc.region hG rfl (by trivial) ?_
 refine Vc.cond rfl (fun h0 => ?_) (fun h0 => ?_)
 · have g0 : pstBad a0 = true := h0
   refine Vc.seq (Vc.region hG rfl (by trivial) (Vc.ret ?_))
   have e := pst0 g0
   refine ⟨?_, ?_, trivial⟩
   · exact (congrArg Prod.fst e).symm
   · exact (congrArg Prod.snd e).symm
 · have g0 : pstBad a0 = false := h0
   refine Vc.skip (Vc.seq (Vc.region hG rfl (by trivial) (Vc.seq ?_)))
   refine Vc.regionD mixed hG rfl (by kernel_rfl) ?_ ?_
   · exact ⟨nIdx (pstN g0) 1 (by decide), nIdx (pstN g0) 2 (by decide), nIdx (pstN g0) 3 (by decide), nIdx (pstN g0) 4 (by decide)⟩
   refine Vc.ret ?_
   have e := pst1 g0
   refine ⟨?_, ?_, trivial⟩
   · exact (congrArg Prod.fst e).symm
   · exact (congrArg Prod.snd e).symm
noncomputable def F243 : Fun := ⟨[.pair (.int .i64) Y9], [.pure Y56, .pure (.bool)], fun _ => True, fun x => ((pieceSignF x.1).1, (pieceSignF x.1).2, ())⟩
theorem F243_ok : Meets Tryz.prog 243 F243 := by
 refine meets_of_vc (C := mkC 47 [2, 3] [0,1,2,3,4,16] [⟨241, _, F241_ok⟩]) (mkC_ok _ _ _ _) (fnOf_ok _) Tryz.func243 rfl rfl rfl (by decide) rfl ?_
 rintro ⟨a0, _⟩ hwf hpre ⟨P, C, B, X, w0, M0, pv⟩ hG rfl rfl
 show Vc _ _ [(0, ⟨0, 0, .c Z24 a0⟩)] _
 refine Vc.seq (Vc.region hG rfl (by trivial) (Vc.seq (Vc.seq ?_)))
 refine Vc.regionD mixed hG rfl (by kernel_rfl) ?_ ?_
 · exact ⟨trivial, fun h => nIdx (psgN h) 1 (by decide)⟩
 refine Vc.cond rfl (fun h0 => ?_) (fun h0 => ?_)
 · have g0 : psgBad a0 = true := h0
   refine Vc.seq (Vc.region hG rfl (by trivial) (Vc.ret ?_))
   have e := psg0 g0
   refine ⟨?_, ?_, trivial⟩
   · exact (congrArg Prod.fst e).symm
   · exact (congrArg Prod.snd e).symm
 · have g0 : psgBad a0 = false := h0
   refine Vc.skip (Vc.seq (Vc.region hG rfl (by trivial) (Vc.seq ?_)))
   refine Vc.regionD mixed hG rfl (by kernel_rfl) ?_ ?_
   · exact ⟨nIdx (psgN (orF g0).1) 1 (by decide), nIdx (psgN (orF g0).1) 2 (by decide), nIdx (psgN (orF g0).1) 3 (by decide), nIdx (psgN (orF g0).1) 4 (by decide), nIdx (psgN (orF g0).1) 5 (by decide), nIdx (psgN (orF g0).1) 6 (by decide), nIdx (psgN (orF g0).1) 7 (by decide), nIdx (psgN (orF g0).1) 8 (by decide)⟩
   refine Vc.ret ?_
   have e := psg1 g0
   refine ⟨?_, ?_, trivial⟩
   · exact (congrArg Prod.fst e).symm
   · exact (congrArg Prod.snd e).symm
noncomputable def F170 : Fun := ⟨[.pair (.int .i64) Y9], [.pure Y42, .pure (.bool)], fun _ => True, fun x => ((pieceMandF x.1).1, (pieceMandF x.1).2, ())⟩
theorem F170_ok : Meets Tryz.prog 170 F170 := by
 refine meets_of_vc (C := mkC 38 [2, 3] [0,1,2,3,4,16] [⟨241, _, F241_ok⟩]) (mkC_ok _ _ _ _) (fnOf_ok _) Tryz.func170 rfl rfl rfl (by decide) rfl ?_
 rintro ⟨a0, _⟩ hwf hpre ⟨P, C, B, X, w0, M0, pv⟩ hG rfl rfl
 show Vc _ _ [(0, ⟨0, 0, .c Z24 a0⟩)] _
 refine Vc.seq (Vc.region hG rfl (by trivial) (Vc.seq (Vc.seq ?_)))
 refine Vc.regionD mixed hG rfl (by kernel_rfl) ?_ ?_
 · exact ⟨trivial, fun h => nIdx (pmN h) 5 (by decide)⟩
 refine Vc.cond rfl (fun h0 => ?_) (fun h0 => ?_)
 · have g0 : pmBad a0 = true := h0
   refine Vc.seq (Vc.region hG rfl (by trivial) (Vc.ret ?_))
   have e := pm0 g0
   refine ⟨?_, ?_, trivial⟩
   · exact (congrArg Prod.fst e).symm
   · exact (congrArg Prod.snd e).symm
 · have g0 : pmBad a0 = false := h0
   refine Vc.skip (Vc.seq (Vc.region hG rfl (by trivial) (Vc.seq ?_)))
   refine Vc.regionD mixed hG rfl (by kernel_rfl) ?_ ?_
   · exact ⟨nIdx (pmN (orF g0).1) 1 (by decide), nIdx (pmN (orF g0).1) 2 (by decide), nIdx (pmN (orF g0).1) 3 (by decide), nIdx (pmN (orF g0).1) 4 (by decide), nIdx (pmN (orF g0).1) 5 (by decide)⟩
   refine Vc.ret ?_
   have e := pm1 g0
   refine ⟨?_, ?_, trivial⟩
   · exact (congrArg Prod.fst e).symm
   · exact (congrArg Prod.snd e).symm
noncomputable def F154 : Fun := ⟨[.slice Y35, .pair (.int .i64) Y9], [.pure (.bool)], fun _ => True, fun x => (checkPieceF x.1 x.2.1, ())⟩
theorem F154_ok : Meets Tryz.prog 154 F154 := by
 refine meets_of_vc (C := mkC 54 [4] [0,1,3,4,5,7,8,15,22,29,36] [⟨241, _, F241_ok⟩, ⟨157, _, F157_ok⟩, ⟨164, _, F164_ok⟩, ⟨242, _, F242_ok⟩, ⟨243, _, F243_ok⟩, ⟨170, _, F170_ok⟩, ⟨149, _, F149_ok⟩]) (mkC_ok _ _ _ _) (fnOf_ok _) Tryz.func154 rfl rfl rfl (by decide) rfl ?_
 rintro ⟨a0, a1, _⟩ hwf hpre ⟨P, C, B, X, w0, M0, pv⟩ hG rfl rfl
 show Vc _ _ [(0, ⟨0, 0, .c Z40 a0⟩), (1, ⟨0, 0, .c Z24 a1⟩)] _
 refine Vc.seq (Vc.region hG rfl (by trivial) (Vc.seq (Vc.region hG rfl (by trivial) ?_)))
 refine Vc.seq (Vc.seq (Vc.region hG rfl (by trivial) (Vc.block ?_)))
 refine Vc.seq (Vc.region hG rfl (by trivial) ?_)
 refine Vc.cond rfl (fun h0 => ?_) (fun h0 => ?_)
 · have g0 : kindF a1 = 101 := beqI2 h0
   refine Vc.region hG rfl (by trivial) (Vc.seq ?_)
   refine Vc.region hG rfl ?_ ?_
   · first
       | exact fun h => shapeSmall ((sh101 g0).trans h)
       | exact fun h => shapeSmall ((sh102 g1).trans h)
       | exact fun h => shapeSmall ((sh103 g2).trans h)
       | exact fun h => shapeSmall ((sh104 g3).trans h)
       | exact fun h => shapeSmall ((sh105 g4).trans h)
       | (intro h;cases h)
   refine Vc.ret ?_
   refine ⟨?_, trivial⟩
   show pick2 (pieceCertF a1).2 (checkMarkF a0 a1.1 a1.2.1 a1.2.2) false = checkPieceF a0 a1
   unfold checkPieceF
   rw [sh101 g0]
 · have n0 : kindF a1 ≠ 101 := bneI' h0
   refine Vc.seq (Vc.region hG rfl (by trivial) ?_)
   refine Vc.cond rfl (fun h1 => ?_) (fun h1 => ?_)
   · have g1 : kindF a1 = 102 := beqI2 h1
     refine Vc.region hG rfl (by trivial) (Vc.seq ?_)
     refine Vc.region hG rfl ?_ ?_
     · first
         | exact fun h => shapeSmall ((sh101 g0).trans h)
         | exact fun h => shapeSmall ((sh102 g1).trans h)
         | exact fun h => shapeSmall ((sh103 g2).trans h)
         | exact fun h => shapeSmall ((sh104 g3).trans h)
         | exact fun h => shapeSmall ((sh105 g4).trans h)
         | (intro h;cases h)
     refine Vc.ret ?_
     refine ⟨?_, trivial⟩
     show pick2 (pieceStatF a1).2 (checkMarkF a0 a1.1 a1.2.1 a1.2.2) false = checkPieceF a0 a1
     unfold checkPieceF
     rw [sh102 g1]
   · have n1 : kindF a1 ≠ 102 := bneI' h1
     refine Vc.seq (Vc.region hG rfl (by trivial) ?_)
     refine Vc.cond rfl (fun h2 => ?_) (fun h2 => ?_)
     · have g2 : kindF a1 = 103 := beqI2 h2
       refine Vc.region hG rfl (by trivial) (Vc.seq ?_)
       refine Vc.region hG rfl ?_ ?_
       · first
           | exact fun h => shapeSmall ((sh101 g0).trans h)
           | exact fun h => shapeSmall ((sh102 g1).trans h)
           | exact fun h => shapeSmall ((sh103 g2).trans h)
           | exact fun h => shapeSmall ((sh104 g3).trans h)
           | exact fun h => shapeSmall ((sh105 g4).trans h)
           | (intro h;cases h)
       refine Vc.ret ?_
       refine ⟨?_, trivial⟩
       show pick2 (pieceStampF a1).2 (checkMarkF a0 a1.1 a1.2.1 a1.2.2) false = checkPieceF a0 a1
       unfold checkPieceF
       rw [sh103 g2]
     · have n2 : kindF a1 ≠ 103 := bneI' h2
       refine Vc.seq (Vc.region hG rfl (by trivial) ?_)
       refine Vc.cond rfl (fun h3 => ?_) (fun h3 => ?_)
       · have g3 : kindF a1 = 104 := beqI2 h3
         refine Vc.region hG rfl (by trivial) (Vc.seq ?_)
         refine Vc.region hG rfl ?_ ?_
         · first
             | exact fun h => shapeSmall ((sh101 g0).trans h)
             | exact fun h => shapeSmall ((sh102 g1).trans h)
             | exact fun h => shapeSmall ((sh103 g2).trans h)
             | exact fun h => shapeSmall ((sh104 g3).trans h)
             | exact fun h => shapeSmall ((sh105 g4).trans h)
             | (intro h;cases h)
         refine Vc.ret ?_
         refine ⟨?_, trivial⟩
         show pick2 (pieceSignF a1).2 (checkMarkF a0 a1.1 a1.2.1 a1.2.2) false = checkPieceF a0 a1
         unfold checkPieceF
         rw [sh104 g3]
       · have n3 : kindF a1 ≠ 104 := bneI' h3
         refine Vc.seq (Vc.region hG rfl (by trivial) ?_)
         refine Vc.cond rfl (fun h4 => ?_) (fun h4 => ?_)
         · have g4 : kindF a1 = 105 := beqI2 h4
           refine Vc.region hG rfl (by trivial) (Vc.seq ?_)
           refine Vc.region hG rfl ?_ ?_
           · first
               | exact fun h => shapeSmall ((sh101 g0).trans h)
               | exact fun h => shapeSmall ((sh102 g1).trans h)
               | exact fun h => shapeSmall ((sh103 g2).trans h)
               | exact fun h => shapeSmall ((sh104 g3).trans h)
               | exact fun h => shapeSmall ((sh105 g4).trans h)
               | (intro h;cases h)
           refine Vc.ret ?_
           refine ⟨?_, trivial⟩
           show pick2 (pieceMandF a1).2 (checkMarkF a0 a1.1 a1.2.1 a1.2.2) false = checkPieceF a0 a1
           unfold checkPieceF
           rw [sh105 g4]
         · have n4 : kindF a1 ≠ 105 := bneI' h4
           refine Vc.skip (Vc.seq ?_)
           refine Vc.region hG rfl ?_ ?_
           · first
               | exact fun h => shapeSmall ((sh101 g0).trans h)
               | exact fun h => shapeSmall ((sh102 g1).trans h)
               | exact fun h => shapeSmall ((sh103 g2).trans h)
               | exact fun h => shapeSmall ((sh104 g3).trans h)
               | exact fun h => shapeSmall ((sh105 g4).trans h)
               | (intro h;cases h)
           refine Vc.ret ?_
           refine ⟨?_, trivial⟩
           show pick2 false (checkMarkF a0 a1.1 a1.2.1 a1.2.2) false = checkPieceF a0 a1
           unfold checkPieceF
           rw [shNo n0 n1 n2 n3 n4]
noncomputable def F155 : Fun := ⟨[.pair (.int .i64) Y9, .pair (.int .i64) Y9], [.pure (.bool)], fun _ => True, fun x => (pbF x.1 x.2.1, ())⟩
theorem F155_ok : Meets Tryz.prog 155 F155 := by
 refine meets_of_vc (C := mkC 73 [4] [0,1,2,3,4,5,17,30,42,57] []) (mkC_ok _ _ _ _) (fnOf_ok _) Tryz.func155 rfl rfl rfl (by decide) rfl ?_
 rintro ⟨a0, a1, _⟩ hwf hpre ⟨P, C, B, X, w0, M0, pv⟩ hG rfl rfl
 show Vc _ _ [(0, ⟨0, 0, .c Z24 a0⟩), (1, ⟨0, 0, .c Z24 a1⟩)] _
 have hb : List.length a0.2.1 ≤ bigLen := hwf.1.2.1.1
 refine Vc.seq (Vc.region hG rfl (by trivial) (Vc.seq (Vc.seq ?_)))
 refine Vc.region hG rfl (by trivial) (Vc.block ?_)
 refine Vc.loopF [(5, false, .pure (.int .i64))] [0, 1, 2, 3, 42, 57] (fun v => pbInv a0 a1 v.1) (fun v => ((List.length a0.2.1 : Int) - v.1).toNat) rfl ?_ ?_
 · exact pbStart
 rintro ⟨(i : Int), _⟩ hI
 have hI : pbInv a0 a1 i := hI
 refine Vc.seq (Vc.seq (Vc.region hG rfl (by trivial) ?_))
 refine Vc.cond rfl (fun h0 => ?_) (fun h0 => ?_)
 · have hh := andLt h0
   have hl := hh.1
   have hm := hh.2
   refine Vc.skip (Vc.seq (Vc.block (Vc.seq ?_)))
   refine Vc.regionD mixed hG rfl (by kernel_rfl) ?_ ?_
   · exact ⟨pbRangeA hI hl, pbRangeB hI hm⟩
   refine Vc.cond rfl (fun h1 => ?_) (fun h1 => ?_)
   · have g1 := bneT h1
     refine Vc.seq ?_
     refine Vc.regionD mixed hG rfl (by kernel_rfl) ?_ ?_
     · exact ⟨pbRangeA hI hl, pbRangeB hI hm⟩
     refine Vc.ret ?_
     refine ⟨?_, trivial⟩
     exact pbHit hI hl hm g1
   · have g1 := bneI h1
     refine Vc.skip (Vc.region hG rfl (by trivial) ?_)
     refine ⟨rfl, ?_⟩
     exact pbStep hI hl hm hb g1
 · have hx := andGe h0
   refine Vc.exit (Vc.seq (Vc.block (Vc.seq ?_)))
   refine Vc.region hG rfl (by trivial) ?_
   refine Vc.cond rfl (fun h2 => ?_) (fun h2 => ?_)
   · refine Vc.seq (Vc.region hG rfl (by trivial) (Vc.ret ?_))
     refine ⟨?_, trivial⟩
     exact pbLen hI hx h2
   · refine Vc.seq (Vc.region hG rfl (by trivial) ?_)
     refine Vc.cond rfl (fun h3 => ?_) (fun h3 => ?_)
     · refine Vc.seq (Vc.region hG rfl (by trivial) (Vc.ret ?_))
       refine ⟨?_, trivial⟩
       exact pbKey hI hx h2 h3
     · refine Vc.skip (Vc.seq (Vc.region hG rfl (by trivial) (Vc.ret ?_)))
       refine ⟨?_, trivial⟩
       exact pbMark hI hx h2 h3
noncomputable def F80 : Fun := ⟨[.pair Y37 Y60, .pair Y71 Y41, .slice (.slice (.int .i64))], [.own Z32], fun x => (fun (_ : Frame) (e : Evidence) (_ : List (List Int)) => Sm big20 Y71 e.1 ∧ ((cellsC Y71 e.1 : Nat) : Int) ≤ 2000000000) x.1 x.2.1 x.2.2.1, fun x => (usablePiecesF x.1 x.2.1 x.2.2.1, ())⟩
theorem F80_ok : Meets Tryz.prog 80 F80 := by
 refine meets_of_vc (C := mkC 79 [6] [0,1,2,3,4,6,7,9,11,12,14,15,16,17,21,22,23,24,48,60] [⟨153, _, F153_ok⟩, ⟨154, _, F154_ok⟩, ⟨76, _, F76_ok⟩, ⟨78, _, F78_ok⟩, ⟨155, _, F155_ok⟩, ⟨156, _, F156_ok⟩]) (mkC_ok _ _ _ _) (fnOf_ok _) Tryz.func80 rfl rfl rfl (by decide) rfl ?_
 rintro ⟨a0, a1, a2, _⟩ hwf hpre ⟨P, C, B, X, w0, M0, pv⟩ hG rfl rfl
 show Vc _ _ [(0, ⟨0, 0, .c Z72 a0⟩), (1, ⟨0, 0, .c Z75 a1⟩), (2, ⟨0, 0, .c Z7 a2⟩)] _
 have hS : Sm big20 Y71 a1.1 := hpre.1
 have hc : ((cellsC Y71 a1.1 : Nat) : Int) ≤ 2000000000 := hpre.2
 have hb : List.length a1.1 ≤ bigLen := hwf.2.1.1.1
 refine Vc.seq (Vc.region hG rfl (by trivial) (Vc.seq (Vc.region hG rfl (by trivial) ?_)))
 refine Vc.seq (Vc.seq (Vc.region hG rfl (by trivial) (Vc.block ?_)))
 refine Vc.loopF [(7, false, .own Z32), (16, false, .pure (.int .i64))] [0, 1, 2, 3, 4, 6, 14, 15] (fun v => uoInv a0 a1 a2 v.1 v.2.1) (fun v => ((List.length a1.1 : Int) - v.2.1).toNat) rfl ?_ ?_
 · exact uoStart
 rintro ⟨out, (i : Int), _⟩ hI
 have hI : uoInv a0 a1 a2 out i := hI
 refine Vc.seq (Vc.region hG rfl (by trivial) (Vc.seq ?_))
 refine Vc.cond rfl (fun h0 => ?_) (fun h0 => ?_)
 · have hl : i < (List.length a1.1 : Int) := of_decide_eq_true h0
   have ri := uoRange hI hl
   have sS := usStrand hS ri
   have hbk : List.length (List.getD a1.1 i.toNat (dflt Y68)).1 ≤ bigLen := Nat.le_trans sS.1.1 (by decide)
   refine Vc.skip (Vc.seq (Vc.block (Vc.seq ?_)))
   refine Vc.region hG rfl ?_ ?_
   · exact ri
   refine Vc.seq (Vc.region hG rfl (by trivial) (Vc.block ?_))
   refine Vc.loopF [(7, false, .own Z32), (23, false, .pure (.int .i64))] [0, 1, 2, 3, 4, 6, 9, 14, 15, 16, 17, 21, 22] (fun v => uiInv a0 a1 a2 i v.1 v.2.1) (fun v => ((List.length (List.getD a1.1 i.toNat (dflt Y68)).1 : Int) - v.2.1).toNat) rfl ?_ ?_
   · exact uiStart hI
   rintro ⟨out2, (k : Int), _⟩ hK
   have hK : uiInv a0 a1 a2 i out2 k := hK
   refine Vc.seq (Vc.region hG rfl (by trivial) (Vc.seq ?_))
   refine Vc.cond rfl (fun h1 => ?_) (fun h1 => ?_)
   · have hm : k < (List.length (List.getD a1.1 i.toNat (dflt Y68)).1 : Int) := of_decide_eq_true h1
     have rk := uiRange hK hm
     have ho := uiLen ri hK hc
     have hE : Sm big20 Y21 (List.getD (List.getD a1.1 i.toNat (dflt Y68)).1 k.toNat (dflt Y21)) := sS.1.2 _ (getD_mem rk _)
     refine Vc.skip (Vc.seq (Vc.block (Vc.seq ?_)))
     refine Vc.region hG rfl ?_ ?_
     · exact rk
     refine Vc.seq (Vc.seq ?_)
     refine Vc.regionD mixed hG rfl (by kernel_rfl) ?_ ?_
     · repeat' (first | exact trivial | exact hS | refine And.intro ?_ ?_ | intro _)
     refine Vc.cond rfl (fun h2 => ?_) (fun h2 => ?_)
     · have g2 : pick2 (pick2 (hasF out2 (List.getD (List.getD a1.1 i.toNat (dflt Y68)).1 k.toNat (dflt Y21))) true (!(checkPieceF a0.1 (List.getD (List.getD a1.1 i.toNat (dflt Y68)).1 k.toNat (dflt Y21))))) true (decide (evBoundF a0 a1 a2 (List.getD (List.getD a1.1 i.toNat (dflt Y68)).1 k.toNat (dflt Y21)) ≥ brkKeyF a0 (List.getD (List.getD a1.1 i.toNat (dflt Y68)).1 k.toNat (dflt Y21)).1)) = true := h2
       have st := uiStep hK hm hbk (usSkip g2)
       refine Vc.exit (Vc.region hG rfl (by trivial) ?_)
       refine ⟨rfl, ?_⟩
       exact st
     · have g2 : pick2 (pick2 (hasF out2 (List.getD (List.getD a1.1 i.toNat (dflt Y68)).1 k.toNat (dflt Y21))) true (!(checkPieceF a0.1 (List.getD (List.getD a1.1 i.toNat (dflt Y68)).1 k.toNat (dflt Y21))))) true (decide (evBoundF a0 a1 a2 (List.getD (List.getD a1.1 i.toNat (dflt Y68)).1 k.toNat (dflt Y21)) ≥ brkKeyF a0 (List.getD (List.getD a1.1 i.toNat (dflt Y68)).1 k.toNat (dflt Y21)).1)) = false := h2
       refine Vc.skip (Vc.seq (Vc.region hG rfl (by trivial) (Vc.seq ?_)))
       refine Vc.block ?_
       refine Vc.loopF [(12, false, .pure (.int .i64))] [0, 1, 2, 3, 4, 6, 7, 9, 11, 14, 15, 16, 17, 21, 22, 23, 24, 48] (fun v => tkInv (fun (y : Piece) => pbF y (List.getD (List.getD a1.1 i.toNat (dflt Y68)).1 k.toNat (dflt Y21))) out2 v.1) (fun v => ((List.length out2 : Int) - v.1).toNat) rfl ?_ ?_
       · exact tkStart
       rintro ⟨(q : Int), _⟩ hQ
       have hQ : tkInv (fun (y : Piece) => pbF y (List.getD (List.getD a1.1 i.toNat (dflt Y68)).1 k.toNat (dflt Y21))) out2 q := hQ
       refine Vc.seq (Vc.seq ?_)
       refine Vc.regionD mixed hG rfl (by kernel_rfl) ?_ ?_
       · exact ⟨fun h => tkRange hQ (of_decide_eq_true h), fun _ => trivial⟩
       refine Vc.cond rfl (fun h3 => ?_) (fun h3 => ?_)
       · have g3 : pick2 (decide (q < (List.length out2 : Int))) (pbF (List.getD out2 q.toNat (dflt Y21)) (List.getD (List.getD a1.1 i.toNat (dflt Y68)).1 k.toNat (dflt Y21))) false = true := h3
         refine Vc.skip (Vc.block (Vc.region hG rfl (by trivial) ?_))
         refine ⟨rfl, ?_⟩
         exact tkStepW (p := (fun (y : Piece) => pbF y (List.getD (List.getD a1.1 i.toNat (dflt Y68)).1 k.toNat (dflt Y21)))) hQ ho g3
       · have g3 : pick2 (decide (q < (List.length out2 : Int))) (pbF (List.getD out2 q.toNat (dflt Y21)) (List.getD (List.getD a1.1 i.toNat (dflt Y68)).1 k.toNat (dflt Y21))) false = false := h3
         have hk := tkEnd (p := (fun (y : Piece) => pbF y (List.getD (List.getD a1.1 i.toNat (dflt Y68)).1 k.toNat (dflt Y21)))) hQ g3
         have st := uiStep hK hm hbk ((putEq hQ hk).trans (usTake g2))
         refine Vc.exit ?_
         refine Vc.regionD mixed hG rfl (by kernel_rfl) ?_ ?_
         · exact insConds2W hQ ho hE
         refine Vc.region hG rfl (by trivial) ?_
         refine ⟨rfl, ?_⟩
         exact st
   · have hm : ¬ k < (List.length (List.getD a1.1 i.toNat (dflt Y68)).1 : Int) := of_decide_eq_false h1
     refine Vc.exit (Vc.region hG rfl (by trivial) ?_)
     refine ⟨rfl, ?_⟩
     exact uoStep hI hl hb hK hm
 · have hl : ¬ i < (List.length a1.1 : Int) := of_decide_eq_false h0
   refine Vc.exit (Vc.seq (Vc.region hG rfl (by trivial) (Vc.ret ?_)))
   refine ⟨?_, trivial⟩
   exact uoEnd hI hl
noncomputable def F259 : Fun := ⟨[.pair (.int .i64) Y42], [.pure Y4], fun _ => True, fun x => (certSpanF x.1, ())⟩
theorem F259_ok : Meets Tryz.prog 259 F259 := by
 refine meets_of_vc (C := mkC 8 [2] [0,1,2] []) (mkC_ok _ _ _ _) (fnOf_ok _) Tryz.func259 rfl rfl rfl (by decide) rfl ?_
 rintro ⟨a0, _⟩ hwf hpre ⟨P, C, B, X, w0, M0, pv⟩ hG rfl rfl
 show Vc _ _ [(0, ⟨0, 0, .c Z49 a0⟩)] _
 refine Vc.seq (Vc.region hG rfl (by trivial) (Vc.seq (Vc.region hG rfl (by trivial) ?_)))
 refine Vc.ret ?_
 refine ⟨?_, trivial⟩
 all_goals exact rfl
noncomputable def F245 : Fun := ⟨[.pair (.int .i64) Y42], [.pure (.bool)], fun _ => True, fun x => (isCertF x.1, ())⟩
theorem F245_ok : Meets Tryz.prog 245 F245 := by
 refine meets_of_vc (C := mkC 33 [2] [0,1,2] [⟨147, _, F147_ok⟩, ⟨259, _, F259_ok⟩, ⟨168, _, F168_ok⟩]) (mkC_ok _ _ _ _) (fnOf_ok _) Tryz.func245 rfl rfl rfl (by decide) rfl ?_
 rintro ⟨a0, _⟩ hwf hpre ⟨P, C, B, X, w0, M0, pv⟩ hG rfl rfl
 show Vc _ _ [(0, ⟨0, 0, .c Z49 a0⟩)] _
 refine Vc.seq (Vc.region hG rfl (by trivial) (Vc.seq ?_))
 refine Vc.region hG rfl ?_ ?_
 · repeat' (first | exact trivial | refine And.intro ?_ ?_ | intro _)
 refine Vc.ret ?_
 refine ⟨?_, trivial⟩
 all_goals exact rfl
noncomputable def F246 : Fun := ⟨[.pair (.int .i64) Y42], [.own (.pure (.int .i64))], fun _ => True, fun x => (certIntsF x.1, ())⟩
theorem F246_ok : Meets Tryz.prog 246 F246 := by
 refine meets_of_vc (C := mkC 16 [2] [0,1,2] []) (mkC_ok _ _ _ _) (fnOf_ok _) Tryz.func246 rfl rfl rfl (by decide) rfl ?_
 rintro ⟨a0, _⟩ hwf hpre ⟨P, C, B, X, w0, M0, pv⟩ hG rfl rfl
 show Vc _ _ [(0, ⟨0, 0, .c Z49 a0⟩)] _
 refine Vc.seq (Vc.region hG rfl (by trivial) (Vc.seq (Vc.region hG rfl (by trivial) ?_)))
 refine Vc.ret ?_
 refine ⟨?_, trivial⟩
 all_goals exact rfl
noncomputable def F247 : Fun := ⟨[.slice Y35, .int .i64], [.pure (.int .i64)], fun _ => True, fun x => (ownerF x.1 x.2.1, ())⟩
theorem F247_ok : Meets Tryz.prog 247 F247 := by
 refine meets_of_vc (C := mkC 16 [4] [0,1,4,5,10] [⟨74, _, F74_ok⟩]) (mkC_ok _ _ _ _) (fnOf_ok _) Tryz.func247 rfl rfl rfl (by decide) rfl ?_
 rintro ⟨a0, (a1 : Int), _⟩ hwf hpre ⟨P, C, B, X, w0, M0, pv⟩ hG rfl rfl
 show Vc _ _ [(0, ⟨0, 0, .c Z40 a0⟩), (1, ⟨0, 0, .c (.pure (.int .i64)) a1⟩)] _
 refine Vc.seq (Vc.region hG rfl (by trivial) (Vc.seq (Vc.seq ?_)))
 refine Vc.region hG rfl (by trivial) (Vc.seq (Vc.region hG rfl (by trivial) ?_))
 refine Vc.cond rfl (fun h0 => ?_) (fun h0 => ?_)
 · have g0 : ¬ keyI a0 a1 < 0 := Int.not_lt.2 (of_decide_eq_true h0)
   refine Vc.seq ?_
   refine Vc.region hG rfl ?_ ?_
   · exact findRange g0
   refine Vc.ret ?_
   refine ⟨?_, trivial⟩
   exact owner1 g0
 · have g0 : keyI a0 a1 < 0 := Int.not_le.1 (of_decide_eq_false h0)
   refine Vc.skip (Vc.seq (Vc.region hG rfl (by trivial) (Vc.ret ?_)))
   refine ⟨?_, trivial⟩
   exact owner0 g0
noncomputable def F158 : Fun := ⟨[.slice Y35, .pair (.int .i64) Y42], [.pure (.bool)], fun _ => True, fun x => (checkCertF x.1 x.2.1, ())⟩
theorem F158_ok : Meets Tryz.prog 158 F158 := by
 refine meets_of_vc (C := mkC 26 [4] [0,1,3,4] [⟨245, _, F245_ok⟩, ⟨246, _, F246_ok⟩, ⟨149, _, F149_ok⟩, ⟨247, _, F247_ok⟩]) (mkC_ok _ _ _ _) (fnOf_ok _) Tryz.func158 rfl rfl rfl (by decide) rfl ?_
 rintro ⟨a0, a1, _⟩ hwf hpre ⟨P, C, B, X, w0, M0, pv⟩ hG rfl rfl
 show Vc _ _ [(0, ⟨0, 0, .c Z40 a0⟩), (1, ⟨0, 0, .c Z49 a1⟩)] _
 refine Vc.seq (Vc.region hG rfl (by trivial) (Vc.seq ?_))
 refine Vc.regionD mixed hG rfl (by kernel_rfl) ?_ ?_
 · exact ⟨trivial, fun _ => trivial, fun _ => smallLit (n := 7) rfl (by decide), fun _ => trivial⟩
 refine Vc.ret ?_
 refine ⟨?_, trivial⟩
 exact checkCertI a0 a1
end Fw
