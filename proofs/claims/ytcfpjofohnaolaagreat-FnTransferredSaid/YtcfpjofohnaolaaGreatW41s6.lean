/- Walks of functions of the program: what each computes. Conditions: those that each contract names. -/
import Derived.Test.YtcfpjofohnaolaaGreatW41T
import Derived.Test.YtcfpjofohnaolaaGreatW41s1
import Derived.Test.YtcfpjofohnaolaaGreatW41s2
import Derived.Test.YtcfpjofohnaolaaGreatW41s3
import Derived.Test.YtcfpjofohnaolaaGreatW41s4
namespace Fw
open Go Go.Proofs
set_option linter.unusedSimpArgs false
set_option maxRecDepth 100000
noncomputable def F130 : Fun := ⟨[.pair Y20 Y47, .pair (.int .i64) Y42], [.pair Z26 Z49, .pure (.bool)], fun x => (fun (s : Strand) (r : Renewal) => Sm big20 Y50 s ∧ Sm big20 Y44 r) x.1 x.2.1, fun x => ((addRenF x.1 x.2.1).1, (addRenF x.1 x.2.1).2, ())⟩
theorem F130_ok : Meets Tryz.prog 130 F130 := by
 refine meets_of_vc (C := mkC 22 [4, 5] [0,1,2,3,4,5,6,18] [⟨91, _, F91_ok⟩, ⟨110, _, F110_ok⟩, ⟨120, _, F120_ok⟩]) (mkC_ok _ _ _ _) (fnOf_ok _) Tryz.func130 rfl rfl rfl (by decide) rfl ?_
 rintro ⟨a0, a1, _⟩ hwf hpre ⟨P, C, B, X, w0, M0, pv⟩ hG rfl rfl
 show Vc _ _ [(0, ⟨0, 0, .c Z51 a0⟩), (1, ⟨0, 0, .c Z46 a1⟩)] _
 have hp1 : Sm big20 Y50 a0 := hpre.1
 have hp2 : Sm big20 Y44 a1 := hpre.2
 refine Vc.seq (Vc.region hG rfl (by trivial) (Vc.seq ?_))
 refine Vc.region hG rfl ?_ ?_
 · exact hp1
 refine Vc.seq ?_
 refine Vc.regionD mixed hG rfl (by kernel_rfl) ?_ ?_
 · exact ⟨hp2, arLen hp1.2.1⟩
 refine Vc.seq (Vc.seq (Vc.region hG rfl (by trivial) ?_))
 refine Vc.cond rfl (fun h0 => ?_) (fun h0 => ?_)
 · have g0 : (!(strandF (a0.1, a0.2 ++ [a1]))) = true := h0
   refine Vc.seq ?_
   refine Vc.region hG rfl ?_ ?_
   · exact hp1
   refine Vc.ret ?_
   have e := ar0 g0
   refine ⟨?_, ?_, trivial⟩
   · exact (congrArg Prod.fst e).symm
   · exact (congrArg Prod.snd e).symm
 · have g0 : (!(strandF (a0.1, a0.2 ++ [a1]))) = false := h0
   refine Vc.skip (Vc.seq (Vc.region hG rfl (by trivial) (Vc.ret ?_)))
   have e := ar1 g0
   refine ⟨?_, ?_, trivial⟩
   · exact (congrArg Prod.fst e).symm
   · exact (congrArg Prod.snd e).symm
noncomputable def F101 : Fun := ⟨[.pair Y20 Y47, .pair (.int .i64) Y9], [.own (.pure (.int .i64))], fun x => (fun (s : Strand) (_ : Doc) => List.length s.2 ≤ 2000000) x.1 x.2.1, fun x => (docDigsF x.1 x.2.1, ())⟩
theorem F101_ok : Meets Tryz.prog 101 F101 := by
 refine meets_of_vc (C := mkC 27 [4] [0,1,2,3,4,5,6,12] [⟨111, _, F111_ok⟩]) (mkC_ok _ _ _ _) (fnOf_ok _) Tryz.func101 rfl rfl rfl (by decide) rfl ?_
 rintro ⟨a0, a1, _⟩ hwf hpre ⟨P, C, B, X, w0, M0, pv⟩ hG rfl rfl
 show Vc _ _ [(0, ⟨0, 0, .c Z51 a0⟩), (1, ⟨0, 0, .c Z22 a1⟩)] _
 have hs : List.length a0.2 ≤ 2000000 := hpre
 have hb : List.length a0.2 ≤ bigLen := hwf.1.2.1
 refine Vc.seq (Vc.region hG rfl (by trivial) (Vc.seq (Vc.region hG rfl (by trivial) ?_)))
 refine Vc.seq (Vc.seq (Vc.region hG rfl (by trivial) (Vc.block ?_)))
 refine Vc.loopF [(5, false, .own (.pure (.int .i64))), (6, false, .pure (.int .i64))] [0, 1, 2, 3, 4] (fun v => pkInv (ddF a1) a0.2 v.1 v.2.1) (fun v => ((List.length a0.2 : Int) - v.2.1).toNat) rfl ?_ ?_
 · exact pkStart
 rintro ⟨acc, (i : Int), _⟩ hI
 have hI : pkInv (ddF a1) a0.2 acc i := hI
 refine Vc.seq (Vc.seq (Vc.region hG rfl (by trivial) ?_))
 refine Vc.cond rfl (fun h0 => ?_) (fun h0 => ?_)
 · have hl : i < (List.length a0.2 : Int) := of_decide_eq_true h0
   refine Vc.skip (Vc.seq (Vc.block ?_))
   refine Vc.regionD mixed hG rfl (by kernel_rfl) ?_ ?_
   · exact ⟨pkRange hI hl, trivial, pkLen2 hI hs⟩
   refine Vc.region hG rfl (by trivial) ?_
   refine ⟨rfl, ?_⟩
   exact pkYes (d := dflt Y44) hI hl hb rfl
 · have hl : ¬ i < (List.length a0.2 : Int) := of_decide_eq_false h0
   refine Vc.exit (Vc.seq (Vc.region hG rfl (by trivial) (Vc.ret ?_)))
   refine ⟨?_, trivial⟩
   exact pkEnd hI hl
noncomputable def F113 : Fun := ⟨[.int .i64, .pair (.int .i64) Y42], [.pure (.int .i64)], fun x => (fun (_ : Int) (r : Renewal) => Sm big20 TRen r) x.1 x.2.1, fun x => (renDigF x.1 x.2.1, ())⟩
theorem F113_ok : Meets Tryz.prog 113 F113 := by
 refine meets_of_vc (C := mkC 75 [4] [0,1,3,4,5,6,7,19,36,53] [⟨97, _, F97_ok⟩, ⟨114, _, F114_ok⟩]) (mkC_ok _ _ _ _) (fnOf_ok _) Tryz.func113 rfl rfl rfl (by decide) rfl ?_
 rintro ⟨(a0 : Int), a1, _⟩ hwf hpre ⟨P, C, B, X, w0, M0, pv⟩ hG rfl rfl
 show Vc _ _ [(0, ⟨0, 0, .c (.pure (.int .i64)) a0⟩), (1, ⟨0, 0, .c Z46 a1⟩)] _
 have hp : Sm big20 TRen a1 := hpre
 have h3 : List.length a1.2.2.2.1 ≤ 1048576 := hp.2.2.2.1.1
 have h4 : List.length a1.2.2.2.2 ≤ 1048576 := hp.2.2.2.2.1
 have hb0 : List.length a1.2.2.2.1 ≤ bigLen := hwf.2.1.2.2.2.1.1
 have hb1 : List.length a1.2.2.2.2 ≤ bigLen := hwf.2.1.2.2.2.2.1
 refine Vc.seq (Vc.region hG rfl (by trivial) (Vc.seq (Vc.region hG rfl (by trivial) ?_)))
 refine Vc.seq (Vc.seq (Vc.region hG rfl (by trivial) (Vc.block ?_)))
 refine Vc.loopF [(5, false, .own (.pure (.int .i64))), (6, false, .pure (.int .i64))] [0, 1, 3, 4, 7, 53] (fun v => gsInv (stepG a1) [4, a1.1, a1.2.1, a1.2.2.1] a1.2.2.2.1 v.1 v.2.1) (fun v => ((List.length a1.2.2.2.1 : Int) - v.2.1).toNat) rfl ?_ ?_
 · exact gsStart
 rintro ⟨acc, (i : Int), _⟩ hI0
 have hI0 : gsInv (stepG a1) [4, a1.1, a1.2.1, a1.2.2.1] a1.2.2.2.1 acc i := hI0
 have hA : List.length acc ≤ 2097156 := gsLen (c := 2) (m := 1048576) hI0 (fun _ => Nat.le_refl _) h3 (by simp)
 refine Vc.seq (Vc.seq (Vc.region hG rfl (by trivial) ?_))
 refine Vc.cond rfl (fun h0 => ?_) (fun h0 => ?_)
 · have hl0 : i < (List.length a1.2.2.2.1 : Int) := of_decide_eq_true h0
   refine Vc.skip (Vc.seq (Vc.block (Vc.seq ?_)))
   refine Vc.region hG rfl ?_ ?_
   · exact ⟨gsRange hI0 hl0, (show List.length acc + 1 ≤ maxApp from by unfold maxApp; omega)⟩
   refine Vc.seq ?_
   refine Vc.region hG rfl ?_ ?_
   · exact gsRange hI0 hl0
   refine Vc.cond rfl (fun h1 => ?_) (fun h1 => ?_)
   · have g1 : (List.getD a1.2.2.2.1 i.toNat (dflt TStep)).2 = true := h1
     refine Vc.region hG rfl ?_ ?_
     · exact (by show List.length (acc ++ [(List.getD a1.2.2.2.1 i.toNat (dflt TStep)).1]) + 1 ≤ maxApp; rw [List.length_append]; show List.length acc + 1 + 1 ≤ maxApp; unfold maxApp; omega)
     refine Vc.region hG rfl (by trivial) ?_
     refine ⟨rfl, ?_⟩
     first | exact gsStep hI0 hl0 hb0 (stepYes g1) | exact gsStep hI0 hl0 hb0 (stepNo g1)
   · have g1 : (List.getD a1.2.2.2.1 i.toNat (dflt TStep)).2 = false := h1
     refine Vc.region hG rfl ?_ ?_
     · exact (by show List.length (acc ++ [(List.getD a1.2.2.2.1 i.toNat (dflt TStep)).1]) + 1 ≤ maxApp; rw [List.length_append]; show List.length acc + 1 + 1 ≤ maxApp; unfold maxApp; omega)
     refine Vc.region hG rfl (by trivial) ?_
     refine ⟨rfl, ?_⟩
     first | exact gsStep hI0 hl0 hb0 (stepYes g1) | exact gsStep hI0 hl0 hb0 (stepNo g1)
 · have hl0 : ¬ i < (List.length a1.2.2.2.1 : Int) := of_decide_eq_false h0
   refine Vc.exit (Vc.seq ?_)
   refine Vc.region hG rfl ?_ ?_
   · exact (show List.length acc + 1 ≤ maxApp from by unfold maxApp; omega)
   refine Vc.seq (Vc.seq (Vc.region hG rfl (by trivial) (Vc.block ?_)))
   refine Vc.loopF [(5, false, .own (.pure (.int .i64))), (7, false, .pure (.int .i64))] [0, 1, 3, 4, 6, 19, 36] (fun v => gsInv (stmpG a1) (renMid a1) a1.2.2.2.2 v.1 v.2.1) (fun v => ((List.length a1.2.2.2.2 : Int) - v.2.1).toNat) rfl ?_ ?_
   · exact gsStart2 (renMidEq hI0 hl0)
   rintro ⟨acc2, (i : Int), _⟩ hI1
   have hI1 : gsInv (stmpG a1) (renMid a1) a1.2.2.2.2 acc2 i := hI1
   have hA2 : List.length acc2 ≤ 8388613 := gsLen (c := 6) (m := 1048576) hI1 (fun _ => Nat.le_refl _) h4 (by have := midLen h3; omega)
   refine Vc.seq (Vc.seq (Vc.region hG rfl (by trivial) ?_))
   refine Vc.cond rfl (fun h2 => ?_) (fun h2 => ?_)
   · have hl1 : i < (List.length a1.2.2.2.2 : Int) := of_decide_eq_true h2
     refine Vc.skip (Vc.seq (Vc.block ?_))
     refine Vc.regionD mixed hG rfl (by kernel_rfl) ?_ ?_
     · exact ⟨gsRange hI1 hl1, trivial, (show List.length acc2 + 5 ≤ maxApp from by unfold maxApp; omega), gsRange hI1 hl1, (by show List.length (acc2 ++ stampIntsF (List.getD a1.2.2.2.2 i.toNat (dflt TStamp))) + 1 ≤ maxApp; rw [List.length_append]; show List.length acc2 + 5 + 1 ≤ maxApp; unfold maxApp; omega)⟩
     refine Vc.region hG rfl (by trivial) ?_
     refine ⟨rfl, ?_⟩
     exact gsStep hI1 hl1 hb1 stmpEq
   · have hl1 : ¬ i < (List.length a1.2.2.2.2 : Int) := of_decide_eq_false h2
     refine Vc.exit (Vc.seq ?_)
     refine Vc.region hG rfl ?_ ?_
     · exact (show List.length acc2 ≤ 1000000000 from by omega)
     refine Vc.ret ?_
     refine ⟨?_, trivial⟩
     have e := congrArg (digestF a0) (gsEnd hI1 hl1)
     exact e
noncomputable def F112 : Fun := ⟨[.int .i64, .slice Y14], [.pure (.int .i64)], fun x => (fun (_ : Int) (l : List Piece) => Sm big20 (.slice TPiece) l) x.1 x.2.1, fun x => (piecesF x.1 x.2.1, ())⟩
theorem F112_ok : Meets Tryz.prog 112 F112 := by
 refine meets_of_vc (C := mkC 39 [4] [0,1,4,5,6,11] [⟨114, _, F114_ok⟩]) (mkC_ok _ _ _ _) (fnOf_ok _) Tryz.func112 rfl rfl rfl (by decide) rfl ?_
 rintro ⟨(a0 : Int), a1, _⟩ hwf hpre ⟨P, C, B, X, w0, M0, pv⟩ hG rfl rfl
 show Vc _ _ [(0, ⟨0, 0, .c (.pure (.int .i64)) a0⟩), (1, ⟨0, 0, .c Z23 a1⟩)] _
 have hp : List.length a1 ≤ big20 ∧ ∀ x ∈ a1, Sm big20 TPiece x := hpre
 have hL : List.length a1 ≤ 1048576 := hp.1
 have hb : List.length a1 ≤ bigLen := hwf.2.1.1
 refine Vc.seq (Vc.region hG rfl (by trivial) (Vc.seq (Vc.region hG rfl (by trivial) ?_)))
 refine Vc.seq (Vc.seq (Vc.region hG rfl (by trivial) (Vc.block ?_)))
 refine Vc.loopF [(5, false, .own (.pure (.int .i64))), (6, false, .pure (.int .i64))] [0, 1, 4] (fun v => gsInv (piecesG a0 a1) [2] a1 v.1 v.2.1) (fun v => ((List.length a1 : Int) - v.2.1).toNat) rfl ?_ ?_
 · exact gsStart
 rintro ⟨acc, (i : Int), _⟩ hI
 have hI : gsInv (piecesG a0 a1) [2] a1 acc i := hI
 have hA : List.length acc ≤ 1048577 := gsLen (c := 1) (m := 1048576) hI (fun _ => Nat.le_refl _) hL (by simp)
 refine Vc.seq (Vc.seq (Vc.region hG rfl (by trivial) ?_))
 refine Vc.cond rfl (fun h0 => ?_) (fun h0 => ?_)
 · have hl : i < (List.length a1 : Int) := of_decide_eq_true h0
   have hE : List.length (List.getD a1 i.toNat (dflt TPiece)).2.1 ≤ 1048576 := (hp.2 _ (upElem hI.1 hl)).2.1.1
   refine Vc.skip (Vc.seq (Vc.block ?_))
   refine Vc.regionD mixed hG rfl (by kernel_rfl) ?_ ?_
   · exact ⟨gsRange hI hl, gsRange hI hl, gsRange hI hl, (show 2 + List.length (List.getD a1 i.toNat (dflt TPiece)).2.1 ≤ maxApp from by unfold maxApp; omega), (show List.length (List.getD a1 i.toNat (dflt TPiece)).2.1 + 2 ≤ 1000000000 from by omega), (show List.length acc + 1 ≤ maxApp from by unfold maxApp; omega)⟩
   refine Vc.region hG rfl (by trivial) ?_
   refine ⟨rfl, ?_⟩
   exact gsStep hI hl hb rfl
 · have hl : ¬ i < (List.length a1 : Int) := of_decide_eq_false h0
   refine Vc.exit (Vc.seq ?_)
   refine Vc.region hG rfl ?_ ?_
   · exact (show List.length acc ≤ 1000000000 from by omega)
   refine Vc.ret ?_
   refine ⟨?_, trivial⟩
   have e := congrArg (digestF a0) (gsEnd hI hl)
   exact e
noncomputable def F117 : Fun := ⟨[.int .i64, .int .i64, .slice Y14, .int .i64], [.pure (.int .i64)], fun x => (fun (_ _ : Int) (l : List Piece) (_ : Int) => Sm big20 (.slice TPiece) l) x.1 x.2.1 x.2.2.1 x.2.2.2.1, fun x => (leafOfF x.1 x.2.1 x.2.2.1 x.2.2.2.1, ())⟩
theorem F117_ok : Meets Tryz.prog 117 F117 := by
 refine meets_of_vc (C := mkC 17 [8] [0,1,2,3,8] [⟨112, _, F112_ok⟩, ⟨114, _, F114_ok⟩]) (mkC_ok _ _ _ _) (fnOf_ok _) Tryz.func117 rfl rfl rfl (by decide) rfl ?_
 rintro ⟨(a0 : Int), (a1 : Int), a2, (a3 : Int), _⟩ hwf hpre ⟨P, C, B, X, w0, M0, pv⟩ hG rfl rfl
 show Vc _ _ [(0, ⟨0, 0, .c (.pure (.int .i64)) a0⟩), (1, ⟨0, 0, .c (.pure (.int .i64)) a1⟩), (2, ⟨0, 0, .c Z23 a2⟩), (3, ⟨0, 0, .c (.pure (.int .i64)) a3⟩)] _
 have hp : Sm big20 (.slice TPiece) a2 := hpre
 refine Vc.seq (Vc.region hG rfl (by trivial) (Vc.seq ?_))
 refine Vc.region hG rfl ?_ ?_
 · exact ⟨hp, smallLit (n := 4) rfl (by decide)⟩
 refine Vc.ret ?_
 refine ⟨?_, trivial⟩
 all_goals exact rfl
end Fw
