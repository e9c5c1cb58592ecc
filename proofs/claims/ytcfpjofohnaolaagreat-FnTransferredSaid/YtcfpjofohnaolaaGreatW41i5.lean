/- Walks of functions of the program: what each computes. Conditions: those that each contract names. -/
import Derived.Test.YtcfpjofohnaolaaGreatW41T
import Derived.Test.YtcfpjofohnaolaaGreatW41i0
import Derived.Test.YtcfpjofohnaolaaGreatW41i3
import Derived.Test.YtcfpjofohnaolaaGreatW41i4
namespace Fw
open Go Go.Proofs
set_option linter.unusedSimpArgs false
set_option maxRecDepth 100000
noncomputable def F60 : Fun := ⟨[.pair Y20 Y47], [.pure (.bool)], fun _ => True, fun x => (strandF x.1, ())⟩
theorem F60_ok : Meets Tryz.prog 60 F60 := by
 refine meets_of_vc (C := mkC 65 [2] [0,1,2,3,4,5,6,17,19,20,21,22,31,34,35,36,37,63] [⟨32, _, F32_ok⟩, ⟨86, _, F86_ok⟩]) (mkC_ok _ _ _ _) (fnOf_ok _) Tryz.func60 rfl rfl rfl (by decide) rfl ?_
 rintro ⟨a0, _⟩ hwf hpre ⟨P, C, B, X, w0, M0, pv⟩ hG rfl rfl
 show Vc _ _ [(0, ⟨0, 0, .c Z51 a0⟩)] _
 have hb0 : List.length a0.1 ≤ bigLen := hwf.1.1.1
 have hb1 : List.length a0.2 ≤ bigLen := hwf.1.2.1
 refine Vc.seq (Vc.region hG rfl (by trivial) (Vc.seq (Vc.seq ?_)))
 refine Vc.region hG rfl ?_ ?_
 · repeat' (first | exact trivial | refine And.intro ?_ ?_ | intro _)
 refine Vc.cond rfl (fun h0 => ?_) (fun h0 => ?_)
 · have g0 : pick2 (!(inRangeF (List.length a0.1 : Int) 1 12)) true (decide ((List.length a0.2 : Int) > 8)) = true := h0
   refine Vc.seq (Vc.region hG rfl (by trivial) (Vc.ret ?_))
   refine ⟨?_, trivial⟩
   refine boolC_no (P := strandP a0) (fun h => ?_)
   exact noOr (nself h.1) (fun q => absurd h.2.1 (Int.not_le.2 (of_decide_eq_true q))) g0
 · have g0 : pick2 (!(inRangeF (List.length a0.1 : Int) 1 12)) true (decide ((List.length a0.2 : Int) > 8)) = false := h0
   refine Vc.skip (Vc.seq (Vc.seq (Vc.region hG rfl (by trivial) ?_)))
   refine Vc.block ?_
   refine Vc.loopF [(21, false, .pure (.int .i64))] [0, 1, 5, 6, 17, 19, 20, 34, 35, 36, 37, 63] (fun v => kInv (fun k => newP a0 k) a0.1 v.1) (fun v => ((List.length a0.1 : Int) - v.1).toNat) rfl ?_ ?_
   · exact kStart
   rintro ⟨(i : Int), _⟩ hI0
   have hI0 : kInv (fun k => newP a0 k) a0.1 i := hI0
   refine Vc.seq (Vc.region hG rfl (by trivial) (Vc.seq ?_))
   refine Vc.cond rfl (fun h1 => ?_) (fun h1 => ?_)
   · have hl0 : i < (List.length a0.1 : Int) := of_decide_eq_true h1
     refine Vc.skip (Vc.seq (Vc.block (Vc.seq ?_)))
     refine Vc.region hG rfl ?_ ?_
     · exact kRange hI0 hl0
     refine Vc.seq ?_
     refine Vc.regionD mixed hG rfl (by kernel_rfl) ?_ ?_
     · exact ⟨Int.le_refl _, (headCond hI0 hl0).2.1, (headCond hI0 hl0).2.2, trivial⟩
     refine Vc.cond rfl (fun h2 => ?_) (fun h2 => ?_)
     · have g2 : ¬ newP a0 i.toNat := hasBad hI0 hl0 h2
       refine Vc.seq (Vc.region hG rfl (by trivial) (Vc.ret ?_))
       refine ⟨?_, trivial⟩
       refine boolC_no (P := strandP a0) (fun h => ?_)
       exact g2 (h.2.2.1 i.toNat (kLt hI0 hl0))
     · have g2 : newP a0 i.toNat := hasGood hI0 hl0 h2
       refine Vc.skip (Vc.region hG rfl (by trivial) ?_)
       refine ⟨rfl, ?_⟩
       exact kStep hI0 hl0 hb0 g2
   · have hl0 : ¬ i < (List.length a0.1 : Int) := of_decide_eq_false h1
     refine Vc.exit (Vc.seq (Vc.seq (Vc.region hG rfl (by trivial) ?_)))
     refine Vc.block ?_
     refine Vc.loopF [(36, false, .pure (.int .i64))] [0, 1, 3, 4, 17, 19, 20, 21, 22, 31, 34, 35] (fun v => kInv (fun k => renP a0 k) a0.2 v.1) (fun v => ((List.length a0.2 : Int) - v.1).toNat) rfl ?_ ?_
     · exact kStart
     rintro ⟨(i : Int), _⟩ hI1
     have hI1 : kInv (fun k => renP a0 k) a0.2 i := hI1
     refine Vc.seq (Vc.region hG rfl (by trivial) (Vc.seq ?_))
     refine Vc.cond rfl (fun h3 => ?_) (fun h3 => ?_)
     · have hl1 : i < (List.length a0.2 : Int) := of_decide_eq_true h3
       refine Vc.skip (Vc.seq (Vc.block (Vc.seq ?_)))
       refine Vc.region hG rfl ?_ ?_
       · exact kRange hI1 hl1
       refine Vc.seq ?_
       refine Vc.regionD mixed hG rfl (by kernel_rfl) ?_ ?_
       · exact ⟨trivial, fun h2 => backRange hI1 hl1 hb1 (of_decide_eq_true h2)⟩
       refine Vc.cond rfl (fun h4 => ?_) (fun h4 => ?_)
       · have g4 : renBadF a0 i = true := h4
         refine Vc.seq (Vc.region hG rfl (by trivial) (Vc.ret ?_))
         refine ⟨?_, trivial⟩
         refine boolC_no (P := strandP a0) (fun h => ?_)
         exact renBad hI1 hl1 hb1 g4 (h.2.2.2 i.toNat (kLt hI1 hl1))
       · have g4 : renBadF a0 i = false := h4
         refine Vc.skip (Vc.region hG rfl (by trivial) ?_)
         refine ⟨rfl, ?_⟩
         exact kStep hI1 hl1 hb1 (renGood hI1 hl1 hb1 g4)
     · have hl1 : ¬ i < (List.length a0.2 : Int) := of_decide_eq_false h3
       refine Vc.exit (Vc.seq (Vc.region hG rfl (by trivial) (Vc.ret ?_)))
       refine ⟨?_, trivial⟩
       exact boolC_yes (P := strandP a0) ⟨notF (orF g0).1, Int.not_lt.1 (of_decide_eq_false (orF g0).2), kEnd hI0 hl0, kEnd hI1 hl1⟩
noncomputable def F87 : Fun := ⟨[.pair (.int .i64) Y37], [.own (.pure (.int .i64))], fun _ => True, fun x => (sigIntsF x.1, ())⟩
theorem F87_ok : Meets Tryz.prog 87 F87 := by
 refine meets_of_vc (C := mkC 20 [2] [0,1,2] []) (mkC_ok _ _ _ _) (fnOf_ok _) Tryz.func87 rfl rfl rfl (by decide) rfl ?_
 rintro ⟨a0, _⟩ hwf hpre ⟨P, C, B, X, w0, M0, pv⟩ hG rfl rfl
 show Vc _ _ [(0, ⟨0, 0, .c Z41 a0⟩)] _
 refine Vc.seq (Vc.region hG rfl (by trivial) (Vc.seq (Vc.region hG rfl (by trivial) ?_)))
 refine Vc.ret ?_
 refine ⟨?_, trivial⟩
 all_goals exact rfl
noncomputable def F62 : Fun := ⟨[.pair (.int .i64) Y37], [.pair (.pure (.int .i64)) Z11], fun _ => True, fun x => (signPieceF x.1, ())⟩
theorem F62_ok : Meets Tryz.prog 62 F62 := by
 refine meets_of_vc (C := mkC 10 [2] [0,1,2] [⟨87, _, F87_ok⟩]) (mkC_ok _ _ _ _) (fnOf_ok _) Tryz.func62 rfl rfl rfl (by decide) rfl ?_
 rintro ⟨a0, _⟩ hwf hpre ⟨P, C, B, X, w0, M0, pv⟩ hG rfl rfl
 show Vc _ _ [(0, ⟨0, 0, .c Z41 a0⟩)] _
 refine Vc.seq (Vc.region hG rfl (by trivial) (Vc.seq (Vc.regionD mixed hG rfl (by kernel_rfl) (by trivial) ?_)))
 refine Vc.ret ?_
 refine ⟨?_, trivial⟩
 all_goals exact rfl
noncomputable def F31 : Fun := ⟨[.pair (.int .i64) Y56], [.pure (.bool)], fun _ => True, fun x => (itemF x.1, ())⟩
theorem F31_ok : Meets Tryz.prog 31 F31 := by
 refine meets_of_vc (C := mkC 32 [2] [0,1,2] [⟨32, _, F32_ok⟩, ⟨58, _, F58_ok⟩, ⟨59, _, F59_ok⟩, ⟨60, _, F60_ok⟩, ⟨62, _, F62_ok⟩, ⟨61, _, F61_ok⟩]) (mkC_ok _ _ _ _) (fnOf_ok _) Tryz.func31 rfl rfl rfl (by decide) rfl ?_
 rintro ⟨a0, _⟩ hwf hpre ⟨P, C, B, X, w0, M0, pv⟩ hG rfl rfl
 show Vc _ _ [(0, ⟨0, 0, .c Z58 a0⟩)] _
 refine Vc.seq (Vc.region hG rfl (by trivial) (Vc.seq ?_))
 refine Vc.regionD mixed hG rfl (by kernel_rfl) ?_ ?_
 · exact ⟨trivial, fun _ => trivial, fun _ => trivial, fun _ => trivial, fun h => strand0 h, fun _ => trivial, fun _ => trivial⟩
 refine Vc.ret ?_
 refine ⟨?_, trivial⟩
 all_goals exact rfl
noncomputable def F13 : Fun := ⟨[.pair (.int .i64) Y64, .int .i64], [.pure (.bool)], fun x => (fun (p : Parcel) (_ : Int) => Sm big20 Y65 p) x.1 x.2.1, fun x => (checkParcelF x.1 x.2.1, ())⟩
theorem F13_ok : Meets Tryz.prog 13 F13 := by
 refine meets_of_vc (C := mkC 31 [4] [0,1,2,4,6,8,9,10,11,16] [⟨31, _, F31_ok⟩, ⟨32, _, F32_ok⟩, ⟨39, _, F39_ok⟩]) (mkC_ok _ _ _ _) (fnOf_ok _) Tryz.func13 rfl rfl rfl (by decide) rfl ?_
 rintro ⟨a0, (a1 : Int), _⟩ hwf hpre ⟨P, C, B, X, w0, M0, pv⟩ hG rfl rfl
 show Vc _ _ [(0, ⟨0, 0, .c (.pure Y65) a0⟩), (1, ⟨0, 0, .c (.pure (.int .i64)) a1⟩)] _
 have hp : Sm big20 Y59 a0.2.2.1 := hpre.2.2.1
 have hb : List.length a0.2.2.1 ≤ bigLen := hwf.1.2.2.1.1
 refine Vc.seq (Vc.region hG rfl (by trivial) (Vc.seq (Vc.seq ?_)))
 refine Vc.region hG rfl (by trivial) (Vc.block ?_)
 refine Vc.loopF [(10, false, .pure (.int .i64))] [0, 1, 2, 8, 9] (fun v => efInv (fun x => !(itemF x)) (fun (b : Bool) _ => b) false (pick2 (inRangeF (List.length a0.2.2.1 : Int) 1 8) (a0.2.2.2 == digItemsF a1 a0.2.2.1) false) a0.2.2.1 (pick2 (inRangeF (List.length a0.2.2.1 : Int) 1 8) (a0.2.2.2 == digItemsF a1 a0.2.2.1) false) v.1) (fun v => ((List.length a0.2.2.1 : Int) - v.1).toNat) rfl ?_ ?_
 · exact efStart
 rintro ⟨(i : Int), _⟩ hI
 have hI : efInv (fun x => !(itemF x)) (fun (b : Bool) _ => b) false (pick2 (inRangeF (List.length a0.2.2.1 : Int) 1 8) (a0.2.2.2 == digItemsF a1 a0.2.2.1) false) a0.2.2.1 (pick2 (inRangeF (List.length a0.2.2.1 : Int) 1 8) (a0.2.2.2 == digItemsF a1 a0.2.2.1) false) i := hI
 refine Vc.seq (Vc.region hG rfl (by trivial) (Vc.seq ?_))
 refine Vc.cond rfl (fun h0 => ?_) (fun h0 => ?_)
 · have hl : i < (List.length a0.2.2.1 : Int) := of_decide_eq_true h0
   refine Vc.skip (Vc.seq (Vc.block (Vc.seq ?_)))
   refine Vc.region hG rfl ?_ ?_
   · exact efRange hI hl
   refine Vc.seq (Vc.region hG rfl (by trivial) ?_)
   refine Vc.cond rfl (fun h1 => ?_) (fun h1 => ?_)
   · have g1 : (!(itemF (List.getD a0.2.2.1 i.toNat (dflt Y57)))) = true := h1
     refine Vc.seq (Vc.region hG rfl (by trivial) (Vc.ret ?_))
     refine ⟨?_, trivial⟩
     exact efStop (d := dflt Y57) hI hl g1
   · have g1 : (!(itemF (List.getD a0.2.2.1 i.toNat (dflt Y57)))) = false := h1
     refine Vc.skip (Vc.region hG rfl (by trivial) ?_)
     refine ⟨rfl, ?_⟩
     exact efStep (d := dflt Y57) hI hl hb g1
 · have hl : ¬ i < (List.length a0.2.2.1 : Int) := of_decide_eq_false h0
   refine Vc.exit (Vc.seq ?_)
   refine Vc.regionD mixed hG rfl (by kernel_rfl) ?_ ?_
   · exact ⟨trivial, fun _ => hp⟩
   refine Vc.ret ?_
   refine ⟨?_, trivial⟩
   exact efEnd hI hl
noncomputable def F28 : Fun := ⟨[.pair (.int .i64) Y59], [.pair (.pure (.int .i64)) Z68], fun x => Sm big20 Y60 x.1, fun x => (id x.1, ())⟩
theorem F28_ok : Meets Tryz.prog 28 F28 := by
 refine meets_of_vc (C := mkC 25 [2] [0,1,2,3,5,10,11,12,13] [⟨54, _, F54_ok⟩]) (mkC_ok _ _ _ _) (fnOf_ok _) Tryz.func28 rfl rfl rfl (by decide) rfl ?_
 rintro ⟨a0, _⟩ hwf hpre ⟨P, C, B, X, w0, M0, pv⟩ hG rfl rfl
 show Vc _ _ [(0, ⟨0, 0, .c Z62 a0⟩)] _
 have hp : _ ∧ _ := hpre.2
 have hb : List.length a0.2 ≤ bigLen := hwf.1.2.1
 refine Vc.seq (Vc.region hG rfl (by trivial) (Vc.seq (Vc.region hG rfl (by trivial) ?_)))
 refine Vc.seq (Vc.seq (Vc.region hG rfl (by trivial) (Vc.block ?_)))
 refine Vc.loopF [(3, true, .pair (.pure (.int .i64)) Z68), (12, false, .pure (.int .i64))] [0, 1, 2, 10, 11] (fun v => v.1.1 = a0.1 ∧ cpInv a0.2 v.1.2 v.2.1) (fun v => ((List.length a0.2 : Int) - v.2.1).toNat) rfl ?_ ?_
 · exact ⟨rfl, cpStart⟩
 rintro ⟨acc, (i : Int), _⟩ hI
 have hI : acc.1 = a0.1 ∧ cpInv a0.2 acc.2 i := hI
 refine Vc.seq (Vc.region hG rfl (by trivial) (Vc.seq ?_))
 refine Vc.cond rfl (fun h0 => ?_) (fun h0 => ?_)
 · have hl : i < (List.length a0.2 : Int) := of_decide_eq_true h0
   have hE : Sm big20 Y57 (List.getD a0.2 i.toNat (dflt Y57)) := hp.2 _ (upElem hI.2.1 hl)
   refine Vc.skip (Vc.seq (Vc.block (Vc.seq ?_)))
   refine Vc.region hG rfl ?_ ?_
   · exact cpRange hI.2 hl
   refine Vc.regionD mixed hG rfl (by kernel_rfl) ?_ ?_
   · exact ⟨hE, cpLen hI.2 hl hp.1⟩
   refine Vc.region hG rfl (by trivial) ?_
   refine ⟨rfl, ?_⟩
   have e := cpStep (d := dflt Y57) hI.2 hl hb rfl
   exact ⟨⟨hI.1, e.1⟩, e.2⟩
 · have hl : ¬ i < (List.length a0.2 : Int) := of_decide_eq_false h0
   refine Vc.exit (Vc.seq (Vc.region hG rfl (by trivial) (Vc.ret ?_)))
   refine ⟨?_, trivial⟩
   exact Prod.ext hI.1 (cpEnd hI.2 hl)
end Fw
