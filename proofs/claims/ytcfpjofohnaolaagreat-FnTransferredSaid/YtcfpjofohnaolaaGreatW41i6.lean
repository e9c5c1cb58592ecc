/- Walks of functions of the program: what each computes. Conditions: those that each contract names. -/
import Derived.Test.YtcfpjofohnaolaaGreatW41T
import Derived.Test.YtcfpjofohnaolaaGreatW41i0
import Derived.Test.YtcfpjofohnaolaaGreatW41i5
namespace Fw
open Go Go.Proofs
set_option linter.unusedSimpArgs false
set_option maxRecDepth 100000
noncomputable def F9 : Fun := ⟨[.pair (.int .i64) Y59], [.pure (.bool)], fun _ => True, fun x => (archF x.1, ())⟩
theorem F9_ok : Meets Tryz.prog 9 F9 := by
 refine meets_of_vc (C := mkC 42 [2] [0,1,2,3,4,6,7,8,9,31] [⟨31, _, F31_ok⟩, ⟨32, _, F32_ok⟩]) (mkC_ok _ _ _ _) (fnOf_ok _) Tryz.func9 rfl rfl rfl (by decide) rfl ?_
 rintro ⟨a0, _⟩ hwf hpre ⟨P, C, B, X, w0, M0, pv⟩ hG rfl rfl
 show Vc _ _ [(0, ⟨0, 0, .c Z62 a0⟩)] _
 have hb0 : List.length a0.2 ≤ bigLen := hwf.1.2.1
 refine Vc.seq (Vc.region hG rfl (by trivial) (Vc.seq (Vc.seq ?_)))
 refine Vc.region hG rfl (by trivial) (Vc.block ?_)
 refine Vc.loopF [(8, false, .pure (.int .i64))] [0, 1, 6, 7] (fun v => kInv (fun k => goodP a0 k) a0.2 v.1) (fun v => ((List.length a0.2 : Int) - v.1).toNat) rfl ?_ ?_
 · exact kStart
 rintro ⟨(i : Int), _⟩ hI0
 have hI0 : kInv (fun k => goodP a0 k) a0.2 i := hI0
 refine Vc.seq (Vc.region hG rfl (by trivial) (Vc.seq ?_))
 refine Vc.cond rfl (fun h0 => ?_) (fun h0 => ?_)
 · have hl0 : i < (List.length a0.2 : Int) := of_decide_eq_true h0
   refine Vc.skip (Vc.seq (Vc.block (Vc.seq ?_)))
   refine Vc.region hG rfl ?_ ?_
   · exact kRange hI0 hl0
   refine Vc.seq ?_
   refine Vc.regionD mixed hG rfl (by kernel_rfl) ?_ ?_
   · exact ⟨trivial, fun h2 => backRange hI0 hl0 hb0 (of_decide_eq_true h2)⟩
   refine Vc.cond rfl (fun h1 => ?_) (fun h1 => ?_)
   · have g1 : badF a0 i = true := h1
     refine Vc.seq (Vc.region hG rfl (by trivial) (Vc.ret ?_))
     refine ⟨?_, trivial⟩
     refine boolC_no (fun h => ?_)
     have q := (goodIff hI0 hb0).2 (h.1 i.toNat (kLt hI0 hl0))
     rw [g1] at q; cases q
   · have g1 : badF a0 i = false := h1
     have s0 : goodP a0 i.toNat := (goodIff hI0 hb0).1 g1
     refine Vc.skip (Vc.region hG rfl (by trivial) ?_)
     refine ⟨rfl, ?_⟩
     exact kStep hI0 hl0 hb0 s0
 · have hl0 : ¬ i < (List.length a0.2 : Int) := of_decide_eq_false h0
   refine Vc.exit (Vc.seq ?_)
   refine Vc.region hG rfl ?_ ?_
   · repeat' (first | exact trivial | refine And.intro ?_ ?_ | intro _)
   refine Vc.ret ?_
   refine ⟨?_, trivial⟩
   refine boolC_by (fun e => ?_) (fun h => ?_)
   · exact ⟨kEnd hI0 hl0, (andT e).1, of_decide_eq_true (andT e).2⟩
   · exact yesAnd h.2.1 (decide_eq_true h.2.2)
noncomputable def F55 : Fun := ⟨[.pair (.int .i64) Y59, .pair (.int .i64) Y56], [.pair (.pure (.int .i64)) Z68, .pure (.bool)], fun x => (fun (a : Archive) (x : Item) => Sm big20 Y60 a ∧ Sm big20 Y57 x) x.1 x.2.1, fun x => ((addItemF x.1 x.2.1).1, (addItemF x.1 x.2.1).2, ())⟩
theorem F55_ok : Meets Tryz.prog 55 F55 := by
 refine meets_of_vc (C := mkC 62 [4, 5] [0,1,2,3,4,5,6,7,17,37,58] [⟨10, _, F10_ok⟩, ⟨9, _, F9_ok⟩, ⟨28, _, F28_ok⟩, ⟨54, _, F54_ok⟩]) (mkC_ok _ _ _ _) (fnOf_ok _) Tryz.func55 rfl rfl rfl (by decide) rfl ?_
 rintro ⟨a0, a1, _⟩ hwf hpre ⟨P, C, B, X, w0, M0, pv⟩ hG rfl rfl
 show Vc _ _ [(0, ⟨0, 0, .c Z62 a0⟩), (1, ⟨0, 0, .c Z58 a1⟩)] _
 have hp1 : Sm big20 Y60 a0 := hpre.1
 have hp2 : Sm big20 Y57 a1 := hpre.2
 have hs : List.length a0.2 ≤ 1048576 := hp1.2.1
 have hb : List.length a0.2 ≤ bigLen := hwf.1.2.1
 refine Vc.seq (Vc.region hG rfl (by trivial) (Vc.seq (Vc.seq ?_)))
 refine Vc.region hG rfl ?_ ?_
 · repeat' (first | exact trivial | refine And.intro ?_ ?_ | intro _)
 refine Vc.cond rfl (fun h0 => ?_) (fun h0 => ?_)
 · have g0 : pick2 (decide (itAt a0 a1.1 ≥ 0)) true (!(archF a0)) = true := h0
   refine Vc.seq ?_
   refine Vc.region hG rfl ?_ ?_
   · exact hp1
   refine Vc.ret ?_
   have e := ai0 g0
   refine ⟨?_, ?_, trivial⟩
   · exact (congrArg Prod.fst e).symm
   · exact (congrArg Prod.snd e).symm
 · have g0 := aiGo (a := a0) (x := a1) h0
   refine Vc.skip (Vc.seq ?_)
   refine Vc.region hG rfl ?_ ?_
   · exact hp1
   refine Vc.seq (Vc.region hG rfl (by trivial) (Vc.seq (Vc.block ?_)))
   refine Vc.loopF [(7, false, .pure (.int .i64))] [0, 1, 2, 3, 4, 5, 6, 17, 58] (fun v => tkInv (fun (y : Item) => decide (y.1 < a1.1)) a0.2 v.1) (fun v => ((List.length a0.2 : Int) - v.1).toNat) rfl ?_ ?_
   · exact tkStart
   rintro ⟨(i : Int), _⟩ hI
   have hI : tkInv (fun (y : Item) => decide (y.1 < a1.1)) a0.2 i := hI
   refine Vc.seq (Vc.seq ?_)
   refine Vc.regionD mixed hG rfl (by kernel_rfl) ?_ ?_
   · exact fun h => tkRange hI (of_decide_eq_true h)
   refine Vc.cond rfl (fun h1 => ?_) (fun h1 => ?_)
   · have g1 : pick2 (decide (i < (List.length a0.2 : Int))) (decide ((List.getD a0.2 i.toNat (dflt TItem)).1 < a1.1)) false = true := h1
     refine Vc.skip (Vc.block (Vc.region hG rfl (by trivial) ?_))
     refine ⟨rfl, ?_⟩
     exact tkStep (p := fun (y : Item) => decide (y.1 < a1.1)) hI (Nat.le_trans hs (by decide)) g1
   · have g1 : pick2 (decide (i < (List.length a0.2 : Int))) (decide ((List.getD a0.2 i.toNat (dflt TItem)).1 < a1.1)) false = false := h1
     have hk := tkEnd (p := fun (y : Item) => decide (y.1 < a1.1)) hI g1
     have ei : (List.take (subL a0.2 0 i).length a0.2 ++ ([] ++ [a1]) ++ List.drop i.toNat a0.2) = insI a1 a0.2 := insP_eq (by rw [sub0_len hI]; exact hk) hk
     refine Vc.exit (Vc.seq ?_)
     refine Vc.regionD mixed hG rfl (by kernel_rfl) ?_ ?_
     · exact insConds2 hI (Nat.le_trans hs (by decide)) hp2
     refine Vc.seq (Vc.seq (Vc.region hG rfl (by trivial) ?_))
     refine Vc.cond rfl (fun h2 => ?_) (fun h2 => ?_)
     · have g2 : (!(archF (a0.1, insI a1 a0.2))) = true := by rw [← ei]; exact h2
       refine Vc.seq ?_
       refine Vc.region hG rfl ?_ ?_
       · exact hp1
       refine Vc.ret ?_
       have e := ai1 g2
       refine ⟨?_, ?_, trivial⟩
       · exact (congrArg Prod.fst e).symm
       · exact (congrArg Prod.snd e).symm
     · have g2 : (!(archF (a0.1, insI a1 a0.2))) = false := by rw [← ei]; exact h2
       refine Vc.skip (Vc.seq (Vc.region hG rfl (by trivial) (Vc.ret ?_)))
       have e : addItemF a0 a1 = ((a0.1, (List.take (subL a0.2 0 i).length a0.2 ++ ([] ++ [a1]) ++ List.drop i.toNat a0.2)), true) := by rw [ei]; exact ai2 g0 g2
       refine ⟨?_, ?_, trivial⟩
       · exact (congrArg Prod.fst e).symm
       · exact (congrArg Prod.snd e).symm
noncomputable def F27 : Fun := ⟨[.pair (.int .i64) Y59, .pair (.int .i64) Y64, .int .i64], [.pair (.pure (.int .i64)) Z68, .pure (.bool)], fun x => (fun (a : Archive) (p : Parcel) (_ : Int) => Sm big20 Y60 a ∧ Sm big20 Y65 p) x.1 x.2.1 x.2.2.1, fun x => ((acceptF x.1 x.2.1 x.2.2.1).1, (acceptF x.1 x.2.1 x.2.2.1).2, ())⟩
theorem F27_ok : Meets Tryz.prog 27 F27 := by
 refine meets_of_vc (C := mkC 48 [6, 7, 8] [0,1,2,3,4,6,7,8,10,11,12,23,29,30,31,32,42] [⟨13, _, F13_ok⟩, ⟨28, _, F28_ok⟩, ⟨55, _, F55_ok⟩]) (mkC_ok _ _ _ _) (fnOf_ok _) Tryz.func27 rfl rfl rfl (by decide) rfl ?_
 rintro ⟨a0, a1, (a2 : Int), _⟩ hwf hpre ⟨P, C, B, X, w0, M0, pv⟩ hG rfl rfl
 show Vc _ _ [(0, ⟨0, 0, .c Z62 a0⟩), (1, ⟨0, 0, .c (.pure Y65) a1⟩), (2, ⟨0, 0, .c (.pure (.int .i64)) a2⟩)] _
 have hp1 : Sm big20 Y60 a0 := hpre.1
 have hp2 : Sm big20 Y65 a1 := hpre.2
 have hb : List.length a1.2.2.1 ≤ bigLen := hwf.2.1.2.2.1.1
 refine Vc.seq (Vc.region hG rfl (by trivial) (Vc.seq (Vc.seq ?_)))
 refine Vc.region hG rfl ?_ ?_
 · exact hp2
 refine Vc.cond rfl (fun h0 => ?_) (fun h0 => ?_)
 · have g0 : pick2 (!(checkParcelF a1 a2)) true (a1.2.1 != a0.1) = true := h0
   refine Vc.seq ?_
   refine Vc.region hG rfl ?_ ?_
   · exact hp1
   refine Vc.ret ?_
   have e := ac0 g0
   refine ⟨?_, ?_, trivial⟩
   · exact (congrArg Prod.fst e).symm
   · exact (congrArg Prod.snd e).symm
 · have g0 := acGo (a := a0) (p := a1) (m := a2) h0
   refine Vc.skip (Vc.seq ?_)
   refine Vc.region hG rfl ?_ ?_
   · exact hp1
   refine Vc.seq (Vc.seq (Vc.region hG rfl (by trivial) (Vc.block ?_)))
   refine Vc.loopF [(6, true, .pair (.pure (.int .i64)) Z68), (8, true, .pair (.pure (.int .i64)) Z68), (31, false, .pure (.int .i64))] [0, 1, 2, 3, 4, 23, 29, 30] (fun v => acInv a0 a1 a2 v.2.1 true v.2.2.1) (fun v => ((List.length a1.2.2.1 : Int) - v.2.2.1).toNat) rfl ?_ ?_
   · exact acStart hp1 g0.symm
   rintro ⟨r, o, (i : Int), _⟩ hI
   have hI : acInv a0 a1 a2 o true i := hI
   refine Vc.seq (Vc.region hG rfl (by trivial) (Vc.seq ?_))
   refine Vc.cond rfl (fun h1 => ?_) (fun h1 => ?_)
   · have hl : i < (List.length a1.2.2.1 : Int) := of_decide_eq_true h1
     have hE : Sm big20 Y57 (List.getD a1.2.2.1 i.toNat (dflt Y57)) := hp2.2.2.1.2 _ (upElem hI.1.1 hl)
     refine Vc.skip (Vc.seq (Vc.block (Vc.seq ?_)))
     refine Vc.region hG rfl ?_ ?_
     · exact upRange hI.1.1 hl
     refine Vc.seq ?_
     refine Vc.region hG rfl ?_ ?_
     · exact ⟨hI.2, hE⟩
     refine Vc.seq (Vc.seq (Vc.region hG rfl (by trivial) ?_))
     refine Vc.cond rfl (fun h2 => ?_) (fun h2 => ?_)
     · have g2 : (!(addItemF o (List.getD a1.2.2.1 i.toNat (dflt Y57))).2) = true := h2
       refine Vc.seq ?_
       refine Vc.region hG rfl ?_ ?_
       · exact hp1
       refine Vc.ret ?_
       have e := acFail hI hl g2
       refine ⟨?_, ?_, trivial⟩
       · exact (congrArg Prod.fst e).symm
       · exact (congrArg Prod.snd e).symm
     · have g2 : (!(addItemF o (List.getD a1.2.2.1 i.toNat (dflt Y57))).2) = false := h2
       refine Vc.skip (Vc.region hG rfl (by trivial) (Vc.region hG rfl (by trivial) ?_))
       refine ⟨rfl, ?_⟩
       exact acNext hI rfl hl hb hE rfl (notF g2).symm
   · have hl : ¬ i < (List.length a1.2.2.1 : Int) := of_decide_eq_false h1
     refine Vc.exit (Vc.seq (Vc.region hG rfl (by trivial) (Vc.ret ?_)))
     have e := acDone hI hl
     refine ⟨?_, ?_, trivial⟩
     · exact (congrArg Prod.fst e).symm
     · exact (congrArg Prod.snd e).symm
end Fw
