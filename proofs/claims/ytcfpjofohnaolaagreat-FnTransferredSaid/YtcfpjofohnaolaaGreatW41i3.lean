/- Walks of functions of the program: what each computes. Conditions: those that each contract names. -/
import Derived.Test.YtcfpjofohnaolaaGreatW41T
import Derived.Test.YtcfpjofohnaolaaGreatW41i0
import Derived.Test.YtcfpjofohnaolaaGreatW41i1
import Derived.Test.YtcfpjofohnaolaaGreatW41i2
namespace Fw
open Go Go.Proofs
set_option linter.unusedSimpArgs false
set_option maxRecDepth 100000
noncomputable def F11 : Fun := ⟨[.int .i64, .pair (.int .i64) Y56], [.pure (.int .i64)], fun x => (fun (_ : Int) (x : Item) => Sm big20 Y57 x) x.1 x.2.1, fun x => (itemDigF x.1 x.2.1, ())⟩
theorem F11_ok : Meets Tryz.prog 11 F11 := by
 refine meets_of_vc (C := mkC 40 [4] [0,1,3,4,5,7,24,25,26,27] [⟨33, _, F33_ok⟩, ⟨34, _, F34_ok⟩, ⟨35, _, F35_ok⟩, ⟨36, _, F36_ok⟩]) (mkC_ok _ _ _ _) (fnOf_ok _) Tryz.func11 rfl rfl rfl (by decide) rfl ?_
 rintro ⟨(a0 : Int), a1, _⟩ hwf hpre ⟨P, C, B, X, w0, M0, pv⟩ hG rfl rfl
 show Vc _ _ [(0, ⟨0, 0, .c (.pure (.int .i64)) a0⟩), (1, ⟨0, 0, .c Z58 a1⟩)] _
 have hp : Sm big20 Y57 a1 := hpre
 have hP : Sm big20 (.slice TPiece) a1.2.2.2.2.1 := hp.2.2.2.2.1
 have hR : List.length a1.2.2.2.2.2 ≤ big20 ∧ ∀ x ∈ a1.2.2.2.2.2, Sm big20 TRen x := hp.2.2.2.2.2
 have hL : List.length a1.2.2.2.2.2 ≤ 1048576 := hR.1
 have hb : List.length a1.2.2.2.2.2 ≤ bigLen := hwf.2.1.2.2.2.2.2.1
 refine Vc.seq (Vc.region hG rfl (by trivial) (Vc.seq ?_))
 refine Vc.regionD mixed hG rfl (by kernel_rfl) ?_ ?_
 · exact ⟨trivial, hP⟩
 refine Vc.seq (Vc.seq (Vc.region hG rfl (by trivial) (Vc.block ?_)))
 refine Vc.loopF [(5, false, .own (.pure (.int .i64))), (26, false, .pure (.int .i64))] [0, 1, 3, 4, 24, 25] (fun v => gsInv (renG a0 a1) (itemHd a0 a1) a1.2.2.2.2.2 v.1 v.2.1) (fun v => ((List.length a1.2.2.2.2.2 : Int) - v.2.1).toNat) rfl ?_ ?_
 · exact gsStart
 rintro ⟨acc, (i : Int), _⟩ hI
 have hI : gsInv (renG a0 a1) (itemHd a0 a1) a1.2.2.2.2.2 acc i := hI
 have hA : List.length acc ≤ 1048581 := gsLen (c := 1) (m := 1048576) hI (fun _ => Nat.le_refl _) hL (Nat.le_refl _)
 refine Vc.seq (Vc.region hG rfl (by trivial) (Vc.seq ?_))
 refine Vc.cond rfl (fun h0 => ?_) (fun h0 => ?_)
 · have hl : i < (List.length a1.2.2.2.2.2 : Int) := of_decide_eq_true h0
   have hE : Sm big20 TRen (List.getD a1.2.2.2.2.2 i.toNat (dflt TRen)) := hR.2 _ (upElem hI.1 hl)
   refine Vc.skip (Vc.seq (Vc.block (Vc.seq ?_)))
   refine Vc.region hG rfl ?_ ?_
   · exact gsRange hI hl
   refine Vc.region hG rfl ?_ ?_
   · exact ⟨hE, (show List.length acc + 1 ≤ maxApp from by unfold maxApp; omega)⟩
   refine Vc.region hG rfl (by trivial) ?_
   refine ⟨rfl, ?_⟩
   exact gsStep hI hl hb rfl
 · have hl : ¬ i < (List.length a1.2.2.2.2.2 : Int) := of_decide_eq_false h0
   refine Vc.exit (Vc.seq ?_)
   refine Vc.region hG rfl ?_ ?_
   · exact (show List.length acc ≤ 1000000000 from by omega)
   refine Vc.ret ?_
   refine ⟨?_, trivial⟩
   have e := congrArg (digestF a0) (gsEnd hI hl)
   exact e
noncomputable def F49 : Fun := ⟨[.int .i64, .int .i64, .int .i64], [.pure (.int .i64)], fun _ => True, fun x => (pairDF x.1 x.2.1 x.2.2.1, ())⟩
theorem F49_ok : Meets Tryz.prog 49 F49 := by
 refine meets_of_vc (C := mkC 12 [6] [0,1,2,6] [⟨36, _, F36_ok⟩]) (mkC_ok _ _ _ _) (fnOf_ok _) Tryz.func49 rfl rfl rfl (by decide) rfl ?_
 rintro ⟨(a0 : Int), (a1 : Int), (a2 : Int), _⟩ hwf hpre ⟨P, C, B, X, w0, M0, pv⟩ hG rfl rfl
 show Vc _ _ [(0, ⟨0, 0, .c (.pure (.int .i64)) a0⟩), (1, ⟨0, 0, .c (.pure (.int .i64)) a1⟩), (2, ⟨0, 0, .c (.pure (.int .i64)) a2⟩)] _
 refine Vc.seq (Vc.region hG rfl (by trivial) (Vc.seq ?_))
 refine Vc.region hG rfl ?_ ?_
 · exact smallLit (n := 3) rfl (by decide)
 refine Vc.ret ?_
 refine ⟨?_, trivial⟩
 all_goals exact rfl
noncomputable def F76 : Fun := ⟨[.int .i64, .slice (.int .i64)], [.own (.pure (.int .i64))], fun x => (fun (_ : Int) (l : List Int) => List.length l ≤ 1048576) x.1 x.2.1, fun x => (upF x.1 x.2.1, ())⟩
theorem F76_ok : Meets Tryz.prog 76 F76 := by
 refine meets_of_vc (C := mkC 40 [4] [0,1,4,5,6,10,17] [⟨49, _, F49_ok⟩]) (mkC_ok _ _ _ _) (fnOf_ok _) Tryz.func76 rfl rfl rfl (by decide) rfl ?_
 rintro ⟨(a0 : Int), a1, _⟩ hwf hpre ⟨P, C, B, X, w0, M0, pv⟩ hG rfl rfl
 show Vc _ _ [(0, ⟨0, 0, .c (.pure (.int .i64)) a0⟩), (1, ⟨0, 0, .c Z3 a1⟩)] _
 have hs : List.length a1 ≤ 1048576 := hpre
 refine Vc.seq (Vc.region hG rfl (by trivial) (Vc.seq (Vc.region hG rfl (by trivial) ?_)))
 refine Vc.seq (Vc.seq (Vc.region hG rfl (by trivial) (Vc.block ?_)))
 refine Vc.loopF [(5, false, .own (.pure (.int .i64))), (6, false, .pure (.int .i64))] [0, 1, 4] (fun v => liInv a0 a1 v.1 v.2.1) (fun v => ((List.length a1 : Int) - v.2.1).toNat) rfl ?_ ?_
 · exact liStart
 rintro ⟨out, (i : Int), _⟩ hI
 have hI : liInv a0 a1 out i := hI
 refine Vc.seq (Vc.seq (Vc.region hG rfl (by trivial) ?_))
 refine Vc.cond rfl (fun h0 => ?_) (fun h0 => ?_)
 · have hl : i < (List.length a1 : Int) := of_decide_eq_true h0
   refine Vc.skip (Vc.seq (Vc.block (Vc.seq ?_)))
   refine Vc.region hG rfl (by trivial) ?_
   refine Vc.cond rfl (fun h1 => ?_) (fun h1 => ?_)
   · have g1 : IntKind.i64.wrap (i + 1) < (List.length a1 : Int) := of_decide_eq_true h1
     refine Vc.regionD mixed hG rfl (by kernel_rfl) ?_ ?_
     · exact ⟨liRange hI hl, liRange1 hI g1 hs hl, trivial, liLen hI hs hl⟩
     refine Vc.region hG rfl (by trivial) ?_
     refine ⟨rfl, ?_⟩
     first
       | exact li2 hI hl hs g1
       | exact li1 hI hl hs g1
   · have g1 : ¬ IntKind.i64.wrap (i + 1) < (List.length a1 : Int) := of_decide_eq_false h1
     refine Vc.region hG rfl ?_ ?_
     · exact ⟨liRange hI hl, liLen hI hs hl⟩
     refine Vc.region hG rfl (by trivial) ?_
     refine ⟨rfl, ?_⟩
     first
       | exact li2 hI hl hs g1
       | exact li1 hI hl hs g1
 · have hl : ¬ i < (List.length a1 : Int) := of_decide_eq_false h0
   refine Vc.exit (Vc.seq (Vc.region hG rfl (by trivial) (Vc.ret ?_)))
   refine ⟨?_, trivial⟩
   exact liEnd hI hl
noncomputable def F48 : Fun := ⟨[.int .i64, .slice (.int .i64)], [.pure (.int .i64)], fun _ => True, fun x => (treeF x.1 x.2.1, ())⟩
theorem F48_ok : Meets Tryz.prog 48 F48 := by
 refine meets_of_vc (C := mkC 18 [4] [0,1,4,8,11] [⟨32, _, F32_ok⟩, ⟨76, _, F76_ok⟩]) (mkC_ok _ _ _ _) (fnOf_ok _) Tryz.func48 rfl rfl rfl (by decide) rfl ?_
 rintro ⟨(a0 : Int), a1, _⟩ hwf hpre ⟨P, C, B, X, w0, M0, pv⟩ hG rfl rfl
 show Vc _ _ [(0, ⟨0, 0, .c (.pure (.int .i64)) a0⟩), (1, ⟨0, 0, .c Z3 a1⟩)] _
 refine Vc.seq (Vc.region hG rfl (by trivial) (Vc.seq (Vc.seq ?_)))
 refine Vc.region hG rfl (by trivial) ?_
 refine Vc.cond rfl (fun h0 => ?_) (fun h0 => ?_)
 · have g0 : (!(inRangeF (List.length a1 : Int) 1 16)) = true := h0
   refine Vc.seq (Vc.region hG rfl (by trivial) (Vc.ret ?_))
   refine ⟨?_, trivial⟩
   exact tree0 g0
 · have g0 : (!(inRangeF (List.length a1 : Int) 1 16)) = false := h0
   have gr := rg g0
   refine Vc.skip (Vc.seq (Vc.block ?_))
   refine Vc.loopZ [(1, false, .pure (.slice (.int .i64)))] [0, 4, 8] [1] (fun v => trInv a0 a1 v.1) (fun v => List.length v.1) rfl rfl ?_ ?_
   · exact trStart gr
   rintro ⟨l, _⟩ hI
   have hI : trInv a0 a1 l := hI
   refine Vc.seq (Vc.seq (Vc.region hG rfl (by trivial) ?_))
   refine Vc.cond rfl (fun h1 => ?_) (fun h1 => ?_)
   · have g1 : (List.length l : Int) > 1 := of_decide_eq_true h1
     refine Vc.skip (Vc.block ?_)
     refine Vc.region hG rfl ?_ ?_
     · exact trSmall hI
     refine ⟨rfl, ?_⟩
     exact trStep hI g1
   · have g1 : ¬ (List.length l : Int) > 1 := of_decide_eq_false h1
     refine Vc.exit (Vc.seq ?_)
     refine Vc.region hG rfl ?_ ?_
     · exact trIdx hI
     refine Vc.ret ?_
     refine ⟨?_, trivial⟩
     exact trEnd hI g1 g0
noncomputable def F39 : Fun := ⟨[.int .i64, .slice Y57], [.pure (.int .i64)], fun x => (fun (_ : Int) (l : List Item) => Sm big20 Y59 l) x.1 x.2.1, fun x => (digItemsF x.1 x.2.1, ())⟩
theorem F39_ok : Meets Tryz.prog 39 F39 := by
 refine meets_of_vc (C := mkC 24 [4] [0,1,4,5,7,8,9,10,11] [⟨11, _, F11_ok⟩, ⟨48, _, F48_ok⟩]) (mkC_ok _ _ _ _) (fnOf_ok _) Tryz.func39 rfl rfl rfl (by decide) rfl ?_
 rintro ⟨(a0 : Int), a1, _⟩ hwf hpre ⟨P, C, B, X, w0, M0, pv⟩ hG rfl rfl
 show Vc _ _ [(0, ⟨0, 0, .c (.pure (.int .i64)) a0⟩), (1, ⟨0, 0, .c (.pure Y59) a1⟩)] _
 have hp : _ ∧ _ := hpre
 have hs : List.length a1 ≤ 1048576 := hp.1
 have hb : List.length a1 ≤ bigLen := hwf.2.1.1
 refine Vc.seq (Vc.region hG rfl (by trivial) (Vc.seq (Vc.region hG rfl (by trivial) ?_)))
 refine Vc.seq (Vc.seq (Vc.region hG rfl (by trivial) (Vc.block ?_)))
 refine Vc.loopF [(5, false, .own (.pure (.int .i64))), (10, false, .pure (.int .i64))] [0, 1, 4, 8, 9] (fun v => pkInv (idF a0) a1 v.1 v.2.1) (fun v => ((List.length a1 : Int) - v.2.1).toNat) rfl ?_ ?_
 · exact pkStart
 rintro ⟨acc, (i : Int), _⟩ hI
 have hI : pkInv (idF a0) a1 acc i := hI
 refine Vc.seq (Vc.region hG rfl (by trivial) (Vc.seq ?_))
 refine Vc.cond rfl (fun h0 => ?_) (fun h0 => ?_)
 · have hl : i < (List.length a1 : Int) := of_decide_eq_true h0
   have hE : Sm big20 Y57 (List.getD a1 i.toNat (dflt Y57)) := hp.2 _ (upElem hI.1 hl)
   refine Vc.skip (Vc.seq (Vc.block (Vc.seq ?_)))
   refine Vc.region hG rfl ?_ ?_
   · exact pkRange hI hl
   refine Vc.region hG rfl ?_ ?_
   · exact ⟨hE, pkLen hI hs⟩
   refine Vc.region hG rfl (by trivial) ?_
   refine ⟨rfl, ?_⟩
   exact pkYes (d := dflt Y57) hI hl hb rfl
 · have hl : ¬ i < (List.length a1 : Int) := of_decide_eq_false h0
   refine Vc.exit (Vc.seq (Vc.region hG rfl (by trivial) (Vc.ret ?_)))
   refine ⟨?_, trivial⟩
   have e := congrArg (treeF a0) (pkEnd hI hl)
   exact e
end Fw
