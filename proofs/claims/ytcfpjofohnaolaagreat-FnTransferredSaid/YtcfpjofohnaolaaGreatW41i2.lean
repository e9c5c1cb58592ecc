/- Walks of functions of the program: what each computes. Conditions: those that each contract names. -/
import Derived.Test.YtcfpjofohnaolaaGreatW41T
import Derived.Test.YtcfpjofohnaolaaGreatW41i1
namespace Fw
open Go Go.Proofs
set_option linter.unusedSimpArgs false
set_option maxRecDepth 100000
noncomputable def F35 : Fun := ⟨[.int .i64, .pair (.int .i64) Y42], [.pure (.int .i64)], fun x => (fun (_ : Int) (r : Renewal) => Sm big20 TRen r) x.1 x.2.1, fun x => (renDigF x.1 x.2.1, ())⟩
theorem F35_ok : Meets Tryz.prog 35 F35 := by
 refine meets_of_vc (C := mkC 59 [4] [0,1,3,4,5,7,8,10,19,20,21,22,26,41,42,43,44] [⟨64, _, F64_ok⟩, ⟨36, _, F36_ok⟩]) (mkC_ok _ _ _ _) (fnOf_ok _) Tryz.func35 rfl rfl rfl (by decide) rfl ?_
 rintro ⟨(a0 : Int), a1, _⟩ hwf hpre ⟨P, C, B, X, w0, M0, pv⟩ hG rfl rfl
 show Vc _ _ [(0, ⟨0, 0, .c (.pure (.int .i64)) a0⟩), (1, ⟨0, 0, .c Z46 a1⟩)] _
 have hp : Sm big20 TRen a1 := hpre
 have h3 : List.length a1.2.2.2.1 ≤ 1048576 := hp.2.2.2.1.1
 have h4 : List.length a1.2.2.2.2 ≤ 1048576 := hp.2.2.2.2.1
 have hb0 : List.length a1.2.2.2.1 ≤ bigLen := hwf.2.1.2.2.2.1.1
 have hb1 : List.length a1.2.2.2.2 ≤ bigLen := hwf.2.1.2.2.2.2.1
 refine Vc.seq (Vc.region hG rfl (by trivial) (Vc.seq (Vc.region hG rfl (by trivial) ?_)))
 refine Vc.seq (Vc.seq (Vc.region hG rfl (by trivial) (Vc.block ?_)))
 refine Vc.loopF [(5, false, .own (.pure (.int .i64))), (21, false, .pure (.int .i64))] [0, 1, 3, 4, 10, 19, 20, 41, 42, 43, 44] (fun v => gsInv (stepG a1) [4, a1.1, a1.2.1, a1.2.2.1] a1.2.2.2.1 v.1 v.2.1) (fun v => ((List.length a1.2.2.2.1 : Int) - v.2.1).toNat) rfl ?_ ?_
 · exact gsStart
 rintro ⟨acc, (i : Int), _⟩ hI0
 have hI0 : gsInv (stepG a1) [4, a1.1, a1.2.1, a1.2.2.1] a1.2.2.2.1 acc i := hI0
 have hA : List.length acc ≤ 2097156 := gsLen (c := 2) (m := 1048576) hI0 (fun _ => Nat.le_refl _) h3 (by simp)
 refine Vc.seq (Vc.region hG rfl (by trivial) (Vc.seq ?_))
 refine Vc.cond rfl (fun h0 => ?_) (fun h0 => ?_)
 · have hl0 : i < (List.length a1.2.2.2.1 : Int) := of_decide_eq_true h0
   refine Vc.skip (Vc.seq (Vc.block (Vc.seq ?_)))
   refine Vc.region hG rfl ?_ ?_
   · exact gsRange hI0 hl0
   refine Vc.seq (Vc.region hG rfl (by trivial) (Vc.seq (Vc.seq ?_)))
   refine Vc.region hG rfl (by trivial) ?_
   refine Vc.cond rfl (fun h1 => ?_) (fun h1 => ?_)
   · have g1 : (List.getD a1.2.2.2.1 i.toNat (dflt TStep)).2 = true := h1
     refine Vc.region hG rfl (by trivial) ?_
     refine Vc.region hG rfl ?_ ?_
     · exact (show List.length acc + 2 ≤ maxApp from by unfold maxApp; omega)
     refine Vc.region hG rfl (by trivial) ?_
     refine ⟨rfl, ?_⟩
     first | exact gsStep hI0 hl0 hb0 (stepYesI g1) | exact gsStep hI0 hl0 hb0 (stepNoI g1)
   · have g1 : (List.getD a1.2.2.2.1 i.toNat (dflt TStep)).2 = false := h1
     refine Vc.skip ?_
     refine Vc.region hG rfl ?_ ?_
     · exact (show List.length acc + 2 ≤ maxApp from by unfold maxApp; omega)
     refine Vc.region hG rfl (by trivial) ?_
     refine ⟨rfl, ?_⟩
     first | exact gsStep hI0 hl0 hb0 (stepYesI g1) | exact gsStep hI0 hl0 hb0 (stepNoI g1)
 · have hl0 : ¬ i < (List.length a1.2.2.2.1 : Int) := of_decide_eq_false h0
   refine Vc.exit (Vc.seq ?_)
   refine Vc.region hG rfl ?_ ?_
   · exact (show List.length acc + 1 ≤ maxApp from by unfold maxApp; omega)
   refine Vc.seq (Vc.seq (Vc.region hG rfl (by trivial) (Vc.block ?_)))
   refine Vc.loopF [(5, false, .own (.pure (.int .i64))), (43, false, .pure (.int .i64))] [0, 1, 3, 4, 7, 8, 19, 20, 21, 22, 26, 41, 42] (fun v => gsInv (stmpG a1) (renMid a1) a1.2.2.2.2 v.1 v.2.1) (fun v => ((List.length a1.2.2.2.2 : Int) - v.2.1).toNat) rfl ?_ ?_
   · exact gsStart2 (renMidEq hI0 hl0)
   rintro ⟨acc2, (i : Int), _⟩ hI1
   have hI1 : gsInv (stmpG a1) (renMid a1) a1.2.2.2.2 acc2 i := hI1
   have hA2 : List.length acc2 ≤ 8388613 := gsLen (c := 6) (m := 1048576) hI1 (fun _ => Nat.le_refl _) h4 (by have := midLen h3; omega)
   refine Vc.seq (Vc.region hG rfl (by trivial) (Vc.seq ?_))
   refine Vc.cond rfl (fun h2 => ?_) (fun h2 => ?_)
   · have hl1 : i < (List.length a1.2.2.2.2 : Int) := of_decide_eq_true h2
     refine Vc.skip (Vc.seq (Vc.block (Vc.seq ?_)))
     refine Vc.region hG rfl ?_ ?_
     · exact gsRange hI1 hl1
     refine Vc.regionD mixed hG rfl (by kernel_rfl) ?_ ?_
     · exact ⟨trivial, (show List.length acc2 + 5 ≤ maxApp from by unfold maxApp; omega), (by show List.length (acc2 ++ stampIntsF (List.getD a1.2.2.2.2 i.toNat (dflt TStamp))) + 1 ≤ maxApp; rw [List.length_append]; show List.length acc2 + 5 + 1 ≤ maxApp; unfold maxApp; omega)⟩
     refine Vc.region hG rfl (by trivial) ?_
     refine ⟨rfl, ?_⟩
     exact gsStep hI1 hl1 hb1 stmpEq
   · have hl1 : ¬ i < (List.length a1.2.2.2.2 : Int) := of_decide_eq_false h2
     refine Vc.exit (Vc.seq ?_)
     refine Vc.region hG rfl ?_ ?_
     · exact (show List.length acc2 ≤ 1000000000 from by omega)
     refine Vc.ret ?_
     refine ⟨?_, trivial⟩
     have e := congrArg (digestF a0) (gsEnd hI1 hl1)
     exact e
end Fw
