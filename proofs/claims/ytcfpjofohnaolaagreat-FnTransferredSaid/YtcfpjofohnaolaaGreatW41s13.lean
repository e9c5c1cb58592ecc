/- Walks of functions of the program: what each computes. Conditions: those that each contract names. -/
import Derived.Test.YtcfpjofohnaolaaGreatW41T
import Derived.Test.YtcfpjofohnaolaaGreatW41s10
import Derived.Test.YtcfpjofohnaolaaGreatW41s12
namespace Fw
open Go Go.Proofs
set_option linter.unusedSimpArgs false
set_option maxRecDepth 100000
noncomputable def F37 : Fun := ⟨[.pair (.int .i64) Y59, .int .i64, .slice (.int .i64), .int .i64], [.pair (.pure (.int .i64)) Z70, .pure (.bool)], fun x => (fun (a : Archive) (_ : Int) (l : List Int) (_ : Int) => Sm big20 Y60 a ∧ List.length l ≤ 1048576) x.1 x.2.1 x.2.2.1 x.2.2.2.1, fun x => ((makeParcelF x.1 x.2.1 x.2.2.1 x.2.2.2.1).1, (makeParcelF x.1 x.2.1 x.2.2.1 x.2.2.2.1).2, ())⟩
theorem F37_ok : Meets Tryz.prog 37 F37 := by
 refine meets_of_vc (C := mkC 53 [8, 9] [0,1,2,3,4,8,9,10,11,12,20,30,45] [⟨66, _, F66_ok⟩, ⟨67, _, F67_ok⟩, ⟨68, _, F68_ok⟩]) (mkC_ok _ _ _ _) (fnOf_ok _) Tryz.func37 rfl rfl rfl (by decide) rfl ?_
 rintro ⟨a0, (a1 : Int), a2, (a3 : Int), _⟩ hwf hpre ⟨P, C, B, X, w0, M0, pv⟩ hG rfl rfl
 show Vc _ _ [(0, ⟨0, 0, .c Z62 a0⟩), (1, ⟨0, 0, .c (.pure (.int .i64)) a1⟩), (2, ⟨0, 0, .c Z3 a2⟩), (3, ⟨0, 0, .c (.pure (.int .i64)) a3⟩)] _
 have hp1 : Sm big20 Y60 a0 := hpre.1
 have hs : List.length a2 ≤ 1048576 := hpre.2
 have hb : List.length a2 ≤ bigLen := hwf.2.2.1.1
 have hba : List.length a0.2 ≤ bigLen := hwf.1.2.1
 refine Vc.seq (Vc.region hG rfl (by trivial) (Vc.seq (Vc.region hG rfl (by trivial) ?_)))
 refine Vc.seq (Vc.seq (Vc.region hG rfl (by trivial) (Vc.block ?_)))
 refine Vc.loopF [(8, true, .pair (.pure (.int .i64)) Z70), (10, true, .pair (.pure (.int .i64)) Z70), (11, false, .pure (.int .i64))] [0, 1, 2, 3, 4, 45] (fun v => mpInv a0 a1 a2 v.2.1 v.2.2.1) (fun v => ((List.length a2 : Int) - v.2.2.1).toNat) rfl ?_ ?_
 · exact mpStart
 rintro ⟨r, p, (i : Int), _⟩ hI
 have hI : mpInv a0 a1 a2 p i := hI
 refine Vc.seq (Vc.seq (Vc.region hG rfl (by trivial) ?_))
 refine Vc.cond rfl (fun h0 => ?_) (fun h0 => ?_)
 · have hl : i < (List.length a2 : Int) := of_decide_eq_true h0
   refine Vc.skip (Vc.seq (Vc.block (Vc.seq ?_)))
   refine Vc.regionD mixed hG rfl (by kernel_rfl) ?_ ?_
   · exact ⟨mpRange hI hl, trivial⟩
   refine Vc.seq (Vc.seq (Vc.region hG rfl (by trivial) ?_))
   refine Vc.cond rfl (fun h1 => ?_) (fun h1 => ?_)
   · have g1 : itAt a0 (List.getD a2 i.toNat (dflt TI)) < 0 := of_decide_eq_true h1
     refine Vc.seq (Vc.region hG rfl (by trivial) (Vc.ret ?_))
     have e := mpStop (m := a3) hI hl g1
     refine ⟨?_, ?_, trivial⟩
     · exact (congrArg Prod.fst e).symm
     · exact (congrArg Prod.snd e).symm
   · have g1 : ¬ itAt a0 (List.getD a2 i.toNat (dflt TI)) < 0 := of_decide_eq_false h1
     have hE : Sm big20 Y57 (itGet a0 (List.getD a2 i.toNat (dflt TI))) := hp1.2.2 _ (itMem g1 hba)
     refine Vc.skip ?_
     refine Vc.regionD mixed hG rfl (by kernel_rfl) ?_ ?_
     · exact ⟨findRange g1, hE, mpLen hI hs⟩
     refine Vc.region hG rfl (by trivial) ?_
     refine ⟨rfl, ?_⟩
     exact mpStep hI hl hb g1 rfl
 · have hl : ¬ i < (List.length a2 : Int) := of_decide_eq_false h0
   refine Vc.exit (Vc.seq (Vc.seq (Vc.region hG rfl (by trivial) ?_)))
   refine Vc.cond rfl (fun h2 => ?_) (fun h2 => ?_)
   · have g2 : ((List.length a2 : Int) == 0) = true := h2
     refine Vc.seq (Vc.region hG rfl (by trivial) (Vc.ret ?_))
     have e := mpNone (a := a0) (to := a1) (m := a3) g2
     refine ⟨?_, ?_, trivial⟩
     · exact (congrArg Prod.fst e).symm
     · exact (congrArg Prod.snd e).symm
   · have g2 : ((List.length a2 : Int) == 0) = false := h2
     refine Vc.skip (Vc.seq ?_)
     refine Vc.region hG rfl ?_ ?_
     · exact mpSm hI hs hp1.2.2
     refine Vc.seq (Vc.region hG rfl (by trivial) (Vc.ret ?_))
     have e := mpDone (m := a3) hI hl g2
     refine ⟨?_, ?_, trivial⟩
     · exact (congrArg Prod.fst e).symm
     · exact (congrArg Prod.snd e).symm
end Fw
