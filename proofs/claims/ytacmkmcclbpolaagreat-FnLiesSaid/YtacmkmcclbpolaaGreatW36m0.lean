/- Walks of functions of the program: what each computes. Conditions: those that each contract names. -/
import Derived.Test.YtacmkmcclbpolaaGreatW36T
namespace Fw
open Go Go.Proofs
set_option linter.unusedSimpArgs false
set_option maxRecDepth 100000
noncomputable def F21 : Fun := ⟨[.slice (.int .u8)], [.pure (.bool)], fun _ => True, fun x => ((fun (code : List Int) => decide (((List.length code : Nat) : Int) > 1048576)) x.1, ())⟩
theorem F21_ok : Meets Tryz.prog 21 F21 := by
 refine meets_of_vc (C := mkC 6 [2] [0,2] []) (mkC_ok _ _ _ _) (fnOf_ok _) Tryz.func21 rfl rfl rfl (by decide) rfl ?_
 rintro ⟨a0, _⟩ hwf hpre ⟨P, C, B, X, w0, M0, pv⟩ hG rfl rfl
 show Vc _ _ [(0, ⟨0, 0, .c Z1 a0⟩)] _
 refine Vc.seq (Vc.region hG rfl (by trivial) (Vc.seq (Vc.region hG rfl (by trivial) ?_)))
 refine Vc.ret ?_
 refine ⟨?_, trivial⟩
 all_goals exact rfl
noncomputable def F26 : Fun := ⟨[.slice (.int .i64), .int .i64], [.pure (.bool)], fun _ => True, fun x => (hasNF x.1 x.2.1, ())⟩
theorem F26_ok : Meets Tryz.prog 26 F26 := by
 refine meets_of_vc (C := mkC 18 [4] [0,1,4,5,9,17] []) (mkC_ok _ _ _ _) (fnOf_ok _) Tryz.func26 rfl rfl rfl (by decide) rfl ?_
 rintro ⟨a0, (a1 : Int), _⟩ hwf hpre ⟨P, C, B, X, w0, M0, pv⟩ hG rfl rfl
 show Vc _ _ [(0, ⟨0, 0, .c Z3 a0⟩), (1, ⟨0, 0, .c (.pure (.int .i64)) a1⟩)] _
 have hb : List.length a0 ≤ bigLen := hwf.1.1
 refine Vc.seq (Vc.region hG rfl (by trivial) (Vc.seq (Vc.seq ?_)))
 refine Vc.region hG rfl (by trivial) (Vc.block ?_)
 refine Vc.loopF [(5, false, .pure (.int .i64))] [0, 1] (fun v => fInv (fun y => y == a1) a0 v.1) (fun v => ((List.length a0 : Int) - v.1).toNat) rfl ?_ ?_
 · exact fStart
 rintro ⟨(i : Int), _⟩ hI
 have hI : fInv (fun y => y == a1) a0 i := hI
 refine Vc.seq (Vc.seq (Vc.region hG rfl (by trivial) ?_))
 refine Vc.cond rfl (fun h0 => ?_) (fun h0 => ?_)
 · have hl : i < (List.length a0 : Int) := of_decide_eq_true h0
   refine Vc.skip (Vc.seq (Vc.block (Vc.seq ?_)))
   refine Vc.region hG rfl ?_ ?_
   · exact fRange hI hl
   refine Vc.cond rfl (fun h1 => ?_) (fun h1 => ?_)
   · have g1 : (List.getD a0 i.toNat (dflt TI) == a1) = true := h1
     refine Vc.seq (Vc.region hG rfl (by trivial) (Vc.ret ?_))
     refine ⟨?_, trivial⟩
     exact hasNYes hI hl g1
   · have g1 : (List.getD a0 i.toNat (dflt TI) == a1) = false := h1
     refine Vc.skip (Vc.region hG rfl (by trivial) ?_)
     refine ⟨rfl, ?_⟩
     exact fStep hI hl hb g1
 · have hl : ¬ i < (List.length a0 : Int) := of_decide_eq_false h0
   refine Vc.exit (Vc.seq (Vc.region hG rfl (by trivial) (Vc.ret ?_)))
   refine ⟨?_, trivial⟩
   exact hasNNo hI hl
end Fw
