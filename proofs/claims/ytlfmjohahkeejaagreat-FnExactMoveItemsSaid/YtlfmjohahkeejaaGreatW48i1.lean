/- Walks of functions of the program: what each computes. Conditions: those that each contract names. -/
import Derived.Test.YtlfmjohahkeejaaGreatW48T
import Derived.Test.YtlfmjohahkeejaaGreatW48i0
namespace Fw
open Go Go.Proofs
set_option linter.unusedSimpArgs false
noncomputable def F38 : Fun := ⟨[.pair (.int .i64) Y54, .pair (.int .i64) Y54, .slice (.int .i64), .int .i64], [.pair (.pure (.int .i64)) Z65, .pair (.pure (.int .i64)) Z65, .pure (.bool)], fun x => (fun (a b : Archive) (l : List Int) (_ : Int) => Sm big20 Y56 a ∧ Sm big20 Y56 b ∧ List.length l ≤ 1048576) x.1 x.2.1 x.2.2.1 x.2.2.2.1, fun x => ((moveF x.1 x.2.1 x.2.2.1 x.2.2.2.1).1, (moveF x.1 x.2.1 x.2.2.1 x.2.2.2.1).2.1, (moveF x.1 x.2.1 x.2.2.1 x.2.2.2.1).2.2, ())⟩
set_option maxRecDepth 100000 in
/-- loop.example.g00597.impl.MoveItems -/
theorem F38_ok : Meets Tryz.prog 38 F38 := by
  refine meets_of_vc (C := mkC 70 [8, 9, 10, 11, 13, 15] [0,1,2,3,4,5,8,9,10,11,12,13,14,15,17,18,19,41,48,49,50,51,61] [⟨21, _, F21_ok⟩, ⟨36, _, F36_ok⟩, ⟨52, _, F52_ok⟩, ⟨77, _, F77_ok⟩]) (mkC_ok _ _ _ _) (fnOf_ok _) Tryz.func38 rfl rfl rfl (by decide) rfl ?_
  rintro ⟨a0, a1, a2, (a3 : Int), _⟩ hwf hpre ⟨P, C, B, X, w0, M0, pv⟩ hG rfl rfl
  show Vc _ _ [(0, ⟨0, 0, .c Z58 a0⟩), (1, ⟨0, 0, .c Z58 a1⟩), (2, ⟨0, 0, .c Z2 a2⟩), (3, ⟨0, 0, .c (.pure (.int .i64)) a3⟩)] _
  have hp1 : Sm big20 Y56 a0 := hpre.1
  have hp2 : Sm big20 Y56 a1 := hpre.2.1
  have hs : List.length a2 ≤ 1048576 := hpre.2.2
  have hb : List.length a2 ≤ bigLen := hwf.2.2.1.1
  have hmk : Sm big20 Y61 (mvP a0 a1 a2 a3).1 := mkSm hp1 hs
  refine Vc.seq ?_
  refine Vc.region hG rfl ?_ ?_
  · trivial
  refine Vc.seq ?_
  refine Vc.region hG rfl ?_ ?_
  · exact ⟨hp1, hs⟩
  refine Vc.seq ?_
  refine Vc.region hG rfl ?_ ?_
  · exact ⟨hp2, hmk⟩
  refine Vc.seq ?_
  refine Vc.seq ?_
  refine Vc.region hG rfl ?_ ?_
  · trivial
  refine Vc.cond rfl (fun h0 => ?_) (fun h0 => ?_)
  · skip
    have g0 : pick2 (!(mvP a0 a1 a2 a3).2) true (!(mvT a0 a1 a2 a3).2) = true := h0
    refine Vc.seq ?_
    refine Vc.regionD mixed hG rfl (by kernel_rfl) ?_ ?_
    · exact ⟨hp1, hp2⟩
    refine Vc.ret ?_
    have e := mvBad g0
    refine ⟨?_, ?_, ?_, trivial⟩
    · exact (congrArg Prod.fst e).symm
    · exact (congrArg (fun z => z.2.1) e).symm
    · exact (congrArg (fun z => z.2.2) e).symm
  · skip
    have g0 := mvGo (a := a0) (b := a1) (ids := a2) (m := a3) h0
    refine Vc.skip ?_
    refine Vc.seq ?_
    refine Vc.region hG rfl ?_ ?_
    · exact hp1
    refine Vc.seq ?_
    refine Vc.seq ?_
    refine Vc.region hG rfl ?_ ?_
    · trivial
    refine Vc.block ?_
    -- slots [8, 9, 15, 50]; frame [0, 1, 2, 3, 4, 5, 11, 12, 13, 14, 41, 48, 49]
    refine Vc.loopF [(8, true, .pair (.pure (.int .i64)) Z65), (9, true, .pair (.pure (.int .i64)) Z65), (15, true, .pair (.pure (.int .i64)) Z65), (50, false, .pure (.int .i64))] [0, 1, 2, 3, 4, 5, 11, 12, 13, 14, 41, 48, 49] (fun v => mvInv a0 a1 a2 a3 v.2.2.1 true v.2.2.2.1) (fun v => ((List.length a2 : Int) - v.2.2.2.1).toNat) rfl ?_ ?_
    · exact mvStart hp1 g0.2
    rintro ⟨r, r2, o, (i : Int), _⟩ hI
    have hI : mvInv a0 a1 a2 a3 o true i := hI
    refine Vc.seq ?_
    refine Vc.region hG rfl ?_ ?_
    · trivial
    refine Vc.seq ?_
    refine Vc.cond rfl (fun h1 => ?_) (fun h1 => ?_)
    · skip
      have hl : i < (List.length a2 : Int) := of_decide_eq_true h1
      refine Vc.skip ?_
      refine Vc.seq ?_
      refine Vc.block ?_
      refine Vc.seq ?_
      refine Vc.region hG rfl ?_ ?_
      · exact upRange hI.1.1 hl
      refine Vc.seq ?_
      refine Vc.region hG rfl ?_ ?_
      · exact hI.2
      refine Vc.seq ?_
      refine Vc.seq ?_
      refine Vc.region hG rfl ?_ ?_
      · trivial
      refine Vc.cond rfl (fun h2 => ?_) (fun h2 => ?_)
      · skip
        have g2 : (!(dropItemF o (List.getD a2 i.toNat (dflt TI))).2) = true := h2
        refine Vc.seq ?_
        refine Vc.regionD mixed hG rfl (by kernel_rfl) ?_ ?_
        · exact ⟨hp1, hp2⟩
        refine Vc.ret ?_
        have e := mvFail hI hl g2
        refine ⟨?_, ?_, ?_, trivial⟩
        · exact (congrArg Prod.fst e).symm
        · exact (congrArg (fun z => z.2.1) e).symm
        · exact (congrArg (fun z => z.2.2) e).symm
      · skip
        have g2 : (!(dropItemF o (List.getD a2 i.toNat (dflt TI))).2) = false := h2
        refine Vc.skip ?_
        refine Vc.region hG rfl ?_ ?_
        · trivial
        refine Vc.region hG rfl ?_ ?_
        · trivial
        refine ⟨rfl, ?_⟩
        exact mvNext hI rfl hl hb rfl (notF g2).symm
    · skip
      have hl : ¬ i < (List.length a2 : Int) := of_decide_eq_false h1
      refine Vc.exit ?_
      refine Vc.seq ?_
      refine Vc.regionD mixed hG rfl (by kernel_rfl) ?_ ?_
      · trivial
      refine Vc.ret ?_
      have e := mvDone hI hl g0.1
      refine ⟨?_, ?_, ?_, trivial⟩
      · exact (congrArg Prod.fst e).symm
      · exact (congrArg (fun z => z.2.1) e).symm
      · exact (congrArg (fun z => z.2.2) e).symm
end Fw
