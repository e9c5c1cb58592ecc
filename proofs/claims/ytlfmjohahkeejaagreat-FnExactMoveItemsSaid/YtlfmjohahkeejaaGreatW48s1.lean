/- Walks of functions of the program: what each computes. Conditions: those that each contract names. -/
import Derived.Test.YtlfmjohahkeejaaGreatW48T
import Derived.Test.YtlfmjohahkeejaaGreatW48s0
namespace Fw
open Go Go.Proofs
set_option linter.unusedSimpArgs false
noncomputable def F37 : Fun := ⟨[.pair (.int .i64) Y54, .pair (.int .i64) Y54, .slice (.int .i64), .int .i64], [.pair (.pure (.int .i64)) Z65, .pair (.pure (.int .i64)) Z65, .pure (.bool)], fun x => (fun (a b : Archive) (l : List Int) (_ : Int) => Sm big20 Y56 a ∧ Sm big20 Y56 b ∧ List.length l ≤ 1048576) x.1 x.2.1 x.2.2.1 x.2.2.2.1, fun x => ((moveF x.1 x.2.1 x.2.2.1 x.2.2.2.1).1, (moveF x.1 x.2.1 x.2.2.1 x.2.2.2.1).2.1, (moveF x.1 x.2.1 x.2.2.1 x.2.2.2.1).2.2, ())⟩
set_option maxRecDepth 100000 in
/-- loop.example.g00597.spec.MoveItems -/
theorem F37_ok : Meets Tryz.prog 37 F37 := by
  refine meets_of_vc (C := mkC 72 [8, 9, 10, 11, 13, 15] [0,1,2,3,4,5,8,9,10,11,12,13,14,15,16,17,18,46,65] [⟨19, _, F19_ok⟩, ⟨34, _, F34_ok⟩, ⟨44, _, F44_ok⟩, ⟨76, _, F76_ok⟩]) (mkC_ok _ _ _ _) (fnOf_ok _) Tryz.func37 rfl rfl rfl (by decide) rfl ?_
  rintro ⟨a0, a1, a2, (a3 : Int), _⟩ hwf hpre ⟨P, C, B, X, w0, M0, pv⟩ hG rfl rfl
  show Vc _ _ [(0, ⟨0, 0, .c Z58 a0⟩), (1, ⟨0, 0, .c Z58 a1⟩), (2, ⟨0, 0, .c Z2 a2⟩), (3, ⟨0, 0, .c (.pure (.int .i64)) a3⟩)] _
  have hp1 : Sm big20 Y56 a0 := hpre.1
  have hp2 : Sm big20 Y56 a1 := hpre.2.1
  have hs : List.length a2 ≤ 1048576 := hpre.2.2
  have hb : List.length a2 ≤ bigLen := hwf.2.2.1.1
  have hmk : Sm big20 Y61 (mvP a0 a1 a2 a3).1 := mkSm hp1 hs
  refine Vc.seq ?_
  refine Vc.region hG rfl ?_ ?_
  · trivial
  refine Vc.seq ?_
  refine Vc.region hG rfl ?_ ?_
  · exact ⟨hp1, hs⟩
  refine Vc.seq ?_
  refine Vc.region hG rfl ?_ ?_
  · exact ⟨hp2, hmk⟩
  refine Vc.seq ?_
  refine Vc.region hG rfl ?_ ?_
  · exact hp1
  refine Vc.seq ?_
  refine Vc.seq ?_
  refine Vc.region hG rfl ?_ ?_
  · trivial
  refine Vc.block ?_
  -- slots [14, 15, 16]; frame [0, 1, 2, 3, 4, 5, 8, 9, 10, 11, 12, 13, 65]
  refine Vc.loopF [(14, false, .pure (.bool)), (15, true, .pair (.pure (.int .i64)) Z65), (16, false, .pure (.int .i64))] [0, 1, 2, 3, 4, 5, 8, 9, 10, 11, 12, 13, 65] (fun v => mvInv a0 a1 a2 a3 v.2.1 v.1 v.2.2.1) (fun v => ((List.length a2 : Int) - v.2.2.1).toNat) rfl ?_ ?_
  · exact mvStart hp1 rfl
  rintro ⟨ok, o, (i : Int), _⟩ hI
  have hI : mvInv a0 a1 a2 a3 o ok i := hI
  refine Vc.seq ?_
  refine Vc.seq ?_
  refine Vc.region hG rfl ?_ ?_
  · trivial
  refine Vc.cond rfl (fun h0 => ?_) (fun h0 => ?_)
  · skip
    have g0 : pick2 (pick2 (decide (i < (List.length a2 : Int))) (mvP a0 a1 a2 a3).2 false) ok false = true := h0
    have hl : i < (List.length a2 : Int) := of_decide_eq_true (andT (andT g0).1).1
    refine Vc.skip ?_
    refine Vc.seq ?_
    refine Vc.block ?_
    refine Vc.seq ?_
    refine Vc.regionL mixed hG rfl (by kernel_rfl) ?_ ?_
    · exact ⟨upRange hI.1.1 hl, hI.2⟩
    refine Vc.seq ?_
    refine Vc.region hG rfl ?_ ?_
    · trivial
    refine Vc.region hG rfl ?_ ?_
    · trivial
    refine Vc.region hG rfl ?_ ?_
    · trivial
    refine ⟨rfl, ?_⟩
    exact mvNext hI (andT g0).2 hl hb rfl rfl
  · skip
    have g0 : pick2 (pick2 (decide (i < (List.length a2 : Int))) (mvP a0 a1 a2 a3).2 false) ok false = false := h0
    refine Vc.exit ?_
    refine Vc.seq ?_
    refine Vc.seq ?_
    refine Vc.region hG rfl ?_ ?_
    · trivial
    refine Vc.cond rfl (fun h1 => ?_) (fun h1 => ?_)
    · skip
      have g1 : pick2 (!(mvP a0 a1 a2 a3).2) true (!ok) = true := h1
      refine Vc.seq ?_
      refine Vc.regionD mixed hG rfl (by kernel_rfl) ?_ ?_
      · exact ⟨hp1, hp2⟩
      refine Vc.ret ?_
      have e := mvBadS hI g0 g1
      refine ⟨?_, ?_, ?_, trivial⟩
      · exact (congrArg Prod.fst e).symm
      · exact (congrArg (fun z => z.2.1) e).symm
      · exact (congrArg (fun z => z.2.2) e).symm
    · skip
      have g1 : pick2 (!(mvP a0 a1 a2 a3).2) true (!ok) = false := h1
      refine Vc.skip ?_
      refine Vc.seq ?_
      refine Vc.regionD mixed hG rfl (by kernel_rfl) ?_ ?_
      · trivial
      refine Vc.ret ?_
      have e := mvYesS hI g0 g1
      refine ⟨?_, ?_, ?_, trivial⟩
      · exact (congrArg Prod.fst e).symm
      · exact (congrArg (fun z => z.2.1) e).symm
      · exact (congrArg (fun z => z.2.2) e).symm
end Fw
