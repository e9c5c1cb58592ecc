/- Walks of functions of the program: what each computes. Conditions: those that each contract names. -/
import Derived.Test.YtadkcilmknpkhaaGreatW53T
import Derived.Test.YtadkcilmknpkhaaGreatW53i2
import Derived.Test.YtadkcilmknpkhaaGreatW53m0
import Derived.Test.YtadkcilmknpkhaaGreatW53m1
import Derived.Test.YtadkcilmknpkhaaGreatW53s1
namespace Fw
open Go Go.Proofs
set_option linter.unusedSimpArgs false
noncomputable def F5 : Fun := ⟨[.pair Y34 Y51, .pair Y62 Y37, .pair (.int .i64) Y13, .pair (.int .i64) Y44], [.pure (.bool)], fun _ => True, fun x => ((fun _ _ _ _ => true) x.1 x.2.1 x.2.2.1 x.2.2.2.1, ())⟩
set_option maxRecDepth 100000 in
/-- loop.example.g00597.laws.FnExactIsConsistent -/
theorem F5_ok : Meets Tryz.prog 5 F5 := by
  refine meets_of_vc (C := mkC 69 [8] [0,1,2,3,4,5,6,7,8,9,10,11,12,13,14,19,24,29,53,58,63,68] [⟨6, _, F6_ok⟩, ⟨7, _, F7_ok⟩, ⟨28, _, F28_ok⟩, ⟨11, _, F11_ok⟩, ⟨12, _, F12_ok⟩, ⟨30, _, F30_ok⟩, ⟨31, _, F31_ok⟩, ⟨29, _, F29_ok⟩, ⟨32, _, F32_ok⟩, ⟨16, _, F16_ok⟩, ⟨17, _, F17_ok⟩, ⟨33, _, F33_ok⟩]) (mkC_ok _ _ _ _) (fnOf_ok _) Tryz.func5 rfl rfl rfl (by decide) rfl ?_
  rintro ⟨a0, a1, a2, a3, _⟩ hwf hpre ⟨P, C, B, X, w0, M0, pv⟩ hG rfl rfl
  show Vc _ _ [(0, ⟨0, 0, .c Z63 a0⟩), (1, ⟨0, 0, .c Z67 a1⟩), (2, ⟨0, 0, .c Z25 a2⟩), (3, ⟨0, 0, .c Z48 a3⟩)] _
  have q0 : (0 : Int) ≤ 1048576 ∧ (1048576 : Int) ≤ (big20 : Int) := by decide
  refine Vc.seq ?_
  refine Vc.region hG rfl ?_ ?_
  · trivial
  refine Vc.seq ?_
  refine Vc.region hG rfl ?_ ?_
  · trivial
  refine Vc.seq ?_
  refine Vc.region hG rfl ?_ ?_
  · exact (show (0 : Int) ≤ 1048576 ∧ 1048576 ≤ (big20 : Int) from ⟨by omega, by omega⟩)
  refine Vc.seq ?_
  refine Vc.seq ?_
  refine Vc.region hG rfl ?_ ?_
  · trivial
  refine Vc.cond rfl (fun h0 => ?_) (fun h0 => ?_)
  · skip
    refine Vc.seq ?_
    refine Vc.region hG rfl ?_ ?_
    · trivial
    refine Vc.ret ?_
    refine ⟨?_, trivial⟩
    all_goals exact rfl
  · skip
    have g0 : ¬ szF Y60 a0 (1048576) < 0 := of_decide_eq_false h0
    have k0 := szF_le Y60 a0 (1048576)
    have hs0 : Sm big20 Y60 a0 := szF_sm (n := big20) Y60 a0 (1048576) (by omega) (by omega)
    refine Vc.skip ?_
    refine Vc.seq ?_
    refine Vc.region hG rfl ?_ ?_
    · exact (show (0 : Int) ≤ szF Y60 a0 (1048576) ∧ szF Y60 a0 (1048576) ≤ (big20 : Int) from ⟨by omega, by omega⟩)
    refine Vc.seq ?_
    refine Vc.seq ?_
    refine Vc.region hG rfl ?_ ?_
    · trivial
    refine Vc.cond rfl (fun h1 => ?_) (fun h1 => ?_)
    · skip
      refine Vc.seq ?_
      refine Vc.region hG rfl ?_ ?_
      · trivial
      refine Vc.ret ?_
      refine ⟨?_, trivial⟩
      all_goals exact rfl
    · skip
      have g1 : ¬ szF Y66 a1 (szF Y60 a0 (1048576)) < 0 := of_decide_eq_false h1
      have k1 := szF_le Y66 a1 (szF Y60 a0 (1048576))
      have hs1 : Sm big20 Y66 a1 := szF_sm (n := big20) Y66 a1 (szF Y60 a0 (1048576)) (by omega) (by omega)
      have cz1 := cellsLe Y66 a1 (szF Y60 a0 (1048576)) (by omega) (by omega) (by decide)
      refine Vc.skip ?_
      refine Vc.seq ?_
      refine Vc.region hG rfl ?_ ?_
      · exact (show (0 : Int) ≤ szF Y66 a1 (szF Y60 a0 (1048576)) ∧ szF Y66 a1 (szF Y60 a0 (1048576)) ≤ (big20 : Int) from ⟨by omega, by omega⟩)
      refine Vc.seq ?_
      refine Vc.seq ?_
      refine Vc.region hG rfl ?_ ?_
      · trivial
      refine Vc.cond rfl (fun h2 => ?_) (fun h2 => ?_)
      · skip
        refine Vc.seq ?_
        refine Vc.region hG rfl ?_ ?_
        · trivial
        refine Vc.ret ?_
        refine ⟨?_, trivial⟩
        all_goals exact rfl
      · skip
        have g2 : ¬ szF Y20 a2 (szF Y66 a1 (szF Y60 a0 (1048576))) < 0 := of_decide_eq_false h2
        have k2 := szF_le Y20 a2 (szF Y66 a1 (szF Y60 a0 (1048576)))
        have hs2 : Sm big20 Y20 a2 := szF_sm (n := big20) Y20 a2 (szF Y66 a1 (szF Y60 a0 (1048576))) (by omega) (by omega)
        refine Vc.skip ?_
        refine Vc.seq ?_
        refine Vc.regionD mixed hG rfl (by kernel_rfl) ?_ ?_
        · exact ⟨hs0, hs1, hs2, trivial, ⟨hs1, evdCells cz1⟩⟩
        refine Vc.seq ?_
        refine Vc.region hG rfl ?_ ?_
        · exact hs0
        refine Vc.seq ?_
        refine Vc.region hG rfl ?_ ?_
        · exact hs1
        refine Vc.seq ?_
        refine Vc.region hG rfl ?_ ?_
        · exact hs2
        refine Vc.seq ?_
        refine Vc.regionD mixed hG rfl (by kernel_rfl) ?_ ?_
        · exact ⟨trivial, ⟨hs1, evdCells cz1⟩⟩
        refine Vc.seq ?_
        refine Vc.seq ?_
        refine Vc.region hG rfl ?_ ?_
        · trivial
        refine Vc.cond rfl (fun h3 => ?_) (fun h3 => ?_)
        · skip
          exact (ne_selfB h3).elim
        · skip
          refine Vc.skip ?_
          refine Vc.seq ?_
          refine Vc.seq ?_
          refine Vc.regionD mixed hG rfl (by kernel_rfl) ?_ ?_
          · exact ⟨hs0, trivial⟩
          refine Vc.cond rfl (fun h4 => ?_) (fun h4 => ?_)
          · skip
            exact (ne_selfC h4).elim
          · skip
            refine Vc.skip ?_
            refine Vc.seq ?_
            refine Vc.seq ?_
            refine Vc.regionD mixed hG rfl (by kernel_rfl) ?_ ?_
            · exact ⟨hs1, trivial⟩
            refine Vc.cond rfl (fun h5 => ?_) (fun h5 => ?_)
            · skip
              exact (ne_selfC h5).elim
            · skip
              refine Vc.skip ?_
              refine Vc.seq ?_
              refine Vc.seq ?_
              refine Vc.regionD mixed hG rfl (by kernel_rfl) ?_ ?_
              · exact ⟨hs2, trivial⟩
              refine Vc.cond rfl (fun h6 => ?_) (fun h6 => ?_)
              · skip
                exact (ne_selfC h6).elim
              · skip
                refine Vc.skip ?_
                refine Vc.seq ?_
                refine Vc.region hG rfl ?_ ?_
                · trivial
                refine Vc.ret ?_
                refine ⟨?_, trivial⟩
                all_goals exact rfl
end Fw
