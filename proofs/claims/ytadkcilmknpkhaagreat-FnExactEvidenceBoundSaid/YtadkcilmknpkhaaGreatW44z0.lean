/- Walks of functions of the program: what each computes. Conditions: those that each contract names. -/
import Derived.Test.YtadkcilmknpkhaaGreatW44T
import Derived.Test.YtadkcilmknpkhaaGreatW44i0
import Derived.Test.YtadkcilmknpkhaaGreatW44m0
import Derived.Test.YtadkcilmknpkhaaGreatW44m1
import Derived.Test.YtadkcilmknpkhaaGreatW44s0
namespace Fw
open Go Go.Proofs
set_option linter.unusedSimpArgs false
noncomputable def F3 : Fun := ⟨[.pair Y31 Y42, .pair Y53 Y34, .slice (.slice (.int .i64)), .pair (.int .i64) Y9], [.pure (.bool)], fun _ => True, fun x => ((fun _ _ _ _ => true) x.1 x.2.1 x.2.2.1 x.2.2.2.1, ())⟩
set_option maxRecDepth 100000 in
/-- loop.example.g00597.laws.FnExactEvidenceBound -/
theorem F3_ok : Meets Tryz.prog 3 F3 := by
  refine meets_of_vc (C := mkC 81 [8] [0,1,2,3,4,5,7,8,9,10,11,12,13,14,15,20,25,30,35,60,65,70,75,80] [⟨6, _, F6_ok⟩, ⟨7, _, F7_ok⟩, ⟨8, _, F8_ok⟩, ⟨9, _, F9_ok⟩, ⟨11, _, F11_ok⟩, ⟨12, _, F12_ok⟩, ⟨13, _, F13_ok⟩, ⟨14, _, F14_ok⟩, ⟨10, _, F10_ok⟩, ⟨15, _, F15_ok⟩, ⟨16, _, F16_ok⟩, ⟨17, _, F17_ok⟩, ⟨18, _, F18_ok⟩, ⟨19, _, F19_ok⟩]) (mkC_ok _ _ _ _) (fnOf_ok _) Tryz.func3 rfl rfl rfl (by decide) rfl ?_
  rintro ⟨a0, a1, a2, a3, _⟩ hwf hpre ⟨P, C, B, X, w0, M0, pv⟩ hG rfl rfl
  show Vc _ _ [(0, ⟨0, 0, .c Z54 a0⟩), (1, ⟨0, 0, .c Z58 a1⟩), (2, ⟨0, 0, .c Z7 a2⟩), (3, ⟨0, 0, .c Z20 a3⟩)] _
  have q0 : (0 : Int) ≤ 1048576 ∧ (1048576 : Int) ≤ (big20 : Int) := by decide
  refine Vc.seq ?_
  refine Vc.region hG rfl ?_ ?_
  · trivial
  refine Vc.seq ?_
  refine Vc.region hG rfl ?_ ?_
  · trivial
  refine Vc.seq ?_
  refine Vc.region hG rfl ?_ ?_
  · exact (show (0 : Int) ≤ 1048576 ∧ 1048576 ≤ (big20 : Int) from ⟨by omega, by omega⟩)
  refine Vc.seq ?_
  refine Vc.seq ?_
  refine Vc.region hG rfl ?_ ?_
  · trivial
  refine Vc.cond rfl (fun h0 => ?_) (fun h0 => ?_)
  · skip
    refine Vc.seq ?_
    refine Vc.region hG rfl ?_ ?_
    · trivial
    refine Vc.ret ?_
    refine ⟨?_, trivial⟩
    all_goals exact rfl
  · skip
    have g0 : ¬ szF Y51 a0 (1048576) < 0 := of_decide_eq_false h0
    have k0 := szF_le Y51 a0 (1048576)
    have hs0 : Sm big20 Y51 a0 := szF_sm (n := big20) Y51 a0 (1048576) (by omega) (by omega)
    refine Vc.skip ?_
    refine Vc.seq ?_
    refine Vc.region hG rfl ?_ ?_
    · exact (show (0 : Int) ≤ szF Y51 a0 (1048576) ∧ szF Y51 a0 (1048576) ≤ (big20 : Int) from ⟨by omega, by omega⟩)
    refine Vc.seq ?_
    refine Vc.seq ?_
    refine Vc.region hG rfl ?_ ?_
    · trivial
    refine Vc.cond rfl (fun h1 => ?_) (fun h1 => ?_)
    · skip
      refine Vc.seq ?_
      refine Vc.region hG rfl ?_ ?_
      · trivial
      refine Vc.ret ?_
      refine ⟨?_, trivial⟩
      all_goals exact rfl
    · skip
      have g1 : ¬ szF Y57 a1 (szF Y51 a0 (1048576)) < 0 := of_decide_eq_false h1
      have k1 := szF_le Y57 a1 (szF Y51 a0 (1048576))
      have hs1 : Sm big20 Y57 a1 := szF_sm (n := big20) Y57 a1 (szF Y51 a0 (1048576)) (by omega) (by omega)
      refine Vc.skip ?_
      refine Vc.seq ?_
      refine Vc.region hG rfl ?_ ?_
      · exact (show (0 : Int) ≤ szF Y57 a1 (szF Y51 a0 (1048576)) ∧ szF Y57 a1 (szF Y51 a0 (1048576)) ≤ (big20 : Int) from ⟨by omega, by omega⟩)
      refine Vc.seq ?_
      refine Vc.seq ?_
      refine Vc.region hG rfl ?_ ?_
      · trivial
      refine Vc.cond rfl (fun h2 => ?_) (fun h2 => ?_)
      · skip
        refine Vc.seq ?_
        refine Vc.region hG rfl ?_ ?_
        · trivial
        refine Vc.ret ?_
        refine ⟨?_, trivial⟩
        all_goals exact rfl
      · skip
        have g2 : ¬ szF Y3 a2 (szF Y57 a1 (szF Y51 a0 (1048576))) < 0 := of_decide_eq_false h2
        have k2 := szF_le Y3 a2 (szF Y57 a1 (szF Y51 a0 (1048576)))
        have hs2 : Sm big20 Y3 a2 := szF_sm (n := big20) Y3 a2 (szF Y57 a1 (szF Y51 a0 (1048576))) (by omega) (by omega)
        refine Vc.skip ?_
        refine Vc.seq ?_
        refine Vc.region hG rfl ?_ ?_
        · exact (show (0 : Int) ≤ szF Y3 a2 (szF Y57 a1 (szF Y51 a0 (1048576))) ∧ szF Y3 a2 (szF Y57 a1 (szF Y51 a0 (1048576))) ≤ (big20 : Int) from ⟨by omega, by omega⟩)
        refine Vc.seq ?_
        refine Vc.seq ?_
        refine Vc.region hG rfl ?_ ?_
        · trivial
        refine Vc.cond rfl (fun h3 => ?_) (fun h3 => ?_)
        · skip
          refine Vc.seq ?_
          refine Vc.region hG rfl ?_ ?_
          · trivial
          refine Vc.ret ?_
          refine ⟨?_, trivial⟩
          all_goals exact rfl
        · skip
          have g3 : ¬ szF Y18 a3 (szF Y3 a2 (szF Y57 a1 (szF Y51 a0 (1048576)))) < 0 := of_decide_eq_false h3
          have k3 := szF_le Y18 a3 (szF Y3 a2 (szF Y57 a1 (szF Y51 a0 (1048576))))
          have hs3 : Sm big20 Y18 a3 := szF_sm (n := big20) Y18 a3 (szF Y3 a2 (szF Y57 a1 (szF Y51 a0 (1048576)))) (by omega) (by omega)
          refine Vc.skip ?_
          refine Vc.seq ?_
          refine Vc.regionD mixed hG rfl (by kernel_rfl) ?_ ?_
          · exact ⟨hs0, hs1, hs2, hs3, hs1.1⟩
          refine Vc.seq ?_
          refine Vc.region hG rfl ?_ ?_
          · exact hs0
          refine Vc.seq ?_
          refine Vc.region hG rfl ?_ ?_
          · exact hs1
          refine Vc.seq ?_
          refine Vc.region hG rfl ?_ ?_
          · exact hs2
          refine Vc.seq ?_
          refine Vc.region hG rfl ?_ ?_
          · exact hs3
          refine Vc.seq ?_
          refine Vc.region hG rfl ?_ ?_
          · exact hs1.1
          refine Vc.seq ?_
          refine Vc.seq ?_
          refine Vc.region hG rfl ?_ ?_
          · trivial
          refine Vc.cond rfl (fun h4 => ?_) (fun h4 => ?_)
          · skip
            exact (ne_selfI h4).elim
          · skip
            refine Vc.skip ?_
            refine Vc.seq ?_
            refine Vc.seq ?_
            refine Vc.regionD mixed hG rfl (by kernel_rfl) ?_ ?_
            · exact ⟨hs0, trivial⟩
            refine Vc.cond rfl (fun h5 => ?_) (fun h5 => ?_)
            · skip
              exact (ne_selfC h5).elim
            · skip
              refine Vc.skip ?_
              refine Vc.seq ?_
              refine Vc.seq ?_
              refine Vc.regionD mixed hG rfl (by kernel_rfl) ?_ ?_
              · exact ⟨hs1, trivial⟩
              refine Vc.cond rfl (fun h6 => ?_) (fun h6 => ?_)
              · skip
                exact (ne_selfC h6).elim
              · skip
                refine Vc.skip ?_
                refine Vc.seq ?_
                refine Vc.seq ?_
                refine Vc.region hG rfl ?_ ?_
                · exact ⟨hs2, trivial⟩
                refine Vc.cond rfl (fun h7 => ?_) (fun h7 => ?_)
                · skip
                  exact (ne_selfC h7).elim
                · skip
                  refine Vc.skip ?_
                  refine Vc.seq ?_
                  refine Vc.seq ?_
                  refine Vc.regionD mixed hG rfl (by kernel_rfl) ?_ ?_
                  · exact ⟨hs3, trivial⟩
                  refine Vc.cond rfl (fun h8 => ?_) (fun h8 => ?_)
                  · skip
                    exact (ne_selfC h8).elim
                  · skip
                    refine Vc.skip ?_
                    refine Vc.seq ?_
                    refine Vc.region hG rfl ?_ ?_
                    · trivial
                    refine Vc.ret ?_
                    refine ⟨?_, trivial⟩
                    all_goals exact rfl
end Fw
