/- Walks of functions of the program: what each computes. Conditions: those that each contract names. -/
import Derived.Test.YtlfmjohahkeejaaGreatW46T
import Derived.Test.YtlfmjohahkeejaaGreatW46i0
import Derived.Test.YtlfmjohahkeejaaGreatW46m0
import Derived.Test.YtlfmjohahkeejaaGreatW46m1
import Derived.Test.YtlfmjohahkeejaaGreatW46m4
import Derived.Test.YtlfmjohahkeejaaGreatW46s0
namespace Fw
open Go Go.Proofs
set_option linter.unusedSimpArgs false
noncomputable def F5 : Fun := ⟨[.pair (.int .i64) Y54, .int .i64, .slice Y23], [.pure (.bool)], fun _ => True, fun x => ((fun _ _ _ => true) x.1 x.2.1 x.2.2.1, ())⟩
set_option maxRecDepth 100000 in
set_option maxHeartbeats 2000000 in
/-- loop.example.g00597.laws.FnExactSealArchive -/
theorem F5_ok : Meets Tryz.prog 5 F5 := by
  refine meets_of_vc (C := mkCM 124 [6] [0,1,2,3,6,7,8,9,10,11,12,13,14,15,16,17,18,23,28,57,62,67,86,94,97,115,120,123] [⟨8, _, F8_ok⟩, ⟨27, _, F27_ok⟩, ⟨11, _, F11_ok⟩, ⟨29, _, F29_ok⟩, ⟨28, _, F28_ok⟩, ⟨30, _, F30_ok⟩, ⟨14, _, F14_ok⟩, ⟨31, _, F31_ok⟩, ⟨18, _, F18_ok⟩] [⟨16, _, M16_ok⟩, ⟨32, _, M32_ok⟩] [] []) (mkCM_ok _ _ _ _ _ _ _) (fnOf_ok _) Tryz.func5 rfl rfl rfl (by decide) rfl ?_
  rintro ⟨a0, (a1 : Int), a2, _⟩ hwf hpre ⟨P, C, B, X, w0, M0, pv⟩ hG rfl rfl
  show Vc _ _ [(0, ⟨0, 0, .c Z57 a0⟩), (1, ⟨0, 0, .c (.pure (.int .i64)) a1⟩), (2, ⟨0, 0, .c Z27 a2⟩)] _
  have q0 : (0 : Int) ≤ 1048576 ∧ (1048576 : Int) ≤ (big20 : Int) := by decide
  refine Vc.seq ?_
  refine Vc.region hG rfl ?_ ?_
  · trivial
  refine Vc.seq ?_
  refine Vc.region hG rfl ?_ ?_
  · trivial
  refine Vc.seq ?_
  refine Vc.region hG rfl ?_ ?_
  · exact (show (0 : Int) ≤ 1048576 ∧ 1048576 ≤ (big20 : Int) from ⟨by omega, by omega⟩)
  refine Vc.seq ?_
  refine Vc.seq ?_
  refine Vc.region hG rfl ?_ ?_
  · trivial
  refine Vc.cond rfl (fun h0 => ?_) (fun h0 => ?_)
  · skip
    refine Vc.seq ?_
    refine Vc.region hG rfl ?_ ?_
    · trivial
    refine Vc.ret ?_
    refine ⟨?_, trivial⟩
    all_goals exact rfl
  · skip
    have g0 : ¬ szF Y56 a0 (1048576) < 0 := of_decide_eq_false h0
    have k0 := szF_le Y56 a0 (1048576)
    have hs0 : Sm big20 Y56 a0 := szF_sm (n := big20) Y56 a0 (1048576) (by omega) (by omega)
    have cz0 := cellsLe Y56 a0 (1048576) (by omega) (by omega) (by decide)
    have cv0 := cellsV_le Y56 a0
    refine Vc.skip ?_
    refine Vc.seq ?_
    refine Vc.region hG rfl ?_ ?_
    · exact (show (0 : Int) ≤ szF Y56 a0 (1048576) ∧ szF Y56 a0 (1048576) ≤ (big20 : Int) from ⟨by omega, by omega⟩)
    refine Vc.seq ?_
    refine Vc.seq ?_
    refine Vc.region hG rfl ?_ ?_
    · trivial
    refine Vc.cond rfl (fun h1 => ?_) (fun h1 => ?_)
    · skip
      refine Vc.seq ?_
      refine Vc.region hG rfl ?_ ?_
      · trivial
      refine Vc.ret ?_
      refine ⟨?_, trivial⟩
      all_goals exact rfl
    · skip
      have g1 : ¬ szF Y25 a2 (szF Y56 a0 (1048576)) < 0 := of_decide_eq_false h1
      have k1 := szF_le Y25 a2 (szF Y56 a0 (1048576))
      have hs2 : Sm big20 Y25 a2 := szF_sm (n := big20) Y25 a2 (szF Y56 a0 (1048576)) (by omega) (by omega)
      have cz2 := cellsLe Y25 a2 (szF Y56 a0 (1048576)) (by omega) (by omega) (by decide)
      have cv2 := cellsV_le Y25 a2
      refine Vc.skip ?_
      refine Vc.seq ?_
      refine Vc.region hG rfl ?_ ?_
      · exact ⟨hs0, hs2, ⟨hs0, hs2⟩⟩
      refine Vc.seq ?_
      refine Vc.region hG rfl ?_ ?_
      · exact hs0
      refine Vc.seq ?_
      refine Vc.region hG rfl ?_ ?_
      · exact hs2
      refine Vc.seq ?_
      refine Vc.region hG rfl ?_ ?_
      · exact ⟨hs0, hs2⟩
      refine Vc.seq ?_
      refine Vc.seq ?_
      refine Vc.region hG rfl ?_ ?_
      · repeat' (first | exact trivial | exact hs0 | exact hs1 | refine And.intro ?_ ?_ | intro _)
      refine Vc.cond rfl (fun h2 => ?_) (fun h2 => ?_)
      · skip
        exact (ne_self2CB h2).elim
      · skip
        have cr0 : ((cellsV Y56 ((sealF a0 a1 a2).1) : Nat) : Int) ≤ 10000000000000000 := slCells cz0 cz2
        refine Vc.skip ?_
        refine Vc.seq ?_
        refine Vc.seq ?_
        refine Vc.regionD mixed hG rfl (by kernel_rfl) ?_ ?_
        · exact ⟨hs0, trivial⟩
        refine Vc.cond rfl (fun h3 => ?_) (fun h3 => ?_)
        · skip
          exact (ne_selfC h3).elim
        · skip
          refine Vc.skip ?_
          refine Vc.seq ?_
          refine Vc.seq ?_
          refine Vc.region hG rfl ?_ ?_
          · exact ⟨hs2, trivial⟩
          refine Vc.cond rfl (fun h4 => ?_) (fun h4 => ?_)
          · skip
            exact (ne_selfC h4).elim
          · skip
            refine Vc.skip ?_
            refine Vc.seq ?_
            refine Vc.region hG rfl ?_ ?_
            · trivial
            refine Vc.seq ?_
            refine Vc.region hG rfl ?_ ?_
            · have ce0 := cntV_eq Y56 a0 (1)
              exact (show markPreV Y56 a0 (1) from ⟨by first | omega | (unfold bnd; omega), by first | omega | (unfold bnd; omega)⟩)
            refine Vc.seq ?_
            refine Vc.region hG rfl ?_ ?_
            · have ce0 := cntV_eq Y56 a0 (1)
              have ce1 := cntF_eq Y25 a2 (cntV Y56 a0 (1))
              exact (show markPre Y25 a2 (cntV Y56 a0 (1)) from ⟨by first | omega | (unfold bnd; omega), by first | omega | (unfold bnd; omega)⟩)
            refine Vc.seq ?_
            refine Vc.seq ?_
            refine Vc.region hG rfl ?_ ?_
            · repeat' (first | exact trivial | exact hs0 | exact hs1 | refine And.intro ?_ ?_ | intro _)
            refine Vc.cond rfl (fun h5 => ?_) (fun h5 => ?_)
            · skip
              have ce0 := cntV_eq Y56 a0 (1)
              have ce1 := cntF_eq Y25 a2 (cntV Y56 a0 (1))
              exact (orNe2B (K := cntF Y25 a2 (cntV Y56 a0 (1))) (by first | omega | (unfold bnd; omega)) h5).elim
            · skip
              refine Vc.skip ?_
              refine Vc.seq ?_
              refine Vc.region hG rfl ?_ ?_
              · trivial
              refine Vc.seq ?_
              refine Vc.region hG rfl ?_ ?_
              · have ce0 := cntV_eq Y56 a0 (1)
                have ce1 := cntF_eq Y25 a2 (cntV Y56 a0 (1))
                have ce2 := cntV_eq Y56 ((sealF a0 a1 a2).1) (1)
                exact (show markPreV Y56 ((sealF a0 a1 a2).1) (1) from ⟨by first | omega | (unfold bnd; omega), by first | omega | (unfold bnd; omega)⟩)
              refine Vc.seq ?_
              refine Vc.region hG rfl ?_ ?_
              · trivial
              refine Vc.seq ?_
              refine Vc.region hG rfl ?_ ?_
              · have ce0 := cntV_eq Y56 a0 (1)
                have ce1 := cntF_eq Y25 a2 (cntV Y56 a0 (1))
                have ce2 := cntV_eq Y56 ((sealF a0 a1 a2).1) (1)
                exact (show markPreV Y56 (markV Y56 ((sealF a0 a1 a2).1) (1)) (1) from ⟨by first | omega | (unfold bnd; omega), by rw [cellsV_mark]; first | omega | (unfold bnd; omega)⟩)
              refine Vc.seq ?_
              refine Vc.seq ?_
              refine Vc.region hG rfl ?_ ?_
              · trivial
              refine Vc.cond rfl (fun h6 => ?_) (fun h6 => ?_)
              · skip
                have ce0 := cntV_eq Y56 a0 (1)
                have ce1 := cntF_eq Y25 a2 (cntV Y56 a0 (1))
                have ce2 := cntV_eq Y56 ((sealF a0 a1 a2).1) (1)
                exact (heldVLt (t := .pair (.int .i64) Y54) (x := ((sealF a0 a1 a2).1)) (n := 1) (by first | omega | (unfold bnd; omega)) (of_decide_eq_true h6)).elim
              · skip
                refine Vc.skip ?_
                refine Vc.seq ?_
                refine Vc.seq ?_
                refine Vc.region hG rfl ?_ ?_
                · trivial
                refine Vc.cond rfl (fun h7 => ?_) (fun h7 => ?_)
                · skip
                  exact (heldVNe (t := .pair (.int .i64) Y54) (x := ((sealF a0 a1 a2).1)) (n := 1) h7).elim
                · skip
                  refine Vc.skip ?_
                  refine Vc.seq ?_
                  refine Vc.region hG rfl ?_ ?_
                  · have ce0 := cntV_eq Y56 a0 (1)
                    have ce1 := cntF_eq Y25 a2 (cntV Y56 a0 (1))
                    have ce2 := cntV_eq Y56 ((sealF a0 a1 a2).1) (1)
                    exact ⟨hs0, hs2, ⟨hs0, hs2⟩⟩
                  refine Vc.seq ?_
                  refine Vc.seq ?_
                  refine Vc.region hG rfl ?_ ?_
                  · repeat' (first | exact trivial | exact hs0 | exact hs1 | refine And.intro ?_ ?_ | intro _)
                  refine Vc.cond rfl (fun h8 => ?_) (fun h8 => ?_)
                  · skip
                    exact (ne_self2CB h8).elim
                  · skip
                    refine Vc.skip ?_
                    refine Vc.seq ?_
                    refine Vc.region hG rfl ?_ ?_
                    · trivial
                    refine Vc.seq ?_
                    refine Vc.region hG rfl ?_ ?_
                    · have ce0 := cntV_eq Y56 a0 (1)
                      have ce1 := cntF_eq Y25 a2 (cntV Y56 a0 (1))
                      have ce2 := cntV_eq Y56 ((sealF a0 a1 a2).1) (1)
                      exact (show markPreV Y56 (markV Y56 ((sealF a0 a1 a2).1) (1)) (1) from ⟨by first | omega | (unfold bnd; omega), by rw [cellsV_mark]; first | omega | (unfold bnd; omega)⟩)
                    refine Vc.seq ?_
                    refine Vc.seq ?_
                    refine Vc.region hG rfl ?_ ?_
                    · trivial
                    refine Vc.cond rfl (fun h9 => ?_) (fun h9 => ?_)
                    · skip
                      have ce0 := cntV_eq Y56 a0 (1)
                      have ce1 := cntF_eq Y25 a2 (cntV Y56 a0 (1))
                      have ce2 := cntV_eq Y56 ((sealF a0 a1 a2).1) (1)
                      exact (heldVLt (t := .pair (.int .i64) Y54) (x := ((sealF a0 a1 a2).1)) (n := 1) (by first | omega | (unfold bnd; omega)) (of_decide_eq_true h9)).elim
                    · skip
                      refine Vc.skip ?_
                      refine Vc.seq ?_
                      refine Vc.seq ?_
                      refine Vc.region hG rfl ?_ ?_
                      · trivial
                      refine Vc.cond rfl (fun h10 => ?_) (fun h10 => ?_)
                      · skip
                        exact (heldVNe (t := .pair (.int .i64) Y54) (x := ((sealF a0 a1 a2).1)) (n := 1) h10).elim
                      · skip
                        refine Vc.skip ?_
                        refine Vc.seq ?_
                        refine Vc.region hG rfl ?_ ?_
                        · trivial
                        refine Vc.ret ?_
                        refine ⟨?_, trivial⟩
                        all_goals exact rfl
end Fw
