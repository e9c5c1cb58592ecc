/- Walks of functions of the program: what each computes. Conditions: those that each contract names. -/
import Derived.Test.YtlfmjohahkeejaaGreatW48T
import Derived.Test.YtlfmjohahkeejaaGreatW48i1
import Derived.Test.YtlfmjohahkeejaaGreatW48m0
import Derived.Test.YtlfmjohahkeejaaGreatW48m1
import Derived.Test.YtlfmjohahkeejaaGreatW48m4
import Derived.Test.YtlfmjohahkeejaaGreatW48s1
namespace Fw
open Go Go.Proofs
set_option linter.unusedSimpArgs false
noncomputable def F7 : Fun := ⟨[.pair (.int .i64) Y54, .pair (.int .i64) Y54, .slice (.int .i64), .int .i64], [.pure (.bool)], fun _ => True, fun x => ((fun _ _ _ _ => true) x.1 x.2.1 x.2.2.1 x.2.2.2.1, ())⟩
set_option maxRecDepth 100000 in
set_option maxHeartbeats 2000000 in
/-- loop.example.g00597.laws.FnExactMoveItems -/
theorem F7_ok : Meets Tryz.prog 7 F7 := by
  refine meets_of_vc (C := mkCM 182 [8] [0,1,2,3,4,5,8,9,10,11,12,13,14,15,16,17,18,19,20,21,22,23,24,27,32,37,79,84,89,94,122,133,138,141,168,173,178,181] [⟨8, _, F8_ok⟩, ⟨11, _, F11_ok⟩, ⟨20, _, F20_ok⟩, ⟨37, _, F37_ok⟩, ⟨38, _, F38_ok⟩, ⟨14, _, F14_ok⟩, ⟨23, _, F23_ok⟩, ⟨18, _, F18_ok⟩] [⟨16, _, M16_ok⟩, ⟨24, _, M24_ok⟩] [] []) (mkCM_ok _ _ _ _ _ _ _) (fnOf_ok _) Tryz.func7 rfl rfl rfl (by decide) rfl ?_
  rintro ⟨a0, a1, a2, (a3 : Int), _⟩ hwf hpre ⟨P, C, B, X, w0, M0, pv⟩ hG rfl rfl
  show Vc _ _ [(0, ⟨0, 0, .c Z58 a0⟩), (1, ⟨0, 0, .c Z58 a1⟩), (2, ⟨0, 0, .c Z2 a2⟩), (3, ⟨0, 0, .c (.pure (.int .i64)) a3⟩)] _
  have q0 : (0 : Int) ≤ 1048576 ∧ (1048576 : Int) ≤ (big20 : Int) := by decide
  refine Vc.seq ?_
  refine Vc.region hG rfl ?_ ?_
  · trivial
  refine Vc.seq ?_
  refine Vc.seq ?_
  refine Vc.region hG rfl ?_ ?_
  · trivial
  refine Vc.cond rfl (fun h0 => ?_) (fun h0 => ?_)
  · skip
    refine Vc.seq ?_
    refine Vc.region hG rfl ?_ ?_
    · trivial
    refine Vc.ret ?_
    refine ⟨?_, trivial⟩
    all_goals exact rfl
  · skip
    have g0 : ¬ (List.length a2 : Int) > 1048576 := of_decide_eq_false h0
    have hs2 : Sm big20 (.slice (.int .i64)) a2 := ⟨by unfold big20; omega, fun _ _ => trivial⟩
    have cz2 := cellsBig (.int .i64) a2 rfl (by decide) (by omega)
    refine Vc.skip ?_
    refine Vc.seq ?_
    refine Vc.region hG rfl ?_ ?_
    · trivial
    refine Vc.seq ?_
    refine Vc.region hG rfl ?_ ?_
    · exact (show (0 : Int) ≤ 1048576 ∧ 1048576 ≤ (big20 : Int) from ⟨by omega, by omega⟩)
    refine Vc.seq ?_
    refine Vc.seq ?_
    refine Vc.region hG rfl ?_ ?_
    · trivial
    refine Vc.cond rfl (fun h1 => ?_) (fun h1 => ?_)
    · skip
      refine Vc.seq ?_
      refine Vc.region hG rfl ?_ ?_
      · trivial
      refine Vc.ret ?_
      refine ⟨?_, trivial⟩
      all_goals exact rfl
    · skip
      have g1 : ¬ szF Y56 a0 (1048576) < 0 := of_decide_eq_false h1
      have k1 := szF_le Y56 a0 (1048576)
      have hs0 : Sm big20 Y56 a0 := szF_sm (n := big20) Y56 a0 (1048576) (by omega) (by omega)
      have cz0 := cellsLe Y56 a0 (1048576) (by omega) (by omega) (by decide)
      have cv0 := cellsV_le Y56 a0
      refine Vc.skip ?_
      refine Vc.seq ?_
      refine Vc.region hG rfl ?_ ?_
      · exact (show (0 : Int) ≤ szF Y56 a0 (1048576) ∧ szF Y56 a0 (1048576) ≤ (big20 : Int) from ⟨by omega, by omega⟩)
      refine Vc.seq ?_
      refine Vc.seq ?_
      refine Vc.region hG rfl ?_ ?_
      · trivial
      refine Vc.cond rfl (fun h2 => ?_) (fun h2 => ?_)
      · skip
        refine Vc.seq ?_
        refine Vc.region hG rfl ?_ ?_
        · trivial
        refine Vc.ret ?_
        refine ⟨?_, trivial⟩
        all_goals exact rfl
      · skip
        have g2 : ¬ szF Y56 a1 (szF Y56 a0 (1048576)) < 0 := of_decide_eq_false h2
        have k2 := szF_le Y56 a1 (szF Y56 a0 (1048576))
        have hs1 : Sm big20 Y56 a1 := szF_sm (n := big20) Y56 a1 (szF Y56 a0 (1048576)) (by omega) (by omega)
        have cz1 := cellsLe Y56 a1 (szF Y56 a0 (1048576)) (by omega) (by omega) (by decide)
        have cv1 := cellsV_le Y56 a1
        refine Vc.skip ?_
        refine Vc.seq ?_
        refine Vc.regionL mixed hG rfl (by kernel_rfl) ?_ ?_
        · exact ⟨hs0, hs1, hs2, ⟨hs0, hs1, (show List.length a2 ≤ 1048576 by omega)⟩⟩
        refine Vc.seq ?_
        refine Vc.region hG rfl ?_ ?_
        · exact hs0
        refine Vc.seq ?_
        refine Vc.region hG rfl ?_ ?_
        · exact hs1
        refine Vc.seq ?_
        refine Vc.region hG rfl ?_ ?_
        · exact hs2
        refine Vc.seq ?_
        refine Vc.regionT hG rfl ?_ ?_
        · exact ⟨hs0, hs1, (show List.length a2 ≤ 1048576 by omega)⟩
        refine Vc.seq ?_
        refine Vc.seq ?_
        refine Vc.region hG rfl ?_ ?_
        · repeat' (first | exact trivial | exact hs0 | exact hs1 | refine And.intro ?_ ?_ | intro _)
        refine Vc.cond rfl (fun h3 => ?_) (fun h3 => ?_)
        · skip
          exact (ne_self3CCB h3).elim
        · skip
          have cr0 : ((cellsV Y56 ((moveF a0 a1 a2 a3).1) : Nat) : Int) ≤ 10000000000000000 := mvCells1 cz0
          have cr1 : ((cellsV Y56 ((moveF a0 a1 a2 a3).2.1) : Nat) : Int) ≤ 10000000000000000 := mvCells2 cz0 cz1 (show List.length a2 ≤ 1048576 by omega)
          refine Vc.skip ?_
          refine Vc.seq ?_
          refine Vc.seq ?_
          refine Vc.regionD mixed hG rfl (by kernel_rfl) ?_ ?_
          · exact ⟨hs0, trivial⟩
          refine Vc.cond rfl (fun h4 => ?_) (fun h4 => ?_)
          · skip
            exact (ne_selfC h4).elim
          · skip
            refine Vc.skip ?_
            refine Vc.seq ?_
            refine Vc.seq ?_
            refine Vc.regionD mixed hG rfl (by kernel_rfl) ?_ ?_
            · exact ⟨hs1, trivial⟩
            refine Vc.cond rfl (fun h5 => ?_) (fun h5 => ?_)
            · skip
              exact (ne_selfC h5).elim
            · skip
              refine Vc.skip ?_
              refine Vc.seq ?_
              refine Vc.seq ?_
              refine Vc.region hG rfl ?_ ?_
              · exact ⟨hs2, trivial⟩
              refine Vc.cond rfl (fun h6 => ?_) (fun h6 => ?_)
              · skip
                exact (ne_selfC h6).elim
              · skip
                refine Vc.skip ?_
                refine Vc.seq ?_
                refine Vc.region hG rfl ?_ ?_
                · trivial
                refine Vc.seq ?_
                refine Vc.region hG rfl ?_ ?_
                · have ce0 := cntV_eq Y56 a0 (1)
                  exact (show markPreV Y56 a0 (1) from ⟨by first | omega | (unfold bnd; omega), by first | omega | (unfold bnd; omega)⟩)
                refine Vc.seq ?_
                refine Vc.region hG rfl ?_ ?_
                · have ce0 := cntV_eq Y56 a0 (1)
                  have ce1 := cntV_eq Y56 a1 (cntV Y56 a0 (1))
                  exact (show markPreV Y56 a1 (cntV Y56 a0 (1)) from ⟨by first | omega | (unfold bnd; omega), by first | omega | (unfold bnd; omega)⟩)
                refine Vc.seq ?_
                refine Vc.region hG rfl ?_ ?_
                · have ce0 := cntV_eq Y56 a0 (1)
                  have ce1 := cntV_eq Y56 a1 (cntV Y56 a0 (1))
                  have ce2 := cntF_eq (.slice (.int .i64)) a2 (cntV Y56 a1 (cntV Y56 a0 (1)))
                  exact (show markPre (.slice (.int .i64)) a2 (cntV Y56 a1 (cntV Y56 a0 (1))) from ⟨by first | omega | (unfold bnd; omega), by first | omega | (unfold bnd; omega)⟩)
                refine Vc.seq ?_
                refine Vc.seq ?_
                refine Vc.region hG rfl ?_ ?_
                · repeat' (first | exact trivial | exact hs0 | exact hs1 | refine And.intro ?_ ?_ | intro _)
                refine Vc.cond rfl (fun h7 => ?_) (fun h7 => ?_)
                · skip
                  have ce0 := cntV_eq Y56 a0 (1)
                  have ce1 := cntV_eq Y56 a1 (cntV Y56 a0 (1))
                  have ce2 := cntF_eq (.slice (.int .i64)) a2 (cntV Y56 a1 (cntV Y56 a0 (1)))
                  exact (orNe3CCB (K := cntF (.slice (.int .i64)) a2 (cntV Y56 a1 (cntV Y56 a0 (1)))) (by first | omega | (unfold bnd; omega)) h7).elim
                · skip
                  refine Vc.skip ?_
                  refine Vc.seq ?_
                  refine Vc.region hG rfl ?_ ?_
                  · trivial
                  refine Vc.seq ?_
                  refine Vc.region hG rfl ?_ ?_
                  · have ce0 := cntV_eq Y56 a0 (1)
                    have ce1 := cntV_eq Y56 a1 (cntV Y56 a0 (1))
                    have ce2 := cntF_eq (.slice (.int .i64)) a2 (cntV Y56 a1 (cntV Y56 a0 (1)))
                    have ce3 := cntV_eq Y56 ((moveF a0 a1 a2 a3).1) (1)
                    exact (show markPreV Y56 ((moveF a0 a1 a2 a3).1) (1) from ⟨by first | omega | (unfold bnd; omega), by first | omega | (unfold bnd; omega)⟩)
                  refine Vc.seq ?_
                  refine Vc.region hG rfl ?_ ?_
                  · have ce0 := cntV_eq Y56 a0 (1)
                    have ce1 := cntV_eq Y56 a1 (cntV Y56 a0 (1))
                    have ce2 := cntF_eq (.slice (.int .i64)) a2 (cntV Y56 a1 (cntV Y56 a0 (1)))
                    have ce3 := cntV_eq Y56 ((moveF a0 a1 a2 a3).1) (1)
                    have ce4 := cntV_eq Y56 ((moveF a0 a1 a2 a3).2.1) (cntV Y56 ((moveF a0 a1 a2 a3).1) (1))
                    exact (show markPreV Y56 ((moveF a0 a1 a2 a3).2.1) (cntV Y56 ((moveF a0 a1 a2 a3).1) (1)) from ⟨by first | omega | (unfold bnd; omega), by first | omega | (unfold bnd; omega)⟩)
                  refine Vc.seq ?_
                  refine Vc.region hG rfl ?_ ?_
                  · trivial
                  refine Vc.seq ?_
                  refine Vc.region hG rfl ?_ ?_
                  · have ce0 := cntV_eq Y56 a0 (1)
                    have ce1 := cntV_eq Y56 a1 (cntV Y56 a0 (1))
                    have ce2 := cntF_eq (.slice (.int .i64)) a2 (cntV Y56 a1 (cntV Y56 a0 (1)))
                    have ce3 := cntV_eq Y56 ((moveF a0 a1 a2 a3).1) (1)
                    have ce4 := cntV_eq Y56 ((moveF a0 a1 a2 a3).2.1) (cntV Y56 ((moveF a0 a1 a2 a3).1) (1))
                    exact (show markPreV Y56 (markV Y56 ((moveF a0 a1 a2 a3).1) (1)) (1) from ⟨by first | omega | (unfold bnd; omega), by rw [cellsV_mark]; first | omega | (unfold bnd; omega)⟩)
                  refine Vc.seq ?_
                  refine Vc.seq ?_
                  refine Vc.region hG rfl ?_ ?_
                  · trivial
                  refine Vc.cond rfl (fun h8 => ?_) (fun h8 => ?_)
                  · skip
                    have ce0 := cntV_eq Y56 a0 (1)
                    have ce1 := cntV_eq Y56 a1 (cntV Y56 a0 (1))
                    have ce2 := cntF_eq (.slice (.int .i64)) a2 (cntV Y56 a1 (cntV Y56 a0 (1)))
                    have ce3 := cntV_eq Y56 ((moveF a0 a1 a2 a3).1) (1)
                    have ce4 := cntV_eq Y56 ((moveF a0 a1 a2 a3).2.1) (cntV Y56 ((moveF a0 a1 a2 a3).1) (1))
                    exact (heldVLt (t := .pair (.int .i64) Y54) (x := ((moveF a0 a1 a2 a3).1)) (n := 1) (by first | omega | (unfold bnd; omega)) (of_decide_eq_true h8)).elim
                  · skip
                    refine Vc.skip ?_
                    refine Vc.seq ?_
                    refine Vc.region hG rfl ?_ ?_
                    · have ce0 := cntV_eq Y56 a0 (1)
                      have ce1 := cntV_eq Y56 a1 (cntV Y56 a0 (1))
                      have ce2 := cntF_eq (.slice (.int .i64)) a2 (cntV Y56 a1 (cntV Y56 a0 (1)))
                      have ce3 := cntV_eq Y56 ((moveF a0 a1 a2 a3).1) (1)
                      have ce4 := cntV_eq Y56 ((moveF a0 a1 a2 a3).2.1) (cntV Y56 ((moveF a0 a1 a2 a3).1) (1))
                      exact (show markPreV Y56 (markV Y56 ((moveF a0 a1 a2 a3).2.1) (cntV Y56 ((moveF a0 a1 a2 a3).1) (1))) (heldVF Y56 (markV Y56 ((moveF a0 a1 a2 a3).1) (1)) (1)) from by rw [(show heldVF Y56 (markV Y56 ((moveF a0 a1 a2 a3).1) (1)) (1) = cntV Y56 ((moveF a0 a1 a2 a3).1) (1) from by rw [heldV_mark, cntV_eq])]; exact ⟨by first | omega | (unfold bnd; omega), by rw [cellsV_mark]; first | omega | (unfold bnd; omega)⟩)
                    refine Vc.seq ?_
                    refine Vc.seq ?_
                    refine Vc.region hG rfl ?_ ?_
                    · trivial
                    refine Vc.cond rfl (fun h9 => ?_) (fun h9 => ?_)
                    · skip
                      have ce0 := cntV_eq Y56 a0 (1)
                      have ce1 := cntV_eq Y56 a1 (cntV Y56 a0 (1))
                      have ce2 := cntF_eq (.slice (.int .i64)) a2 (cntV Y56 a1 (cntV Y56 a0 (1)))
                      have ce3 := cntV_eq Y56 ((moveF a0 a1 a2 a3).1) (1)
                      have ce4 := cntV_eq Y56 ((moveF a0 a1 a2 a3).2.1) (cntV Y56 ((moveF a0 a1 a2 a3).1) (1))
                      have q : heldVF Y56 (markV Y56 ((moveF a0 a1 a2 a3).2.1) (cntV Y56 ((moveF a0 a1 a2 a3).1) (1))) (heldVF Y56 (markV Y56 ((moveF a0 a1 a2 a3).1) (1)) (1)) < 0 := of_decide_eq_true h9
                      rw [(show heldVF Y56 (markV Y56 ((moveF a0 a1 a2 a3).1) (1)) (1) = cntV Y56 ((moveF a0 a1 a2 a3).1) (1) from by rw [heldV_mark, cntV_eq])] at q
                      exact (heldVLt (t := .pair (.int .i64) Y54) (x := ((moveF a0 a1 a2 a3).2.1)) (n := cntV Y56 ((moveF a0 a1 a2 a3).1) (1)) (by first | omega | (unfold bnd; omega)) q).elim
                    · skip
                      refine Vc.skip ?_
                      refine Vc.seq ?_
                      refine Vc.seq ?_
                      refine Vc.region hG rfl ?_ ?_
                      · trivial
                      refine Vc.cond rfl (fun h10 => ?_) (fun h10 => ?_)
                      · skip
                        have q : (heldVF Y56 (markV Y56 ((moveF a0 a1 a2 a3).2.1) (cntV Y56 ((moveF a0 a1 a2 a3).1) (1))) (heldVF Y56 (markV Y56 ((moveF a0 a1 a2 a3).1) (1)) (1)) != cntV Y56 ((moveF a0 a1 a2 a3).2.1) (cntV Y56 ((moveF a0 a1 a2 a3).1) (1))) = true := h10
                        rw [(show heldVF Y56 (markV Y56 ((moveF a0 a1 a2 a3).1) (1)) (1) = cntV Y56 ((moveF a0 a1 a2 a3).1) (1) from by rw [heldV_mark, cntV_eq])] at q
                        exact (heldVNe (t := .pair (.int .i64) Y54) (x := ((moveF a0 a1 a2 a3).2.1)) (n := cntV Y56 ((moveF a0 a1 a2 a3).1) (1)) q).elim
                      · skip
                        refine Vc.skip ?_
                        refine Vc.seq ?_
                        refine Vc.regionL mixed hG rfl (by kernel_rfl) ?_ ?_
                        · have ce0 := cntV_eq Y56 a0 (1)
                          have ce1 := cntV_eq Y56 a1 (cntV Y56 a0 (1))
                          have ce2 := cntF_eq (.slice (.int .i64)) a2 (cntV Y56 a1 (cntV Y56 a0 (1)))
                          have ce3 := cntV_eq Y56 ((moveF a0 a1 a2 a3).1) (1)
                          have ce4 := cntV_eq Y56 ((moveF a0 a1 a2 a3).2.1) (cntV Y56 ((moveF a0 a1 a2 a3).1) (1))
                          exact ⟨hs0, hs1, hs2, ⟨hs0, hs1, (show List.length a2 ≤ 1048576 by omega)⟩⟩
                        refine Vc.seq ?_
                        refine Vc.seq ?_
                        refine Vc.region hG rfl ?_ ?_
                        · repeat' (first | exact trivial | exact hs0 | exact hs1 | refine And.intro ?_ ?_ | intro _)
                        refine Vc.cond rfl (fun h11 => ?_) (fun h11 => ?_)
                        · skip
                          exact (ne_self3CCB h11).elim
                        · skip
                          refine Vc.skip ?_
                          refine Vc.seq ?_
                          refine Vc.region hG rfl ?_ ?_
                          · trivial
                          refine Vc.seq ?_
                          refine Vc.region hG rfl ?_ ?_
                          · have ce0 := cntV_eq Y56 a0 (1)
                            have ce1 := cntV_eq Y56 a1 (cntV Y56 a0 (1))
                            have ce2 := cntF_eq (.slice (.int .i64)) a2 (cntV Y56 a1 (cntV Y56 a0 (1)))
                            have ce3 := cntV_eq Y56 ((moveF a0 a1 a2 a3).1) (1)
                            have ce4 := cntV_eq Y56 ((moveF a0 a1 a2 a3).2.1) (cntV Y56 ((moveF a0 a1 a2 a3).1) (1))
                            exact (show markPreV Y56 (markV Y56 ((moveF a0 a1 a2 a3).1) (1)) (1) from ⟨by first | omega | (unfold bnd; omega), by rw [cellsV_mark]; first | omega | (unfold bnd; omega)⟩)
                          refine Vc.seq ?_
                          refine Vc.seq ?_
                          refine Vc.region hG rfl ?_ ?_
                          · trivial
                          refine Vc.cond rfl (fun h12 => ?_) (fun h12 => ?_)
                          · skip
                            have ce0 := cntV_eq Y56 a0 (1)
                            have ce1 := cntV_eq Y56 a1 (cntV Y56 a0 (1))
                            have ce2 := cntF_eq (.slice (.int .i64)) a2 (cntV Y56 a1 (cntV Y56 a0 (1)))
                            have ce3 := cntV_eq Y56 ((moveF a0 a1 a2 a3).1) (1)
                            have ce4 := cntV_eq Y56 ((moveF a0 a1 a2 a3).2.1) (cntV Y56 ((moveF a0 a1 a2 a3).1) (1))
                            exact (heldVLt (t := .pair (.int .i64) Y54) (x := ((moveF a0 a1 a2 a3).1)) (n := 1) (by first | omega | (unfold bnd; omega)) (of_decide_eq_true h12)).elim
                          · skip
                            refine Vc.skip ?_
                            refine Vc.seq ?_
                            refine Vc.region hG rfl ?_ ?_
                            · have ce0 := cntV_eq Y56 a0 (1)
                              have ce1 := cntV_eq Y56 a1 (cntV Y56 a0 (1))
                              have ce2 := cntF_eq (.slice (.int .i64)) a2 (cntV Y56 a1 (cntV Y56 a0 (1)))
                              have ce3 := cntV_eq Y56 ((moveF a0 a1 a2 a3).1) (1)
                              have ce4 := cntV_eq Y56 ((moveF a0 a1 a2 a3).2.1) (cntV Y56 ((moveF a0 a1 a2 a3).1) (1))
                              exact (show markPreV Y56 (markV Y56 ((moveF a0 a1 a2 a3).2.1) (cntV Y56 ((moveF a0 a1 a2 a3).1) (1))) (heldVF Y56 (markV Y56 ((moveF a0 a1 a2 a3).1) (1)) (1)) from by rw [(show heldVF Y56 (markV Y56 ((moveF a0 a1 a2 a3).1) (1)) (1) = cntV Y56 ((moveF a0 a1 a2 a3).1) (1) from by rw [heldV_mark, cntV_eq])]; exact ⟨by first | omega | (unfold bnd; omega), by rw [cellsV_mark]; first | omega | (unfold bnd; omega)⟩)
                            refine Vc.seq ?_
                            refine Vc.seq ?_
                            refine Vc.region hG rfl ?_ ?_
                            · trivial
                            refine Vc.cond rfl (fun h13 => ?_) (fun h13 => ?_)
                            · skip
                              have ce0 := cntV_eq Y56 a0 (1)
                              have ce1 := cntV_eq Y56 a1 (cntV Y56 a0 (1))
                              have ce2 := cntF_eq (.slice (.int .i64)) a2 (cntV Y56 a1 (cntV Y56 a0 (1)))
                              have ce3 := cntV_eq Y56 ((moveF a0 a1 a2 a3).1) (1)
                              have ce4 := cntV_eq Y56 ((moveF a0 a1 a2 a3).2.1) (cntV Y56 ((moveF a0 a1 a2 a3).1) (1))
                              have q : heldVF Y56 (markV Y56 ((moveF a0 a1 a2 a3).2.1) (cntV Y56 ((moveF a0 a1 a2 a3).1) (1))) (heldVF Y56 (markV Y56 ((moveF a0 a1 a2 a3).1) (1)) (1)) < 0 := of_decide_eq_true h13
                              rw [(show heldVF Y56 (markV Y56 ((moveF a0 a1 a2 a3).1) (1)) (1) = cntV Y56 ((moveF a0 a1 a2 a3).1) (1) from by rw [heldV_mark, cntV_eq])] at q
                              exact (heldVLt (t := .pair (.int .i64) Y54) (x := ((moveF a0 a1 a2 a3).2.1)) (n := cntV Y56 ((moveF a0 a1 a2 a3).1) (1)) (by first | omega | (unfold bnd; omega)) q).elim
                            · skip
                              refine Vc.skip ?_
                              refine Vc.seq ?_
                              refine Vc.seq ?_
                              refine Vc.region hG rfl ?_ ?_
                              · trivial
                              refine Vc.cond rfl (fun h14 => ?_) (fun h14 => ?_)
                              · skip
                                have q : (heldVF Y56 (markV Y56 ((moveF a0 a1 a2 a3).2.1) (cntV Y56 ((moveF a0 a1 a2 a3).1) (1))) (heldVF Y56 (markV Y56 ((moveF a0 a1 a2 a3).1) (1)) (1)) != cntV Y56 ((moveF a0 a1 a2 a3).2.1) (cntV Y56 ((moveF a0 a1 a2 a3).1) (1))) = true := h14
                                rw [(show heldVF Y56 (markV Y56 ((moveF a0 a1 a2 a3).1) (1)) (1) = cntV Y56 ((moveF a0 a1 a2 a3).1) (1) from by rw [heldV_mark, cntV_eq])] at q
                                exact (heldVNe (t := .pair (.int .i64) Y54) (x := ((moveF a0 a1 a2 a3).2.1)) (n := cntV Y56 ((moveF a0 a1 a2 a3).1) (1)) q).elim
                              · skip
                                refine Vc.skip ?_
                                refine Vc.seq ?_
                                refine Vc.region hG rfl ?_ ?_
                                · trivial
                                refine Vc.ret ?_
                                refine ⟨?_, trivial⟩
                                all_goals exact rfl
end Fw
