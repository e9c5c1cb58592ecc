/- Walks of functions of the program: what each computes. Conditions: those that each contract names. -/
import Derived.Test.YtadkcilmknpkhaaGreatW50T
import Derived.Test.YtadkcilmknpkhaaGreatW50i1
import Derived.Test.YtadkcilmknpkhaaGreatW50m0
import Derived.Test.YtadkcilmknpkhaaGreatW50m1
import Derived.Test.YtadkcilmknpkhaaGreatW50m2
import Derived.Test.YtadkcilmknpkhaaGreatW50s1
namespace Fw
open Go Go.Proofs
set_option linter.unusedSimpArgs false
noncomputable def F4 : Fun := ⟨[.pair Y31 Y44, .pair Y55 Y34, .slice (.slice (.int .i64))], [.pure (.bool)], fun _ => True, fun x => ((fun _ _ _ => true) x.1 x.2.1 x.2.2.1, ())⟩
set_option maxRecDepth 100000 in
set_option maxHeartbeats 2000000 in
/-- loop.example.g00597.laws.FnExactUsablePieces -/
theorem F4_ok : Meets Tryz.prog 4 F4 := by
  refine meets_of_vc (C := mkCM 115 [6] [0,1,2,3,4,6,7,8,9,10,11,12,13,14,15,16,21,26,31,52,57,62,67,84,92,95,106,111,114] [⟨6, _, F6_ok⟩, ⟨7, _, F7_ok⟩, ⟨8, _, F8_ok⟩, ⟨11, _, F11_ok⟩, ⟨12, _, F12_ok⟩, ⟨13, _, F13_ok⟩, ⟨20, _, F20_ok⟩, ⟨21, _, F21_ok⟩, ⟨22, _, F22_ok⟩, ⟨16, _, F16_ok⟩, ⟨17, _, F17_ok⟩, ⟨18, _, F18_ok⟩, ⟨27, _, F27_ok⟩] [⟨23, _, M23_ok⟩, ⟨24, _, M24_ok⟩, ⟨25, _, M25_ok⟩, ⟨26, _, M26_ok⟩] [] []) (mkCM_ok _ _ _ _ _ _ _) (fnOf_ok _) Tryz.func4 rfl rfl rfl (by decide) rfl ?_
  rintro ⟨a0, a1, a2, _⟩ hwf hpre ⟨P, C, B, X, w0, M0, pv⟩ hG rfl rfl
  show Vc _ _ [(0, ⟨0, 0, .c Z56 a0⟩), (1, ⟨0, 0, .c Z60 a1⟩), (2, ⟨0, 0, .c Z7 a2⟩)] _
  have q0 : (0 : Int) ≤ 1048576 ∧ (1048576 : Int) ≤ (big20 : Int) := by decide
  refine Vc.seq ?_
  refine Vc.region hG rfl ?_ ?_
  · trivial
  refine Vc.seq ?_
  refine Vc.region hG rfl ?_ ?_
  · trivial
  refine Vc.seq ?_
  refine Vc.region hG rfl ?_ ?_
  · exact (show (0 : Int) ≤ 1048576 ∧ 1048576 ≤ (big20 : Int) from ⟨by omega, by omega⟩)
  refine Vc.seq ?_
  refine Vc.seq ?_
  refine Vc.region hG rfl ?_ ?_
  · trivial
  refine Vc.cond rfl (fun h0 => ?_) (fun h0 => ?_)
  · skip
    refine Vc.seq ?_
    refine Vc.region hG rfl ?_ ?_
    · trivial
    refine Vc.ret ?_
    refine ⟨?_, trivial⟩
    all_goals exact rfl
  · skip
    have g0 : ¬ szF Y53 a0 (1048576) < 0 := of_decide_eq_false h0
    have k0 := szF_le Y53 a0 (1048576)
    have hs0 : Sm big20 Y53 a0 := szF_sm (n := big20) Y53 a0 (1048576) (by omega) (by omega)
    have cz0 := cellsLe Y53 a0 (1048576) (by omega) (by omega) (by decide)
    have cv0 := cellsV_le Y53 a0
    refine Vc.skip ?_
    refine Vc.seq ?_
    refine Vc.region hG rfl ?_ ?_
    · exact (show (0 : Int) ≤ szF Y53 a0 (1048576) ∧ szF Y53 a0 (1048576) ≤ (big20 : Int) from ⟨by omega, by omega⟩)
    refine Vc.seq ?_
    refine Vc.seq ?_
    refine Vc.region hG rfl ?_ ?_
    · trivial
    refine Vc.cond rfl (fun h1 => ?_) (fun h1 => ?_)
    · skip
      refine Vc.seq ?_
      refine Vc.region hG rfl ?_ ?_
      · trivial
      refine Vc.ret ?_
      refine ⟨?_, trivial⟩
      all_goals exact rfl
    · skip
      have g1 : ¬ szF Y59 a1 (szF Y53 a0 (1048576)) < 0 := of_decide_eq_false h1
      have k1 := szF_le Y59 a1 (szF Y53 a0 (1048576))
      have hs1 : Sm big20 Y59 a1 := szF_sm (n := big20) Y59 a1 (szF Y53 a0 (1048576)) (by omega) (by omega)
      have cz1 := cellsLe Y59 a1 (szF Y53 a0 (1048576)) (by omega) (by omega) (by decide)
      have cv1 := cellsV_le Y59 a1
      refine Vc.skip ?_
      refine Vc.seq ?_
      refine Vc.region hG rfl ?_ ?_
      · exact (show (0 : Int) ≤ szF Y59 a1 (szF Y53 a0 (1048576)) ∧ szF Y59 a1 (szF Y53 a0 (1048576)) ≤ (big20 : Int) from ⟨by omega, by omega⟩)
      refine Vc.seq ?_
      refine Vc.seq ?_
      refine Vc.region hG rfl ?_ ?_
      · trivial
      refine Vc.cond rfl (fun h2 => ?_) (fun h2 => ?_)
      · skip
        refine Vc.seq ?_
        refine Vc.region hG rfl ?_ ?_
        · trivial
        refine Vc.ret ?_
        refine ⟨?_, trivial⟩
        all_goals exact rfl
      · skip
        have g2 : ¬ szF Y3 a2 (szF Y59 a1 (szF Y53 a0 (1048576))) < 0 := of_decide_eq_false h2
        have k2 := szF_le Y3 a2 (szF Y59 a1 (szF Y53 a0 (1048576)))
        have hs2 : Sm big20 Y3 a2 := szF_sm (n := big20) Y3 a2 (szF Y59 a1 (szF Y53 a0 (1048576))) (by omega) (by omega)
        have cz2 := cellsLe Y3 a2 (szF Y59 a1 (szF Y53 a0 (1048576))) (by omega) (by omega) (by decide)
        have cv2 := cellsV_le Y3 a2
        refine Vc.skip ?_
        refine Vc.seq ?_
        refine Vc.regionD mixed hG rfl (by kernel_rfl) ?_ ?_
        · exact ⟨hs0, hs1, hs2, ⟨hs1.1, evdCells cz1⟩⟩
        refine Vc.seq ?_
        refine Vc.region hG rfl ?_ ?_
        · exact hs0
        refine Vc.seq ?_
        refine Vc.region hG rfl ?_ ?_
        · exact hs1
        refine Vc.seq ?_
        refine Vc.region hG rfl ?_ ?_
        · exact hs2
        refine Vc.seq ?_
        refine Vc.region hG rfl ?_ ?_
        · exact ⟨hs1.1, evdCells cz1⟩
        refine Vc.seq ?_
        refine Vc.seq ?_
        refine Vc.region hG rfl ?_ ?_
        · exact trivial
        refine Vc.cond rfl (fun h3 => ?_) (fun h3 => ?_)
        · skip
          exact (ne_selfC h3).elim
        · skip
          have cr0 : ((cellsC Y21 (usablePiecesF a0 a1 a2) : Nat) : Int) ≤ 10000000000000000 := usCells cz1
          refine Vc.skip ?_
          refine Vc.seq ?_
          refine Vc.seq ?_
          refine Vc.regionD mixed hG rfl (by kernel_rfl) ?_ ?_
          · exact ⟨hs0, trivial⟩
          refine Vc.cond rfl (fun h4 => ?_) (fun h4 => ?_)
          · skip
            exact (ne_selfC h4).elim
          · skip
            refine Vc.skip ?_
            refine Vc.seq ?_
            refine Vc.seq ?_
            refine Vc.regionD mixed hG rfl (by kernel_rfl) ?_ ?_
            · exact ⟨hs1, trivial⟩
            refine Vc.cond rfl (fun h5 => ?_) (fun h5 => ?_)
            · skip
              exact (ne_selfC h5).elim
            · skip
              refine Vc.skip ?_
              refine Vc.seq ?_
              refine Vc.seq ?_
              refine Vc.region hG rfl ?_ ?_
              · exact ⟨hs2, trivial⟩
              refine Vc.cond rfl (fun h6 => ?_) (fun h6 => ?_)
              · skip
                exact (ne_selfC h6).elim
              · skip
                refine Vc.skip ?_
                refine Vc.seq ?_
                refine Vc.region hG rfl ?_ ?_
                · trivial
                refine Vc.seq ?_
                refine Vc.region hG rfl ?_ ?_
                · have ce0 := cntV_eq Y53 a0 (1)
                  exact (show markPreV Y53 a0 (1) from ⟨by first | omega | (unfold bnd; omega), by first | omega | (unfold bnd; omega)⟩)
                refine Vc.seq ?_
                refine Vc.region hG rfl ?_ ?_
                · have ce0 := cntV_eq Y53 a0 (1)
                  have ce1 := cntV_eq Y59 a1 (cntV Y53 a0 (1))
                  exact (show markPreV Y59 a1 (cntV Y53 a0 (1)) from ⟨by first | omega | (unfold bnd; omega), by first | omega | (unfold bnd; omega)⟩)
                refine Vc.seq ?_
                refine Vc.region hG rfl ?_ ?_
                · have ce0 := cntV_eq Y53 a0 (1)
                  have ce1 := cntV_eq Y59 a1 (cntV Y53 a0 (1))
                  have ce2 := cntF_eq Y3 a2 (cntV Y59 a1 (cntV Y53 a0 (1)))
                  exact (show markPre Y3 a2 (cntV Y59 a1 (cntV Y53 a0 (1))) from ⟨by first | omega | (unfold bnd; omega), by first | omega | (unfold bnd; omega)⟩)
                refine Vc.seq ?_
                refine Vc.seq ?_
                refine Vc.region hG rfl ?_ ?_
                · repeat' (first | exact trivial | exact hs0 | exact hs1 | refine And.intro ?_ ?_ | intro _)
                refine Vc.cond rfl (fun h7 => ?_) (fun h7 => ?_)
                · skip
                  have ce0 := cntV_eq Y53 a0 (1)
                  have ce1 := cntV_eq Y59 a1 (cntV Y53 a0 (1))
                  have ce2 := cntF_eq Y3 a2 (cntV Y59 a1 (cntV Y53 a0 (1)))
                  exact (orNe (K := cntF Y3 a2 (cntV Y59 a1 (cntV Y53 a0 (1)))) (by first | omega | (unfold bnd; omega)) h7).elim
                · skip
                  refine Vc.skip ?_
                  refine Vc.seq ?_
                  refine Vc.region hG rfl ?_ ?_
                  · trivial
                  refine Vc.seq ?_
                  refine Vc.region hG rfl ?_ ?_
                  · have ce0 := cntV_eq Y53 a0 (1)
                    have ce1 := cntV_eq Y59 a1 (cntV Y53 a0 (1))
                    have ce2 := cntF_eq Y3 a2 (cntV Y59 a1 (cntV Y53 a0 (1)))
                    have ce3 := cntF_eq Y21 (usablePiecesF a0 a1 a2) (1)
                    exact (show markPre Y21 (usablePiecesF a0 a1 a2) (1) from ⟨by first | omega | (unfold bnd; omega), by first | omega | (unfold bnd; omega)⟩)
                  refine Vc.seq ?_
                  refine Vc.region hG rfl ?_ ?_
                  · trivial
                  refine Vc.seq ?_
                  refine Vc.region hG rfl ?_ ?_
                  · have ce0 := cntV_eq Y53 a0 (1)
                    have ce1 := cntV_eq Y59 a1 (cntV Y53 a0 (1))
                    have ce2 := cntF_eq Y3 a2 (cntV Y59 a1 (cntV Y53 a0 (1)))
                    have ce3 := cntF_eq Y21 (usablePiecesF a0 a1 a2) (1)
                    exact (show markPre Y21 (markC Y21 (usablePiecesF a0 a1 a2) (1)) (1) from ⟨by first | omega | (unfold bnd; omega), by rw [cells_mark]; first | omega | (unfold bnd; omega)⟩)
                  refine Vc.seq ?_
                  refine Vc.seq ?_
                  refine Vc.region hG rfl ?_ ?_
                  · trivial
                  refine Vc.cond rfl (fun h8 => ?_) (fun h8 => ?_)
                  · skip
                    have ce0 := cntV_eq Y53 a0 (1)
                    have ce1 := cntV_eq Y59 a1 (cntV Y53 a0 (1))
                    have ce2 := cntF_eq Y3 a2 (cntV Y59 a1 (cntV Y53 a0 (1)))
                    have ce3 := cntF_eq Y21 (usablePiecesF a0 a1 a2) (1)
                    exact (heldLt (t := .slice Y18) (x := (usablePiecesF a0 a1 a2)) (n := 1) (by first | omega | (unfold bnd; omega)) (of_decide_eq_true h8)).elim
                  · skip
                    refine Vc.skip ?_
                    refine Vc.seq ?_
                    refine Vc.seq ?_
                    refine Vc.region hG rfl ?_ ?_
                    · trivial
                    refine Vc.cond rfl (fun h9 => ?_) (fun h9 => ?_)
                    · skip
                      exact (heldNe (t := .slice Y18) (x := (usablePiecesF a0 a1 a2)) (n := 1) h9).elim
                    · skip
                      refine Vc.skip ?_
                      refine Vc.seq ?_
                      refine Vc.regionD mixed hG rfl (by kernel_rfl) ?_ ?_
                      · have ce0 := cntV_eq Y53 a0 (1)
                        have ce1 := cntV_eq Y59 a1 (cntV Y53 a0 (1))
                        have ce2 := cntF_eq Y3 a2 (cntV Y59 a1 (cntV Y53 a0 (1)))
                        have ce3 := cntF_eq Y21 (usablePiecesF a0 a1 a2) (1)
                        exact ⟨hs0, hs1, hs2, ⟨hs1.1, evdCells cz1⟩⟩
                      refine Vc.seq ?_
                      refine Vc.seq ?_
                      refine Vc.region hG rfl ?_ ?_
                      · have ce0 := cntV_eq Y53 a0 (1)
                        have ce1 := cntV_eq Y59 a1 (cntV Y53 a0 (1))
                        have ce2 := cntF_eq Y3 a2 (cntV Y59 a1 (cntV Y53 a0 (1)))
                        have ce3 := cntF_eq Y21 (usablePiecesF a0 a1 a2) (1)
                        exact trivial
                      refine Vc.cond rfl (fun h10 => ?_) (fun h10 => ?_)
                      · skip
                        exact (ne_selfC h10).elim
                      · skip
                        refine Vc.skip ?_
                        refine Vc.seq ?_
                        refine Vc.region hG rfl ?_ ?_
                        · trivial
                        refine Vc.seq ?_
                        refine Vc.region hG rfl ?_ ?_
                        · have ce0 := cntV_eq Y53 a0 (1)
                          have ce1 := cntV_eq Y59 a1 (cntV Y53 a0 (1))
                          have ce2 := cntF_eq Y3 a2 (cntV Y59 a1 (cntV Y53 a0 (1)))
                          have ce3 := cntF_eq Y21 (usablePiecesF a0 a1 a2) (1)
                          exact (show markPre Y21 (markC Y21 (usablePiecesF a0 a1 a2) (1)) (1) from ⟨by first | omega | (unfold bnd; omega), by rw [cells_mark]; first | omega | (unfold bnd; omega)⟩)
                        refine Vc.seq ?_
                        refine Vc.seq ?_
                        refine Vc.region hG rfl ?_ ?_
                        · trivial
                        refine Vc.cond rfl (fun h11 => ?_) (fun h11 => ?_)
                        · skip
                          have ce0 := cntV_eq Y53 a0 (1)
                          have ce1 := cntV_eq Y59 a1 (cntV Y53 a0 (1))
                          have ce2 := cntF_eq Y3 a2 (cntV Y59 a1 (cntV Y53 a0 (1)))
                          have ce3 := cntF_eq Y21 (usablePiecesF a0 a1 a2) (1)
                          exact (heldLt (t := .slice Y18) (x := (usablePiecesF a0 a1 a2)) (n := 1) (by first | omega | (unfold bnd; omega)) (of_decide_eq_true h11)).elim
                        · skip
                          refine Vc.skip ?_
                          refine Vc.seq ?_
                          refine Vc.seq ?_
                          refine Vc.region hG rfl ?_ ?_
                          · trivial
                          refine Vc.cond rfl (fun h12 => ?_) (fun h12 => ?_)
                          · skip
                            exact (heldNe (t := .slice Y18) (x := (usablePiecesF a0 a1 a2)) (n := 1) h12).elim
                          · skip
                            refine Vc.skip ?_
                            refine Vc.seq ?_
                            refine Vc.region hG rfl ?_ ?_
                            · trivial
                            refine Vc.ret ?_
                            refine ⟨?_, trivial⟩
                            all_goals exact rfl
end Fw
