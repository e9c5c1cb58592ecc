/- Walks of functions of the program: what each computes. Conditions: those that each contract names. -/
import Derived.Test.YtadkcilmknpkhaaGreatW53T
import Derived.Test.YtadkcilmknpkhaaGreatW53i0
import Derived.Test.YtadkcilmknpkhaaGreatW53i1
namespace Fw
open Go Go.Proofs
set_option linter.unusedSimpArgs false
noncomputable def F81 : Fun := ⟨[.pair Y34 Y51, .pair Y62 Y37, .slice Y19, .pair (.int .i64) Y44], [.pure (.int .i64)], fun x => (fun (_ : Frame) (e : Evidence) (_ : List Piece) (_ : Sig) => Sm big20 (.slice (.slice TStamp)) e.2) x.1 x.2.1 x.2.2.1 x.2.2.2.1, fun x => (freshG x.1 x.2.1 x.2.2.1 x.2.2.2.1, ())⟩
set_option maxRecDepth 100000 in
set_option maxHeartbeats 2000000 in
/-- loop.example.g00597.impl.FreshFrom -/
theorem F81_ok : Meets Tryz.prog 81 F81 := by
  refine meets_of_vc (C := mkC 92 [8] [0,1,2,3,4,5,7,8,9,10,12,13,15,16,17,24,32,33,34,35,54,55,56,57,58,85] [⟨114, _, F114_ok⟩, ⟨133, _, F133_ok⟩, ⟨134, _, F134_ok⟩, ⟨136, _, F136_ok⟩, ⟨135, _, F135_ok⟩, ⟨57, _, F57_ok⟩, ⟨137, _, F137_ok⟩]) (mkC_ok _ _ _ _) (fnOf_ok _) Tryz.func81 rfl rfl rfl (by decide) rfl ?_
  rintro ⟨a0, a1, a2, a3, _⟩ hwf hpre ⟨P, C, B, X, w0, M0, pv⟩ hG rfl rfl
  show Vc _ _ [(0, ⟨0, 0, .c Z63 a0⟩), (1, ⟨0, 0, .c Z67 a1⟩), (2, ⟨0, 0, .c Z26 a2⟩), (3, ⟨0, 0, .c Z48 a3⟩)] _
  have hp : List.length a1.2 ≤ big20 ∧ ∀ l ∈ a1.2, Sm big20 (.slice TStamp) l := hpre
  have hb : List.length a1.2 ≤ bigLen := hwf.2.1.2.1
  refine Vc.seq ?_
  refine Vc.region hG rfl ?_ ?_
  · trivial
  refine Vc.seq ?_
  refine Vc.region hG rfl ?_ ?_
  · trivial
  refine Vc.seq ?_
  refine Vc.seq ?_
  refine Vc.region hG rfl ?_ ?_
  · trivial
  refine Vc.seq ?_
  refine Vc.region hG rfl ?_ ?_
  · trivial
  refine Vc.cond rfl (fun h0 => ?_) (fun h0 => ?_)
  · skip
    have g0 : keyI a0.1 a3.1 ≥ 0 := of_decide_eq_true h0
    have eb := born1 g0
    refine Vc.region hG rfl ?_ ?_
    · exact findRange (show ¬ keyI a0.1 a3.1 < 0 from by omega)
    refine Vc.seq ?_
    refine Vc.seq ?_
    refine Vc.region hG rfl ?_ ?_
    · trivial
    refine Vc.block ?_
    -- slots [9, 34]; frame [0, 1, 2, 3, 4, 5, 7, 8, 10, 24, 32, 33]
    refine Vc.loopF [(9, false, .pure (.int .i64)), (34, false, .pure (.int .i64))] [0, 1, 2, 3, 4, 5, 7, 8, 10, 24, 32, 33] (fun v => foInv (frG a0 a2 a3) (bornF a0 a3) a1.2 v.1 v.2.1) (fun v => ((List.length a1.2 : Int) - v.2.1).toNat) rfl ?_ ?_
    · exact frStart eb
    rintro ⟨(t : Int), (i : Int), _⟩ hI
    have hI : foInv (frG a0 a2 a3) (bornF a0 a3) a1.2 t i := hI
    refine Vc.seq ?_
    refine Vc.region hG rfl ?_ ?_
    · trivial
    refine Vc.seq ?_
    refine Vc.cond rfl (fun h1 => ?_) (fun h1 => ?_)
    · skip
      have hl : i < (List.length a1.2 : Int) := of_decide_eq_true h1
      have r1 := foRange hI hl
      have hE : List.length (List.getD a1.2 i.toNat (dflt (.slice TStamp))) ≤ 1048576 := (hp.2 _ (getD_mem r1 _)).1
      have hbk : List.length (List.getD a1.2 i.toNat (dflt (.slice TStamp))) ≤ bigLen := Nat.le_trans hE (by decide)
      refine Vc.skip ?_
      refine Vc.seq ?_
      refine Vc.block ?_
      refine Vc.seq ?_
      refine Vc.region hG rfl ?_ ?_
      · exact r1
      refine Vc.seq ?_
      refine Vc.seq ?_
      refine Vc.regionD mixed hG rfl (by kernel_rfl) ?_ ?_
      · exact ⟨fun _ => trivial, fun _ => hE⟩
      refine Vc.cond rfl (fun h2 => ?_) (fun h2 => ?_)
      · skip
        have g1 : pick2 (pick2 (a3.2.2.2.2.2.2.2.1 == 0) true (!(riseF (List.getD a1.2 i.toNat (dflt (.slice TStamp)))))) true (stampsDgF a3.2.2.1 (List.getD a1.2 i.toNat (dflt (.slice TStamp))) != a3.2.2.2.2.2.2.2.1) = true := h2
        have st := foStepE (d := dflt (.slice TStamp)) hI hl hb (frSkip (t := t) g1)
        refine Vc.exit ?_
        refine Vc.region hG rfl ?_ ?_
        · trivial
        refine ⟨rfl, ?_⟩
        exact st
      · skip
        have g1 : pick2 (pick2 (a3.2.2.2.2.2.2.2.1 == 0) true (!(riseF (List.getD a1.2 i.toNat (dflt (.slice TStamp)))))) true (stampsDgF a3.2.2.1 (List.getD a1.2 i.toNat (dflt (.slice TStamp))) != a3.2.2.2.2.2.2.2.1) = false := h2
        refine Vc.skip ?_
        refine Vc.seq ?_
        refine Vc.region hG rfl ?_ ?_
        · trivial
        refine Vc.seq ?_
        refine Vc.seq ?_
        refine Vc.region hG rfl ?_ ?_
        · trivial
        refine Vc.block ?_
        -- slots [13, 57]; frame [0, 1, 2, 3, 4, 5, 7, 8, 9, 10, 12, 16, 17, 24, 32, 33, 34, 35, 54, 55, 56, 85]
        refine Vc.loopF [(13, false, .pure (.bool)), (57, false, .pure (.int .i64))] [0, 1, 2, 3, 4, 5, 7, 8, 9, 10, 12, 16, 17, 24, 32, 33, 34, 35, 54, 55, 56, 85] (fun v => hbInv a0 a2 (List.getD a1.2 i.toNat (dflt (.slice TStamp))) v.1 v.2.1) (fun v => ((List.length (List.getD a1.2 i.toNat (dflt (.slice TStamp))) : Int) - v.2.1).toNat) rfl ?_ ?_
        · exact hbStart
        rintro ⟨b, (k : Int), _⟩ hK
        have hK : hbInv a0 a2 (List.getD a1.2 i.toNat (dflt (.slice TStamp))) b k := hK
        refine Vc.seq ?_
        refine Vc.region hG rfl ?_ ?_
        · trivial
        refine Vc.seq ?_
        refine Vc.cond rfl (fun h3 => ?_) (fun h3 => ?_)
        · skip
          have hm : k < (List.length (List.getD a1.2 i.toNat (dflt (.slice TStamp))) : Int) := of_decide_eq_true h3
          refine Vc.skip ?_
          refine Vc.seq ?_
          refine Vc.block ?_
          refine Vc.seq ?_
          refine Vc.region hG rfl ?_ ?_
          · exact hbRange hK hm
          refine Vc.regionD mixed hG rfl (by kernel_rfl) ?_ ?_
          · repeat' (first | exact trivial | refine And.intro ?_ ?_ | intro _)
          refine Vc.region hG rfl ?_ ?_
          · trivial
          refine ⟨rfl, ?_⟩
          exact hbStep hK hm hbk rfl
        · skip
          have hm : ¬ k < (List.length (List.getD a1.2 i.toNat (dflt (.slice TStamp))) : Int) := of_decide_eq_false h3
          have hB := hbEnd hK hm
          refine Vc.exit ?_
          refine Vc.seq ?_
          refine Vc.region hG rfl ?_ ?_
          · exact hE
          refine Vc.seq ?_
          refine Vc.region hG rfl ?_ ?_
          · trivial
          refine Vc.cond rfl (fun h4 => ?_) (fun h4 => ?_)
          · skip
            have st := foStepE (d := dflt (.slice TStamp)) hI hl hb (frMax g1 hB h4)
            refine Vc.region hG rfl ?_ ?_
            · trivial
            refine Vc.region hG rfl ?_ ?_
            · trivial
            refine ⟨rfl, ?_⟩
            exact st
          · skip
            have st := foStepE (d := dflt (.slice TStamp)) hI hl hb (frKeep (t := t) (x := a3) hB h4)
            refine Vc.skip ?_
            refine Vc.region hG rfl ?_ ?_
            · trivial
            refine ⟨rfl, ?_⟩
            exact st
    · skip
      have hl : ¬ i < (List.length a1.2 : Int) := of_decide_eq_false h1
      refine Vc.exit ?_
      refine Vc.seq ?_
      refine Vc.region hG rfl ?_ ?_
      · trivial
      refine Vc.ret ?_
      refine ⟨?_, trivial⟩
      exact foEnd hI hl
  · skip
    have g0 : ¬ keyI a0.1 a3.1 ≥ 0 := of_decide_eq_false h0
    have eb := born0 g0
    refine Vc.skip ?_
    refine Vc.seq ?_
    refine Vc.seq ?_
    refine Vc.region hG rfl ?_ ?_
    · trivial
    refine Vc.block ?_
    -- slots [9, 34]; frame [0, 1, 2, 3, 4, 5, 7, 8, 10, 24, 32, 33]
    refine Vc.loopF [(9, false, .pure (.int .i64)), (34, false, .pure (.int .i64))] [0, 1, 2, 3, 4, 5, 7, 8, 10, 24, 32, 33] (fun v => foInv (frG a0 a2 a3) (bornF a0 a3) a1.2 v.1 v.2.1) (fun v => ((List.length a1.2 : Int) - v.2.1).toNat) rfl ?_ ?_
    · exact frStart eb
    rintro ⟨(t : Int), (i : Int), _⟩ hI
    have hI : foInv (frG a0 a2 a3) (bornF a0 a3) a1.2 t i := hI
    refine Vc.seq ?_
    refine Vc.region hG rfl ?_ ?_
    · trivial
    refine Vc.seq ?_
    refine Vc.cond rfl (fun h5 => ?_) (fun h5 => ?_)
    · skip
      have hl : i < (List.length a1.2 : Int) := of_decide_eq_true h5
      have r1 := foRange hI hl
      have hE : List.length (List.getD a1.2 i.toNat (dflt (.slice TStamp))) ≤ 1048576 := (hp.2 _ (getD_mem r1 _)).1
      have hbk : List.length (List.getD a1.2 i.toNat (dflt (.slice TStamp))) ≤ bigLen := Nat.le_trans hE (by decide)
      refine Vc.skip ?_
      refine Vc.seq ?_
      refine Vc.block ?_
      refine Vc.seq ?_
      refine Vc.region hG rfl ?_ ?_
      · exact r1
      refine Vc.seq ?_
      refine Vc.seq ?_
      refine Vc.regionD mixed hG rfl (by kernel_rfl) ?_ ?_
      · exact ⟨fun _ => trivial, fun _ => hE⟩
      refine Vc.cond rfl (fun h6 => ?_) (fun h6 => ?_)
      · skip
        have g1 : pick2 (pick2 (a3.2.2.2.2.2.2.2.1 == 0) true (!(riseF (List.getD a1.2 i.toNat (dflt (.slice TStamp)))))) true (stampsDgF a3.2.2.1 (List.getD a1.2 i.toNat (dflt (.slice TStamp))) != a3.2.2.2.2.2.2.2.1) = true := h6
        have st := foStepE (d := dflt (.slice TStamp)) hI hl hb (frSkip (t := t) g1)
        refine Vc.exit ?_
        refine Vc.region hG rfl ?_ ?_
        · trivial
        refine ⟨rfl, ?_⟩
        exact st
      · skip
        have g1 : pick2 (pick2 (a3.2.2.2.2.2.2.2.1 == 0) true (!(riseF (List.getD a1.2 i.toNat (dflt (.slice TStamp)))))) true (stampsDgF a3.2.2.1 (List.getD a1.2 i.toNat (dflt (.slice TStamp))) != a3.2.2.2.2.2.2.2.1) = false := h6
        refine Vc.skip ?_
        refine Vc.seq ?_
        refine Vc.region hG rfl ?_ ?_
        · trivial
        refine Vc.seq ?_
        refine Vc.seq ?_
        refine Vc.region hG rfl ?_ ?_
        · trivial
        refine Vc.block ?_
        -- slots [13, 57]; frame [0, 1, 2, 3, 4, 5, 7, 8, 9, 10, 12, 16, 17, 24, 32, 33, 34, 35, 54, 55, 56, 85]
        refine Vc.loopF [(13, false, .pure (.bool)), (57, false, .pure (.int .i64))] [0, 1, 2, 3, 4, 5, 7, 8, 9, 10, 12, 16, 17, 24, 32, 33, 34, 35, 54, 55, 56, 85] (fun v => hbInv a0 a2 (List.getD a1.2 i.toNat (dflt (.slice TStamp))) v.1 v.2.1) (fun v => ((List.length (List.getD a1.2 i.toNat (dflt (.slice TStamp))) : Int) - v.2.1).toNat) rfl ?_ ?_
        · exact hbStart
        rintro ⟨b, (k : Int), _⟩ hK
        have hK : hbInv a0 a2 (List.getD a1.2 i.toNat (dflt (.slice TStamp))) b k := hK
        refine Vc.seq ?_
        refine Vc.region hG rfl ?_ ?_
        · trivial
        refine Vc.seq ?_
        refine Vc.cond rfl (fun h7 => ?_) (fun h7 => ?_)
        · skip
          have hm : k < (List.length (List.getD a1.2 i.toNat (dflt (.slice TStamp))) : Int) := of_decide_eq_true h7
          refine Vc.skip ?_
          refine Vc.seq ?_
          refine Vc.block ?_
          refine Vc.seq ?_
          refine Vc.region hG rfl ?_ ?_
          · exact hbRange hK hm
          refine Vc.regionD mixed hG rfl (by kernel_rfl) ?_ ?_
          · repeat' (first | exact trivial | refine And.intro ?_ ?_ | intro _)
          refine Vc.region hG rfl ?_ ?_
          · trivial
          refine ⟨rfl, ?_⟩
          exact hbStep hK hm hbk rfl
        · skip
          have hm : ¬ k < (List.length (List.getD a1.2 i.toNat (dflt (.slice TStamp))) : Int) := of_decide_eq_false h7
          have hB := hbEnd hK hm
          refine Vc.exit ?_
          refine Vc.seq ?_
          refine Vc.region hG rfl ?_ ?_
          · exact hE
          refine Vc.seq ?_
          refine Vc.region hG rfl ?_ ?_
          · trivial
          refine Vc.cond rfl (fun h8 => ?_) (fun h8 => ?_)
          · skip
            have st := foStepE (d := dflt (.slice TStamp)) hI hl hb (frMax g1 hB h8)
            refine Vc.region hG rfl ?_ ?_
            · trivial
            refine Vc.region hG rfl ?_ ?_
            · trivial
            refine ⟨rfl, ?_⟩
            exact st
          · skip
            have st := foStepE (d := dflt (.slice TStamp)) hI hl hb (frKeep (t := t) (x := a3) hB h8)
            refine Vc.skip ?_
            refine Vc.region hG rfl ?_ ?_
            · trivial
            refine ⟨rfl, ?_⟩
            exact st
    · skip
      have hl : ¬ i < (List.length a1.2 : Int) := of_decide_eq_false h5
      refine Vc.exit ?_
      refine Vc.seq ?_
      refine Vc.region hG rfl ?_ ?_
      · trivial
      refine Vc.ret ?_
      refine ⟨?_, trivial⟩
      exact foEnd hI hl
noncomputable def F138 : Fun := ⟨[.pair (.int .i64) Y44], [.own (.pure (.int .i64))], fun _ => True, fun x => (sigIntsF x.1, ())⟩
set_option maxRecDepth 100000 in
/-- loop.example.g00597.impl.SignatureInts -/
theorem F138_ok : Meets Tryz.prog 138 F138 := by
  refine meets_of_vc (C := mkC 20 [2] [0,1,2] []) (mkC_ok _ _ _ _) (fnOf_ok _) Tryz.func138 rfl rfl rfl (by decide) rfl ?_
  rintro ⟨a0, _⟩ hwf hpre ⟨P, C, B, X, w0, M0, pv⟩ hG rfl rfl
  show Vc _ _ [(0, ⟨0, 0, .c Z48 a0⟩)] _
  refine Vc.seq ?_
  refine Vc.region hG rfl ?_ ?_
  · trivial
  refine Vc.seq ?_
  refine Vc.region hG rfl ?_ ?_
  · trivial
  refine Vc.ret ?_
  refine ⟨?_, trivial⟩
  all_goals exact rfl
noncomputable def F82 : Fun := ⟨[.pair (.int .i64) Y44], [.pair (.pure (.int .i64)) Z16], fun _ => True, fun x => (signPieceF x.1, ())⟩
set_option maxRecDepth 100000 in
/-- loop.example.g00597.impl.SignPiece -/
theorem F82_ok : Meets Tryz.prog 82 F82 := by
  refine meets_of_vc (C := mkC 10 [2] [0,1,2] [⟨138, _, F138_ok⟩]) (mkC_ok _ _ _ _) (fnOf_ok _) Tryz.func82 rfl rfl rfl (by decide) rfl ?_
  rintro ⟨a0, _⟩ hwf hpre ⟨P, C, B, X, w0, M0, pv⟩ hG rfl rfl
  show Vc _ _ [(0, ⟨0, 0, .c Z48 a0⟩)] _
  refine Vc.seq ?_
  refine Vc.region hG rfl ?_ ?_
  · trivial
  refine Vc.seq ?_
  refine Vc.regionD mixed hG rfl (by kernel_rfl) ?_ ?_
  · trivial
  refine Vc.ret ?_
  refine ⟨?_, trivial⟩
  all_goals exact rfl
noncomputable def F32 : Fun := ⟨[.pair Y34 Y51, .pair Y62 Y37, .pair (.int .i64) Y13, .pair (.int .i64) Y44], [.pure (.bool)], fun x => (fun (_ : Frame) (e : Evidence) (_ : Doc) (_ : Sig) => Sm big20 Y66 e ∧ ((cellsC Y62 e.1 : Nat) : Int) ≤ 2000000000) x.1 x.2.1 x.2.2.1 x.2.2.2.1, fun x => (consF x.1 x.2.1 x.2.2.1 x.2.2.2.1, ())⟩
set_option maxRecDepth 100000 in
/-- loop.example.g00597.impl.IsConsistent -/
theorem F32_ok : Meets Tryz.prog 32 F32 := by
  refine meets_of_vc (C := mkC 50 [8] [0,1,2,3,4,5,6,7,8,9,10,11,12] [⟨77, _, F77_ok⟩, ⟨21, _, F21_ok⟩, ⟨78, _, F78_ok⟩, ⟨80, _, F80_ok⟩, ⟨79, _, F79_ok⟩, ⟨81, _, F81_ok⟩, ⟨82, _, F82_ok⟩, ⟨15, _, F15_ok⟩]) (mkC_ok _ _ _ _) (fnOf_ok _) Tryz.func32 rfl rfl rfl (by decide) rfl ?_
  rintro ⟨a0, a1, a2, a3, _⟩ hwf hpre ⟨P, C, B, X, w0, M0, pv⟩ hG rfl rfl
  show Vc _ _ [(0, ⟨0, 0, .c Z63 a0⟩), (1, ⟨0, 0, .c Z67 a1⟩), (2, ⟨0, 0, .c Z25 a2⟩), (3, ⟨0, 0, .c Z48 a3⟩)] _
  have hS : Sm big20 Y62 a1.1 := hpre.1.1
  have hT : Sm big20 (.slice (.slice TStamp)) a1.2 := hpre.1.2
  have hc : ((cellsC Y62 a1.1 : Nat) : Int) ≤ 2000000000 := hpre.2
  refine Vc.seq ?_
  refine Vc.region hG rfl ?_ ?_
  · trivial
  refine Vc.seq ?_
  refine Vc.region hG rfl ?_ ?_
  · exact hS
  refine Vc.seq ?_
  refine Vc.region hG rfl ?_ ?_
  · exact ⟨hS, hc⟩
  refine Vc.seq ?_
  refine Vc.region hG rfl ?_ ?_
  · trivial
  refine Vc.seq ?_
  refine Vc.regionD mixed hG rfl (by kernel_rfl) ?_ ?_
  · repeat' (first | exact trivial | exact usPieceLen hc | exact hT | exact hS | refine And.intro ?_ ?_ | intro _)
  refine Vc.ret ?_
  refine ⟨?_, trivial⟩
  all_goals exact rfl
end Fw
