/- Walks of functions of the program: what each computes. Conditions: those that each contract names. -/
import Derived.Test.YtadkcilmknpkhaaGreatW53T
import Derived.Test.YtadkcilmknpkhaaGreatW53i0
namespace Fw
open Go Go.Proofs
set_option linter.unusedSimpArgs false
noncomputable def F133 : Fun := ⟨[.slice Y32], [.pure (.bool)], fun _ => True, fun x => (riseF x.1, ())⟩
set_option maxRecDepth 100000 in
/-- loop.example.g00597.impl.risingAuthorities -/
theorem F133_ok : Meets Tryz.prog 133 F133 := by
  refine meets_of_vc (C := mkC 22 [2] [0,2,3,7,21] []) (mkC_ok _ _ _ _) (fnOf_ok _) Tryz.func133 rfl rfl rfl (by decide) rfl ?_
  rintro ⟨a0, _⟩ hwf hpre ⟨P, C, B, X, w0, M0, pv⟩ hG rfl rfl
  show Vc _ _ [(0, ⟨0, 0, .c Z36 a0⟩)] _
  have hb : List.length a0 ≤ bigLen := hwf.1.1
  refine Vc.seq ?_
  refine Vc.region hG rfl ?_ ?_
  · trivial
  refine Vc.seq ?_
  refine Vc.seq ?_
  refine Vc.region hG rfl ?_ ?_
  · trivial
  refine Vc.block ?_
  -- slots [3]; frame [0]
  refine Vc.loopF [(3, false, .pure (.int .i64))] [0] (fun v => riInv a0 v.1) (fun v => ((List.length a0 : Int) - v.1).toNat) rfl ?_ ?_
  · exact riStart
  rintro ⟨(i : Int), _⟩ hI
  have hI : riInv a0 i := hI
  refine Vc.seq ?_
  refine Vc.seq ?_
  refine Vc.region hG rfl ?_ ?_
  · trivial
  refine Vc.cond rfl (fun h0 => ?_) (fun h0 => ?_)
  · skip
    have hl : i < (List.length a0 : Int) := of_decide_eq_true h0
    refine Vc.skip ?_
    refine Vc.seq ?_
    refine Vc.block ?_
    refine Vc.seq ?_
    refine Vc.regionD mixed hG rfl (by kernel_rfl) ?_ ?_
    · exact ⟨riPrev hI hl hb, riRange hI hl⟩
    refine Vc.cond rfl (fun h1 => ?_) (fun h1 => ?_)
    · skip
      have g1 := riseBad hI.1 hl hb h1
      refine Vc.seq ?_
      refine Vc.region hG rfl ?_ ?_
      · trivial
      refine Vc.ret ?_
      refine ⟨?_, trivial⟩
      exact riBad hI hl g1
    · skip
      have g1 := riseGood hI.1 hl hb h1
      refine Vc.skip ?_
      refine Vc.region hG rfl ?_ ?_
      · trivial
      refine ⟨rfl, ?_⟩
      exact riStep hI hl hb g1
  · skip
    have hl : ¬ i < (List.length a0 : Int) := of_decide_eq_false h0
    refine Vc.exit ?_
    refine Vc.seq ?_
    refine Vc.region hG rfl ?_ ?_
    · trivial
    refine Vc.ret ?_
    refine ⟨?_, trivial⟩
    exact riEnd hI hl
noncomputable def F238 : Fun := ⟨[.slice Y32, .slice Y15, .pair (.int .i64) Y24], [.pure Y32, .pure (.bool)], fun _ => True, fun x => ((makeStampF x.1 x.2.1 x.2.2.1).1, (makeStampF x.1 x.2.1 x.2.2.1).2, ())⟩
set_option maxRecDepth 100000 in
/-- loop.example.g00597.impl.MakeStamp -/
theorem F238_ok : Meets Tryz.prog 238 F238 := by
  refine meets_of_vc (C := mkC 47 [6, 7] [0,1,2,5,6,7,8,9,10,27,42] [⟨178, _, F178_ok⟩, ⟨210, _, F210_ok⟩, ⟨177, _, F177_ok⟩, ⟨156, _, F156_ok⟩]) (mkC_ok _ _ _ _) (fnOf_ok _) Tryz.func238 rfl rfl rfl (by decide) rfl ?_
  rintro ⟨a0, a1, a2, _⟩ hwf hpre ⟨P, C, B, X, w0, M0, pv⟩ hG rfl rfl
  show Vc _ _ [(0, ⟨0, 0, .c Z36 a0⟩), (1, ⟨0, 0, .c Z21 a1⟩), (2, ⟨0, 0, .c Z33 a2⟩)] _
  refine Vc.seq ?_
  refine Vc.region hG rfl ?_ ?_
  · trivial
  refine Vc.seq ?_
  refine Vc.region hG rfl ?_ ?_
  · trivial
  refine Vc.seq ?_
  refine Vc.seq ?_
  refine Vc.region hG rfl ?_ ?_
  · intro _; exact trivial
  refine Vc.cond rfl (fun h0 => ?_) (fun h0 => ?_)
  · skip
    have g0 : stampBad a1 a2 = true := h0
    refine Vc.seq ?_
    refine Vc.region hG rfl ?_ ?_
    · trivial
    refine Vc.ret ?_
    have e := ms_1 (keys := a0) g0
    refine ⟨?_, ?_, trivial⟩
    · exact (congrArg Prod.fst e).symm
    · exact (congrArg Prod.snd e).symm
  · skip
    have g0 : stampBad a1 a2 = false := h0
    refine Vc.skip ?_
    refine Vc.seq ?_
    refine Vc.regionD mixed hG rfl (by kernel_rfl) ?_ ?_
    · exact ⟨bad_idx g0, trivial, smallLit (n := 5) rfl (by decide)⟩
    refine Vc.seq ?_
    refine Vc.seq ?_
    refine Vc.region hG rfl ?_ ?_
    · trivial
    refine Vc.cond rfl (fun h1 => ?_) (fun h1 => ?_)
    · skip
      have g1 : keyI a0 (authAt a1 a2.1).2.1 < 0 := mb_no h1
      refine Vc.seq ?_
      refine Vc.region hG rfl ?_ ?_
      · trivial
      refine Vc.ret ?_
      have e := ms_2 (keys := a0) g0 g1
      refine ⟨?_, ?_, trivial⟩
      · exact (congrArg Prod.fst e).symm
      · exact (congrArg Prod.snd e).symm
    · skip
      have k1 : (!(markByF a0 (authAt a1 a2.1).2.1 (stampIntsF a2)).2) = false := h1
      have g1 : ¬ keyI a0 (authAt a1 a2.1).2.1 < 0 := mb_ok k1
      refine Vc.skip ?_
      refine Vc.seq ?_
      refine Vc.region hG rfl ?_ ?_
      · trivial
      refine Vc.seq ?_
      refine Vc.region hG rfl ?_ ?_
      · trivial
      refine Vc.ret ?_
      have e := ms_3 (keys := a0) g0 g1
      have e2 := markBy_yes (l := stampIntsF a2) g1
      refine ⟨?_, ?_, trivial⟩
      · refine Eq.trans ?_ (congrArg Prod.fst e).symm
        exact congrArg (fun m => (a2.1, a2.2.1, a2.2.2.1, a2.2.2.2.1, m)) (congrArg Prod.fst e2)
      · exact (congrArg Prod.snd e).symm
noncomputable def F219 : Fun := ⟨[.slice Y32, .slice Y15, .pair (.int .i64) Y24], [.pure (.bool)], fun _ => True, fun x => (checkStampF x.1 x.2.1 x.2.2.1, ())⟩
set_option maxRecDepth 100000 in
/-- loop.example.g00597.impl.CheckStamp -/
theorem F219_ok : Meets Tryz.prog 219 F219 := by
  refine meets_of_vc (C := mkC 22 [6] [0,1,2,5,6,7,8] [⟨238, _, F238_ok⟩]) (mkC_ok _ _ _ _) (fnOf_ok _) Tryz.func219 rfl rfl rfl (by decide) rfl ?_
  rintro ⟨a0, a1, a2, _⟩ hwf hpre ⟨P, C, B, X, w0, M0, pv⟩ hG rfl rfl
  show Vc _ _ [(0, ⟨0, 0, .c Z36 a0⟩), (1, ⟨0, 0, .c Z21 a1⟩), (2, ⟨0, 0, .c Z33 a2⟩)] _
  refine Vc.seq ?_
  refine Vc.region hG rfl ?_ ?_
  · trivial
  refine Vc.seq ?_
  refine Vc.region hG rfl ?_ ?_
  · trivial
  refine Vc.seq ?_
  refine Vc.region hG rfl ?_ ?_
  · trivial
  refine Vc.ret ?_
  refine ⟨?_, trivial⟩
  all_goals exact rfl
noncomputable def F184 : Fun := ⟨[.slice Y32, .slice Y15, .pair (.int .i64) Y49, .int .i64], [.pure (.bool)], fun _ => True, fun x => (checkRenF x.1 x.2.1 x.2.2.1 x.2.2.2.1, ())⟩
set_option maxRecDepth 100000 in
/-- loop.example.g00597.impl.CheckRenewal -/
theorem F184_ok : Meets Tryz.prog 184 F184 := by
  refine meets_of_vc (C := mkC 59 [8] [0,1,2,3,6,8,10,38,40,41,42,43,57] [⟨218, _, F218_ok⟩, ⟨155, _, F155_ok⟩, ⟨133, _, F133_ok⟩, ⟨219, _, F219_ok⟩]) (mkC_ok _ _ _ _) (fnOf_ok _) Tryz.func184 rfl rfl rfl (by decide) rfl ?_
  rintro ⟨a0, a1, a2, (a3 : Int), _⟩ hwf hpre ⟨P, C, B, X, w0, M0, pv⟩ hG rfl rfl
  show Vc _ _ [(0, ⟨0, 0, .c Z36 a0⟩), (1, ⟨0, 0, .c Z21 a1⟩), (2, ⟨0, 0, .c Z53 a2⟩), (3, ⟨0, 0, .c (.pure (.int .i64)) a3⟩)] _
  have hb : List.length a2.2.2.2.2 ≤ bigLen := hwf.2.2.1.2.2.2.2.1
  refine Vc.seq ?_
  refine Vc.region hG rfl ?_ ?_
  · trivial
  refine Vc.seq ?_
  refine Vc.seq ?_
  refine Vc.regionD mixed hG rfl (by kernel_rfl) ?_ ?_
  · repeat' (first | exact trivial | refine And.intro ?_ ?_ | intro _)
  refine Vc.cond rfl (fun h0 => ?_) (fun h0 => ?_)
  · skip
    have g0 := cr0I (keys := a0) (l := a1) (r := a2) (leaf := a3) h0
    refine Vc.seq ?_
    refine Vc.region hG rfl ?_ ?_
    · trivial
    refine Vc.ret ?_
    refine ⟨?_, trivial⟩
    exact g0
  · skip
    have g0 := (crPreI rfl).1 h0
    refine Vc.skip ?_
    refine Vc.seq ?_
    refine Vc.seq ?_
    refine Vc.region hG rfl ?_ ?_
    · trivial
    refine Vc.block ?_
    -- slots [42]; frame [0, 1, 2, 3, 6, 38, 40, 41]
    refine Vc.loopF [(42, false, .pure (.int .i64))] [0, 1, 2, 3, 6, 38, 40, 41] (fun v => kInv (crG a0 a1 a2) a2.2.2.2.2 v.1) (fun v => ((List.length a2.2.2.2.2 : Int) - v.1).toNat) rfl ?_ ?_
    · exact kStart
    rintro ⟨(i : Int), _⟩ hI
    have hI : kInv (crG a0 a1 a2) a2.2.2.2.2 i := hI
    refine Vc.seq ?_
    refine Vc.region hG rfl ?_ ?_
    · trivial
    refine Vc.seq ?_
    refine Vc.cond rfl (fun h1 => ?_) (fun h1 => ?_)
    · skip
      have hl : i < (List.length a2.2.2.2.2 : Int) := of_decide_eq_true h1
      refine Vc.skip ?_
      refine Vc.seq ?_
      refine Vc.block ?_
      refine Vc.seq ?_
      refine Vc.region hG rfl ?_ ?_
      · exact kRange hI hl
      refine Vc.seq ?_
      refine Vc.region hG rfl ?_ ?_
      · repeat' (first | exact trivial | refine And.intro ?_ ?_ | intro _)
      refine Vc.cond rfl (fun h2 => ?_) (fun h2 => ?_)
      · skip
        have g2 : crTestI a0 a1 a2 i = true := h2
        refine Vc.seq ?_
        refine Vc.region hG rfl ?_ ?_
        · trivial
        refine Vc.ret ?_
        refine ⟨?_, trivial⟩
        exact crBadI hI hl g2
      · skip
        have g2 : crTestI a0 a1 a2 i = false := h2
        refine Vc.skip ?_
        refine Vc.region hG rfl ?_ ?_
        · trivial
        refine ⟨rfl, ?_⟩
        exact kStep hI hl hb (crTestI_iff.1 g2)
    · skip
      have hl : ¬ i < (List.length a2.2.2.2.2 : Int) := of_decide_eq_false h1
      refine Vc.exit ?_
      refine Vc.seq ?_
      refine Vc.region hG rfl ?_ ?_
      · trivial
      refine Vc.ret ?_
      refine ⟨?_, trivial⟩
      exact crEndI g0 hI hl
noncomputable def F157 : Fun := ⟨[.slice Y24, .int .i64], [.pure (.int .i64)], fun _ => True, fun x => ((fun a0 a1 => findI (fun x => x.1 == a1) a0) x.1 x.2.1, ())⟩
set_option maxRecDepth 100000 in
/-- loop.example.g00597.impl.FindMethod -/
theorem F157_ok : Meets Tryz.prog 157 F157 := by
  refine meets_of_vc (C := mkC 20 [4] [0,1,4,5,6,7,8,9,10,17] []) (mkC_ok _ _ _ _) (fnOf_ok _) Tryz.func157 rfl rfl rfl (by decide) rfl ?_
  rintro ⟨a0, (a1 : Int), _⟩ hwf hpre ⟨P, C, B, X, w0, M0, pv⟩ hG rfl rfl
  show Vc _ _ [(0, ⟨0, 0, .c Z30 a0⟩), (1, ⟨0, 0, .c (.pure (.int .i64)) a1⟩)] _
  have hb : List.length a0 ≤ bigLen := hwf.1.1
  refine Vc.seq ?_
  refine Vc.region hG rfl ?_ ?_
  · trivial
  refine Vc.seq ?_
  refine Vc.seq ?_
  refine Vc.region hG rfl ?_ ?_
  · trivial
  refine Vc.block ?_
  -- slots [9]; frame [0, 1, 7, 8]
  refine Vc.loopF [(9, false, .pure (.int .i64))] [0, 1, 7, 8] (fun v => fInv (fun x => x.1 == a1) a0 v.1) (fun v => ((List.length a0 : Int) - v.1).toNat) rfl ?_ ?_
  · exact fStart
  rintro ⟨(i : Int), _⟩ hI
  have hI : fInv (fun x => x.1 == a1) a0 i := hI
  refine Vc.seq ?_
  refine Vc.region hG rfl ?_ ?_
  · trivial
  refine Vc.seq ?_
  refine Vc.cond rfl (fun h0 => ?_) (fun h0 => ?_)
  · skip
    have hl : i < (List.length a0 : Int) := of_decide_eq_true h0
    refine Vc.skip ?_
    refine Vc.seq ?_
    refine Vc.block ?_
    refine Vc.seq ?_
    refine Vc.region hG rfl ?_ ?_
    · exact fRange hI hl
    refine Vc.seq ?_
    refine Vc.region hG rfl ?_ ?_
    · trivial
    refine Vc.cond rfl (fun h1 => ?_) (fun h1 => ?_)
    · skip
      have g1 : (fun x => x.1 == a1) (List.getD a0 i.toNat (dflt Y24)) = true := h1
      refine Vc.seq ?_
      refine Vc.region hG rfl ?_ ?_
      · trivial
      refine Vc.ret ?_
      refine ⟨?_, trivial⟩
      exact fHit hI hl g1
    · skip
      have g1 : (fun x => x.1 == a1) (List.getD a0 i.toNat (dflt Y24)) = false := h1
      refine Vc.skip ?_
      refine Vc.region hG rfl ?_ ?_
      · trivial
      refine ⟨rfl, ?_⟩
      exact fStep hI hl hb g1
  · skip
    have hl : ¬ i < (List.length a0 : Int) := of_decide_eq_false h0
    refine Vc.exit ?_
    refine Vc.seq ?_
    refine Vc.region hG rfl ?_ ?_
    · trivial
    refine Vc.ret ?_
    refine ⟨?_, trivial⟩
    exact fEnd hI hl
noncomputable def F115 : Fun := ⟨[.slice Y24, .int .i64], [.pure (.int .i64)], fun _ => True, fun x => (breakF x.1 x.2.1, ())⟩
set_option maxRecDepth 100000 in
/-- loop.example.g00597.impl.BreakOf -/
theorem F115_ok : Meets Tryz.prog 115 F115 := by
  refine meets_of_vc (C := mkC 16 [4] [0,1,4,5,10] [⟨157, _, F157_ok⟩]) (mkC_ok _ _ _ _) (fnOf_ok _) Tryz.func115 rfl rfl rfl (by decide) rfl ?_
  rintro ⟨a0, (a1 : Int), _⟩ hwf hpre ⟨P, C, B, X, w0, M0, pv⟩ hG rfl rfl
  show Vc _ _ [(0, ⟨0, 0, .c Z30 a0⟩), (1, ⟨0, 0, .c (.pure (.int .i64)) a1⟩)] _
  refine Vc.seq ?_
  refine Vc.region hG rfl ?_ ?_
  · trivial
  refine Vc.seq ?_
  refine Vc.seq ?_
  refine Vc.region hG rfl ?_ ?_
  · trivial
  refine Vc.seq ?_
  refine Vc.region hG rfl ?_ ?_
  · trivial
  refine Vc.cond rfl (fun h0 => ?_) (fun h0 => ?_)
  · skip
    have g0 : ¬ methI a0 a1 < 0 := Int.not_lt.2 (of_decide_eq_true h0)
    refine Vc.seq ?_
    refine Vc.region hG rfl ?_ ?_
    · exact findRange g0
    refine Vc.ret ?_
    refine ⟨?_, trivial⟩
    exact brk1 g0
  · skip
    have g0 : methI a0 a1 < 0 := Int.not_le.1 (of_decide_eq_false h0)
    refine Vc.skip ?_
    refine Vc.seq ?_
    refine Vc.region hG rfl ?_ ?_
    · trivial
    refine Vc.ret ?_
    refine ⟨?_, trivial⟩
    exact brk0 g0
noncomputable def F136 : Fun := ⟨[.slice Y15, .pair (.int .i64) Y24], [.pure (.int .i64)], fun _ => True, fun x => (stampKeyF x.1 x.2.1, ())⟩
set_option maxRecDepth 100000 in
/-- loop.example.g00597.impl.StampKey -/
theorem F136_ok : Meets Tryz.prog 136 F136 := by
  refine meets_of_vc (C := mkC 17 [4] [0,1,3,4,5,11] [⟨178, _, F178_ok⟩]) (mkC_ok _ _ _ _) (fnOf_ok _) Tryz.func136 rfl rfl rfl (by decide) rfl ?_
  rintro ⟨a0, a1, _⟩ hwf hpre ⟨P, C, B, X, w0, M0, pv⟩ hG rfl rfl
  show Vc _ _ [(0, ⟨0, 0, .c Z21 a0⟩), (1, ⟨0, 0, .c Z33 a1⟩)] _
  refine Vc.seq ?_
  refine Vc.region hG rfl ?_ ?_
  · trivial
  refine Vc.seq ?_
  refine Vc.seq ?_
  refine Vc.region hG rfl ?_ ?_
  · trivial
  refine Vc.seq ?_
  refine Vc.region hG rfl ?_ ?_
  · trivial
  refine Vc.cond rfl (fun h0 => ?_) (fun h0 => ?_)
  · skip
    have g0 : ¬ authI a0 a1.1 < 0 := Int.not_lt.2 (of_decide_eq_true h0)
    refine Vc.seq ?_
    refine Vc.region hG rfl ?_ ?_
    · exact findRange g0
    refine Vc.ret ?_
    refine ⟨?_, trivial⟩
    exact stampKey1 g0
  · skip
    have g0 : authI a0 a1.1 < 0 := Int.not_le.1 (of_decide_eq_false h0)
    refine Vc.skip ?_
    refine Vc.seq ?_
    refine Vc.region hG rfl ?_ ?_
    · trivial
    refine Vc.ret ?_
    refine ⟨?_, trivial⟩
    exact stampKey0 g0
noncomputable def F222 : Fun := ⟨[.slice Y32, .slice Y15, .slice Y24, .pair (.int .i64) Y49], [.pure (.int .i64)], fun _ => True, fun x => (rbF x.1 x.2.1 x.2.2.1 x.2.2.2.1, ())⟩
set_option maxRecDepth 100000 in
/-- loop.example.g00597.impl.RenewalBreak -/
theorem F222_ok : Meets Tryz.prog 222 F222 := by
  refine meets_of_vc (C := mkC 42 [8] [0,1,2,3,7,8,9,11,12,18,19,20,21,30] [⟨115, _, F115_ok⟩, ⟨136, _, F136_ok⟩, ⟨114, _, F114_ok⟩]) (mkC_ok _ _ _ _) (fnOf_ok _) Tryz.func222 rfl rfl rfl (by decide) rfl ?_
  rintro ⟨a0, a1, a2, a3, _⟩ hwf hpre ⟨P, C, B, X, w0, M0, pv⟩ hG rfl rfl
  show Vc _ _ [(0, ⟨0, 0, .c Z36 a0⟩), (1, ⟨0, 0, .c Z21 a1⟩), (2, ⟨0, 0, .c Z30 a2⟩), (3, ⟨0, 0, .c Z53 a3⟩)] _
  have hb : List.length a3.2.2.2.2 ≤ bigLen := hwf.2.2.2.1.2.2.2.2.1
  refine Vc.seq ?_
  refine Vc.region hG rfl ?_ ?_
  · trivial
  refine Vc.seq ?_
  refine Vc.region hG rfl ?_ ?_
  · trivial
  refine Vc.seq ?_
  refine Vc.seq ?_
  refine Vc.region hG rfl ?_ ?_
  · trivial
  refine Vc.block ?_
  -- slots [9, 20]; frame [0, 1, 2, 3, 7, 18, 19]
  refine Vc.loopF [(9, false, .pure (.int .i64)), (20, false, .pure (.int .i64))] [0, 1, 2, 3, 7, 18, 19] (fun v => efInv (rbBad a0 a1) (rbG a0 a1 a2) 0 (breakF a2 a3.2.1) a3.2.2.2.2 v.1 v.2.1) (fun v => ((List.length a3.2.2.2.2 : Int) - v.2.1).toNat) rfl ?_ ?_
  · exact efStart
  rintro ⟨(m : Int), (i : Int), _⟩ hI
  have hI : efInv (rbBad a0 a1) (rbG a0 a1 a2) 0 (breakF a2 a3.2.1) a3.2.2.2.2 m i := hI
  refine Vc.seq ?_
  refine Vc.region hG rfl ?_ ?_
  · trivial
  refine Vc.seq ?_
  refine Vc.cond rfl (fun h0 => ?_) (fun h0 => ?_)
  · skip
    have hl : i < (List.length a3.2.2.2.2 : Int) := of_decide_eq_true h0
    refine Vc.skip ?_
    refine Vc.seq ?_
    refine Vc.block ?_
    refine Vc.seq ?_
    refine Vc.region hG rfl ?_ ?_
    · exact efRange hI hl
    refine Vc.seq ?_
    refine Vc.region hG rfl ?_ ?_
    · trivial
    refine Vc.seq ?_
    refine Vc.seq ?_
    refine Vc.region hG rfl ?_ ?_
    · trivial
    refine Vc.cond rfl (fun h1 => ?_) (fun h1 => ?_)
    · skip
      have g1 : rbBad a0 a1 (List.getD a3.2.2.2.2 i.toNat (dflt Y32)) = true := h1
      refine Vc.seq ?_
      refine Vc.region hG rfl ?_ ?_
      · trivial
      refine Vc.ret ?_
      refine ⟨?_, trivial⟩
      exact efStop (d := dflt Y32) hI hl g1
    · skip
      have g1 : rbBad a0 a1 (List.getD a3.2.2.2.2 i.toNat (dflt Y32)) = false := h1
      have n1 : ¬ keyI a0 (stampKeyF a1 (List.getD a3.2.2.2.2 i.toNat (dflt Y32))) < 0 := of_decide_eq_false h1
      refine Vc.skip ?_
      refine Vc.region hG rfl ?_ ?_
      · exact ⟨findRange n1, trivial⟩
      refine Vc.region hG rfl ?_ ?_
      · trivial
      refine ⟨rfl, ?_⟩
      exact efStep (d := dflt Y32) hI hl hb g1
  · skip
    have hl : ¬ i < (List.length a3.2.2.2.2 : Int) := of_decide_eq_false h0
    refine Vc.exit ?_
    refine Vc.seq ?_
    refine Vc.region hG rfl ?_ ?_
    · trivial
    refine Vc.ret ?_
    refine ⟨?_, trivial⟩
    exact efEnd hI hl
noncomputable def F186 : Fun := ⟨[.pair Y34 Y51, .pair Y23 Y55, .int .i64], [.pure (.bool)], fun x => (fun (_ : Frame) (s : Strand) (_ : Int) => Sm big20 (.slice TPiece) s.1 ∧ ∀ r ∈ s.2, Sm big20 TRen r) x.1 x.2.1 x.2.2.1, fun x => (linkF x.1 x.2.1 x.2.2.1, ())⟩
set_option maxRecDepth 100000 in
/-- loop.example.g00597.impl.LinkHolds -/
theorem F186_ok : Meets Tryz.prog 186 F186 := by
  refine meets_of_vc (C := mkC 57 [6] [0,1,2,3,4,6,7,8,9,16,34] [⟨155, _, F155_ok⟩, ⟨222, _, F222_ok⟩, ⟨147, _, F147_ok⟩]) (mkC_ok _ _ _ _) (fnOf_ok _) Tryz.func186 rfl rfl rfl (by decide) rfl ?_
  rintro ⟨a0, a1, (a2 : Int), _⟩ hwf hpre ⟨P, C, B, X, w0, M0, pv⟩ hG rfl rfl
  show Vc _ _ [(0, ⟨0, 0, .c Z63 a0⟩), (1, ⟨0, 0, .c Z61 a1⟩), (2, ⟨0, 0, .c (.pure (.int .i64)) a2⟩)] _
  have hP : Sm big20 (.slice TPiece) a1.1 := hpre.1
  have hR : ∀ r ∈ a1.2, Sm big20 TRen r := hpre.2
  have hb : List.length a1.2 ≤ bigLen := hwf.2.1.2.1
  have hSt : ∀ k : Int, inRange k (List.length a1.2) → List.length (chAt a1 k).2.2.2.2 ≤ 1048576 := fun k hk => (hR _ (getD_mem hk (dflt TRen))).2.2.2.2.1
  refine Vc.seq ?_
  refine Vc.region hG rfl ?_ ?_
  · trivial
  refine Vc.seq ?_
  refine Vc.seq ?_
  refine Vc.region hG rfl ?_ ?_
  · trivial
  refine Vc.cond rfl (fun h0 => ?_) (fun h0 => ?_)
  · skip
    have g0 := h0
    refine Vc.seq ?_
    refine Vc.region hG rfl ?_ ?_
    · trivial
    refine Vc.ret ?_
    refine ⟨?_, trivial⟩
    exact lk0 g0
  · skip
    have g0 := h0
    have k0 := laIdx g0 hb
    refine Vc.skip ?_
    refine Vc.seq ?_
    refine Vc.regionD mixed hG rfl (by kernel_rfl) ?_ ?_
    · exact ⟨k0, trivial⟩
    refine Vc.seq ?_
    refine Vc.seq ?_
    refine Vc.region hG rfl ?_ ?_
    · trivial
    refine Vc.cond rfl (fun h1 => ?_) (fun h1 => ?_)
    · skip
      have g1 := h1
      refine Vc.seq ?_
      refine Vc.region hG rfl ?_ ?_
      · trivial
      refine Vc.ret ?_
      refine ⟨?_, trivial⟩
      exact lk1 g0 g1
    · skip
      have g1 := h1
      have k1 := lkNext g0 g1 hb
      refine Vc.skip ?_
      refine Vc.seq ?_
      refine Vc.regionD mixed hG rfl (by kernel_rfl) ?_ ?_
      · exact ⟨k1, hSt _ k1⟩
      refine Vc.seq ?_
      refine Vc.region hG rfl ?_ ?_
      · trivial
      refine Vc.ret ?_
      refine ⟨?_, trivial⟩
      exact lk2 g0 g1
noncomputable def F146 : Fun := ⟨[.pair Y34 Y51, .pair Y23 Y55, .slice (.int .i64)], [.pure (.int .i64)], fun x => (fun (_ : Frame) (s : Strand) (_ : List Int) => Sm big20 (.slice TPiece) s.1 ∧ ∀ r ∈ s.2, Sm big20 TRen r) x.1 x.2.1 x.2.2.1, fun x => (firstKeptF x.1 x.2.1 x.2.2.1, ())⟩
set_option maxRecDepth 100000 in
/-- loop.example.g00597.impl.FirstKept -/
theorem F146_ok : Meets Tryz.prog 146 F146 := by
  refine meets_of_vc (C := mkC 58 [6] [0,1,2,3,4,6,7,9,14,54] [⟨147, _, F147_ok⟩, ⟨185, _, F185_ok⟩, ⟨184, _, F184_ok⟩, ⟨186, _, F186_ok⟩]) (mkC_ok _ _ _ _) (fnOf_ok _) Tryz.func146 rfl rfl rfl (by decide) rfl ?_
  rintro ⟨a0, a1, a2, _⟩ hwf hpre ⟨P, C, B, X, w0, M0, pv⟩ hG rfl rfl
  show Vc _ _ [(0, ⟨0, 0, .c Z63 a0⟩), (1, ⟨0, 0, .c Z61 a1⟩), (2, ⟨0, 0, .c Z2 a2⟩)] _
  have hP : Sm big20 (.slice TPiece) a1.1 := hpre.1
  have hR : ∀ r ∈ a1.2, Sm big20 TRen r := hpre.2
  have hb : List.length a1.2 ≤ bigLen := hwf.2.1.2.1
  have hSt : ∀ k : Int, inRange k (List.length a1.2) → List.length (chAt a1 k).2.2.2.2 ≤ 1048576 := fun k hk => (hR _ (getD_mem hk (dflt TRen))).2.2.2.2.1
  refine Vc.seq ?_
  refine Vc.region hG rfl ?_ ?_
  · trivial
  refine Vc.seq ?_
  refine Vc.region hG rfl ?_ ?_
  · trivial
  refine Vc.seq ?_
  refine Vc.block ?_
  -- slots [7]; frame [0, 1, 2, 3, 4, 6]
  refine Vc.loopF [(7, false, .pure (.int .i64))] [0, 1, 2, 3, 4, 6] (fun v => fkInv a0 a1 a2 v.1) (fun v => v.1.toNat) rfl ?_ ?_
  · exact fkStart
  rintro ⟨(j : Int), _⟩ hI
  have hI : fkInv a0 a1 a2 j := hI
  refine Vc.seq ?_
  refine Vc.seq ?_
  refine Vc.region hG rfl ?_ ?_
  · trivial
  refine Vc.cond rfl (fun h0 => ?_) (fun h0 => ?_)
  · skip
    have g0 : j > 0 := of_decide_eq_true h0
    have k0 := fkIdx hI g0 hb
    refine Vc.skip ?_
    refine Vc.block ?_
    refine Vc.seq ?_
    refine Vc.regionD mixed hG rfl (by kernel_rfl) ?_ ?_
    · exact ⟨k0, hSt _ k0⟩
    refine Vc.seq ?_
    refine Vc.seq ?_
    refine Vc.regionD mixed hG rfl (by kernel_rfl) ?_ ?_
    · repeat' (first | exact trivial | exact k0 | exact ⟨hP, hR⟩ | refine And.intro ?_ ?_ | intro _)
    refine Vc.cond rfl (fun h1 => ?_) (fun h1 => ?_)
    · skip
      have g1 : keptF a0 a1 a2 (IntKind.i64.wrap (j - 1)) = false := by have q := keptI.symm.trans h1; simpa using q
      refine Vc.exit ?_
      refine Vc.seq ?_
      refine Vc.region hG rfl ?_ ?_
      · trivial
      refine Vc.ret ?_
      refine ⟨?_, trivial⟩
      exact fkStop hI g0 hb g1
    · skip
      have g1 : keptF a0 a1 a2 (IntKind.i64.wrap (j - 1)) = true := by have q := keptI.symm.trans h1; simpa using q
      refine Vc.skip ?_
      refine Vc.region hG rfl ?_ ?_
      · trivial
      refine ⟨rfl, ?_⟩
      exact fkStep hI g0 hb g1
  · skip
    have g0 : ¬ j > 0 := of_decide_eq_false h0
    refine Vc.exit ?_
    refine Vc.seq ?_
    refine Vc.region hG rfl ?_ ?_
    · trivial
    refine Vc.ret ?_
    refine ⟨?_, trivial⟩
    exact fkZero hI g0
noncomputable def F94 : Fun := ⟨[.pair Y34 Y51, .pair Y23 Y55, .slice (.int .i64), .int .i64], [.pure (.int .i64)], fun x => (fun (_ : Frame) (s : Strand) (_ : List Int) (_ : Int) => Sm big20 (.slice TPiece) s.1 ∧ ∀ r ∈ s.2, Sm big20 TRen r) x.1 x.2.1 x.2.2.1 x.2.2.2.1, fun x => (boundOfF x.1 x.2.1 x.2.2.1 x.2.2.2.1, ())⟩
set_option maxRecDepth 100000 in
/-- loop.example.g00597.impl.BoundOf -/
theorem F94_ok : Meets Tryz.prog 94 F94 := by
  refine meets_of_vc (C := mkC 49 [8] [0,1,2,3,4,5,8,9,10,11,23,43] [⟨146, _, F146_ok⟩, ⟨147, _, F147_ok⟩]) (mkC_ok _ _ _ _) (fnOf_ok _) Tryz.func94 rfl rfl rfl (by decide) rfl ?_
  rintro ⟨a0, a1, a2, (a3 : Int), _⟩ hwf hpre ⟨P, C, B, X, w0, M0, pv⟩ hG rfl rfl
  show Vc _ _ [(0, ⟨0, 0, .c Z63 a0⟩), (1, ⟨0, 0, .c Z61 a1⟩), (2, ⟨0, 0, .c Z2 a2⟩), (3, ⟨0, 0, .c (.pure (.int .i64)) a3⟩)] _
  have hP : Sm big20 (.slice TPiece) a1.1 := hpre.1
  have hR : ∀ r ∈ a1.2, Sm big20 TRen r := hpre.2
  have hb : List.length a1.2 ≤ bigLen := hwf.2.1.2.1
  have hSt : ∀ k : Int, inRange k (List.length a1.2) → List.length (chAt a1 k).2.2.2.2 ≤ 1048576 := fun k hk => (hR _ (getD_mem hk (dflt TRen))).2.2.2.2.1
  refine Vc.seq ?_
  refine Vc.region hG rfl ?_ ?_
  · trivial
  refine Vc.seq ?_
  refine Vc.region hG rfl ?_ ?_
  · trivial
  refine Vc.seq ?_
  refine Vc.seq ?_
  refine Vc.region hG rfl ?_ ?_
  · exact ⟨hP, hR⟩
  refine Vc.block ?_
  -- slots [9, 10]; frame [0, 1, 2, 3, 4, 5, 8]
  refine Vc.loopF [(9, false, .pure (.int .i64)), (10, false, .pure (.int .i64))] [0, 1, 2, 3, 4, 5, 8] (fun v => boInv a0 a1 a2 a3 v.1 v.2.1) (fun v => ((List.length a1.2 : Int) - v.2.1).toNat) rfl ?_ ?_
  · exact boStart
  rintro ⟨(t : Int), (j : Int), _⟩ hI
  have hI : boInv a0 a1 a2 a3 t j := hI
  refine Vc.seq ?_
  refine Vc.seq ?_
  refine Vc.region hG rfl ?_ ?_
  · trivial
  refine Vc.cond rfl (fun h0 => ?_) (fun h0 => ?_)
  · skip
    have hl : j < (List.length a1.2 : Int) := of_decide_eq_true h0
    have k0 := boRange hI hl
    refine Vc.skip ?_
    refine Vc.seq ?_
    refine Vc.block ?_
    refine Vc.seq ?_
    refine Vc.regionD mixed hG rfl (by kernel_rfl) ?_ ?_
    · exact ⟨k0, hSt _ k0⟩
    refine Vc.seq ?_
    refine Vc.region hG rfl ?_ ?_
    · exact k0
    refine Vc.cond rfl (fun h1 => ?_) (fun h1 => ?_)
    · skip
      have st := boStep hI hl hb (boY (f := a0) (t := t) (r := chAt a1 j) h1).symm
      refine Vc.region hG rfl ?_ ?_
      · trivial
      refine Vc.region hG rfl ?_ ?_
      · trivial
      refine ⟨rfl, ?_⟩
      exact st
    · skip
      have st := boStep hI hl hb (boN (f := a0) (t := t) (r := chAt a1 j) h1).symm
      refine Vc.skip ?_
      refine Vc.region hG rfl ?_ ?_
      · trivial
      refine ⟨rfl, ?_⟩
      exact st
  · skip
    have hl : ¬ j < (List.length a1.2 : Int) := of_decide_eq_false h0
    refine Vc.exit ?_
    refine Vc.seq ?_
    refine Vc.region hG rfl ?_ ?_
    · trivial
    refine Vc.ret ?_
    refine ⟨?_, trivial⟩
    exact boEnd hI hl
noncomputable def F48 : Fun := ⟨[.pair Y34 Y51, .pair Y23 Y55, .slice (.int .i64), .pair (.int .i64) Y9], [.pure (.int .i64)], fun x => (fun (_ : Frame) (s : Strand) (_ : List Int) (_ : Piece) => Sm big20 (.slice TPiece) s.1 ∧ ∀ r ∈ s.2, Sm big20 TRen r) x.1 x.2.1 x.2.2.1 x.2.2.2.1, fun x => (pieceBoundF x.1 x.2.1 x.2.2.1 x.2.2.2.1, ())⟩
set_option maxRecDepth 100000 in
/-- loop.example.g00597.impl.PieceBound -/
theorem F48_ok : Meets Tryz.prog 48 F48 := by
  refine meets_of_vc (C := mkC 22 [8] [0,1,2,3,4,5,7,8,9,14] [⟨93, _, F93_ok⟩, ⟨94, _, F94_ok⟩]) (mkC_ok _ _ _ _) (fnOf_ok _) Tryz.func48 rfl rfl rfl (by decide) rfl ?_
  rintro ⟨a0, a1, a2, a3, _⟩ hwf hpre ⟨P, C, B, X, w0, M0, pv⟩ hG rfl rfl
  show Vc _ _ [(0, ⟨0, 0, .c Z63 a0⟩), (1, ⟨0, 0, .c Z61 a1⟩), (2, ⟨0, 0, .c Z2 a2⟩), (3, ⟨0, 0, .c Z22 a3⟩)] _
  have hp := hpre
  refine Vc.seq ?_
  refine Vc.region hG rfl ?_ ?_
  · trivial
  refine Vc.seq ?_
  refine Vc.region hG rfl ?_ ?_
  · trivial
  refine Vc.seq ?_
  refine Vc.seq ?_
  refine Vc.region hG rfl ?_ ?_
  · trivial
  refine Vc.cond rfl (fun h0 => ?_) (fun h0 => ?_)
  · skip
    have g0 : findPieceF a1 a3 < 0 := of_decide_eq_true h0
    refine Vc.seq ?_
    refine Vc.region hG rfl ?_ ?_
    · trivial
    refine Vc.ret ?_
    refine ⟨?_, trivial⟩
    exact pb0 g0
  · skip
    have g0 : ¬ findPieceF a1 a3 < 0 := of_decide_eq_false h0
    refine Vc.skip ?_
    refine Vc.seq ?_
    refine Vc.region hG rfl ?_ ?_
    · exact hp
    refine Vc.ret ?_
    refine ⟨?_, trivial⟩
    exact pb1 g0
noncomputable def F15 : Fun := ⟨[.pair Y34 Y51, .pair Y62 Y37, .slice (.slice (.int .i64)), .pair (.int .i64) Y9], [.pure (.int .i64)], fun x => (fun (_ : Frame) (e : Evidence) (_ : List (List Int)) (_ : Piece) => Sm big20 Y62 e.1) x.1 x.2.1 x.2.2.1 x.2.2.2.1, fun x => (evBoundF x.1 x.2.1 x.2.2.1 x.2.2.2.1, ())⟩
set_option maxRecDepth 100000 in
/-- loop.example.g00597.impl.EvidenceBound -/
theorem F15_ok : Meets Tryz.prog 15 F15 := by
  refine meets_of_vc (C := mkC 38 [8] [0,1,2,3,4,5,7,8,9,10,11,15,16,17,18,25] [⟨48, _, F48_ok⟩]) (mkC_ok _ _ _ _) (fnOf_ok _) Tryz.func15 rfl rfl rfl (by decide) rfl ?_
  rintro ⟨a0, a1, a2, a3, _⟩ hwf hpre ⟨P, C, B, X, w0, M0, pv⟩ hG rfl rfl
  show Vc _ _ [(0, ⟨0, 0, .c Z63 a0⟩), (1, ⟨0, 0, .c Z67 a1⟩), (2, ⟨0, 0, .c Z7 a2⟩), (3, ⟨0, 0, .c Z22 a3⟩)] _
  have hS : Sm big20 Y62 a1.1 := hpre
  have hb : List.length a1.1 ≤ bigLen := hwf.2.1.1.1
  refine Vc.seq ?_
  refine Vc.region hG rfl ?_ ?_
  · trivial
  refine Vc.seq ?_
  refine Vc.region hG rfl ?_ ?_
  · trivial
  refine Vc.seq ?_
  refine Vc.seq ?_
  refine Vc.region hG rfl ?_ ?_
  · trivial
  refine Vc.block ?_
  -- slots [9, 17]; frame [0, 1, 2, 3, 4, 5, 7, 8, 15, 16]
  refine Vc.loopF [(9, false, .pure (.int .i64)), (17, false, .pure (.int .i64))] [0, 1, 2, 3, 4, 5, 7, 8, 15, 16] (fun v => ebInv a0 a1 a2 a3 v.1 v.2.1) (fun v => ((List.length a1.1 : Int) - v.2.1).toNat) rfl ?_ ?_
  · exact ebStart
  rintro ⟨(t : Int), (i : Int), _⟩ hI
  have hI : ebInv a0 a1 a2 a3 t i := hI
  refine Vc.seq ?_
  refine Vc.region hG rfl ?_ ?_
  · trivial
  refine Vc.seq ?_
  refine Vc.cond rfl (fun h0 => ?_) (fun h0 => ?_)
  · skip
    have hl : i < (List.length a1.1 : Int) := of_decide_eq_true h0
    refine Vc.skip ?_
    refine Vc.seq ?_
    refine Vc.block ?_
    refine Vc.seq ?_
    refine Vc.region hG rfl ?_ ?_
    · exact ebRange hI hl
    refine Vc.seq ?_
    refine Vc.region hG rfl ?_ ?_
    · trivial
    refine Vc.cond rfl (fun h1 => ?_) (fun h1 => ?_)
    · skip
      have hd : i < (List.length a2 : Int) := of_decide_eq_true h1
      have st := ebYes (dflt Y59) (dflt (.slice TI)) hI hl hd hb rfl
      have r1 := ebRange hI hl
      have r2 := ebRangeD hI hd
      have r3 := usStrand hS r1
      refine Vc.regionD mixed hG rfl (by kernel_rfl) ?_ ?_
      · exact ⟨r2, r3⟩
      refine Vc.region hG rfl ?_ ?_
      · trivial
      refine ⟨rfl, ?_⟩
      exact st
    · skip
      have hd : ¬ i < (List.length a2 : Int) := of_decide_eq_false h1
      have st := ebNo hI hl hd hb
      refine Vc.skip ?_
      refine Vc.region hG rfl ?_ ?_
      · trivial
      refine ⟨rfl, ?_⟩
      exact st
  · skip
    have hl : ¬ i < (List.length a1.1 : Int) := of_decide_eq_false h0
    refine Vc.exit ?_
    refine Vc.seq ?_
    refine Vc.region hG rfl ?_ ?_
    · trivial
    refine Vc.ret ?_
    refine ⟨?_, trivial⟩
    exact ebEnd hI (fun q => hl q.1)
noncomputable def F59 : Fun := ⟨[.pair Y34 Y51, .int .i64], [.pure (.int .i64)], fun _ => True, fun x => (brkKeyF x.1 x.2.1, ())⟩
set_option maxRecDepth 100000 in
/-- loop.example.g00597.impl.breakOfKey -/
theorem F59_ok : Meets Tryz.prog 59 F59 := by
  refine meets_of_vc (C := mkC 21 [4] [0,1,2,4,5,11] [⟨114, _, F114_ok⟩, ⟨115, _, F115_ok⟩]) (mkC_ok _ _ _ _) (fnOf_ok _) Tryz.func59 rfl rfl rfl (by decide) rfl ?_
  rintro ⟨a0, (a1 : Int), _⟩ hwf hpre ⟨P, C, B, X, w0, M0, pv⟩ hG rfl rfl
  show Vc _ _ [(0, ⟨0, 0, .c Z63 a0⟩), (1, ⟨0, 0, .c (.pure (.int .i64)) a1⟩)] _
  refine Vc.seq ?_
  refine Vc.region hG rfl ?_ ?_
  · trivial
  refine Vc.seq ?_
  refine Vc.region hG rfl ?_ ?_
  · trivial
  refine Vc.seq ?_
  refine Vc.seq ?_
  refine Vc.region hG rfl ?_ ?_
  · trivial
  refine Vc.cond rfl (fun h0 => ?_) (fun h0 => ?_)
  · skip
    have g0 : keyI a0.1 a1 < 0 := of_decide_eq_true h0
    refine Vc.seq ?_
    refine Vc.region hG rfl ?_ ?_
    · trivial
    refine Vc.ret ?_
    refine ⟨?_, trivial⟩
    exact bk0 g0
  · skip
    have g0 : ¬ keyI a0.1 a1 < 0 := of_decide_eq_false h0
    refine Vc.skip ?_
    refine Vc.seq ?_
    refine Vc.regionD mixed hG rfl (by kernel_rfl) ?_ ?_
    · exact ⟨findRange g0, trivial⟩
    refine Vc.ret ?_
    refine ⟨?_, trivial⟩
    exact bk1 g0
noncomputable def F60 : Fun := ⟨[.pair (.int .i64) Y9, .pair (.int .i64) Y9], [.pure (.bool)], fun _ => True, fun x => (pbF x.1 x.2.1, ())⟩
set_option maxRecDepth 100000 in
/-- loop.example.g00597.impl.PieceBefore -/
theorem F60_ok : Meets Tryz.prog 60 F60 := by
  refine meets_of_vc (C := mkC 73 [4] [0,1,2,3,4,5,17,30,42,57] []) (mkC_ok _ _ _ _) (fnOf_ok _) Tryz.func60 rfl rfl rfl (by decide) rfl ?_
  rintro ⟨a0, a1, _⟩ hwf hpre ⟨P, C, B, X, w0, M0, pv⟩ hG rfl rfl
  show Vc _ _ [(0, ⟨0, 0, .c Z22 a0⟩), (1, ⟨0, 0, .c Z22 a1⟩)] _
  have hb : List.length a0.2.1 ≤ bigLen := hwf.1.2.1.1
  refine Vc.seq ?_
  refine Vc.region hG rfl ?_ ?_
  · trivial
  refine Vc.seq ?_
  refine Vc.seq ?_
  refine Vc.region hG rfl ?_ ?_
  · trivial
  refine Vc.block ?_
  -- slots [5]; frame [0, 1, 2, 3, 42, 57]
  refine Vc.loopF [(5, false, .pure (.int .i64))] [0, 1, 2, 3, 42, 57] (fun v => pbInv a0 a1 v.1) (fun v => ((List.length a0.2.1 : Int) - v.1).toNat) rfl ?_ ?_
  · exact pbStart
  rintro ⟨(i : Int), _⟩ hI
  have hI : pbInv a0 a1 i := hI
  refine Vc.seq ?_
  refine Vc.seq ?_
  refine Vc.region hG rfl ?_ ?_
  · trivial
  refine Vc.cond rfl (fun h0 => ?_) (fun h0 => ?_)
  · skip
    have hh := andLt h0
    have hl := hh.1
    have hm := hh.2
    refine Vc.skip ?_
    refine Vc.seq ?_
    refine Vc.block ?_
    refine Vc.seq ?_
    refine Vc.regionD mixed hG rfl (by kernel_rfl) ?_ ?_
    · exact ⟨pbRangeA hI hl, pbRangeB hI hm⟩
    refine Vc.cond rfl (fun h1 => ?_) (fun h1 => ?_)
    · skip
      have g1 := bneT h1
      refine Vc.seq ?_
      refine Vc.regionD mixed hG rfl (by kernel_rfl) ?_ ?_
      · exact ⟨pbRangeA hI hl, pbRangeB hI hm⟩
      refine Vc.ret ?_
      refine ⟨?_, trivial⟩
      exact pbHit hI hl hm g1
    · skip
      have g1 := bneI h1
      refine Vc.skip ?_
      refine Vc.region hG rfl ?_ ?_
      · trivial
      refine ⟨rfl, ?_⟩
      exact pbStep hI hl hm hb g1
  · skip
    have hx := andGe h0
    refine Vc.exit ?_
    refine Vc.seq ?_
    refine Vc.block ?_
    refine Vc.seq ?_
    refine Vc.region hG rfl ?_ ?_
    · trivial
    refine Vc.cond rfl (fun h2 => ?_) (fun h2 => ?_)
    · skip
      refine Vc.seq ?_
      refine Vc.region hG rfl ?_ ?_
      · trivial
      refine Vc.ret ?_
      refine ⟨?_, trivial⟩
      exact pbLen hI hx h2
    · skip
      refine Vc.seq ?_
      refine Vc.region hG rfl ?_ ?_
      · trivial
      refine Vc.cond rfl (fun h3 => ?_) (fun h3 => ?_)
      · skip
        refine Vc.seq ?_
        refine Vc.region hG rfl ?_ ?_
        · trivial
        refine Vc.ret ?_
        refine ⟨?_, trivial⟩
        exact pbKey hI hx h2 h3
      · skip
        refine Vc.skip ?_
        refine Vc.seq ?_
        refine Vc.region hG rfl ?_ ?_
        · trivial
        refine Vc.ret ?_
        refine ⟨?_, trivial⟩
        exact pbMark hI hx h2 h3
noncomputable def F116 : Fun := ⟨[.slice (.int .i64)], [.own (.pure (.int .i64))], fun x => (fun l => List.length l ≤ 4000000) x.1, fun x => (id x.1, ())⟩
set_option maxRecDepth 100000 in
/-- loop.example.g00597.impl.copyInts -/
theorem F116_ok : Meets Tryz.prog 116 F116 := by
  refine meets_of_vc (C := mkC 6 [2] [0,2] []) (mkC_ok _ _ _ _) (fnOf_ok _) Tryz.func116 rfl rfl rfl (by decide) rfl ?_
  rintro ⟨a0, _⟩ hwf hpre ⟨P, C, B, X, w0, M0, pv⟩ hG rfl rfl
  show Vc _ _ [(0, ⟨0, 0, .c Z2 a0⟩)] _
  have hp : List.length a0 ≤ 4000000 := hpre
  refine Vc.seq ?_
  refine Vc.region hG rfl ?_ ?_
  · trivial
  refine Vc.seq ?_
  refine Vc.region hG rfl ?_ ?_
  · exact appMore hp
  refine Vc.ret ?_
  refine ⟨?_, trivial⟩
  all_goals exact rfl
noncomputable def F61 : Fun := ⟨[.pair (.int .i64) Y9], [.pair (.pure (.int .i64)) Z16], fun x => Sm big20 Y19 x.1, fun x => (id x.1, ())⟩
set_option maxRecDepth 100000 in
/-- loop.example.g00597.impl.copyPiece -/
theorem F61_ok : Meets Tryz.prog 61 F61 := by
  refine meets_of_vc (C := mkC 8 [2] [0,1,2] [⟨116, _, F116_ok⟩]) (mkC_ok _ _ _ _) (fnOf_ok _) Tryz.func61 rfl rfl rfl (by decide) rfl ?_
  rintro ⟨a0, _⟩ hwf hpre ⟨P, C, B, X, w0, M0, pv⟩ hG rfl rfl
  show Vc _ _ [(0, ⟨0, 0, .c Z22 a0⟩)] _
  have hp : List.length a0.2.1 ≤ 4000000 := Nat.le_trans hpre.2.1.1 (by decide)
  refine Vc.seq ?_
  refine Vc.region hG rfl ?_ ?_
  · trivial
  refine Vc.seq ?_
  refine Vc.region hG rfl ?_ ?_
  · exact hp
  refine Vc.seq ?_
  refine Vc.region hG rfl ?_ ?_
  · trivial
  refine Vc.ret ?_
  refine ⟨?_, trivial⟩
  all_goals exact rfl
noncomputable def F21 : Fun := ⟨[.pair Y34 Y51, .pair Y62 Y37, .slice (.slice (.int .i64))], [.own Z29], fun x => (fun (_ : Frame) (e : Evidence) (_ : List (List Int)) => Sm big20 Y62 e.1 ∧ ((cellsC Y62 e.1 : Nat) : Int) ≤ 2000000000) x.1 x.2.1 x.2.2.1, fun x => (usablePiecesF x.1 x.2.1 x.2.2.1, ())⟩
set_option maxRecDepth 100000 in
/-- loop.example.g00597.impl.UsablePieces -/
theorem F21_ok : Meets Tryz.prog 21 F21 := by
  refine meets_of_vc (C := mkC 79 [6] [0,1,2,3,4,6,7,9,11,12,14,15,16,17,21,22,23,24,48,60] [⟨57, _, F57_ok⟩, ⟨58, _, F58_ok⟩, ⟨15, _, F15_ok⟩, ⟨59, _, F59_ok⟩, ⟨60, _, F60_ok⟩, ⟨61, _, F61_ok⟩]) (mkC_ok _ _ _ _) (fnOf_ok _) Tryz.func21 rfl rfl rfl (by decide) rfl ?_
  rintro ⟨a0, a1, a2, _⟩ hwf hpre ⟨P, C, B, X, w0, M0, pv⟩ hG rfl rfl
  show Vc _ _ [(0, ⟨0, 0, .c Z63 a0⟩), (1, ⟨0, 0, .c Z67 a1⟩), (2, ⟨0, 0, .c Z7 a2⟩)] _
  have hS : Sm big20 Y62 a1.1 := hpre.1
  have hc : ((cellsC Y62 a1.1 : Nat) : Int) ≤ 2000000000 := hpre.2
  have hb : List.length a1.1 ≤ bigLen := hwf.2.1.1.1
  refine Vc.seq ?_
  refine Vc.region hG rfl ?_ ?_
  · trivial
  refine Vc.seq ?_
  refine Vc.region hG rfl ?_ ?_
  · trivial
  refine Vc.seq ?_
  refine Vc.seq ?_
  refine Vc.region hG rfl ?_ ?_
  · trivial
  refine Vc.block ?_
  -- slots [7, 16]; frame [0, 1, 2, 3, 4, 6, 14, 15]
  refine Vc.loopF [(7, false, .own Z29), (16, false, .pure (.int .i64))] [0, 1, 2, 3, 4, 6, 14, 15] (fun v => uoInv a0 a1 a2 v.1 v.2.1) (fun v => ((List.length a1.1 : Int) - v.2.1).toNat) rfl ?_ ?_
  · exact uoStart
  rintro ⟨out, (i : Int), _⟩ hI
  have hI : uoInv a0 a1 a2 out i := hI
  refine Vc.seq ?_
  refine Vc.region hG rfl ?_ ?_
  · trivial
  refine Vc.seq ?_
  refine Vc.cond rfl (fun h0 => ?_) (fun h0 => ?_)
  · skip
    have hl : i < (List.length a1.1 : Int) := of_decide_eq_true h0
    have ri := uoRange hI hl
    have sS := usStrand hS ri
    have hbk : List.length (List.getD a1.1 i.toNat (dflt Y59)).1 ≤ bigLen := Nat.le_trans sS.1.1 (by decide)
    refine Vc.skip ?_
    refine Vc.seq ?_
    refine Vc.block ?_
    refine Vc.seq ?_
    refine Vc.region hG rfl ?_ ?_
    · exact ri
    refine Vc.seq ?_
    refine Vc.region hG rfl ?_ ?_
    · trivial
    refine Vc.block ?_
    -- slots [7, 23]; frame [0, 1, 2, 3, 4, 6, 9, 14, 15, 16, 17, 21, 22]
    refine Vc.loopF [(7, false, .own Z29), (23, false, .pure (.int .i64))] [0, 1, 2, 3, 4, 6, 9, 14, 15, 16, 17, 21, 22] (fun v => uiInv a0 a1 a2 i v.1 v.2.1) (fun v => ((List.length (List.getD a1.1 i.toNat (dflt Y59)).1 : Int) - v.2.1).toNat) rfl ?_ ?_
    · exact uiStart hI
    rintro ⟨out2, (k : Int), _⟩ hK
    have hK : uiInv a0 a1 a2 i out2 k := hK
    refine Vc.seq ?_
    refine Vc.region hG rfl ?_ ?_
    · trivial
    refine Vc.seq ?_
    refine Vc.cond rfl (fun h1 => ?_) (fun h1 => ?_)
    · skip
      have hm : k < (List.length (List.getD a1.1 i.toNat (dflt Y59)).1 : Int) := of_decide_eq_true h1
      have rk := uiRange hK hm
      have ho := uiLen ri hK hc
      have hE : Sm big20 Y19 (List.getD (List.getD a1.1 i.toNat (dflt Y59)).1 k.toNat (dflt Y19)) := sS.1.2 _ (getD_mem rk _)
      refine Vc.skip ?_
      refine Vc.seq ?_
      refine Vc.block ?_
      refine Vc.seq ?_
      refine Vc.region hG rfl ?_ ?_
      · exact rk
      refine Vc.seq ?_
      refine Vc.seq ?_
      refine Vc.regionD mixed hG rfl (by kernel_rfl) ?_ ?_
      · repeat' (first | exact trivial | exact hS | refine And.intro ?_ ?_ | intro _)
      refine Vc.cond rfl (fun h2 => ?_) (fun h2 => ?_)
      · skip
        have g2 : pick2 (pick2 (hasF out2 (List.getD (List.getD a1.1 i.toNat (dflt Y59)).1 k.toNat (dflt Y19))) true (!(checkPieceF a0.1 (List.getD (List.getD a1.1 i.toNat (dflt Y59)).1 k.toNat (dflt Y19))))) true (decide (evBoundF a0 a1 a2 (List.getD (List.getD a1.1 i.toNat (dflt Y59)).1 k.toNat (dflt Y19)) ≥ brkKeyF a0 (List.getD (List.getD a1.1 i.toNat (dflt Y59)).1 k.toNat (dflt Y19)).1)) = true := h2
        have st := uiStep hK hm hbk (usSkip g2)
        refine Vc.exit ?_
        refine Vc.region hG rfl ?_ ?_
        · trivial
        refine ⟨rfl, ?_⟩
        exact st
      · skip
        have g2 : pick2 (pick2 (hasF out2 (List.getD (List.getD a1.1 i.toNat (dflt Y59)).1 k.toNat (dflt Y19))) true (!(checkPieceF a0.1 (List.getD (List.getD a1.1 i.toNat (dflt Y59)).1 k.toNat (dflt Y19))))) true (decide (evBoundF a0 a1 a2 (List.getD (List.getD a1.1 i.toNat (dflt Y59)).1 k.toNat (dflt Y19)) ≥ brkKeyF a0 (List.getD (List.getD a1.1 i.toNat (dflt Y59)).1 k.toNat (dflt Y19)).1)) = false := h2
        refine Vc.skip ?_
        refine Vc.seq ?_
        refine Vc.region hG rfl ?_ ?_
        · trivial
        refine Vc.seq ?_
        refine Vc.block ?_
        -- slots [12]; frame [0, 1, 2, 3, 4, 6, 7, 9, 11, 14, 15, 16, 17, 21, 22, 23, 24, 48]
        refine Vc.loopF [(12, false, .pure (.int .i64))] [0, 1, 2, 3, 4, 6, 7, 9, 11, 14, 15, 16, 17, 21, 22, 23, 24, 48] (fun v => tkInv (fun (y : Piece) => pbF y (List.getD (List.getD a1.1 i.toNat (dflt Y59)).1 k.toNat (dflt Y19))) out2 v.1) (fun v => ((List.length out2 : Int) - v.1).toNat) rfl ?_ ?_
        · exact tkStart
        rintro ⟨(q : Int), _⟩ hQ
        have hQ : tkInv (fun (y : Piece) => pbF y (List.getD (List.getD a1.1 i.toNat (dflt Y59)).1 k.toNat (dflt Y19))) out2 q := hQ
        refine Vc.seq ?_
        refine Vc.seq ?_
        refine Vc.regionD mixed hG rfl (by kernel_rfl) ?_ ?_
        · exact ⟨fun h => tkRange hQ (of_decide_eq_true h), fun _ => trivial⟩
        refine Vc.cond rfl (fun h3 => ?_) (fun h3 => ?_)
        · skip
          have g3 : pick2 (decide (q < (List.length out2 : Int))) (pbF (List.getD out2 q.toNat (dflt Y19)) (List.getD (List.getD a1.1 i.toNat (dflt Y59)).1 k.toNat (dflt Y19))) false = true := h3
          refine Vc.skip ?_
          refine Vc.block ?_
          refine Vc.region hG rfl ?_ ?_
          · trivial
          refine ⟨rfl, ?_⟩
          exact tkStepW (p := (fun (y : Piece) => pbF y (List.getD (List.getD a1.1 i.toNat (dflt Y59)).1 k.toNat (dflt Y19)))) hQ ho g3
        · skip
          have g3 : pick2 (decide (q < (List.length out2 : Int))) (pbF (List.getD out2 q.toNat (dflt Y19)) (List.getD (List.getD a1.1 i.toNat (dflt Y59)).1 k.toNat (dflt Y19))) false = false := h3
          have hk := tkEnd (p := (fun (y : Piece) => pbF y (List.getD (List.getD a1.1 i.toNat (dflt Y59)).1 k.toNat (dflt Y19)))) hQ g3
          have st := uiStep hK hm hbk ((putEq hQ hk).trans (usTake g2))
          refine Vc.exit ?_
          refine Vc.regionD mixed hG rfl (by kernel_rfl) ?_ ?_
          · exact insConds2W hQ ho hE
          refine Vc.region hG rfl ?_ ?_
          · trivial
          refine ⟨rfl, ?_⟩
          exact st
    · skip
      have hm : ¬ k < (List.length (List.getD a1.1 i.toNat (dflt Y59)).1 : Int) := of_decide_eq_false h1
      refine Vc.exit ?_
      refine Vc.region hG rfl ?_ ?_
      · trivial
      refine ⟨rfl, ?_⟩
      exact uoStep hI hl hb hK hm
  · skip
    have hl : ¬ i < (List.length a1.1 : Int) := of_decide_eq_false h0
    refine Vc.exit ?_
    refine Vc.seq ?_
    refine Vc.region hG rfl ?_ ?_
    · trivial
    refine Vc.ret ?_
    refine ⟨?_, trivial⟩
    exact uoEnd hI hl
noncomputable def F208 : Fun := ⟨[.pair (.int .i64) Y38], [.pure Y4], fun _ => True, fun x => (certSpanF x.1, ())⟩
set_option maxRecDepth 100000 in
/-- loop.example.g00597.impl.CertSpan -/
theorem F208_ok : Meets Tryz.prog 208 F208 := by
  refine meets_of_vc (C := mkC 8 [2] [0,1,2] []) (mkC_ok _ _ _ _) (fnOf_ok _) Tryz.func208 rfl rfl rfl (by decide) rfl ?_
  rintro ⟨a0, _⟩ hwf hpre ⟨P, C, B, X, w0, M0, pv⟩ hG rfl rfl
  show Vc _ _ [(0, ⟨0, 0, .c Z42 a0⟩)] _
  refine Vc.seq ?_
  refine Vc.region hG rfl ?_ ?_
  · trivial
  refine Vc.seq ?_
  refine Vc.region hG rfl ?_ ?_
  · trivial
  refine Vc.ret ?_
  refine ⟨?_, trivial⟩
  all_goals exact rfl
noncomputable def F171 : Fun := ⟨[.pair (.int .i64) Y38], [.pure (.bool)], fun _ => True, fun x => (isCertF x.1, ())⟩
set_option maxRecDepth 100000 in
/-- loop.example.g00597.impl.IsCert -/
theorem F171_ok : Meets Tryz.prog 171 F171 := by
  refine meets_of_vc (C := mkC 33 [2] [0,1,2] [⟨155, _, F155_ok⟩, ⟨208, _, F208_ok⟩, ⟨207, _, F207_ok⟩]) (mkC_ok _ _ _ _) (fnOf_ok _) Tryz.func171 rfl rfl rfl (by decide) rfl ?_
  rintro ⟨a0, _⟩ hwf hpre ⟨P, C, B, X, w0, M0, pv⟩ hG rfl rfl
  show Vc _ _ [(0, ⟨0, 0, .c Z42 a0⟩)] _
  refine Vc.seq ?_
  refine Vc.region hG rfl ?_ ?_
  · trivial
  refine Vc.seq ?_
  refine Vc.region hG rfl ?_ ?_
  · repeat' (first | exact trivial | refine And.intro ?_ ?_ | intro _)
  refine Vc.ret ?_
  refine ⟨?_, trivial⟩
  all_goals exact rfl
noncomputable def F172 : Fun := ⟨[.pair (.int .i64) Y38], [.own (.pure (.int .i64))], fun _ => True, fun x => (certIntsF x.1, ())⟩
set_option maxRecDepth 100000 in
/-- loop.example.g00597.impl.CertInts -/
theorem F172_ok : Meets Tryz.prog 172 F172 := by
  refine meets_of_vc (C := mkC 16 [2] [0,1,2] []) (mkC_ok _ _ _ _) (fnOf_ok _) Tryz.func172 rfl rfl rfl (by decide) rfl ?_
  rintro ⟨a0, _⟩ hwf hpre ⟨P, C, B, X, w0, M0, pv⟩ hG rfl rfl
  show Vc _ _ [(0, ⟨0, 0, .c Z42 a0⟩)] _
  refine Vc.seq ?_
  refine Vc.region hG rfl ?_ ?_
  · trivial
  refine Vc.seq ?_
  refine Vc.region hG rfl ?_ ?_
  · trivial
  refine Vc.ret ?_
  refine ⟨?_, trivial⟩
  all_goals exact rfl
noncomputable def F173 : Fun := ⟨[.slice Y32, .int .i64], [.pure (.int .i64)], fun _ => True, fun x => (ownerF x.1 x.2.1, ())⟩
set_option maxRecDepth 100000 in
/-- loop.example.g00597.impl.OwnerOf -/
theorem F173_ok : Meets Tryz.prog 173 F173 := by
  refine meets_of_vc (C := mkC 16 [4] [0,1,4,5,10] [⟨114, _, F114_ok⟩]) (mkC_ok _ _ _ _) (fnOf_ok _) Tryz.func173 rfl rfl rfl (by decide) rfl ?_
  rintro ⟨a0, (a1 : Int), _⟩ hwf hpre ⟨P, C, B, X, w0, M0, pv⟩ hG rfl rfl
  show Vc _ _ [(0, ⟨0, 0, .c Z36 a0⟩), (1, ⟨0, 0, .c (.pure (.int .i64)) a1⟩)] _
  refine Vc.seq ?_
  refine Vc.region hG rfl ?_ ?_
  · trivial
  refine Vc.seq ?_
  refine Vc.seq ?_
  refine Vc.region hG rfl ?_ ?_
  · trivial
  refine Vc.seq ?_
  refine Vc.region hG rfl ?_ ?_
  · trivial
  refine Vc.cond rfl (fun h0 => ?_) (fun h0 => ?_)
  · skip
    have g0 : ¬ keyI a0 a1 < 0 := Int.not_lt.2 (of_decide_eq_true h0)
    refine Vc.seq ?_
    refine Vc.region hG rfl ?_ ?_
    · exact findRange g0
    refine Vc.ret ?_
    refine ⟨?_, trivial⟩
    exact owner1 g0
  · skip
    have g0 : keyI a0 a1 < 0 := Int.not_le.1 (of_decide_eq_false h0)
    refine Vc.skip ?_
    refine Vc.seq ?_
    refine Vc.region hG rfl ?_ ?_
    · trivial
    refine Vc.ret ?_
    refine ⟨?_, trivial⟩
    exact owner0 g0
noncomputable def F130 : Fun := ⟨[.slice Y32, .pair (.int .i64) Y38], [.pure (.bool)], fun _ => True, fun x => (checkCertF x.1 x.2.1, ())⟩
set_option maxRecDepth 100000 in
/-- loop.example.g00597.impl.CheckCert -/
theorem F130_ok : Meets Tryz.prog 130 F130 := by
  refine meets_of_vc (C := mkC 26 [4] [0,1,3,4] [⟨171, _, F171_ok⟩, ⟨172, _, F172_ok⟩, ⟨113, _, F113_ok⟩, ⟨173, _, F173_ok⟩]) (mkC_ok _ _ _ _) (fnOf_ok _) Tryz.func130 rfl rfl rfl (by decide) rfl ?_
  rintro ⟨a0, a1, _⟩ hwf hpre ⟨P, C, B, X, w0, M0, pv⟩ hG rfl rfl
  show Vc _ _ [(0, ⟨0, 0, .c Z36 a0⟩), (1, ⟨0, 0, .c Z42 a1⟩)] _
  refine Vc.seq ?_
  refine Vc.region hG rfl ?_ ?_
  · trivial
  refine Vc.seq ?_
  refine Vc.regionD mixed hG rfl (by kernel_rfl) ?_ ?_
  · exact ⟨trivial, fun _ => trivial, fun _ => smallLit (n := 7) rfl (by decide), fun _ => trivial⟩
  refine Vc.ret ?_
  refine ⟨?_, trivial⟩
  exact checkCertI a0 a1
noncomputable def F78 : Fun := ⟨[.pair Y34 Y51, .slice Y19, .pair (.int .i64) Y44], [.pure Y41, .pure (.bool)], fun _ => True, fun x => (((fun a0 a1 a2 => certForF a0.1 a1 a2) x.1 x.2.1 x.2.2.1).1, ((fun a0 a1 a2 => certForF a0.1 a1 a2) x.1 x.2.1 x.2.2.1).2, ())⟩
set_option maxRecDepth 100000 in
/-- loop.example.g00597.impl.CertFor -/
theorem F78_ok : Meets Tryz.prog 78 F78 := by
  refine meets_of_vc (C := mkC 54 [6, 7] [0,1,2,3,5,6,7,8,9,11,12,13,14,15,16,17,45,51] [⟨108, _, F108_ok⟩, ⟨130, _, F130_ok⟩]) (mkC_ok _ _ _ _) (fnOf_ok _) Tryz.func78 rfl rfl rfl (by decide) rfl ?_
  rintro ⟨a0, a1, a2, _⟩ hwf hpre ⟨P, C, B, X, w0, M0, pv⟩ hG rfl rfl
  show Vc _ _ [(0, ⟨0, 0, .c Z63 a0⟩), (1, ⟨0, 0, .c Z26 a1⟩), (2, ⟨0, 0, .c Z48 a2⟩)] _
  have hb : List.length a1 ≤ bigLen := hwf.2.1.1
  refine Vc.seq ?_
  refine Vc.region hG rfl ?_ ?_
  · trivial
  refine Vc.seq ?_
  refine Vc.region hG rfl ?_ ?_
  · trivial
  refine Vc.seq ?_
  refine Vc.region hG rfl ?_ ?_
  · trivial
  refine Vc.seq ?_
  refine Vc.seq ?_
  refine Vc.region hG rfl ?_ ?_
  · trivial
  refine Vc.block ?_
  -- slots [8, 9, 16]; frame [0, 1, 2, 3, 5, 6, 7, 14, 15, 51]
  refine Vc.loopF [(8, true, .pure Y41), (9, false, .pure (.int .i64)), (16, false, .pure (.int .i64))] [0, 1, 2, 3, 5, 6, 7, 14, 15, 51] (fun v => cfInv a0.1 a2 a1 v.1 v.2.1 v.2.2.1) (fun v => ((List.length a1 : Int) - v.2.2.1).toNat) rfl ?_ ?_
  · exact cfStart
  rintro ⟨c, (n : Int), (i : Int), _⟩ hI
  have hI : cfInv a0.1 a2 a1 c n i := hI
  refine Vc.seq ?_
  refine Vc.region hG rfl ?_ ?_
  · trivial
  refine Vc.seq ?_
  refine Vc.cond rfl (fun h0 => ?_) (fun h0 => ?_)
  · skip
    have hl : i < (List.length a1 : Int) := of_decide_eq_true h0
    refine Vc.skip ?_
    refine Vc.seq ?_
    refine Vc.block ?_
    refine Vc.seq ?_
    refine Vc.region hG rfl ?_ ?_
    · exact cfRange hI hl
    refine Vc.seq ?_
    refine Vc.region hG rfl ?_ ?_
    · trivial
    refine Vc.seq ?_
    refine Vc.region hG rfl ?_ ?_
    · repeat' (first | exact trivial | refine And.intro ?_ ?_ | intro _)
    refine Vc.cond rfl (fun h1 => ?_) (fun h1 => ?_)
    · skip
      have g1 : cfTest a0.1 a2 (List.getD a1 i.toNat (dflt Y19)) = true := h1
      refine Vc.seq ?_
      refine Vc.region hG rfl ?_ ?_
      · trivial
      refine Vc.region hG rfl ?_ ?_
      · trivial
      refine Vc.region hG rfl ?_ ?_
      · trivial
      refine ⟨rfl, ?_⟩
      first | exact cfGo1 hI hl hb g1 | exact cfGo0 hI hl hb g1
    · skip
      have g1 : cfTest a0.1 a2 (List.getD a1 i.toNat (dflt Y19)) = false := h1
      refine Vc.skip ?_
      refine Vc.region hG rfl ?_ ?_
      · trivial
      refine ⟨rfl, ?_⟩
      first | exact cfGo1 hI hl hb g1 | exact cfGo0 hI hl hb g1
  · skip
    have hl : ¬ i < (List.length a1 : Int) := of_decide_eq_false h0
    refine Vc.exit ?_
    refine Vc.seq ?_
    refine Vc.seq ?_
    refine Vc.region hG rfl ?_ ?_
    · trivial
    refine Vc.cond rfl (fun h2 => ?_) (fun h2 => ?_)
    · skip
      have g2 : (n != 1) = true := h2
      refine Vc.seq ?_
      refine Vc.region hG rfl ?_ ?_
      · trivial
      refine Vc.ret ?_
      have e := cfEnd0 hI hl g2
      refine ⟨?_, ?_, trivial⟩
      · exact (congrArg Prod.fst e).symm
      · exact (congrArg Prod.snd e).symm
    · skip
      have g2 : (n != 1) = false := h2
      refine Vc.skip ?_
      refine Vc.seq ?_
      refine Vc.region hG rfl ?_ ?_
      · trivial
      refine Vc.ret ?_
      have e := cfEnd1 hI hl g2
      refine ⟨?_, ?_, trivial⟩
      · exact (congrArg Prod.fst e).symm
      · exact (congrArg Prod.snd e).symm
noncomputable def F80 : Fun := ⟨[.slice Y19, .pair (.int .i64) Y38], [.own Z33], fun x => (fun a0 a1 => List.length a0 ≤ 2000000000) x.1 x.2.1, fun x => (statusesF x.1 x.2.1, ())⟩
set_option maxRecDepth 100000 in
/-- loop.example.g00597.impl.StatusesFor -/
theorem F80_ok : Meets Tryz.prog 80 F80 := by
  refine meets_of_vc (C := mkC 42 [4] [0,1,3,4,5,7,8,9,10,11,12,13,35] [⟨109, _, F109_ok⟩]) (mkC_ok _ _ _ _) (fnOf_ok _) Tryz.func80 rfl rfl rfl (by decide) rfl ?_
  rintro ⟨a0, a1, _⟩ hwf hpre ⟨P, C, B, X, w0, M0, pv⟩ hG rfl rfl
  show Vc _ _ [(0, ⟨0, 0, .c Z26 a0⟩), (1, ⟨0, 0, .c Z42 a1⟩)] _
  have hb : List.length a0 ≤ bigLen := hwf.1.1
  have hs : List.length a0 ≤ 2000000000 := hpre
  refine Vc.seq ?_
  refine Vc.region hG rfl ?_ ?_
  · trivial
  refine Vc.seq ?_
  refine Vc.region hG rfl ?_ ?_
  · trivial
  refine Vc.seq ?_
  refine Vc.seq ?_
  refine Vc.region hG rfl ?_ ?_
  · trivial
  refine Vc.block ?_
  -- slots [5, 12]; frame [0, 1, 3, 4, 10, 11]
  refine Vc.loopF [(5, false, .own Z33), (12, false, .pure (.int .i64))] [0, 1, 3, 4, 10, 11] (fun v => pkInv (statFor a1) a0 v.1 v.2.1) (fun v => ((List.length a0 : Int) - v.2.1).toNat) rfl ?_ ?_
  · exact pkStart
  rintro ⟨acc, (i : Int), _⟩ hI
  have hI : pkInv (statFor a1) a0 acc i := hI
  refine Vc.seq ?_
  refine Vc.region hG rfl ?_ ?_
  · trivial
  refine Vc.seq ?_
  refine Vc.cond rfl (fun h0 => ?_) (fun h0 => ?_)
  · skip
    have hl : i < (List.length a0 : Int) := of_decide_eq_true h0
    refine Vc.skip ?_
    refine Vc.seq ?_
    refine Vc.block ?_
    refine Vc.seq ?_
    refine Vc.region hG rfl ?_ ?_
    · exact pkRange hI hl
    refine Vc.seq ?_
    refine Vc.region hG rfl ?_ ?_
    · trivial
    refine Vc.seq ?_
    refine Vc.region hG rfl ?_ ?_
    · trivial
    refine Vc.cond rfl (fun h1 => ?_) (fun h1 => ?_)
    · skip
      have g1 : ((statFor a1) (List.getD a0 i.toNat (dflt Y19))).2 = true := h1
      refine Vc.region hG rfl ?_ ?_
      · exact pkLenW hI hs
      refine Vc.region hG rfl ?_ ?_
      · trivial
      refine ⟨rfl, ?_⟩
      first
        | exact pkYes (d := dflt Y19) hI hl hb g1
        | exact pkNo (d := dflt Y19) hI hl hb g1
    · skip
      have g1 : ((statFor a1) (List.getD a0 i.toNat (dflt Y19))).2 = false := h1
      refine Vc.skip ?_
      refine Vc.region hG rfl ?_ ?_
      · trivial
      refine ⟨rfl, ?_⟩
      first
        | exact pkYes (d := dflt Y19) hI hl hb g1
        | exact pkNo (d := dflt Y19) hI hl hb g1
  · skip
    have hl : ¬ i < (List.length a0 : Int) := of_decide_eq_false h0
    refine Vc.exit ?_
    refine Vc.seq ?_
    refine Vc.region hG rfl ?_ ?_
    · trivial
    refine Vc.ret ?_
    refine ⟨?_, trivial⟩
    exact pkEnd hI hl
noncomputable def F174 : Fun := ⟨[.slice Y32, .int .i64], [.pure (.int .i64), .pure (.int .i64), .pure (.int .i64)], fun _ => True, fun x => (((fun a0 a1 => (leastF a0 a1, mostF a0 a1, goodF a0 a1)) x.1 x.2.1).1, ((fun a0 a1 => (leastF a0 a1, mostF a0 a1, goodF a0 a1)) x.1 x.2.1).2.1, ((fun a0 a1 => (leastF a0 a1, mostF a0 a1, goodF a0 a1)) x.1 x.2.1).2.2, ())⟩
set_option maxRecDepth 100000 in
/-- loop.example.g00597.impl.ends -/
theorem F174_ok : Meets Tryz.prog 174 F174 := by
  refine meets_of_vc (C := mkC 49 [4, 5, 6] [0,1,4,5,6,7,8,9,11,12,13,14,15,25,32,37] []) (mkC_ok _ _ _ _) (fnOf_ok _) Tryz.func174 rfl rfl rfl (by decide) rfl ?_
  rintro ⟨a0, (a1 : Int), _⟩ hwf hpre ⟨P, C, B, X, w0, M0, pv⟩ hG rfl rfl
  show Vc _ _ [(0, ⟨0, 0, .c Z36 a0⟩), (1, ⟨0, 0, .c (.pure (.int .i64)) a1⟩)] _
  have hb : List.length a0 ≤ bigLen := hwf.1.1
  refine Vc.seq ?_
  refine Vc.region hG rfl ?_ ?_
  · trivial
  refine Vc.seq ?_
  refine Vc.region hG rfl ?_ ?_
  · trivial
  refine Vc.seq ?_
  refine Vc.seq ?_
  refine Vc.region hG rfl ?_ ?_
  · trivial
  refine Vc.block ?_
  -- slots [7, 8, 9, 14]; frame [0, 1, 4, 5, 6, 12, 13]
  refine Vc.loopF [(7, false, .pure (.int .i64)), (8, false, .pure (.int .i64)), (9, false, .pure (.int .i64)), (14, false, .pure (.int .i64))] [0, 1, 4, 5, 6, 12, 13] (fun v => foInv (lsS a1) (-1) a0 v.1 v.2.2.2.1 ∧ foInv (msS a1) (-1) a0 v.2.1 v.2.2.2.1 ∧ foInv (gsS a1) (-1) a0 v.2.2.1 v.2.2.2.1) (fun v => ((List.length a0 : Int) - v.2.2.2.1).toNat) rfl ?_ ?_
  · exact ⟨foStart, foStart, foStart⟩
  rintro ⟨(x : Int), (y : Int), (z : Int), (i : Int), _⟩ hI
  have hI : foInv (lsS a1) (-1) a0 x i ∧ foInv (msS a1) (-1) a0 y i ∧ foInv (gsS a1) (-1) a0 z i := hI
  refine Vc.seq ?_
  refine Vc.region hG rfl ?_ ?_
  · trivial
  refine Vc.seq ?_
  refine Vc.cond rfl (fun h0 => ?_) (fun h0 => ?_)
  · skip
    have hl : i < (List.length a0 : Int) := of_decide_eq_true h0
    refine Vc.skip ?_
    refine Vc.seq ?_
    refine Vc.block ?_
    refine Vc.seq ?_
    refine Vc.region hG rfl ?_ ?_
    · exact foRange hI.1 hl
    refine Vc.block ?_
    refine Vc.seq ?_
    refine Vc.region hG rfl ?_ ?_
    · trivial
    refine Vc.cond rfl (fun h1 => ?_) (fun h1 => ?_)
    · skip
      have g1 : ((List.getD a0 i.toNat (dflt Y32)).1 != a1) = true := h1
      have st := fo3 (d := dflt Y32) hI hl hb (lsN1 g1) (msN1 g1) (gsN1 g1)
      refine Vc.skip ?_
      refine Vc.region hG rfl ?_ ?_
      · trivial
      refine ⟨rfl, ?_⟩
      exact st
    · skip
      have g1 : ((List.getD a0 i.toNat (dflt Y32)).1 != a1) = false := h1
      refine Vc.seq ?_
      refine Vc.region hG rfl ?_ ?_
      · trivial
      refine Vc.cond rfl (fun h2 => ?_) (fun h2 => ?_)
      · skip
        have g2 : (List.getD a0 i.toNat (dflt Y32)).2.2.1 < 0 := of_decide_eq_true h2
        have st := fo3 (d := dflt Y32) hI hl hb (lsN2 g2) (msN2 g2) (gsY g1 g2)
        refine Vc.region hG rfl ?_ ?_
        · trivial
        refine Vc.region hG rfl ?_ ?_
        · trivial
        refine ⟨rfl, ?_⟩
        exact st
      · skip
        have g2 : ¬ (List.getD a0 i.toNat (dflt Y32)).2.2.1 < 0 := of_decide_eq_false h2
        refine Vc.seq ?_
        refine Vc.seq ?_
        refine Vc.region hG rfl ?_ ?_
        · trivial
        refine Vc.cond rfl (fun h3 => ?_) (fun h3 => ?_)
        · skip
          have st := fo3 (d := dflt Y32) hI hl hb (lsY g1 g2 h3) (msY g1 g2) (gsN2 g2)
          refine Vc.region hG rfl ?_ ?_
          · trivial
          refine Vc.region hG rfl ?_ ?_
          · trivial
          refine Vc.region hG rfl ?_ ?_
          · trivial
          refine ⟨rfl, ?_⟩
          exact st
        · skip
          have st := fo3 (d := dflt Y32) hI hl hb (lsN3 h3) (msY g1 g2) (gsN2 g2)
          refine Vc.skip ?_
          refine Vc.region hG rfl ?_ ?_
          · trivial
          refine Vc.region hG rfl ?_ ?_
          · trivial
          refine ⟨rfl, ?_⟩
          exact st
  · skip
    have hl : ¬ i < (List.length a0 : Int) := of_decide_eq_false h0
    refine Vc.exit ?_
    refine Vc.seq ?_
    refine Vc.region hG rfl ?_ ?_
    · trivial
    refine Vc.ret ?_
    refine ⟨?_, ?_, ?_, trivial⟩
    · exact foEnd hI.1 hl
    · exact foEnd hI.2.1 hl
    · exact foEnd hI.2.2 hl
noncomputable def F131 : Fun := ⟨[.slice Y32, .int .i64], [.pure (.int .i64)], fun _ => True, fun x => (badFromF x.1 x.2.1, ())⟩
set_option maxRecDepth 100000 in
/-- loop.example.g00597.impl.BadFrom -/
theorem F131_ok : Meets Tryz.prog 131 F131 := by
  refine meets_of_vc (C := mkC 21 [4] [0,1,4,6,7,16] [⟨174, _, F174_ok⟩]) (mkC_ok _ _ _ _) (fnOf_ok _) Tryz.func131 rfl rfl rfl (by decide) rfl ?_
  rintro ⟨a0, (a1 : Int), _⟩ hwf hpre ⟨P, C, B, X, w0, M0, pv⟩ hG rfl rfl
  show Vc _ _ [(0, ⟨0, 0, .c Z36 a0⟩), (1, ⟨0, 0, .c (.pure (.int .i64)) a1⟩)] _
  refine Vc.seq ?_
  refine Vc.region hG rfl ?_ ?_
  · trivial
  refine Vc.seq ?_
  refine Vc.region hG rfl ?_ ?_
  · trivial
  refine Vc.seq ?_
  refine Vc.seq ?_
  refine Vc.region hG rfl ?_ ?_
  · trivial
  refine Vc.cond rfl (fun h0 => ?_) (fun h0 => ?_)
  · skip
    refine Vc.seq ?_
    refine Vc.region hG rfl ?_ ?_
    · trivial
    refine Vc.ret ?_
    refine ⟨?_, trivial⟩
    exact bfA rfl h0
  · skip
    refine Vc.skip ?_
    refine Vc.seq ?_
    refine Vc.region hG rfl ?_ ?_
    · trivial
    refine Vc.ret ?_
    refine ⟨?_, trivial⟩
    exact bfB rfl rfl h0
noncomputable def F132 : Fun := ⟨[.slice Y32, .int .i64], [.pure (.int .i64)], fun _ => True, fun x => (goodUntilF x.1 x.2.1, ())⟩
set_option maxRecDepth 100000 in
/-- loop.example.g00597.impl.GoodUntil -/
theorem F132_ok : Meets Tryz.prog 132 F132 := by
  refine meets_of_vc (C := mkC 20 [4] [0,1,4,5,7,16] [⟨174, _, F174_ok⟩]) (mkC_ok _ _ _ _) (fnOf_ok _) Tryz.func132 rfl rfl rfl (by decide) rfl ?_
  rintro ⟨a0, (a1 : Int), _⟩ hwf hpre ⟨P, C, B, X, w0, M0, pv⟩ hG rfl rfl
  show Vc _ _ [(0, ⟨0, 0, .c Z36 a0⟩), (1, ⟨0, 0, .c (.pure (.int .i64)) a1⟩)] _
  refine Vc.seq ?_
  refine Vc.region hG rfl ?_ ?_
  · trivial
  refine Vc.seq ?_
  refine Vc.region hG rfl ?_ ?_
  · trivial
  refine Vc.seq ?_
  refine Vc.seq ?_
  refine Vc.region hG rfl ?_ ?_
  · trivial
  refine Vc.cond rfl (fun h0 => ?_) (fun h0 => ?_)
  · skip
    refine Vc.seq ?_
    refine Vc.region hG rfl ?_ ?_
    · trivial
    refine Vc.ret ?_
    refine ⟨?_, trivial⟩
    exact guA rfl h0
  · skip
    refine Vc.skip ?_
    refine Vc.seq ?_
    refine Vc.region hG rfl ?_ ?_
    · trivial
    refine Vc.ret ?_
    refine ⟨?_, trivial⟩
    exact guB rfl rfl h0
noncomputable def F79 : Fun := ⟨[.slice Y32, .int .i64], [.pure (.bool)], fun _ => True, fun x => (isAgreedF x.1 x.2.1, ())⟩
set_option maxRecDepth 100000 in
/-- loop.example.g00597.impl.IsAgreed -/
theorem F79_ok : Meets Tryz.prog 79 F79 := by
  refine meets_of_vc (C := mkC 19 [4] [0,1,4,5] [⟨131, _, F131_ok⟩, ⟨132, _, F132_ok⟩]) (mkC_ok _ _ _ _) (fnOf_ok _) Tryz.func79 rfl rfl rfl (by decide) rfl ?_
  rintro ⟨a0, (a1 : Int), _⟩ hwf hpre ⟨P, C, B, X, w0, M0, pv⟩ hG rfl rfl
  show Vc _ _ [(0, ⟨0, 0, .c Z36 a0⟩), (1, ⟨0, 0, .c (.pure (.int .i64)) a1⟩)] _
  refine Vc.seq ?_
  refine Vc.region hG rfl ?_ ?_
  · trivial
  refine Vc.seq ?_
  refine Vc.region hG rfl ?_ ?_
  · trivial
  refine Vc.seq ?_
  refine Vc.region hG rfl ?_ ?_
  · repeat' (first | exact trivial | refine And.intro ?_ ?_ | intro _)
  refine Vc.ret ?_
  refine ⟨?_, trivial⟩
  all_goals exact rfl
noncomputable def F175 : Fun := ⟨[.int .i64, .int .i64], [.pure (.int .i64)], fun _ => True, fun x => ((fun (a b : Int) => max a b) x.1 x.2.1, ())⟩
set_option maxRecDepth 100000 in
/-- loop.example.g00597.impl.Max -/
theorem F175_ok : Meets Tryz.prog 175 F175 := by
  refine meets_of_vc (C := mkC 8 [4] [0,1,4] []) (mkC_ok _ _ _ _) (fnOf_ok _) Tryz.func175 rfl rfl rfl (by decide) rfl ?_
  rintro ⟨(a0 : Int), (a1 : Int), _⟩ hwf hpre ⟨P, C, B, X, w0, M0, pv⟩ hG rfl rfl
  show Vc _ _ [(0, ⟨0, 0, .c (.pure (.int .i64)) a0⟩), (1, ⟨0, 0, .c (.pure (.int .i64)) a1⟩)] _
  refine Vc.seq ?_
  refine Vc.region hG rfl ?_ ?_
  · trivial
  refine Vc.seq ?_
  refine Vc.region hG rfl ?_ ?_
  · trivial
  refine Vc.ret ?_
  refine ⟨?_, trivial⟩
  all_goals exact rfl
noncomputable def F134 : Fun := ⟨[.int .i64, .slice Y32], [.pure (.int .i64)], fun x => (fun (_ : Int) (l : List Stamp) => List.length l ≤ 1048576) x.1 x.2.1, fun x => (stampsDgF x.1 x.2.1, ())⟩
set_option maxRecDepth 100000 in
/-- loop.example.g00597.impl.StampsDigest -/
theorem F134_ok : Meets Tryz.prog 134 F134 := by
  refine meets_of_vc (C := mkC 27 [4] [0,1,4,5,7,10,11,12,13,14] [⟨176, _, F176_ok⟩, ⟨175, _, F175_ok⟩]) (mkC_ok _ _ _ _) (fnOf_ok _) Tryz.func134 rfl rfl rfl (by decide) rfl ?_
  rintro ⟨(a0 : Int), a1, _⟩ hwf hpre ⟨P, C, B, X, w0, M0, pv⟩ hG rfl rfl
  show Vc _ _ [(0, ⟨0, 0, .c (.pure (.int .i64)) a0⟩), (1, ⟨0, 0, .c Z36 a1⟩)] _
  have hs : List.length a1 ≤ 1048576 := hpre
  have hb : List.length a1 ≤ bigLen := hwf.2.1.1
  refine Vc.seq ?_
  refine Vc.region hG rfl ?_ ?_
  · trivial
  refine Vc.seq ?_
  refine Vc.seq ?_
  refine Vc.region hG rfl ?_ ?_
  · trivial
  refine Vc.cond rfl (fun h0 => ?_) (fun h0 => ?_)
  · skip
    have g0 : (List.length a1 : Int) = 0 := beqI2 h0
    refine Vc.seq ?_
    refine Vc.region hG rfl ?_ ?_
    · trivial
    refine Vc.ret ?_
    refine ⟨?_, trivial⟩
    exact sd0 g0
  · skip
    have g0 : ¬ (List.length a1 : Int) = 0 := bneI' h0
    refine Vc.skip ?_
    refine Vc.seq ?_
    refine Vc.region hG rfl ?_ ?_
    · trivial
    refine Vc.seq ?_
    refine Vc.seq ?_
    refine Vc.region hG rfl ?_ ?_
    · trivial
    refine Vc.block ?_
    -- slots [5, 13]; frame [0, 1, 4, 10, 11, 12]
    refine Vc.loopF [(5, false, .own (.pure (.int .i64))), (13, false, .pure (.int .i64))] [0, 1, 4, 10, 11, 12] (fun v => gsInv (mkG a1) [] a1 v.1 v.2.1) (fun v => ((List.length a1 : Int) - v.2.1).toNat) rfl ?_ ?_
    · exact gsStart
    rintro ⟨acc, (i : Int), _⟩ hI
    have hI : gsInv (mkG a1) [] a1 acc i := hI
    have hA : List.length acc ≤ 1048576 := gsLen (c := 1) (m := 1048576) hI (fun _ => Nat.le_refl _) hs (by simp)
    refine Vc.seq ?_
    refine Vc.region hG rfl ?_ ?_
    · trivial
    refine Vc.seq ?_
    refine Vc.cond rfl (fun h1 => ?_) (fun h1 => ?_)
    · skip
      have hl : i < (List.length a1 : Int) := of_decide_eq_true h1
      refine Vc.skip ?_
      refine Vc.seq ?_
      refine Vc.block ?_
      refine Vc.seq ?_
      refine Vc.region hG rfl ?_ ?_
      · exact gsRange hI hl
      refine Vc.region hG rfl ?_ ?_
      · exact (show List.length acc + 1 ≤ maxApp from by unfold maxApp; omega)
      refine Vc.region hG rfl ?_ ?_
      · trivial
      refine ⟨rfl, ?_⟩
      exact gsStep hI hl hb rfl
    · skip
      have hl : ¬ i < (List.length a1 : Int) := of_decide_eq_false h1
      refine Vc.exit ?_
      refine Vc.seq ?_
      refine Vc.region hG rfl ?_ ?_
      · exact ⟨(show List.length acc ≤ 1000000000 from by omega), trivial⟩
      refine Vc.ret ?_
      refine ⟨?_, trivial⟩
      exact (congrArg (fun l => max 1 (digestF a0 l)) (gsEnd hI hl)).trans (sd1 g0)
noncomputable def F135 : Fun := ⟨[.int .i64, .pair (.int .i64) Y24], [.pair (.pure (.int .i64)) Z16], fun _ => True, fun x => (stampPieceF x.1 x.2.1, ())⟩
set_option maxRecDepth 100000 in
/-- loop.example.g00597.impl.StampPiece -/
theorem F135_ok : Meets Tryz.prog 135 F135 := by
  refine meets_of_vc (C := mkC 11 [4] [0,1,3,4] [⟨177, _, F177_ok⟩]) (mkC_ok _ _ _ _) (fnOf_ok _) Tryz.func135 rfl rfl rfl (by decide) rfl ?_
  rintro ⟨(a0 : Int), a1, _⟩ hwf hpre ⟨P, C, B, X, w0, M0, pv⟩ hG rfl rfl
  show Vc _ _ [(0, ⟨0, 0, .c (.pure (.int .i64)) a0⟩), (1, ⟨0, 0, .c Z33 a1⟩)] _
  refine Vc.seq ?_
  refine Vc.region hG rfl ?_ ?_
  · trivial
  refine Vc.seq ?_
  refine Vc.regionD mixed hG rfl (by kernel_rfl) ?_ ?_
  · trivial
  refine Vc.ret ?_
  refine ⟨?_, trivial⟩
  all_goals exact rfl
end Fw
