/- Walks of functions of the program: what each computes. Conditions: those that each contract names. -/
import Derived.Test.YtlfmjohahkeejaaW18T
namespace Fw
open Go Go.Proofs
set_option linter.unusedSimpArgs false
noncomputable def F191 : Fun := ⟨[.slice Y2, .int .i64], [.pure (.int .i64)], fun _ => True, fun x => ((fun a0 a1 => findI (fun x => x.1 == a1) a0) x.1 x.2.1, ())⟩
set_option maxRecDepth 100000 in
/-- loop.example.g00597.spec.FindAuthority -/
theorem F191_ok : Meets Try.prog 191 F191 := by
  refine meets_of_vc (C := mkC 20 [4] [0,1,4,5,9,18] []) (mkC_ok _ _ _ _) (fnOf_ok _) Try.func191 rfl rfl rfl (by decide) rfl ?_
  rintro ⟨a0, (a1 : Int), _⟩ hwf hpre ⟨P, C, B, X, w0, M0, pv⟩ hG rfl rfl
  show Vc _ _ [(0, ⟨0, 0, .c Z5 a0⟩), (1, ⟨0, 0, .c (.pure (.int .i64)) a1⟩)] _
  have hb : List.length a0 ≤ bigLen := hwf.1.1
  refine Vc.seq ?_
  refine Vc.region hG rfl ?_ ?_
  · trivial
  refine Vc.seq ?_
  refine Vc.seq ?_
  refine Vc.region hG rfl ?_ ?_
  · trivial
  refine Vc.block ?_
  -- slots [5]; frame [0, 1]
  refine Vc.loopF [(5, false, .pure (.int .i64))] [0, 1] (fun v => fInv (fun x => x.1 == a1) a0 v.1) (fun v => ((List.length a0 : Int) - v.1).toNat) rfl ?_ ?_
  · exact fStart
  rintro ⟨(i : Int), _⟩ hI
  have hI : fInv (fun x => x.1 == a1) a0 i := hI
  refine Vc.seq ?_
  refine Vc.seq ?_
  refine Vc.region hG rfl ?_ ?_
  · trivial
  refine Vc.cond rfl (fun h0 => ?_) (fun h0 => ?_)
  · skip
    have hl : i < (List.length a0 : Int) := of_decide_eq_true h0
    refine Vc.skip ?_
    refine Vc.seq ?_
    refine Vc.block ?_
    refine Vc.seq ?_
    refine Vc.region hG rfl ?_ ?_
    · exact fRange hI hl
    refine Vc.cond rfl (fun h1 => ?_) (fun h1 => ?_)
    · skip
      have g1 : (fun x => x.1 == a1) (List.getD a0 i.toNat (dflt Y2)) = true := h1
      refine Vc.seq ?_
      refine Vc.region hG rfl ?_ ?_
      · trivial
      refine Vc.ret ?_
      refine ⟨?_, trivial⟩
      exact fHit hI hl g1
    · skip
      have g1 : (fun x => x.1 == a1) (List.getD a0 i.toNat (dflt Y2)) = false := h1
      refine Vc.skip ?_
      refine Vc.region hG rfl ?_ ?_
      · trivial
      refine ⟨rfl, ?_⟩
      exact fStep hI hl hb g1
  · skip
    have hl : ¬ i < (List.length a0 : Int) := of_decide_eq_false h0
    refine Vc.exit ?_
    refine Vc.seq ?_
    refine Vc.region hG rfl ?_ ?_
    · trivial
    refine Vc.ret ?_
    refine ⟨?_, trivial⟩
    exact fEnd hI hl
noncomputable def F170 : Fun := ⟨[.int .i64, .int .i64, .int .i64], [.pure (.bool)], fun _ => True, fun x => (inRangeF x.1 x.2.1 x.2.2.1, ())⟩
set_option maxRecDepth 100000 in
/-- loop.example.g00597.spec.l1In -/
theorem F170_ok : Meets Try.prog 170 F170 := by
  refine meets_of_vc (C := mkC 15 [6] [0,1,2,6] []) (mkC_ok _ _ _ _) (fnOf_ok _) Try.func170 rfl rfl rfl (by decide) rfl ?_
  rintro ⟨(a0 : Int), (a1 : Int), (a2 : Int), _⟩ hwf hpre ⟨P, C, B, X, w0, M0, pv⟩ hG rfl rfl
  show Vc _ _ [(0, ⟨0, 0, .c (.pure (.int .i64)) a0⟩), (1, ⟨0, 0, .c (.pure (.int .i64)) a1⟩), (2, ⟨0, 0, .c (.pure (.int .i64)) a2⟩)] _
  refine Vc.seq ?_
  refine Vc.region hG rfl ?_ ?_
  · trivial
  refine Vc.seq ?_
  refine Vc.region hG rfl ?_ ?_
  · trivial
  refine Vc.ret ?_
  refine ⟨?_, trivial⟩
  all_goals exact rfl
noncomputable def F192 : Fun := ⟨[.int .i64], [.pure (.bool)], fun _ => True, fun x => (isTimeF x.1, ())⟩
set_option maxRecDepth 100000 in
/-- loop.example.g00597.spec.l4Time -/
theorem F192_ok : Meets Try.prog 192 F192 := by
  refine meets_of_vc (C := mkC 5 [2] [0,2] [⟨170, _, F170_ok⟩]) (mkC_ok _ _ _ _) (fnOf_ok _) Try.func192 rfl rfl rfl (by decide) rfl ?_
  rintro ⟨(a0 : Int), _⟩ hwf hpre ⟨P, C, B, X, w0, M0, pv⟩ hG rfl rfl
  show Vc _ _ [(0, ⟨0, 0, .c (.pure (.int .i64)) a0⟩)] _
  refine Vc.seq ?_
  refine Vc.region hG rfl ?_ ?_
  · trivial
  refine Vc.seq ?_
  refine Vc.region hG rfl ?_ ?_
  · trivial
  refine Vc.ret ?_
  refine ⟨?_, trivial⟩
  all_goals exact rfl
noncomputable def F193 : Fun := ⟨[.slice Y7, .int .i64], [.pure (.int .i64)], fun _ => True, fun x => ((fun a0 a1 => findI (fun x => x.1 == a1) a0) x.1 x.2.1, ())⟩
set_option maxRecDepth 100000 in
/-- loop.example.g00597.spec.FindKey -/
theorem F193_ok : Meets Try.prog 193 F193 := by
  refine meets_of_vc (C := mkC 20 [4] [0,1,4,5,9,18] []) (mkC_ok _ _ _ _) (fnOf_ok _) Try.func193 rfl rfl rfl (by decide) rfl ?_
  rintro ⟨a0, (a1 : Int), _⟩ hwf hpre ⟨P, C, B, X, w0, M0, pv⟩ hG rfl rfl
  show Vc _ _ [(0, ⟨0, 0, .c Z10 a0⟩), (1, ⟨0, 0, .c (.pure (.int .i64)) a1⟩)] _
  have hb : List.length a0 ≤ bigLen := hwf.1.1
  refine Vc.seq ?_
  refine Vc.region hG rfl ?_ ?_
  · trivial
  refine Vc.seq ?_
  refine Vc.seq ?_
  refine Vc.region hG rfl ?_ ?_
  · trivial
  refine Vc.block ?_
  -- slots [5]; frame [0, 1]
  refine Vc.loopF [(5, false, .pure (.int .i64))] [0, 1] (fun v => fInv (fun x => x.1 == a1) a0 v.1) (fun v => ((List.length a0 : Int) - v.1).toNat) rfl ?_ ?_
  · exact fStart
  rintro ⟨(i : Int), _⟩ hI
  have hI : fInv (fun x => x.1 == a1) a0 i := hI
  refine Vc.seq ?_
  refine Vc.seq ?_
  refine Vc.region hG rfl ?_ ?_
  · trivial
  refine Vc.cond rfl (fun h0 => ?_) (fun h0 => ?_)
  · skip
    have hl : i < (List.length a0 : Int) := of_decide_eq_true h0
    refine Vc.skip ?_
    refine Vc.seq ?_
    refine Vc.block ?_
    refine Vc.seq ?_
    refine Vc.region hG rfl ?_ ?_
    · exact fRange hI hl
    refine Vc.cond rfl (fun h1 => ?_) (fun h1 => ?_)
    · skip
      have g1 : (fun x => x.1 == a1) (List.getD a0 i.toNat (dflt Y7)) = true := h1
      refine Vc.seq ?_
      refine Vc.region hG rfl ?_ ?_
      · trivial
      refine Vc.ret ?_
      refine ⟨?_, trivial⟩
      exact fHit hI hl g1
    · skip
      have g1 : (fun x => x.1 == a1) (List.getD a0 i.toNat (dflt Y7)) = false := h1
      refine Vc.skip ?_
      refine Vc.region hG rfl ?_ ?_
      · trivial
      refine ⟨rfl, ?_⟩
      exact fStep hI hl hb g1
  · skip
    have hl : ¬ i < (List.length a0 : Int) := of_decide_eq_false h0
    refine Vc.exit ?_
    refine Vc.seq ?_
    refine Vc.region hG rfl ?_ ?_
    · trivial
    refine Vc.ret ?_
    refine ⟨?_, trivial⟩
    exact fEnd hI hl
noncomputable def F195 : Fun := ⟨[.pair (.int .i64) Y6], [.own (.pure (.int .i64))], fun _ => True, fun x => (stampIntsF x.1, ())⟩
set_option maxRecDepth 100000 in
/-- loop.example.g00597.spec.StampInts -/
theorem F195_ok : Meets Try.prog 195 F195 := by
  refine meets_of_vc (C := mkC 12 [2] [0,1,2] []) (mkC_ok _ _ _ _) (fnOf_ok _) Try.func195 rfl rfl rfl (by decide) rfl ?_
  rintro ⟨a0, _⟩ hwf hpre ⟨P, C, B, X, w0, M0, pv⟩ hG rfl rfl
  show Vc _ _ [(0, ⟨0, 0, .c Z8 a0⟩)] _
  refine Vc.seq ?_
  refine Vc.region hG rfl ?_ ?_
  · trivial
  refine Vc.seq ?_
  refine Vc.region hG rfl ?_ ?_
  · trivial
  refine Vc.ret ?_
  refine ⟨?_, trivial⟩
  all_goals exact rfl
noncomputable def F201 : Fun := ⟨[.int .i64, .int .i64], [.pure (.int .i64)], fun _ => True, fun x => (modF x.1 x.2.1, ())⟩
set_option maxRecDepth 100000 in
/-- loop.example.g00597.spec.Mod -/
theorem F201_ok : Meets Try.prog 201 F201 := by
  refine meets_of_vc (C := mkC 15 [4] [0,1,4,7] [⟨170, _, F170_ok⟩]) (mkC_ok _ _ _ _) (fnOf_ok _) Try.func201 rfl rfl rfl (by decide) rfl ?_
  rintro ⟨(a0 : Int), (a1 : Int), _⟩ hwf hpre ⟨P, C, B, X, w0, M0, pv⟩ hG rfl rfl
  show Vc _ _ [(0, ⟨0, 0, .c (.pure (.int .i64)) a0⟩), (1, ⟨0, 0, .c (.pure (.int .i64)) a1⟩)] _
  refine Vc.seq ?_
  refine Vc.region hG rfl ?_ ?_
  · trivial
  refine Vc.seq ?_
  refine Vc.seq ?_
  refine Vc.region hG rfl ?_ ?_
  · trivial
  refine Vc.cond rfl (fun h0 => ?_) (fun h0 => ?_)
  · skip
    have g0 : (!(inRangeF a1 1 1000000000000)) = true := h0
    refine Vc.seq ?_
    refine Vc.region hG rfl ?_ ?_
    · trivial
    refine Vc.ret ?_
    refine ⟨?_, trivial⟩
    show (0 : Int) = modF a0 a1
    unfold modF
    rw [if_neg (by simpa using g0)]
  · skip
    have g0 : (!(inRangeF a1 1 1000000000000)) = false := h0
    refine Vc.skip ?_
    refine Vc.seq ?_
    refine Vc.region hG rfl ?_ ?_
    · exact ⟨inR_pos h0, inR_pos h0⟩
    refine Vc.ret ?_
    refine ⟨?_, trivial⟩
    show _ = modF a0 a1
    unfold modF
    rw [if_pos (by simpa using g0)]
noncomputable def F187 : Fun := ⟨[.slice (.int .i64)], [.pure (.int .i64)], fun _ => True, fun x => (hashF x.1, ())⟩
set_option maxRecDepth 100000 in
/-- loop.example.g00597.spec.Hash -/
theorem F187_ok : Meets Try.prog 187 F187 := by
  refine meets_of_vc (C := mkC 22 [2] [0,2,3,4,8] [⟨201, _, F201_ok⟩]) (mkC_ok _ _ _ _) (fnOf_ok _) Try.func187 rfl rfl rfl (by decide) rfl ?_
  rintro ⟨a0, _⟩ hwf hpre ⟨P, C, B, X, w0, M0, pv⟩ hG rfl rfl
  show Vc _ _ [(0, ⟨0, 0, .c Z0 a0⟩)] _
  have hb : List.length a0 ≤ bigLen := hwf.1.1
  refine Vc.seq ?_
  refine Vc.region hG rfl ?_ ?_
  · trivial
  refine Vc.seq ?_
  refine Vc.region hG rfl ?_ ?_
  · trivial
  refine Vc.seq ?_
  refine Vc.seq ?_
  refine Vc.region hG rfl ?_ ?_
  · trivial
  refine Vc.block ?_
  -- slots [3, 4]; frame [0, 2]
  refine Vc.loopF [(3, false, .pure (.int .i64)), (4, false, .pure (.int .i64))] [0, 2] (fun v => foInv (hstep) (11) a0 v.1 v.2.1) (fun v => ((List.length a0 : Int) - v.2.1).toNat) rfl ?_ ?_
  · exact foStart
  rintro ⟨acc, (i : Int), _⟩ hI
  have hI : foInv (hstep) (11) a0 acc i := hI
  refine Vc.seq ?_
  refine Vc.seq ?_
  refine Vc.region hG rfl ?_ ?_
  · trivial
  refine Vc.cond rfl (fun h0 => ?_) (fun h0 => ?_)
  · skip
    have hl : i < (List.length a0 : Int) := of_decide_eq_true h0
    refine Vc.skip ?_
    refine Vc.seq ?_
    refine Vc.block ?_
    refine Vc.region hG rfl ?_ ?_
    · exact ⟨foRange hI hl, trivial, (show (2147483647 : Int) ≠ 0 by decide)⟩
    refine Vc.region hG rfl ?_ ?_
    · trivial
    refine ⟨rfl, ?_⟩
    exact foStep hI hl hb
  · skip
    have hl : ¬ i < (List.length a0 : Int) := of_decide_eq_false h0
    refine Vc.exit ?_
    refine Vc.seq ?_
    refine Vc.region hG rfl ?_ ?_
    · trivial
    refine Vc.ret ?_
    refine ⟨?_, trivial⟩
    exact foEnd hI hl
noncomputable def F205 : Fun := ⟨[.int .i64, .slice (.int .i64)], [.pure (.int .i64)], fun x => (fun (_ : Int) (l : List Int) => l.length ≤ 1000000001) x.1 x.2.1, fun x => (keyedF x.1 x.2.1, ())⟩
set_option maxRecDepth 100000 in
/-- loop.example.g00597.spec.KeyedHash -/
theorem F205_ok : Meets Try.prog 205 F205 := by
  refine meets_of_vc (C := mkC 13 [4] [0,1,4] [⟨187, _, F187_ok⟩]) (mkC_ok _ _ _ _) (fnOf_ok _) Try.func205 rfl rfl rfl (by decide) rfl ?_
  rintro ⟨(a0 : Int), a1, _⟩ hwf hpre ⟨P, C, B, X, w0, M0, pv⟩ hG rfl rfl
  show Vc _ _ [(0, ⟨0, 0, .c (.pure (.int .i64)) a0⟩), (1, ⟨0, 0, .c Z0 a1⟩)] _
  have hp : List.length a1 ≤ 1000000001 := hpre
  refine Vc.seq ?_
  refine Vc.region hG rfl ?_ ?_
  · trivial
  refine Vc.seq ?_
  refine Vc.region hG rfl ?_ ?_
  · refine ⟨?_, ?_, trivial⟩
    · show 1 + List.length a1 ≤ maxApp
      unfold maxApp; omega
    · show (List.length a1 + 1) + 1 ≤ maxApp
      unfold maxApp; omega
  refine Vc.ret ?_
  refine ⟨?_, trivial⟩
  all_goals exact rfl
noncomputable def F194 : Fun := ⟨[.pair (.int .i64) Y6, .slice (.int .i64)], [.pure (.int .i64)], fun x => (fun (_ : Key) (l : List Int) => smallL l) x.1 x.2.1, fun x => (markWithF x.1 x.2.1, ())⟩
set_option maxRecDepth 100000 in
/-- loop.example.g00597.spec.MarkWith -/
theorem F194_ok : Meets Try.prog 194 F194 := by
  refine meets_of_vc (C := mkC 13 [4] [0,1,2,4] [⟨205, _, F205_ok⟩]) (mkC_ok _ _ _ _) (fnOf_ok _) Try.func194 rfl rfl rfl (by decide) rfl ?_
  rintro ⟨a0, a1, _⟩ hwf hpre ⟨P, C, B, X, w0, M0, pv⟩ hG rfl rfl
  show Vc _ _ [(0, ⟨0, 0, .c Z8 a0⟩), (1, ⟨0, 0, .c Z0 a1⟩)] _
  have hp : List.length a1 ≤ 1000000000 := hpre
  refine Vc.seq ?_
  refine Vc.region hG rfl ?_ ?_
  · trivial
  refine Vc.seq ?_
  refine Vc.regionD mixed hG rfl (by kernel_rfl) ?_ ?_
  · refine ⟨?_, ?_⟩
    · show 1 + List.length a1 ≤ maxApp
      unfold maxApp; omega
    · show List.length a1 + 1 ≤ 1000000001
      omega
  refine Vc.ret ?_
  refine ⟨?_, trivial⟩
  all_goals exact rfl
noncomputable def F179 : Fun := ⟨[.slice Y7, .slice Y2, .pair (.int .i64) Y6], [.pure Y7, .pure (.bool)], fun _ => True, fun x => ((makeStampF x.1 x.2.1 x.2.2.1).1, (makeStampF x.1 x.2.1 x.2.2.1).2, ())⟩
set_option maxRecDepth 100000 in
/-- loop.example.g00597.spec.MakeStamp -/
theorem F179_ok : Meets Try.prog 179 F179 := by
  refine meets_of_vc (C := mkC 47 [6, 7] [0,1,2,5,6,7,8,9,26,36] [⟨191, _, F191_ok⟩, ⟨192, _, F192_ok⟩, ⟨193, _, F193_ok⟩, ⟨195, _, F195_ok⟩, ⟨194, _, F194_ok⟩]) (mkC_ok _ _ _ _) (fnOf_ok _) Try.func179 rfl rfl rfl (by decide) rfl ?_
  rintro ⟨a0, a1, a2, _⟩ hwf hpre ⟨P, C, B, X, w0, M0, pv⟩ hG rfl rfl
  show Vc _ _ [(0, ⟨0, 0, .c Z10 a0⟩), (1, ⟨0, 0, .c Z5 a1⟩), (2, ⟨0, 0, .c Z8 a2⟩)] _
  refine Vc.seq ?_
  refine Vc.region hG rfl ?_ ?_
  · trivial
  refine Vc.seq ?_
  refine Vc.region hG rfl ?_ ?_
  · trivial
  refine Vc.seq ?_
  refine Vc.seq ?_
  refine Vc.region hG rfl ?_ ?_
  · intro _; exact trivial
  refine Vc.cond rfl (fun h0 => ?_) (fun h0 => ?_)
  · skip
    have g0 : stampBad a1 a2 = true := h0
    refine Vc.seq ?_
    refine Vc.region hG rfl ?_ ?_
    · trivial
    refine Vc.ret ?_
    have e := ms_1 (keys := a0) g0
    refine ⟨?_, ?_, trivial⟩
    · exact (congrArg Prod.fst e).symm
    · exact (congrArg Prod.snd e).symm
  · skip
    have g0 : stampBad a1 a2 = false := h0
    refine Vc.skip ?_
    refine Vc.seq ?_
    refine Vc.region hG rfl ?_ ?_
    · exact ⟨bad_idx g0, trivial⟩
    refine Vc.seq ?_
    refine Vc.seq ?_
    refine Vc.region hG rfl ?_ ?_
    · trivial
    refine Vc.cond rfl (fun h1 => ?_) (fun h1 => ?_)
    · skip
      have g1 : keyI a0 (authAt a1 a2.1).2.1 < 0 := of_decide_eq_true h1
      refine Vc.seq ?_
      refine Vc.region hG rfl ?_ ?_
      · trivial
      refine Vc.ret ?_
      have e := ms_2 (keys := a0) g0 g1
      refine ⟨?_, ?_, trivial⟩
      · exact (congrArg Prod.fst e).symm
      · exact (congrArg Prod.snd e).symm
    · skip
      have g1 : ¬ keyI a0 (authAt a1 a2.1).2.1 < 0 := of_decide_eq_false h1
      refine Vc.skip ?_
      refine Vc.seq ?_
      refine Vc.regionD mixed hG rfl (by kernel_rfl) ?_ ?_
      · exact ⟨findRange g1, trivial, smallLit (n := 5) rfl (by decide)⟩
      refine Vc.seq ?_
      refine Vc.region hG rfl ?_ ?_
      · trivial
      refine Vc.ret ?_
      have e := ms_3 (keys := a0) g0 g1
      refine ⟨?_, ?_, trivial⟩
      · exact (congrArg Prod.fst e).symm
      · exact (congrArg Prod.snd e).symm
noncomputable def F157 : Fun := ⟨[.slice Y7, .slice Y2, .pair (.int .i64) Y6], [.pure (.bool)], fun _ => True, fun x => (checkStampF x.1 x.2.1 x.2.2.1, ())⟩
set_option maxRecDepth 100000 in
/-- loop.example.g00597.spec.CheckStamp -/
theorem F157_ok : Meets Try.prog 157 F157 := by
  refine meets_of_vc (C := mkC 22 [6] [0,1,2,5,6,7,8] [⟨179, _, F179_ok⟩]) (mkC_ok _ _ _ _) (fnOf_ok _) Try.func157 rfl rfl rfl (by decide) rfl ?_
  rintro ⟨a0, a1, a2, _⟩ hwf hpre ⟨P, C, B, X, w0, M0, pv⟩ hG rfl rfl
  show Vc _ _ [(0, ⟨0, 0, .c Z10 a0⟩), (1, ⟨0, 0, .c Z5 a1⟩), (2, ⟨0, 0, .c Z8 a2⟩)] _
  refine Vc.seq ?_
  refine Vc.region hG rfl ?_ ?_
  · trivial
  refine Vc.seq ?_
  refine Vc.region hG rfl ?_ ?_
  · trivial
  refine Vc.seq ?_
  refine Vc.region hG rfl ?_ ?_
  · trivial
  refine Vc.ret ?_
  refine ⟨?_, trivial⟩
  all_goals exact rfl
noncomputable def F116 : Fun := ⟨[.slice Y7, .slice Y2, .pair (.int .i64) Y6, .pair (.int .i64) Y6], [.pure (.bool)], fun _ => True, fun x => (contraryF x.1 x.2.1 x.2.2.1 x.2.2.2.1, ())⟩
set_option maxRecDepth 100000 in
/-- loop.example.g00597.spec.AreContrary -/
theorem F116_ok : Meets Try.prog 116 F116 := by
  refine meets_of_vc (C := mkC 66 [8] [0,1,2,3,6,7,8,27] [⟨157, _, F157_ok⟩]) (mkC_ok _ _ _ _) (fnOf_ok _) Try.func116 rfl rfl rfl (by decide) rfl ?_
  rintro ⟨a0, a1, a2, a3, _⟩ hwf hpre ⟨P, C, B, X, w0, M0, pv⟩ hG rfl rfl
  show Vc _ _ [(0, ⟨0, 0, .c Z10 a0⟩), (1, ⟨0, 0, .c Z5 a1⟩), (2, ⟨0, 0, .c Z8 a2⟩), (3, ⟨0, 0, .c Z8 a3⟩)] _
  refine Vc.seq ?_
  refine Vc.region hG rfl ?_ ?_
  · trivial
  refine Vc.seq ?_
  refine Vc.seq ?_
  refine Vc.region hG rfl ?_ ?_
  · repeat' (first | exact trivial | refine And.intro ?_ ?_ | intro _)
  refine Vc.cond rfl (fun h0 => ?_) (fun h0 => ?_)
  · skip
    refine Vc.seq ?_
    refine Vc.region hG rfl ?_ ?_
    · trivial
    refine Vc.ret ?_
    refine ⟨?_, trivial⟩
    exact con_s1 h0
  · skip
    refine Vc.skip ?_
    refine Vc.seq ?_
    refine Vc.region hG rfl ?_ ?_
    · trivial
    refine Vc.ret ?_
    refine ⟨?_, trivial⟩
    exact con_s2 h0
noncomputable def F49 : Fun := ⟨[.slice Y7, .slice Y2, .slice Y7], [.own (.pure (.int .i64))], fun _ => True, fun x => (liarsF x.1 x.2.1 x.2.2.1, ())⟩
set_option maxRecDepth 100000 in
/-- loop.example.g00597.spec.LiarsIn -/
theorem F49_ok : Meets Try.prog 49 F49 := by
  refine meets_of_vc (C := mkC 57 [6] [0,1,2,6,7,8,9,10,11,14,20,34,51] [⟨116, _, F116_ok⟩]) (mkC_ok _ _ _ _) (fnOf_ok _) Try.func49 rfl rfl rfl (by decide) rfl ?_
  rintro ⟨a0, a1, a2, _⟩ hwf hpre ⟨P, C, B, X, w0, M0, pv⟩ hG rfl rfl
  show Vc _ _ [(0, ⟨0, 0, .c Z10 a0⟩), (1, ⟨0, 0, .c Z5 a1⟩), (2, ⟨0, 0, .c Z10 a2⟩)] _
  have hb : List.length a2 ≤ bigLen := hwf.2.2.1.1
  refine Vc.seq ?_
  refine Vc.region hG rfl ?_ ?_
  · trivial
  refine Vc.seq ?_
  refine Vc.region hG rfl ?_ ?_
  · trivial
  refine Vc.seq ?_
  refine Vc.seq ?_
  refine Vc.region hG rfl ?_ ?_
  · trivial
  refine Vc.block ?_
  -- slots [7, 8]; frame [0, 1, 2, 6]
  refine Vc.loopF [(7, false, .own (.pure (.int .i64))), (8, false, .pure (.int .i64))] [0, 1, 2, 6] (fun v => lpInv (contraryF a0 a1) a2 v.1 v.2.1) (fun v => ((100 : Int) - v.2.1).toNat) rfl ?_ ?_
  · exact lpStart
  rintro ⟨acc, (id : Int), _⟩ hP
  have hP : lpInv (contraryF a0 a1) a2 acc id := hP
  refine Vc.seq ?_
  refine Vc.seq ?_
  refine Vc.region hG rfl ?_ ?_
  · trivial
  refine Vc.cond rfl (fun h0 => ?_) (fun h0 => ?_)
  · skip
    have h99 : id ≤ 99 := of_decide_eq_true h0
    refine Vc.skip ?_
    refine Vc.seq ?_
    refine Vc.block ?_
    refine Vc.seq ?_
    refine Vc.region hG rfl ?_ ?_
    · trivial
    refine Vc.seq ?_
    refine Vc.seq ?_
    refine Vc.region hG rfl ?_ ?_
    · trivial
    refine Vc.block ?_
    -- slots [9, 10]; frame [0, 1, 2, 6, 7, 8, 14, 51]
    refine Vc.loopF [(9, false, .pure (.bool)), (10, false, .pure (.int .i64))] [0, 1, 2, 6, 7, 8, 14, 51] (fun v => lmInv (contraryF a0 a1) a2 id v.1 v.2.1) (fun v => ((List.length a2 : Int) - v.2.1).toNat) rfl ?_ ?_
    · exact lmStart
    rintro ⟨b, (i : Int), _⟩ hM
    have hM : lmInv (contraryF a0 a1) a2 id b i := hM
    refine Vc.seq ?_
    refine Vc.seq ?_
    refine Vc.region hG rfl ?_ ?_
    · trivial
    refine Vc.cond rfl (fun h1 => ?_) (fun h1 => ?_)
    · skip
      have hl : i < (List.length a2 : Int) := of_decide_eq_true h1
      have hr := upRange hM.1 hl
      have hin : (i.toNat : Int) = i := by have := hr.1; omega
      have hi9 : (i.toNat : Int) ≤ 9223372036854775806 := by have := hr.2; unfold bigLen at hb; omega
      refine Vc.skip ?_
      refine Vc.seq ?_
      refine Vc.block ?_
      refine Vc.seq ?_
      refine Vc.region hG rfl ?_ ?_
      · trivial
      refine Vc.block ?_
      -- slots [9, 11]; frame [0, 1, 2, 6, 7, 8, 10, 14, 20, 51]
      refine Vc.loopF [(9, false, .pure (.bool)), (11, false, .pure (.int .i64))] [0, 1, 2, 6, 7, 8, 10, 14, 20, 51] (fun v => liInvS (contraryF a0 a1) a2 id i.toNat b v.1 v.2.1) (fun v => ((i.toNat : Int) - v.2.1).toNat) rfl ?_ ?_
      · exact liStartS
      rintro ⟨c, (k : Int), _⟩ hK
      have hK : liInvS (contraryF a0 a1) a2 id i.toNat b c k := hK
      refine Vc.seq ?_
      refine Vc.seq ?_
      refine Vc.region hG rfl ?_ ?_
      · exact fun _ => hr
      refine Vc.cond rfl (fun h2 => ?_) (fun h2 => ?_)
      · skip
        have g2 : pick2 (decide (k < (i.toNat : Int))) ((stAt a2 i.toNat).1 == id) false = true := by rw [hin]; exact h2
        have hk := of_decide_eq_true (andT g2).1
        have hrk : inRange k (List.length a2) := ⟨hK.1, by have := hr.2; omega⟩
        refine Vc.skip ?_
        refine Vc.seq ?_
        refine Vc.block ?_
        refine Vc.regionD mixed hG rfl (by kernel_rfl) ?_ ?_
        · exact ⟨fun _ => hr, fun _ => hrk, fun _ => trivial⟩
        refine Vc.region hG rfl ?_ ?_
        · trivial
        refine ⟨rfl, ?_⟩
        exact liNextS hK hi9 hk (andT g2).2 rfl
      · skip
        have g2 : pick2 (decide (k < (i.toNat : Int))) ((stAt a2 i.toNat).1 == id) false = false := by rw [hin]; exact h2
        refine Vc.exit ?_
        refine Vc.region hG rfl ?_ ?_
        · trivial
        refine ⟨rfl, ?_⟩
        exact lmNext hM hl hb hK g2
    · skip
      have hl : ¬ i < (List.length a2 : Int) := of_decide_eq_false h1
      refine Vc.exit ?_
      refine Vc.seq ?_
      refine Vc.region hG rfl ?_ ?_
      · trivial
      refine Vc.cond rfl (fun h3 => ?_) (fun h3 => ?_)
      · skip
        have hM1 : lmInv (contraryF a0 a1) a2 id true i := by have q : b = true := h3; rw [← q]; exact hM
        refine Vc.region hG rfl ?_ ?_
        · exact lpLen hP
        refine Vc.region hG rfl ?_ ?_
        · trivial
        refine ⟨rfl, ?_⟩
        first
          | exact lpYes hP h99 hM1 hl
          | exact lpNo hP h99 hM1 hl
      · skip
        have hM1 : lmInv (contraryF a0 a1) a2 id false i := by have q : b = false := h3; rw [← q]; exact hM
        refine Vc.skip ?_
        refine Vc.region hG rfl ?_ ?_
        · trivial
        refine ⟨rfl, ?_⟩
        first
          | exact lpYes hP h99 hM1 hl
          | exact lpNo hP h99 hM1 hl
  · skip
    have h99 : ¬ id ≤ 99 := of_decide_eq_false h0
    refine Vc.exit ?_
    refine Vc.seq ?_
    refine Vc.region hG rfl ?_ ?_
    · trivial
    refine Vc.ret ?_
    refine ⟨?_, trivial⟩
    exact lpEnd hP h99
end Fw
