/- Walks of functions of the program: what each computes. Conditions: those that each contract names. -/
import Derived.Test.YtlfmjohahkeejaaW18T
namespace Fw
open Go Go.Proofs
set_option linter.unusedSimpArgs false
noncomputable def F120 : Fun := ⟨[.int .i64, .int .i64, .int .i64], [.pure (.bool)], fun _ => True, fun x => (inRangeF x.1 x.2.1 x.2.2.1, ())⟩
set_option maxRecDepth 100000 in
/-- loop.example.g00597.impl.InRange -/
theorem F120_ok : Meets Try.prog 120 F120 := by
  refine meets_of_vc (C := mkC 15 [6] [0,1,2,6] []) (mkC_ok _ _ _ _) (fnOf_ok _) Try.func120 rfl rfl rfl (by decide) rfl ?_
  rintro ⟨(a0 : Int), (a1 : Int), (a2 : Int), _⟩ hwf hpre ⟨P, C, B, X, w0, M0, pv⟩ hG rfl rfl
  show Vc _ _ [(0, ⟨0, 0, .c (.pure (.int .i64)) a0⟩), (1, ⟨0, 0, .c (.pure (.int .i64)) a1⟩), (2, ⟨0, 0, .c (.pure (.int .i64)) a2⟩)] _
  refine Vc.seq ?_
  refine Vc.region hG rfl ?_ ?_
  · trivial
  refine Vc.seq ?_
  refine Vc.region hG rfl ?_ ?_
  · trivial
  refine Vc.ret ?_
  refine ⟨?_, trivial⟩
  all_goals exact rfl
noncomputable def F196 : Fun := ⟨[.slice Y2, .int .i64], [.pure (.int .i64)], fun _ => True, fun x => ((fun a0 a1 => findI (fun x => x.1 == a1) a0) x.1 x.2.1, ())⟩
set_option maxRecDepth 100000 in
/-- loop.example.g00597.impl.FindAuthority -/
theorem F196_ok : Meets Try.prog 196 F196 := by
  refine meets_of_vc (C := mkC 20 [4] [0,1,4,5,6,7,8,9,10,17] []) (mkC_ok _ _ _ _) (fnOf_ok _) Try.func196 rfl rfl rfl (by decide) rfl ?_
  rintro ⟨a0, (a1 : Int), _⟩ hwf hpre ⟨P, C, B, X, w0, M0, pv⟩ hG rfl rfl
  show Vc _ _ [(0, ⟨0, 0, .c Z5 a0⟩), (1, ⟨0, 0, .c (.pure (.int .i64)) a1⟩)] _
  have hb : List.length a0 ≤ bigLen := hwf.1.1
  refine Vc.seq ?_
  refine Vc.region hG rfl ?_ ?_
  · trivial
  refine Vc.seq ?_
  refine Vc.seq ?_
  refine Vc.region hG rfl ?_ ?_
  · trivial
  refine Vc.block ?_
  -- slots [9]; frame [0, 1, 7, 8]
  refine Vc.loopF [(9, false, .pure (.int .i64))] [0, 1, 7, 8] (fun v => fInv (fun x => x.1 == a1) a0 v.1) (fun v => ((List.length a0 : Int) - v.1).toNat) rfl ?_ ?_
  · exact fStart
  rintro ⟨(i : Int), _⟩ hI
  have hI : fInv (fun x => x.1 == a1) a0 i := hI
  refine Vc.seq ?_
  refine Vc.region hG rfl ?_ ?_
  · trivial
  refine Vc.seq ?_
  refine Vc.cond rfl (fun h0 => ?_) (fun h0 => ?_)
  · skip
    have hl : i < (List.length a0 : Int) := of_decide_eq_true h0
    refine Vc.skip ?_
    refine Vc.seq ?_
    refine Vc.block ?_
    refine Vc.seq ?_
    refine Vc.region hG rfl ?_ ?_
    · exact fRange hI hl
    refine Vc.seq ?_
    refine Vc.region hG rfl ?_ ?_
    · trivial
    refine Vc.cond rfl (fun h1 => ?_) (fun h1 => ?_)
    · skip
      have g1 : (fun x => x.1 == a1) (List.getD a0 i.toNat (dflt Y2)) = true := h1
      refine Vc.seq ?_
      refine Vc.region hG rfl ?_ ?_
      · trivial
      refine Vc.ret ?_
      refine ⟨?_, trivial⟩
      exact fHit hI hl g1
    · skip
      have g1 : (fun x => x.1 == a1) (List.getD a0 i.toNat (dflt Y2)) = false := h1
      refine Vc.skip ?_
      refine Vc.region hG rfl ?_ ?_
      · trivial
      refine ⟨rfl, ?_⟩
      exact fStep hI hl hb g1
  · skip
    have hl : ¬ i < (List.length a0 : Int) := of_decide_eq_false h0
    refine Vc.exit ?_
    refine Vc.seq ?_
    refine Vc.region hG rfl ?_ ?_
    · trivial
    refine Vc.ret ?_
    refine ⟨?_, trivial⟩
    exact fEnd hI hl
noncomputable def F182 : Fun := ⟨[.int .i64], [.pure (.bool)], fun _ => True, fun x => (isTimeF x.1, ())⟩
set_option maxRecDepth 100000 in
/-- loop.example.g00597.impl.isTime -/
theorem F182_ok : Meets Try.prog 182 F182 := by
  refine meets_of_vc (C := mkC 5 [2] [0,2] [⟨120, _, F120_ok⟩]) (mkC_ok _ _ _ _) (fnOf_ok _) Try.func182 rfl rfl rfl (by decide) rfl ?_
  rintro ⟨(a0 : Int), _⟩ hwf hpre ⟨P, C, B, X, w0, M0, pv⟩ hG rfl rfl
  show Vc _ _ [(0, ⟨0, 0, .c (.pure (.int .i64)) a0⟩)] _
  refine Vc.seq ?_
  refine Vc.region hG rfl ?_ ?_
  · trivial
  refine Vc.seq ?_
  refine Vc.region hG rfl ?_ ?_
  · trivial
  refine Vc.ret ?_
  refine ⟨?_, trivial⟩
  all_goals exact rfl
noncomputable def F198 : Fun := ⟨[.pair (.int .i64) Y6], [.own (.pure (.int .i64))], fun _ => True, fun x => (stampIntsF x.1, ())⟩
set_option maxRecDepth 100000 in
/-- loop.example.g00597.impl.StampInts -/
theorem F198_ok : Meets Try.prog 198 F198 := by
  refine meets_of_vc (C := mkC 12 [2] [0,1,2] []) (mkC_ok _ _ _ _) (fnOf_ok _) Try.func198 rfl rfl rfl (by decide) rfl ?_
  rintro ⟨a0, _⟩ hwf hpre ⟨P, C, B, X, w0, M0, pv⟩ hG rfl rfl
  show Vc _ _ [(0, ⟨0, 0, .c Z8 a0⟩)] _
  refine Vc.seq ?_
  refine Vc.region hG rfl ?_ ?_
  · trivial
  refine Vc.seq ?_
  refine Vc.region hG rfl ?_ ?_
  · trivial
  refine Vc.ret ?_
  refine ⟨?_, trivial⟩
  all_goals exact rfl
noncomputable def F206 : Fun := ⟨[.slice Y7, .int .i64], [.pure (.int .i64)], fun _ => True, fun x => ((fun a0 a1 => findI (fun x => x.1 == a1) a0) x.1 x.2.1, ())⟩
set_option maxRecDepth 100000 in
/-- loop.example.g00597.impl.FindKey -/
theorem F206_ok : Meets Try.prog 206 F206 := by
  refine meets_of_vc (C := mkC 20 [4] [0,1,4,5,6,7,8,9,10,17] []) (mkC_ok _ _ _ _) (fnOf_ok _) Try.func206 rfl rfl rfl (by decide) rfl ?_
  rintro ⟨a0, (a1 : Int), _⟩ hwf hpre ⟨P, C, B, X, w0, M0, pv⟩ hG rfl rfl
  show Vc _ _ [(0, ⟨0, 0, .c Z10 a0⟩), (1, ⟨0, 0, .c (.pure (.int .i64)) a1⟩)] _
  have hb : List.length a0 ≤ bigLen := hwf.1.1
  refine Vc.seq ?_
  refine Vc.region hG rfl ?_ ?_
  · trivial
  refine Vc.seq ?_
  refine Vc.seq ?_
  refine Vc.region hG rfl ?_ ?_
  · trivial
  refine Vc.block ?_
  -- slots [9]; frame [0, 1, 7, 8]
  refine Vc.loopF [(9, false, .pure (.int .i64))] [0, 1, 7, 8] (fun v => fInv (fun x => x.1 == a1) a0 v.1) (fun v => ((List.length a0 : Int) - v.1).toNat) rfl ?_ ?_
  · exact fStart
  rintro ⟨(i : Int), _⟩ hI
  have hI : fInv (fun x => x.1 == a1) a0 i := hI
  refine Vc.seq ?_
  refine Vc.region hG rfl ?_ ?_
  · trivial
  refine Vc.seq ?_
  refine Vc.cond rfl (fun h0 => ?_) (fun h0 => ?_)
  · skip
    have hl : i < (List.length a0 : Int) := of_decide_eq_true h0
    refine Vc.skip ?_
    refine Vc.seq ?_
    refine Vc.block ?_
    refine Vc.seq ?_
    refine Vc.region hG rfl ?_ ?_
    · exact fRange hI hl
    refine Vc.seq ?_
    refine Vc.region hG rfl ?_ ?_
    · trivial
    refine Vc.cond rfl (fun h1 => ?_) (fun h1 => ?_)
    · skip
      have g1 : (fun x => x.1 == a1) (List.getD a0 i.toNat (dflt Y7)) = true := h1
      refine Vc.seq ?_
      refine Vc.region hG rfl ?_ ?_
      · trivial
      refine Vc.ret ?_
      refine ⟨?_, trivial⟩
      exact fHit hI hl g1
    · skip
      have g1 : (fun x => x.1 == a1) (List.getD a0 i.toNat (dflt Y7)) = false := h1
      refine Vc.skip ?_
      refine Vc.region hG rfl ?_ ?_
      · trivial
      refine ⟨rfl, ?_⟩
      exact fStep hI hl hb g1
  · skip
    have hl : ¬ i < (List.length a0 : Int) := of_decide_eq_false h0
    refine Vc.exit ?_
    refine Vc.seq ?_
    refine Vc.region hG rfl ?_ ?_
    · trivial
    refine Vc.ret ?_
    refine ⟨?_, trivial⟩
    exact fEnd hI hl
noncomputable def F203 : Fun := ⟨[.int .i64, .int .i64], [.pure (.int .i64)], fun _ => True, fun x => (modF x.1 x.2.1, ())⟩
set_option maxRecDepth 100000 in
/-- loop.example.g00597.impl.Mod -/
theorem F203_ok : Meets Try.prog 203 F203 := by
  refine meets_of_vc (C := mkC 15 [4] [0,1,4,7] [⟨120, _, F120_ok⟩]) (mkC_ok _ _ _ _) (fnOf_ok _) Try.func203 rfl rfl rfl (by decide) rfl ?_
  rintro ⟨(a0 : Int), (a1 : Int), _⟩ hwf hpre ⟨P, C, B, X, w0, M0, pv⟩ hG rfl rfl
  show Vc _ _ [(0, ⟨0, 0, .c (.pure (.int .i64)) a0⟩), (1, ⟨0, 0, .c (.pure (.int .i64)) a1⟩)] _
  refine Vc.seq ?_
  refine Vc.region hG rfl ?_ ?_
  · trivial
  refine Vc.seq ?_
  refine Vc.seq ?_
  refine Vc.region hG rfl ?_ ?_
  · trivial
  refine Vc.cond rfl (fun h0 => ?_) (fun h0 => ?_)
  · skip
    have g0 : (!(inRangeF a1 1 1000000000000)) = true := h0
    refine Vc.seq ?_
    refine Vc.region hG rfl ?_ ?_
    · trivial
    refine Vc.ret ?_
    refine ⟨?_, trivial⟩
    show (0 : Int) = modF a0 a1
    unfold modF
    rw [if_neg (by simpa using g0)]
  · skip
    have g0 : (!(inRangeF a1 1 1000000000000)) = false := h0
    refine Vc.skip ?_
    refine Vc.seq ?_
    refine Vc.region hG rfl ?_ ?_
    · exact ⟨inR_pos h0, inR_pos h0⟩
    refine Vc.ret ?_
    refine ⟨?_, trivial⟩
    show _ = modF a0 a1
    unfold modF
    rw [if_pos (by simpa using g0)]
noncomputable def F189 : Fun := ⟨[.slice (.int .i64)], [.pure (.int .i64)], fun _ => True, fun x => (hashF x.1, ())⟩
set_option maxRecDepth 100000 in
/-- loop.example.g00597.impl.Hash -/
theorem F189_ok : Meets Try.prog 189 F189 := by
  refine meets_of_vc (C := mkC 21 [2] [0,2,3,5,6,7,8,9] [⟨203, _, F203_ok⟩]) (mkC_ok _ _ _ _) (fnOf_ok _) Try.func189 rfl rfl rfl (by decide) rfl ?_
  rintro ⟨a0, _⟩ hwf hpre ⟨P, C, B, X, w0, M0, pv⟩ hG rfl rfl
  show Vc _ _ [(0, ⟨0, 0, .c Z0 a0⟩)] _
  have hb : List.length a0 ≤ bigLen := hwf.1.1
  refine Vc.seq ?_
  refine Vc.region hG rfl ?_ ?_
  · trivial
  refine Vc.seq ?_
  refine Vc.region hG rfl ?_ ?_
  · trivial
  refine Vc.seq ?_
  refine Vc.seq ?_
  refine Vc.region hG rfl ?_ ?_
  · trivial
  refine Vc.block ?_
  -- slots [3, 8]; frame [0, 2, 6, 7]
  refine Vc.loopF [(3, false, .pure (.int .i64)), (8, false, .pure (.int .i64))] [0, 2, 6, 7] (fun v => foInv (hstep) (11) a0 v.1 v.2.1) (fun v => ((List.length a0 : Int) - v.2.1).toNat) rfl ?_ ?_
  · exact foStart
  rintro ⟨acc, (i : Int), _⟩ hI
  have hI : foInv (hstep) (11) a0 acc i := hI
  refine Vc.seq ?_
  refine Vc.region hG rfl ?_ ?_
  · trivial
  refine Vc.seq ?_
  refine Vc.cond rfl (fun h0 => ?_) (fun h0 => ?_)
  · skip
    have hl : i < (List.length a0 : Int) := of_decide_eq_true h0
    refine Vc.skip ?_
    refine Vc.seq ?_
    refine Vc.block ?_
    refine Vc.seq ?_
    refine Vc.region hG rfl ?_ ?_
    · exact foRange hI hl
    refine Vc.region hG rfl ?_ ?_
    · exact ⟨trivial, (show (2147483647 : Int) ≠ 0 by decide)⟩
    refine Vc.region hG rfl ?_ ?_
    · trivial
    refine ⟨rfl, ?_⟩
    exact foStep hI hl hb
  · skip
    have hl : ¬ i < (List.length a0 : Int) := of_decide_eq_false h0
    refine Vc.exit ?_
    refine Vc.seq ?_
    refine Vc.region hG rfl ?_ ?_
    · trivial
    refine Vc.ret ?_
    refine ⟨?_, trivial⟩
    exact foEnd hI hl
noncomputable def F208 : Fun := ⟨[.int .i64, .slice (.int .i64)], [.pure (.int .i64)], fun x => (fun (_ : Int) (l : List Int) => l.length ≤ 1000000001) x.1 x.2.1, fun x => (keyedF x.1 x.2.1, ())⟩
set_option maxRecDepth 100000 in
/-- loop.example.g00597.impl.KeyedHash -/
theorem F208_ok : Meets Try.prog 208 F208 := by
  refine meets_of_vc (C := mkC 13 [4] [0,1,4] [⟨189, _, F189_ok⟩]) (mkC_ok _ _ _ _) (fnOf_ok _) Try.func208 rfl rfl rfl (by decide) rfl ?_
  rintro ⟨(a0 : Int), a1, _⟩ hwf hpre ⟨P, C, B, X, w0, M0, pv⟩ hG rfl rfl
  show Vc _ _ [(0, ⟨0, 0, .c (.pure (.int .i64)) a0⟩), (1, ⟨0, 0, .c Z0 a1⟩)] _
  have hp : List.length a1 ≤ 1000000001 := hpre
  refine Vc.seq ?_
  refine Vc.region hG rfl ?_ ?_
  · trivial
  refine Vc.seq ?_
  refine Vc.region hG rfl ?_ ?_
  · refine ⟨?_, ?_, trivial⟩
    · show 1 + List.length a1 ≤ maxApp
      unfold maxApp; omega
    · show (List.length a1 + 1) + 1 ≤ maxApp
      unfold maxApp; omega
  refine Vc.ret ?_
  refine ⟨?_, trivial⟩
  all_goals exact rfl
noncomputable def F207 : Fun := ⟨[.pair (.int .i64) Y6, .slice (.int .i64)], [.pure (.int .i64)], fun x => (fun (_ : Key) (l : List Int) => smallL l) x.1 x.2.1, fun x => (markWithF x.1 x.2.1, ())⟩
set_option maxRecDepth 100000 in
/-- loop.example.g00597.impl.MarkWith -/
theorem F207_ok : Meets Try.prog 207 F207 := by
  refine meets_of_vc (C := mkC 13 [4] [0,1,2,4] [⟨208, _, F208_ok⟩]) (mkC_ok _ _ _ _) (fnOf_ok _) Try.func207 rfl rfl rfl (by decide) rfl ?_
  rintro ⟨a0, a1, _⟩ hwf hpre ⟨P, C, B, X, w0, M0, pv⟩ hG rfl rfl
  show Vc _ _ [(0, ⟨0, 0, .c Z8 a0⟩), (1, ⟨0, 0, .c Z0 a1⟩)] _
  have hp : List.length a1 ≤ 1000000000 := hpre
  refine Vc.seq ?_
  refine Vc.region hG rfl ?_ ?_
  · trivial
  refine Vc.seq ?_
  refine Vc.regionD mixed hG rfl (by kernel_rfl) ?_ ?_
  · refine ⟨?_, ?_⟩
    · show 1 + List.length a1 ≤ maxApp
      unfold maxApp; omega
    · show List.length a1 + 1 ≤ 1000000001
      omega
  refine Vc.ret ?_
  refine ⟨?_, trivial⟩
  all_goals exact rfl
noncomputable def F197 : Fun := ⟨[.slice Y7, .int .i64, .slice (.int .i64)], [.pure (.int .i64), .pure (.bool)], fun x => (fun (_ : List Key) (_ : Int) (l : List Int) => smallL l) x.1 x.2.1 x.2.2.1, fun x => ((markByF x.1 x.2.1 x.2.2.1).1, (markByF x.1 x.2.1 x.2.2.1).2, ())⟩
set_option maxRecDepth 100000 in
/-- loop.example.g00597.impl.markBy -/
theorem F197_ok : Meets Try.prog 197 F197 := by
  refine meets_of_vc (C := mkC 20 [6, 7] [0,1,2,6,7,8,13] [⟨206, _, F206_ok⟩, ⟨207, _, F207_ok⟩]) (mkC_ok _ _ _ _) (fnOf_ok _) Try.func197 rfl rfl rfl (by decide) rfl ?_
  rintro ⟨a0, (a1 : Int), a2, _⟩ hwf hpre ⟨P, C, B, X, w0, M0, pv⟩ hG rfl rfl
  show Vc _ _ [(0, ⟨0, 0, .c Z10 a0⟩), (1, ⟨0, 0, .c (.pure (.int .i64)) a1⟩), (2, ⟨0, 0, .c Z0 a2⟩)] _
  have hp : smallL a2 := hpre
  refine Vc.seq ?_
  refine Vc.region hG rfl ?_ ?_
  · trivial
  refine Vc.seq ?_
  refine Vc.region hG rfl ?_ ?_
  · trivial
  refine Vc.seq ?_
  refine Vc.seq ?_
  refine Vc.region hG rfl ?_ ?_
  · trivial
  refine Vc.cond rfl (fun h0 => ?_) (fun h0 => ?_)
  · skip
    have g0 : keyI a0 a1 < 0 := of_decide_eq_true h0
    refine Vc.seq ?_
    refine Vc.region hG rfl ?_ ?_
    · trivial
    refine Vc.ret ?_
    have e := markBy_no (l := a2) g0
    refine ⟨?_, ?_, trivial⟩
    · exact (congrArg Prod.fst e).symm
    · exact (congrArg Prod.snd e).symm
  · skip
    have g0 : ¬ keyI a0 a1 < 0 := of_decide_eq_false h0
    refine Vc.skip ?_
    refine Vc.seq ?_
    refine Vc.region hG rfl ?_ ?_
    · exact ⟨findRange g0, hp⟩
    refine Vc.ret ?_
    have e := markBy_yes (l := a2) g0
    refine ⟨?_, ?_, trivial⟩
    · exact (congrArg Prod.fst e).symm
    · exact (congrArg Prod.snd e).symm
noncomputable def F180 : Fun := ⟨[.slice Y7, .slice Y2, .pair (.int .i64) Y6], [.pure Y7, .pure (.bool)], fun _ => True, fun x => ((makeStampF x.1 x.2.1 x.2.2.1).1, (makeStampF x.1 x.2.1 x.2.2.1).2, ())⟩
set_option maxRecDepth 100000 in
/-- loop.example.g00597.impl.MakeStamp -/
theorem F180_ok : Meets Try.prog 180 F180 := by
  refine meets_of_vc (C := mkC 47 [6, 7] [0,1,2,5,6,7,8,9,10,27,42] [⟨196, _, F196_ok⟩, ⟨182, _, F182_ok⟩, ⟨198, _, F198_ok⟩, ⟨197, _, F197_ok⟩]) (mkC_ok _ _ _ _) (fnOf_ok _) Try.func180 rfl rfl rfl (by decide) rfl ?_
  rintro ⟨a0, a1, a2, _⟩ hwf hpre ⟨P, C, B, X, w0, M0, pv⟩ hG rfl rfl
  show Vc _ _ [(0, ⟨0, 0, .c Z10 a0⟩), (1, ⟨0, 0, .c Z5 a1⟩), (2, ⟨0, 0, .c Z8 a2⟩)] _
  refine Vc.seq ?_
  refine Vc.region hG rfl ?_ ?_
  · trivial
  refine Vc.seq ?_
  refine Vc.region hG rfl ?_ ?_
  · trivial
  refine Vc.seq ?_
  refine Vc.seq ?_
  refine Vc.region hG rfl ?_ ?_
  · intro _; exact trivial
  refine Vc.cond rfl (fun h0 => ?_) (fun h0 => ?_)
  · skip
    have g0 : stampBad a1 a2 = true := h0
    refine Vc.seq ?_
    refine Vc.region hG rfl ?_ ?_
    · trivial
    refine Vc.ret ?_
    have e := ms_1 (keys := a0) g0
    refine ⟨?_, ?_, trivial⟩
    · exact (congrArg Prod.fst e).symm
    · exact (congrArg Prod.snd e).symm
  · skip
    have g0 : stampBad a1 a2 = false := h0
    refine Vc.skip ?_
    refine Vc.seq ?_
    refine Vc.regionD mixed hG rfl (by kernel_rfl) ?_ ?_
    · exact ⟨bad_idx g0, trivial, smallLit (n := 5) rfl (by decide)⟩
    refine Vc.seq ?_
    refine Vc.seq ?_
    refine Vc.region hG rfl ?_ ?_
    · trivial
    refine Vc.cond rfl (fun h1 => ?_) (fun h1 => ?_)
    · skip
      have g1 : keyI a0 (authAt a1 a2.1).2.1 < 0 := mb_no h1
      refine Vc.seq ?_
      refine Vc.region hG rfl ?_ ?_
      · trivial
      refine Vc.ret ?_
      have e := ms_2 (keys := a0) g0 g1
      refine ⟨?_, ?_, trivial⟩
      · exact (congrArg Prod.fst e).symm
      · exact (congrArg Prod.snd e).symm
    · skip
      have k1 : (!(markByF a0 (authAt a1 a2.1).2.1 (stampIntsF a2)).2) = false := h1
      have g1 : ¬ keyI a0 (authAt a1 a2.1).2.1 < 0 := mb_ok k1
      refine Vc.skip ?_
      refine Vc.seq ?_
      refine Vc.region hG rfl ?_ ?_
      · trivial
      refine Vc.seq ?_
      refine Vc.region hG rfl ?_ ?_
      · trivial
      refine Vc.ret ?_
      have e := ms_3 (keys := a0) g0 g1
      have e2 := markBy_yes (l := stampIntsF a2) g1
      refine ⟨?_, ?_, trivial⟩
      · refine Eq.trans ?_ (congrArg Prod.fst e).symm
        exact congrArg (fun m => (a2.1, a2.2.1, a2.2.2.1, a2.2.2.2.1, m)) (congrArg Prod.fst e2)
      · exact (congrArg Prod.snd e).symm
noncomputable def F158 : Fun := ⟨[.slice Y7, .slice Y2, .pair (.int .i64) Y6], [.pure (.bool)], fun _ => True, fun x => (checkStampF x.1 x.2.1 x.2.2.1, ())⟩
set_option maxRecDepth 100000 in
/-- loop.example.g00597.impl.CheckStamp -/
theorem F158_ok : Meets Try.prog 158 F158 := by
  refine meets_of_vc (C := mkC 22 [6] [0,1,2,5,6,7,8] [⟨180, _, F180_ok⟩]) (mkC_ok _ _ _ _) (fnOf_ok _) Try.func158 rfl rfl rfl (by decide) rfl ?_
  rintro ⟨a0, a1, a2, _⟩ hwf hpre ⟨P, C, B, X, w0, M0, pv⟩ hG rfl rfl
  show Vc _ _ [(0, ⟨0, 0, .c Z10 a0⟩), (1, ⟨0, 0, .c Z5 a1⟩), (2, ⟨0, 0, .c Z8 a2⟩)] _
  refine Vc.seq ?_
  refine Vc.region hG rfl ?_ ?_
  · trivial
  refine Vc.seq ?_
  refine Vc.region hG rfl ?_ ?_
  · trivial
  refine Vc.seq ?_
  refine Vc.region hG rfl ?_ ?_
  · trivial
  refine Vc.ret ?_
  refine ⟨?_, trivial⟩
  all_goals exact rfl
noncomputable def F121 : Fun := ⟨[.slice Y7, .slice Y2, .pair (.int .i64) Y6, .pair (.int .i64) Y6], [.pure (.bool)], fun _ => True, fun x => (contraryF x.1 x.2.1 x.2.2.1 x.2.2.2.1, ())⟩
set_option maxRecDepth 100000 in
/-- loop.example.g00597.impl.AreContrary -/
theorem F121_ok : Meets Try.prog 121 F121 := by
  refine meets_of_vc (C := mkC 59 [8] [0,1,2,3,6,7,8,27,32] [⟨158, _, F158_ok⟩]) (mkC_ok _ _ _ _) (fnOf_ok _) Try.func121 rfl rfl rfl (by decide) rfl ?_
  rintro ⟨a0, a1, a2, a3, _⟩ hwf hpre ⟨P, C, B, X, w0, M0, pv⟩ hG rfl rfl
  show Vc _ _ [(0, ⟨0, 0, .c Z10 a0⟩), (1, ⟨0, 0, .c Z5 a1⟩), (2, ⟨0, 0, .c Z8 a2⟩), (3, ⟨0, 0, .c Z8 a3⟩)] _
  refine Vc.seq ?_
  refine Vc.region hG rfl ?_ ?_
  · trivial
  refine Vc.seq ?_
  refine Vc.seq ?_
  refine Vc.region hG rfl ?_ ?_
  · repeat' (first | exact trivial | refine And.intro ?_ ?_ | intro _)
  refine Vc.cond rfl (fun h0 => ?_) (fun h0 => ?_)
  · skip
    refine Vc.seq ?_
    refine Vc.region hG rfl ?_ ?_
    · trivial
    refine Vc.ret ?_
    refine ⟨?_, trivial⟩
    exact con_i1 h0
  · skip
    refine Vc.skip ?_
    refine Vc.seq ?_
    refine Vc.seq ?_
    refine Vc.region hG rfl ?_ ?_
    · trivial
    refine Vc.cond rfl (fun h1 => ?_) (fun h1 => ?_)
    · skip
      refine Vc.region hG rfl ?_ ?_
      · trivial
      refine Vc.seq ?_
      refine Vc.region hG rfl ?_ ?_
      · trivial
      refine Vc.ret ?_
      refine ⟨?_, trivial⟩
      exact con_i2 h0 h1
    · skip
      refine Vc.skip ?_
      refine Vc.seq ?_
      refine Vc.region hG rfl ?_ ?_
      · trivial
      refine Vc.ret ?_
      refine ⟨?_, trivial⟩
      exact con_i3 h0 h1
noncomputable def F53 : Fun := ⟨[.slice Y7, .slice Y2, .slice Y7], [.own (.pure (.int .i64))], fun _ => True, fun x => (liarsF x.1 x.2.1 x.2.2.1, ())⟩
set_option maxRecDepth 100000 in
/-- loop.example.g00597.impl.LiarsIn -/
theorem F53_ok : Meets Try.prog 53 F53 := by
  refine meets_of_vc (C := mkC 57 [6] [0,1,2,6,7,8,9,11,12,13,14,15,16,17,18,24,25,26,27,39,45,46,47,50] [⟨120, _, F120_ok⟩, ⟨121, _, F121_ok⟩]) (mkC_ok _ _ _ _) (fnOf_ok _) Try.func53 rfl rfl rfl (by decide) rfl ?_
  rintro ⟨a0, a1, a2, _⟩ hwf hpre ⟨P, C, B, X, w0, M0, pv⟩ hG rfl rfl
  show Vc _ _ [(0, ⟨0, 0, .c Z10 a0⟩), (1, ⟨0, 0, .c Z5 a1⟩), (2, ⟨0, 0, .c Z10 a2⟩)] _
  have hb : List.length a2 ≤ bigLen := hwf.2.2.1.1
  refine Vc.seq ?_
  refine Vc.region hG rfl ?_ ?_
  · trivial
  refine Vc.seq ?_
  refine Vc.region hG rfl ?_ ?_
  · trivial
  refine Vc.seq ?_
  refine Vc.seq ?_
  refine Vc.region hG rfl ?_ ?_
  · trivial
  refine Vc.block ?_
  -- slots [7, 17]; frame [0, 1, 2, 6, 12, 13, 14, 15, 16, 45, 46, 47, 50]
  refine Vc.loopF [(7, true, .pure (.arr 100 (.bool))), (17, false, .pure (.int .i64))] [0, 1, 2, 6, 12, 13, 14, 15, 16, 45, 46, 47, 50] (fun v => laInv (contraryF a0 a1) a2 v.1 v.2.1) (fun v => ((List.length a2 : Int) - v.2.1).toNat) rfl ?_ ?_
  · exact laStart
  rintro ⟨xs, (i : Int), _⟩ hM
  have hM : laInv (contraryF a0 a1) a2 xs i := hM
  refine Vc.seq ?_
  refine Vc.region hG rfl ?_ ?_
  · trivial
  refine Vc.seq ?_
  refine Vc.cond rfl (fun h0 => ?_) (fun h0 => ?_)
  · skip
    have hl : i < (List.length a2 : Int) := of_decide_eq_true h0
    have hr := upRange hM.1 hl
    have hin : (i.toNat : Int) = i := by have := hr.1; omega
    have hi9 : (i.toNat : Int) ≤ 9223372036854775806 := by have := hr.2; unfold bigLen at hb; omega
    have hsl : (List.length (subL a2 0 i) : Int) = (i.toNat : Int) := by rw [sub0L hr]
    refine Vc.skip ?_
    refine Vc.seq ?_
    refine Vc.block ?_
    refine Vc.seq ?_
    refine Vc.region hG rfl ?_ ?_
    · exact hr
    refine Vc.seq ?_
    refine Vc.region hG rfl ?_ ?_
    · exact ⟨Int.le_refl _, hr.1, Int.le_of_lt hr.2⟩
    refine Vc.block ?_
    -- slots [7, 26]; frame [0, 1, 2, 6, 8, 9, 12, 13, 14, 15, 16, 17, 18, 24, 25, 45, 46, 47, 50]
    refine Vc.loopF [(7, true, .pure (.arr 100 (.bool))), (26, false, .pure (.int .i64))] [0, 1, 2, 6, 8, 9, 12, 13, 14, 15, 16, 17, 18, 24, 25, 45, 46, 47, 50] (fun v => lbInv (contraryF a0 a1) a2 i.toNat v.1 v.2.1) (fun v => ((i.toNat : Int) - v.2.1).toNat) rfl ?_ ?_
    · exact lbStart hM
    rintro ⟨ys, (k : Int), _⟩ hK
    have hK : lbInv (contraryF a0 a1) a2 i.toNat ys k := hK
    refine Vc.seq ?_
    refine Vc.region hG rfl ?_ ?_
    · trivial
    refine Vc.seq ?_
    refine Vc.cond rfl (fun h1 => ?_) (fun h1 => ?_)
    · skip
      have hk : k < (i.toNat : Int) := by rw [← hsl]; exact of_decide_eq_true h1
      have hrk : inRange k (List.length (subL a2 0 i)) := ⟨hK.1, by rw [hsl]; exact hk⟩
      have hsg := sub0G hr hK.1 hk
      refine Vc.skip ?_
      refine Vc.seq ?_
      refine Vc.block ?_
      refine Vc.seq ?_
      refine Vc.region hG rfl ?_ ?_
      · exact hrk
      refine Vc.seq ?_
      refine Vc.region hG rfl ?_ ?_
      · repeat' (first | exact trivial | refine And.intro ?_ ?_ | intro _)
      refine Vc.cond rfl (fun h2 => ?_) (fun h2 => ?_)
      · skip
        have g2 : pick2 (inRangeF (stAt a2 i.toNat).1 0 99) (contraryF a0 a1 (stAt a2 i.toNat) (stAt a2 k.toNat)) false = true := by rw [← hsg]; exact h2
        have ga := rg (x := (stAt a2 i.toNat).1) (a := 0) (b := 99) (by rw [(andT g2).1]; rfl)
        refine Vc.region hG rfl ?_ ?_
        · exact ⟨⟨ga.1, by have := ga.2; show (stAt a2 i.toNat).1 < 100; omega⟩, (show (stAt a2 i.toNat).1.toNat < ys.length from by rw [hK.2.2.1]; have := ga.2; omega)⟩
        refine Vc.region hG rfl ?_ ?_
        · trivial
        refine ⟨rfl, ?_⟩
        first
          | exact lbYes hK hi9 hk g2
          | exact lbNo hK hi9 hk g2
      · skip
        have g2 : pick2 (inRangeF (stAt a2 i.toNat).1 0 99) (contraryF a0 a1 (stAt a2 i.toNat) (stAt a2 k.toNat)) false = false := by rw [← hsg]; exact h2
        refine Vc.skip ?_
        refine Vc.region hG rfl ?_ ?_
        · trivial
        refine ⟨rfl, ?_⟩
        first
          | exact lbYes hK hi9 hk g2
          | exact lbNo hK hi9 hk g2
    · skip
      have hk : ¬ k < (i.toNat : Int) := by rw [← hsl]; exact of_decide_eq_false h1
      refine Vc.exit ?_
      refine Vc.region hG rfl ?_ ?_
      · trivial
      refine ⟨rfl, ?_⟩
      exact laNext hM hl hb hK hk
  · skip
    have hl : ¬ i < (List.length a2 : Int) := of_decide_eq_false h0
    have hall := laEnd hM hl
    refine Vc.exit ?_
    refine Vc.seq ?_
    refine Vc.region hG rfl ?_ ?_
    · trivial
    refine Vc.seq ?_
    refine Vc.seq ?_
    refine Vc.region hG rfl ?_ ?_
    · trivial
    refine Vc.block ?_
    -- slots [12, 46]; frame [0, 1, 2, 6, 7, 8, 9, 11, 15, 16, 17, 18, 24, 25, 26, 27, 39, 45]
    refine Vc.loopF [(12, false, .own (.pure (.int .i64))), (46, false, .pure (.int .i64))] [0, 1, 2, 6, 7, 8, 9, 11, 15, 16, 17, 18, 24, 25, 26, 27, 39, 45] (fun v => lpInv (contraryF a0 a1) a2 v.1 v.2.1) (fun v => ((100 : Int) - v.2.1).toNat) rfl ?_ ?_
    · exact lpStart
    rintro ⟨acc, (id : Int), _⟩ hP
    have hP : lpInv (contraryF a0 a1) a2 acc id := hP
    refine Vc.seq ?_
    refine Vc.region hG rfl ?_ ?_
    · trivial
    refine Vc.seq ?_
    refine Vc.cond rfl (fun h3 => ?_) (fun h3 => ?_)
    · skip
      have hz : id < 100 := of_decide_eq_true h3
      refine Vc.skip ?_
      refine Vc.seq ?_
      refine Vc.block ?_
      refine Vc.seq ?_
      refine Vc.region hG rfl ?_ ?_
      · exact lzRange hP hz
      refine Vc.seq ?_
      refine Vc.region hG rfl ?_ ?_
      · trivial
      refine Vc.cond rfl (fun h4 => ?_) (fun h4 => ?_)
      · skip
        have g4 : List.getD xs id.toNat false = true := h4
        refine Vc.region hG rfl ?_ ?_
        · exact lpLen hP
        refine Vc.region hG rfl ?_ ?_
        · trivial
        refine ⟨rfl, ?_⟩
        first
          | exact lzYes hP hz hall g4
          | exact lzNo hP hz hall g4
      · skip
        have g4 : List.getD xs id.toNat false = false := h4
        refine Vc.skip ?_
        refine Vc.region hG rfl ?_ ?_
        · trivial
        refine ⟨rfl, ?_⟩
        first
          | exact lzYes hP hz hall g4
          | exact lzNo hP hz hall g4
    · skip
      have hz : ¬ id ≤ 99 := by have : ¬ id < 100 := of_decide_eq_false h3; omega
      refine Vc.exit ?_
      refine Vc.seq ?_
      refine Vc.region hG rfl ?_ ?_
      · trivial
      refine Vc.ret ?_
      refine ⟨?_, trivial⟩
      exact lpEnd hP hz
end Fw
