/- Walks of functions of the program: what each computes. Conditions: those that each contract names. -/
import Derived.Test.YtlfmjohahkeejaaW38T
namespace Fw
open Go Go.Proofs
set_option linter.unusedSimpArgs false
noncomputable def F77 : Fun := ⟨[.pair (.int .i64) (.slice (.pair (.int .i64) (.pair (.int .i64) (.pair (.pair (.int .i64) (.pair (.slice (.str)) (.slice (.int .i64)))) (.pair (.pair (.int .i64) (.pair (.int .i64) (.pair (.int .i64) (.pair (.int .i64) (.pair (.int .i64) (.pair (.int .i64) (.pair (.int .i64) (.pair (.int .i64) (.int .i64))))))))) (.pair (.slice (.pair (.int .i64) (.pair (.slice (.int .i64)) (.int .i64)))) (.slice (.pair (.int .i64) (.pair (.int .i64) (.pair (.int .i64) (.pair (.slice (.pair (.int .i64) (.bool))) (.slice (.pair (.int .i64) (.pair (.int .i64) (.pair (.int .i64) (.pair (.int .i64) (.int .i64))))))))))))))))), .int .i64], [.pure (.int .i64)], fun _ => True, fun x => ((fun a0 a1 => findI (fun x => x.1 == a1) a0.2) x.1 x.2.1, ())⟩
set_option maxRecDepth 100000 in
/-- loop.example.g00597.spec.FindItem -/
theorem F77_ok : Meets Try.prog 77 F77 := by
  refine meets_of_vc (C := mkC 22 [4] [0,1,2,4,5,10,20] []) (mkC_ok _ _ _ _) (fnOf_ok _) Try.func77 rfl rfl rfl (by decide) rfl ?_
  rintro ⟨a0, (a1 : Int), _⟩ hwf hpre ⟨P, C, B, X, w0, M0, pv⟩ hG rfl rfl
  show Vc _ _ [(0, ⟨0, 0, .c (.pure (.pair (.int .i64) (.slice (.pair (.int .i64) (.pair (.int .i64) (.pair (.pair (.int .i64) (.pair (.slice (.str)) (.slice (.int .i64)))) (.pair (.pair (.int .i64) (.pair (.int .i64) (.pair (.int .i64) (.pair (.int .i64) (.pair (.int .i64) (.pair (.int .i64) (.pair (.int .i64) (.pair (.int .i64) (.int .i64))))))))) (.pair (.slice (.pair (.int .i64) (.pair (.slice (.int .i64)) (.int .i64)))) (.slice (.pair (.int .i64) (.pair (.int .i64) (.pair (.int .i64) (.pair (.slice (.pair (.int .i64) (.bool))) (.slice (.pair (.int .i64) (.pair (.int .i64) (.pair (.int .i64) (.pair (.int .i64) (.int .i64))))))))))))))))))) a0⟩), (1, ⟨0, 0, .c (.pure (.int .i64)) a1⟩)] _
  have hb : List.length a0.2 ≤ bigLen := hwf.1.2.1
  refine Vc.seq ?_
  refine Vc.region hG rfl ?_ ?_
  · trivial
  refine Vc.seq ?_
  refine Vc.seq ?_
  refine Vc.region hG rfl ?_ ?_
  · trivial
  refine Vc.block ?_
  -- slots [5]; frame [0, 1, 2]
  refine Vc.loopF [(5, false, .pure (.int .i64))] [0, 1, 2] (fun v => fInv (fun x => x.1 == a1) a0.2 v.1) (fun v => ((List.length a0.2 : Int) - v.1).toNat) rfl ?_ ?_
  · exact fStart
  rintro ⟨(i : Int), _⟩ hI
  have hI : fInv (fun x => x.1 == a1) a0.2 i := hI
  refine Vc.seq ?_
  refine Vc.seq ?_
  refine Vc.region hG rfl ?_ ?_
  · trivial
  refine Vc.cond rfl (fun h0 => ?_) (fun h0 => ?_)
  · skip
    have hl : i < (List.length a0.2 : Int) := of_decide_eq_true h0
    refine Vc.skip ?_
    refine Vc.seq ?_
    refine Vc.block ?_
    refine Vc.seq ?_
    refine Vc.region hG rfl ?_ ?_
    · exact fRange hI hl
    refine Vc.cond rfl (fun h1 => ?_) (fun h1 => ?_)
    · skip
      have g1 : (fun x => x.1 == a1) (List.getD a0.2 i.toNat (dflt (.pair (.int .i64) (.pair (.int .i64) (.pair (.pair (.int .i64) (.pair (.slice (.str)) (.slice (.int .i64)))) (.pair (.pair (.int .i64) (.pair (.int .i64) (.pair (.int .i64) (.pair (.int .i64) (.pair (.int .i64) (.pair (.int .i64) (.pair (.int .i64) (.pair (.int .i64) (.int .i64))))))))) (.pair (.slice (.pair (.int .i64) (.pair (.slice (.int .i64)) (.int .i64)))) (.slice (.pair (.int .i64) (.pair (.int .i64) (.pair (.int .i64) (.pair (.slice (.pair (.int .i64) (.bool))) (.slice (.pair (.int .i64) (.pair (.int .i64) (.pair (.int .i64) (.pair (.int .i64) (.int .i64)))))))))))))))))) = true := h1
      refine Vc.seq ?_
      refine Vc.region hG rfl ?_ ?_
      · trivial
      refine Vc.ret ?_
      refine ⟨?_, trivial⟩
      exact fHit hI hl g1
    · skip
      have g1 : (fun x => x.1 == a1) (List.getD a0.2 i.toNat (dflt (.pair (.int .i64) (.pair (.int .i64) (.pair (.pair (.int .i64) (.pair (.slice (.str)) (.slice (.int .i64)))) (.pair (.pair (.int .i64) (.pair (.int .i64) (.pair (.int .i64) (.pair (.int .i64) (.pair (.int .i64) (.pair (.int .i64) (.pair (.int .i64) (.pair (.int .i64) (.int .i64))))))))) (.pair (.slice (.pair (.int .i64) (.pair (.slice (.int .i64)) (.int .i64)))) (.slice (.pair (.int .i64) (.pair (.int .i64) (.pair (.int .i64) (.pair (.slice (.pair (.int .i64) (.bool))) (.slice (.pair (.int .i64) (.pair (.int .i64) (.pair (.int .i64) (.pair (.int .i64) (.int .i64)))))))))))))))))) = false := h1
      refine Vc.skip ?_
      refine Vc.region hG rfl ?_ ?_
      · trivial
      refine ⟨rfl, ?_⟩
      exact fStep hI hl hb g1
  · skip
    have hl : ¬ i < (List.length a0.2 : Int) := of_decide_eq_false h0
    refine Vc.exit ?_
    refine Vc.seq ?_
    refine Vc.region hG rfl ?_ ?_
    · trivial
    refine Vc.ret ?_
    refine ⟨?_, trivial⟩
    exact fEnd hI hl
noncomputable def F128 : Fun := ⟨[.pair (.int .i64) (.pair (.slice (.str)) (.slice (.int .i64)))], [.pair (.pure (.int .i64)) (.pair (.own (.pure (.str))) (.own (.pure (.int .i64))))], fun x => Sm big20 (.pair (.int .i64) (.pair (.slice (.str)) (.slice (.int .i64)))) x.1, fun x => (id x.1, ())⟩
set_option maxRecDepth 100000 in
/-- loop.example.g00597.spec.l6Copy -/
theorem F128_ok : Meets Try.prog 128 F128 := by
  refine meets_of_vc (C := mkC 14 [2] [0,1,2] []) (mkC_ok _ _ _ _) (fnOf_ok _) Try.func128 rfl rfl rfl (by decide) rfl ?_
  rintro ⟨a0, _⟩ hwf hpre ⟨P, C, B, X, w0, M0, pv⟩ hG rfl rfl
  show Vc _ _ [(0, ⟨0, 0, .c (.pure (.pair (.int .i64) (.pair (.slice (.str)) (.slice (.int .i64))))) a0⟩)] _
  have hp1 : List.length a0.2.1 ≤ big20 := hpre.2.1.1
  have hp2 : List.length a0.2.2 ≤ big20 := hpre.2.2.1
  refine Vc.seq ?_
  refine Vc.region hG rfl ?_ ?_
  · trivial
  refine Vc.seq ?_
  refine Vc.regionD mixed hG rfl (by kernel_rfl) ?_ ?_
  · exact ⟨appOk hp1, appOk hp2⟩
  refine Vc.ret ?_
  refine ⟨?_, trivial⟩
  all_goals exact rfl
noncomputable def F136 : Fun := ⟨[.pair (.int .i64) (.pair (.slice (.int .i64)) (.int .i64))], [.pair (.pure (.int .i64)) (.pair (.own (.pure (.int .i64))) (.pure (.int .i64)))], fun x => Sm big20 (.pair (.int .i64) (.pair (.slice (.int .i64)) (.int .i64))) x.1, fun x => (id x.1, ())⟩
set_option maxRecDepth 100000 in
/-- loop.example.g00597.spec.l18Copy -/
theorem F136_ok : Meets Try.prog 136 F136 := by
  refine meets_of_vc (C := mkC 12 [2] [0,1,2] []) (mkC_ok _ _ _ _) (fnOf_ok _) Try.func136 rfl rfl rfl (by decide) rfl ?_
  rintro ⟨a0, _⟩ hwf hpre ⟨P, C, B, X, w0, M0, pv⟩ hG rfl rfl
  show Vc _ _ [(0, ⟨0, 0, .c (.pure (.pair (.int .i64) (.pair (.slice (.int .i64)) (.int .i64)))) a0⟩)] _
  have hp : List.length a0.2.1 ≤ big20 := hpre.2.1.1
  refine Vc.seq ?_
  refine Vc.region hG rfl ?_ ?_
  · trivial
  refine Vc.seq ?_
  refine Vc.regionD mixed hG rfl (by kernel_rfl) ?_ ?_
  · exact appOk hp
  refine Vc.ret ?_
  refine ⟨?_, trivial⟩
  all_goals exact rfl
noncomputable def F163 : Fun := ⟨[.slice (.pair (.int .i64) (.pair (.slice (.int .i64)) (.int .i64)))], [.own (.pair (.pure (.int .i64)) (.pair (.own (.pure (.int .i64))) (.pure (.int .i64))))], fun x => Sm big20 (.slice (.pair (.int .i64) (.pair (.slice (.int .i64)) (.int .i64)))) x.1, fun x => (id x.1, ())⟩
set_option maxRecDepth 100000 in
/-- loop.example.g00597.spec.l18All -/
theorem F163_ok : Meets Try.prog 163 F163 := by
  refine meets_of_vc (C := mkC 21 [2] [0,2,3,4,9] [⟨136, _, F136_ok⟩]) (mkC_ok _ _ _ _) (fnOf_ok _) Try.func163 rfl rfl rfl (by decide) rfl ?_
  rintro ⟨a0, _⟩ hwf hpre ⟨P, C, B, X, w0, M0, pv⟩ hG rfl rfl
  show Vc _ _ [(0, ⟨0, 0, .c (.pure (.slice (.pair (.int .i64) (.pair (.slice (.int .i64)) (.int .i64))))) a0⟩)] _
  have hp : _ ∧ _ := hpre
  have hb : List.length a0 ≤ bigLen := hwf.1.1
  refine Vc.seq ?_
  refine Vc.region hG rfl ?_ ?_
  · trivial
  refine Vc.seq ?_
  refine Vc.region hG rfl ?_ ?_
  · trivial
  refine Vc.seq ?_
  refine Vc.seq ?_
  refine Vc.region hG rfl ?_ ?_
  · trivial
  refine Vc.block ?_
  -- slots [3, 4]; frame [0, 2]
  refine Vc.loopF [(3, false, .own (.pair (.pure (.int .i64)) (.pair (.own (.pure (.int .i64))) (.pure (.int .i64))))), (4, false, .pure (.int .i64))] [0, 2] (fun v => cpInv a0 v.1 v.2.1) (fun v => ((List.length a0 : Int) - v.2.1).toNat) rfl ?_ ?_
  · exact cpStart
  rintro ⟨acc, (i : Int), _⟩ hI
  have hI : cpInv a0 acc i := hI
  refine Vc.seq ?_
  refine Vc.seq ?_
  refine Vc.region hG rfl ?_ ?_
  · trivial
  refine Vc.cond rfl (fun h0 => ?_) (fun h0 => ?_)
  · skip
    have hl : i < (List.length a0 : Int) := of_decide_eq_true h0
    have hE : Sm big20 (.pair (.int .i64) (.pair (.slice (.int .i64)) (.int .i64))) (List.getD a0 i.toNat (dflt (.pair (.int .i64) (.pair (.slice (.int .i64)) (.int .i64))))) := hp.2 _ (upElem hI.1 hl)
    refine Vc.skip ?_
    refine Vc.seq ?_
    refine Vc.block ?_
    refine Vc.region hG rfl ?_ ?_
    · exact ⟨cpRange hI hl, hE, cpLen hI hl hp.1⟩
    refine Vc.region hG rfl ?_ ?_
    · trivial
    refine ⟨rfl, ?_⟩
    exact cpStep (d := dflt (.pair (.int .i64) (.pair (.slice (.int .i64)) (.int .i64)))) hI hl hb rfl
  · skip
    have hl : ¬ i < (List.length a0 : Int) := of_decide_eq_false h0
    refine Vc.exit ?_
    refine Vc.seq ?_
    refine Vc.region hG rfl ?_ ?_
    · trivial
    refine Vc.ret ?_
    refine ⟨?_, trivial⟩
    exact cpEnd hI hl
noncomputable def F164 : Fun := ⟨[.pair (.int .i64) (.pair (.int .i64) (.pair (.int .i64) (.pair (.slice (.pair (.int .i64) (.bool))) (.slice (.pair (.int .i64) (.pair (.int .i64) (.pair (.int .i64) (.pair (.int .i64) (.int .i64)))))))))], [.pair (.pure (.int .i64)) (.pair (.pure (.int .i64)) (.pair (.pure (.int .i64)) (.pair (.own (.pure (.pair (.int .i64) (.bool)))) (.own (.pure (.pair (.int .i64) (.pair (.int .i64) (.pair (.int .i64) (.pair (.int .i64) (.int .i64))))))))))], fun x => Sm big20 (.pair (.int .i64) (.pair (.int .i64) (.pair (.int .i64) (.pair (.slice (.pair (.int .i64) (.bool))) (.slice (.pair (.int .i64) (.pair (.int .i64) (.pair (.int .i64) (.pair (.int .i64) (.int .i64)))))))))) x.1, fun x => (id x.1, ())⟩
set_option maxRecDepth 100000 in
/-- loop.example.g00597.spec.l19Copy -/
theorem F164_ok : Meets Try.prog 164 F164 := by
  refine meets_of_vc (C := mkC 14 [2] [0,1,2] []) (mkC_ok _ _ _ _) (fnOf_ok _) Try.func164 rfl rfl rfl (by decide) rfl ?_
  rintro ⟨a0, _⟩ hwf hpre ⟨P, C, B, X, w0, M0, pv⟩ hG rfl rfl
  show Vc _ _ [(0, ⟨0, 0, .c (.pure (.pair (.int .i64) (.pair (.int .i64) (.pair (.int .i64) (.pair (.slice (.pair (.int .i64) (.bool))) (.slice (.pair (.int .i64) (.pair (.int .i64) (.pair (.int .i64) (.pair (.int .i64) (.int .i64))))))))))) a0⟩)] _
  have hp1 : List.length a0.2.2.2.1 ≤ big20 := hpre.2.2.2.1.1
  have hp2 : List.length a0.2.2.2.2 ≤ big20 := hpre.2.2.2.2.1
  refine Vc.seq ?_
  refine Vc.region hG rfl ?_ ?_
  · trivial
  refine Vc.seq ?_
  refine Vc.region hG rfl ?_ ?_
  · exact appOk hp1
  refine Vc.seq ?_
  refine Vc.region hG rfl ?_ ?_
  · exact appOk hp2
  refine Vc.seq ?_
  refine Vc.region hG rfl ?_ ?_
  · trivial
  refine Vc.ret ?_
  refine ⟨?_, trivial⟩
  all_goals exact rfl
noncomputable def F129 : Fun := ⟨[.pair (.slice (.pair (.int .i64) (.pair (.slice (.int .i64)) (.int .i64)))) (.slice (.pair (.int .i64) (.pair (.int .i64) (.pair (.int .i64) (.pair (.slice (.pair (.int .i64) (.bool))) (.slice (.pair (.int .i64) (.pair (.int .i64) (.pair (.int .i64) (.pair (.int .i64) (.int .i64)))))))))))], [.pair (.own (.pair (.pure (.int .i64)) (.pair (.own (.pure (.int .i64))) (.pure (.int .i64))))) (.own (.pair (.pure (.int .i64)) (.pair (.pure (.int .i64)) (.pair (.pure (.int .i64)) (.pair (.own (.pure (.pair (.int .i64) (.bool)))) (.own (.pure (.pair (.int .i64) (.pair (.int .i64) (.pair (.int .i64) (.pair (.int .i64) (.int .i64))))))))))))], fun x => Sm big20 (.pair (.slice (.pair (.int .i64) (.pair (.slice (.int .i64)) (.int .i64)))) (.slice (.pair (.int .i64) (.pair (.int .i64) (.pair (.int .i64) (.pair (.slice (.pair (.int .i64) (.bool))) (.slice (.pair (.int .i64) (.pair (.int .i64) (.pair (.int .i64) (.pair (.int .i64) (.int .i64)))))))))))) x.1, fun x => (id x.1, ())⟩
set_option maxRecDepth 100000 in
/-- loop.example.g00597.spec.l20Copy -/
theorem F129_ok : Meets Try.prog 129 F129 := by
  refine meets_of_vc (C := mkC 28 [2] [0,1,2,3,4,13] [⟨163, _, F163_ok⟩, ⟨164, _, F164_ok⟩]) (mkC_ok _ _ _ _) (fnOf_ok _) Try.func129 rfl rfl rfl (by decide) rfl ?_
  rintro ⟨a0, _⟩ hwf hpre ⟨P, C, B, X, w0, M0, pv⟩ hG rfl rfl
  show Vc _ _ [(0, ⟨0, 0, .c (.pure (.pair (.slice (.pair (.int .i64) (.pair (.slice (.int .i64)) (.int .i64)))) (.slice (.pair (.int .i64) (.pair (.int .i64) (.pair (.int .i64) (.pair (.slice (.pair (.int .i64) (.bool))) (.slice (.pair (.int .i64) (.pair (.int .i64) (.pair (.int .i64) (.pair (.int .i64) (.int .i64))))))))))))) a0⟩)] _
  have hp0 : Sm big20 (.slice (.pair (.int .i64) (.pair (.slice (.int .i64)) (.int .i64)))) a0.1 := hpre.1
  have hp : _ ∧ _ := hpre.2
  have hb : List.length a0.2 ≤ bigLen := hwf.1.2.1
  refine Vc.seq ?_
  refine Vc.region hG rfl ?_ ?_
  · trivial
  refine Vc.seq ?_
  refine Vc.region hG rfl ?_ ?_
  · exact hp0
  refine Vc.seq ?_
  refine Vc.seq ?_
  refine Vc.region hG rfl ?_ ?_
  · trivial
  refine Vc.block ?_
  -- slots [3, 4]; frame [0, 1, 2]
  refine Vc.loopF [(3, true, .pair (.own (.pair (.pure (.int .i64)) (.pair (.own (.pure (.int .i64))) (.pure (.int .i64))))) (.own (.pair (.pure (.int .i64)) (.pair (.pure (.int .i64)) (.pair (.pure (.int .i64)) (.pair (.own (.pure (.pair (.int .i64) (.bool)))) (.own (.pure (.pair (.int .i64) (.pair (.int .i64) (.pair (.int .i64) (.pair (.int .i64) (.int .i64))))))))))))), (4, false, .pure (.int .i64))] [0, 1, 2] (fun v => v.1.1 = a0.1 ∧ cpInv a0.2 v.1.2 v.2.1) (fun v => ((List.length a0.2 : Int) - v.2.1).toNat) rfl ?_ ?_
  · exact ⟨rfl, cpStart⟩
  rintro ⟨acc, (i : Int), _⟩ hI
  have hI : acc.1 = a0.1 ∧ cpInv a0.2 acc.2 i := hI
  refine Vc.seq ?_
  refine Vc.seq ?_
  refine Vc.region hG rfl ?_ ?_
  · trivial
  refine Vc.cond rfl (fun h0 => ?_) (fun h0 => ?_)
  · skip
    have hl : i < (List.length a0.2 : Int) := of_decide_eq_true h0
    have hE : Sm big20 (.pair (.int .i64) (.pair (.int .i64) (.pair (.int .i64) (.pair (.slice (.pair (.int .i64) (.bool))) (.slice (.pair (.int .i64) (.pair (.int .i64) (.pair (.int .i64) (.pair (.int .i64) (.int .i64)))))))))) (List.getD a0.2 i.toNat (dflt (.pair (.int .i64) (.pair (.int .i64) (.pair (.int .i64) (.pair (.slice (.pair (.int .i64) (.bool))) (.slice (.pair (.int .i64) (.pair (.int .i64) (.pair (.int .i64) (.pair (.int .i64) (.int .i64)))))))))))) := hp.2 _ (upElem hI.2.1 hl)
    refine Vc.skip ?_
    refine Vc.seq ?_
    refine Vc.block ?_
    refine Vc.regionD mixed hG rfl (by kernel_rfl) ?_ ?_
    · exact ⟨cpRange hI.2 hl, hE, cpLen hI.2 hl hp.1⟩
    refine Vc.region hG rfl ?_ ?_
    · trivial
    refine ⟨rfl, ?_⟩
    have e := cpStep (d := dflt (.pair (.int .i64) (.pair (.int .i64) (.pair (.int .i64) (.pair (.slice (.pair (.int .i64) (.bool))) (.slice (.pair (.int .i64) (.pair (.int .i64) (.pair (.int .i64) (.pair (.int .i64) (.int .i64))))))))))) hI.2 hl hb rfl
    exact ⟨⟨hI.1, e.1⟩, e.2⟩
  · skip
    have hl : ¬ i < (List.length a0.2 : Int) := of_decide_eq_false h0
    refine Vc.exit ?_
    refine Vc.seq ?_
    refine Vc.region hG rfl ?_ ?_
    · trivial
    refine Vc.ret ?_
    refine ⟨?_, trivial⟩
    exact Prod.ext hI.1 (cpEnd hI.2 hl)
noncomputable def F69 : Fun := ⟨[.pair (.int .i64) (.pair (.int .i64) (.pair (.pair (.int .i64) (.pair (.slice (.str)) (.slice (.int .i64)))) (.pair (.pair (.int .i64) (.pair (.int .i64) (.pair (.int .i64) (.pair (.int .i64) (.pair (.int .i64) (.pair (.int .i64) (.pair (.int .i64) (.pair (.int .i64) (.int .i64))))))))) (.pair (.slice (.pair (.int .i64) (.pair (.slice (.int .i64)) (.int .i64)))) (.slice (.pair (.int .i64) (.pair (.int .i64) (.pair (.int .i64) (.pair (.slice (.pair (.int .i64) (.bool))) (.slice (.pair (.int .i64) (.pair (.int .i64) (.pair (.int .i64) (.pair (.int .i64) (.int .i64)))))))))))))))], [.pair (.pure (.int .i64)) (.pair (.pure (.int .i64)) (.pair (.pair (.pure (.int .i64)) (.pair (.own (.pure (.str))) (.own (.pure (.int .i64))))) (.pair (.pure (.pair (.int .i64) (.pair (.int .i64) (.pair (.int .i64) (.pair (.int .i64) (.pair (.int .i64) (.pair (.int .i64) (.pair (.int .i64) (.pair (.int .i64) (.int .i64)))))))))) (.pair (.own (.pair (.pure (.int .i64)) (.pair (.own (.pure (.int .i64))) (.pure (.int .i64))))) (.own (.pair (.pure (.int .i64)) (.pair (.pure (.int .i64)) (.pair (.pure (.int .i64)) (.pair (.own (.pure (.pair (.int .i64) (.bool)))) (.own (.pure (.pair (.int .i64) (.pair (.int .i64) (.pair (.int .i64) (.pair (.int .i64) (.int .i64))))))))))))))))], fun x => Sm big20 (.pair (.int .i64) (.pair (.int .i64) (.pair (.pair (.int .i64) (.pair (.slice (.str)) (.slice (.int .i64)))) (.pair (.pair (.int .i64) (.pair (.int .i64) (.pair (.int .i64) (.pair (.int .i64) (.pair (.int .i64) (.pair (.int .i64) (.pair (.int .i64) (.pair (.int .i64) (.int .i64))))))))) (.pair (.slice (.pair (.int .i64) (.pair (.slice (.int .i64)) (.int .i64)))) (.slice (.pair (.int .i64) (.pair (.int .i64) (.pair (.int .i64) (.pair (.slice (.pair (.int .i64) (.bool))) (.slice (.pair (.int .i64) (.pair (.int .i64) (.pair (.int .i64) (.pair (.int .i64) (.int .i64)))))))))))))))) x.1, fun x => (id x.1, ())⟩
set_option maxRecDepth 100000 in
/-- loop.example.g00597.spec.l28Item -/
theorem F69_ok : Meets Try.prog 69 F69 := by
  refine meets_of_vc (C := mkC 12 [2] [0,1,2] [⟨128, _, F128_ok⟩, ⟨129, _, F129_ok⟩]) (mkC_ok _ _ _ _) (fnOf_ok _) Try.func69 rfl rfl rfl (by decide) rfl ?_
  rintro ⟨a0, _⟩ hwf hpre ⟨P, C, B, X, w0, M0, pv⟩ hG rfl rfl
  show Vc _ _ [(0, ⟨0, 0, .c (.pure (.pair (.int .i64) (.pair (.int .i64) (.pair (.pair (.int .i64) (.pair (.slice (.str)) (.slice (.int .i64)))) (.pair (.pair (.int .i64) (.pair (.int .i64) (.pair (.int .i64) (.pair (.int .i64) (.pair (.int .i64) (.pair (.int .i64) (.pair (.int .i64) (.pair (.int .i64) (.int .i64))))))))) (.pair (.slice (.pair (.int .i64) (.pair (.slice (.int .i64)) (.int .i64)))) (.slice (.pair (.int .i64) (.pair (.int .i64) (.pair (.int .i64) (.pair (.slice (.pair (.int .i64) (.bool))) (.slice (.pair (.int .i64) (.pair (.int .i64) (.pair (.int .i64) (.pair (.int .i64) (.int .i64))))))))))))))))) a0⟩)] _
  have hp1 : Sm big20 (.pair (.int .i64) (.pair (.slice (.str)) (.slice (.int .i64)))) a0.2.2.1 := hpre.2.2.1
  have hp2 : Sm big20 (.pair (.slice (.pair (.int .i64) (.pair (.slice (.int .i64)) (.int .i64)))) (.slice (.pair (.int .i64) (.pair (.int .i64) (.pair (.int .i64) (.pair (.slice (.pair (.int .i64) (.bool))) (.slice (.pair (.int .i64) (.pair (.int .i64) (.pair (.int .i64) (.pair (.int .i64) (.int .i64)))))))))))) a0.2.2.2.2 := hpre.2.2.2.2
  refine Vc.seq ?_
  refine Vc.region hG rfl ?_ ?_
  · trivial
  refine Vc.seq ?_
  refine Vc.region hG rfl ?_ ?_
  · exact hp1
  refine Vc.seq ?_
  refine Vc.region hG rfl ?_ ?_
  · exact hp2
  refine Vc.seq ?_
  refine Vc.region hG rfl ?_ ?_
  · trivial
  refine Vc.ret ?_
  refine ⟨?_, trivial⟩
  all_goals exact rfl
noncomputable def F76 : Fun := ⟨[.pair (.int .i64) (.slice (.pair (.int .i64) (.pair (.int .i64) (.pair (.pair (.int .i64) (.pair (.slice (.str)) (.slice (.int .i64)))) (.pair (.pair (.int .i64) (.pair (.int .i64) (.pair (.int .i64) (.pair (.int .i64) (.pair (.int .i64) (.pair (.int .i64) (.pair (.int .i64) (.pair (.int .i64) (.int .i64))))))))) (.pair (.slice (.pair (.int .i64) (.pair (.slice (.int .i64)) (.int .i64)))) (.slice (.pair (.int .i64) (.pair (.int .i64) (.pair (.int .i64) (.pair (.slice (.pair (.int .i64) (.bool))) (.slice (.pair (.int .i64) (.pair (.int .i64) (.pair (.int .i64) (.pair (.int .i64) (.int .i64)))))))))))))))))], [.pair (.pure (.int .i64)) (.own (.pair (.pure (.int .i64)) (.pair (.pure (.int .i64)) (.pair (.pair (.pure (.int .i64)) (.pair (.own (.pure (.str))) (.own (.pure (.int .i64))))) (.pair (.pure (.pair (.int .i64) (.pair (.int .i64) (.pair (.int .i64) (.pair (.int .i64) (.pair (.int .i64) (.pair (.int .i64) (.pair (.int .i64) (.pair (.int .i64) (.int .i64)))))))))) (.pair (.own (.pair (.pure (.int .i64)) (.pair (.own (.pure (.int .i64))) (.pure (.int .i64))))) (.own (.pair (.pure (.int .i64)) (.pair (.pure (.int .i64)) (.pair (.pure (.int .i64)) (.pair (.own (.pure (.pair (.int .i64) (.bool)))) (.own (.pure (.pair (.int .i64) (.pair (.int .i64) (.pair (.int .i64) (.pair (.int .i64) (.int .i64))))))))))))))))))], fun x => Sm big20 (.pair (.int .i64) (.slice (.pair (.int .i64) (.pair (.int .i64) (.pair (.pair (.int .i64) (.pair (.slice (.str)) (.slice (.int .i64)))) (.pair (.pair (.int .i64) (.pair (.int .i64) (.pair (.int .i64) (.pair (.int .i64) (.pair (.int .i64) (.pair (.int .i64) (.pair (.int .i64) (.pair (.int .i64) (.int .i64))))))))) (.pair (.slice (.pair (.int .i64) (.pair (.slice (.int .i64)) (.int .i64)))) (.slice (.pair (.int .i64) (.pair (.int .i64) (.pair (.int .i64) (.pair (.slice (.pair (.int .i64) (.bool))) (.slice (.pair (.int .i64) (.pair (.int .i64) (.pair (.int .i64) (.pair (.int .i64) (.int .i64)))))))))))))))))) x.1, fun x => (id x.1, ())⟩
set_option maxRecDepth 100000 in
/-- loop.example.g00597.spec.l28Copy -/
theorem F76_ok : Meets Try.prog 76 F76 := by
  refine meets_of_vc (C := mkC 27 [2] [0,1,2,3,4,12] [⟨69, _, F69_ok⟩]) (mkC_ok _ _ _ _) (fnOf_ok _) Try.func76 rfl rfl rfl (by decide) rfl ?_
  rintro ⟨a0, _⟩ hwf hpre ⟨P, C, B, X, w0, M0, pv⟩ hG rfl rfl
  show Vc _ _ [(0, ⟨0, 0, .c (.pure (.pair (.int .i64) (.slice (.pair (.int .i64) (.pair (.int .i64) (.pair (.pair (.int .i64) (.pair (.slice (.str)) (.slice (.int .i64)))) (.pair (.pair (.int .i64) (.pair (.int .i64) (.pair (.int .i64) (.pair (.int .i64) (.pair (.int .i64) (.pair (.int .i64) (.pair (.int .i64) (.pair (.int .i64) (.int .i64))))))))) (.pair (.slice (.pair (.int .i64) (.pair (.slice (.int .i64)) (.int .i64)))) (.slice (.pair (.int .i64) (.pair (.int .i64) (.pair (.int .i64) (.pair (.slice (.pair (.int .i64) (.bool))) (.slice (.pair (.int .i64) (.pair (.int .i64) (.pair (.int .i64) (.pair (.int .i64) (.int .i64))))))))))))))))))) a0⟩)] _
  have hp : _ ∧ _ := hpre.2
  have hb : List.length a0.2 ≤ bigLen := hwf.1.2.1
  refine Vc.seq ?_
  refine Vc.region hG rfl ?_ ?_
  · trivial
  refine Vc.seq ?_
  refine Vc.region hG rfl ?_ ?_
  · trivial
  refine Vc.seq ?_
  refine Vc.seq ?_
  refine Vc.region hG rfl ?_ ?_
  · trivial
  refine Vc.block ?_
  -- slots [3, 4]; frame [0, 1, 2]
  refine Vc.loopF [(3, true, .pair (.pure (.int .i64)) (.own (.pair (.pure (.int .i64)) (.pair (.pure (.int .i64)) (.pair (.pair (.pure (.int .i64)) (.pair (.own (.pure (.str))) (.own (.pure (.int .i64))))) (.pair (.pure (.pair (.int .i64) (.pair (.int .i64) (.pair (.int .i64) (.pair (.int .i64) (.pair (.int .i64) (.pair (.int .i64) (.pair (.int .i64) (.pair (.int .i64) (.int .i64)))))))))) (.pair (.own (.pair (.pure (.int .i64)) (.pair (.own (.pure (.int .i64))) (.pure (.int .i64))))) (.own (.pair (.pure (.int .i64)) (.pair (.pure (.int .i64)) (.pair (.pure (.int .i64)) (.pair (.own (.pure (.pair (.int .i64) (.bool)))) (.own (.pure (.pair (.int .i64) (.pair (.int .i64) (.pair (.int .i64) (.pair (.int .i64) (.int .i64))))))))))))))))))), (4, false, .pure (.int .i64))] [0, 1, 2] (fun v => v.1.1 = a0.1 ∧ cpInv a0.2 v.1.2 v.2.1) (fun v => ((List.length a0.2 : Int) - v.2.1).toNat) rfl ?_ ?_
  · exact ⟨rfl, cpStart⟩
  rintro ⟨acc, (i : Int), _⟩ hI
  have hI : acc.1 = a0.1 ∧ cpInv a0.2 acc.2 i := hI
  refine Vc.seq ?_
  refine Vc.seq ?_
  refine Vc.region hG rfl ?_ ?_
  · trivial
  refine Vc.cond rfl (fun h0 => ?_) (fun h0 => ?_)
  · skip
    have hl : i < (List.length a0.2 : Int) := of_decide_eq_true h0
    have hE : Sm big20 (.pair (.int .i64) (.pair (.int .i64) (.pair (.pair (.int .i64) (.pair (.slice (.str)) (.slice (.int .i64)))) (.pair (.pair (.int .i64) (.pair (.int .i64) (.pair (.int .i64) (.pair (.int .i64) (.pair (.int .i64) (.pair (.int .i64) (.pair (.int .i64) (.pair (.int .i64) (.int .i64))))))))) (.pair (.slice (.pair (.int .i64) (.pair (.slice (.int .i64)) (.int .i64)))) (.slice (.pair (.int .i64) (.pair (.int .i64) (.pair (.int .i64) (.pair (.slice (.pair (.int .i64) (.bool))) (.slice (.pair (.int .i64) (.pair (.int .i64) (.pair (.int .i64) (.pair (.int .i64) (.int .i64)))))))))))))))) (List.getD a0.2 i.toNat (dflt (.pair (.int .i64) (.pair (.int .i64) (.pair (.pair (.int .i64) (.pair (.slice (.str)) (.slice (.int .i64)))) (.pair (.pair (.int .i64) (.pair (.int .i64) (.pair (.int .i64) (.pair (.int .i64) (.pair (.int .i64) (.pair (.int .i64) (.pair (.int .i64) (.pair (.int .i64) (.int .i64))))))))) (.pair (.slice (.pair (.int .i64) (.pair (.slice (.int .i64)) (.int .i64)))) (.slice (.pair (.int .i64) (.pair (.int .i64) (.pair (.int .i64) (.pair (.slice (.pair (.int .i64) (.bool))) (.slice (.pair (.int .i64) (.pair (.int .i64) (.pair (.int .i64) (.pair (.int .i64) (.int .i64)))))))))))))))))) := hp.2 _ (upElem hI.2.1 hl)
    refine Vc.skip ?_
    refine Vc.seq ?_
    refine Vc.block ?_
    refine Vc.regionD mixed hG rfl (by kernel_rfl) ?_ ?_
    · exact ⟨cpRange hI.2 hl, hE, cpLen hI.2 hl hp.1⟩
    refine Vc.region hG rfl ?_ ?_
    · trivial
    refine ⟨rfl, ?_⟩
    have e := cpStep (d := dflt (.pair (.int .i64) (.pair (.int .i64) (.pair (.pair (.int .i64) (.pair (.slice (.str)) (.slice (.int .i64)))) (.pair (.pair (.int .i64) (.pair (.int .i64) (.pair (.int .i64) (.pair (.int .i64) (.pair (.int .i64) (.pair (.int .i64) (.pair (.int .i64) (.pair (.int .i64) (.int .i64))))))))) (.pair (.slice (.pair (.int .i64) (.pair (.slice (.int .i64)) (.int .i64)))) (.slice (.pair (.int .i64) (.pair (.int .i64) (.pair (.int .i64) (.pair (.slice (.pair (.int .i64) (.bool))) (.slice (.pair (.int .i64) (.pair (.int .i64) (.pair (.int .i64) (.pair (.int .i64) (.int .i64))))))))))))))))) hI.2 hl hb rfl
    exact ⟨⟨hI.1, e.1⟩, e.2⟩
  · skip
    have hl : ¬ i < (List.length a0.2 : Int) := of_decide_eq_false h0
    refine Vc.exit ?_
    refine Vc.seq ?_
    refine Vc.region hG rfl ?_ ?_
    · trivial
    refine Vc.ret ?_
    refine ⟨?_, trivial⟩
    exact Prod.ext hI.1 (cpEnd hI.2 hl)
noncomputable def F35 : Fun := ⟨[.pair (.int .i64) (.slice (.pair (.int .i64) (.pair (.int .i64) (.pair (.pair (.int .i64) (.pair (.slice (.str)) (.slice (.int .i64)))) (.pair (.pair (.int .i64) (.pair (.int .i64) (.pair (.int .i64) (.pair (.int .i64) (.pair (.int .i64) (.pair (.int .i64) (.pair (.int .i64) (.pair (.int .i64) (.int .i64))))))))) (.pair (.slice (.pair (.int .i64) (.pair (.slice (.int .i64)) (.int .i64)))) (.slice (.pair (.int .i64) (.pair (.int .i64) (.pair (.int .i64) (.pair (.slice (.pair (.int .i64) (.bool))) (.slice (.pair (.int .i64) (.pair (.int .i64) (.pair (.int .i64) (.pair (.int .i64) (.int .i64))))))))))))))))), .int .i64], [.pair (.pure (.int .i64)) (.own (.pair (.pure (.int .i64)) (.pair (.pure (.int .i64)) (.pair (.pair (.pure (.int .i64)) (.pair (.own (.pure (.str))) (.own (.pure (.int .i64))))) (.pair (.pure (.pair (.int .i64) (.pair (.int .i64) (.pair (.int .i64) (.pair (.int .i64) (.pair (.int .i64) (.pair (.int .i64) (.pair (.int .i64) (.pair (.int .i64) (.int .i64)))))))))) (.pair (.own (.pair (.pure (.int .i64)) (.pair (.own (.pure (.int .i64))) (.pure (.int .i64))))) (.own (.pair (.pure (.int .i64)) (.pair (.pure (.int .i64)) (.pair (.pure (.int .i64)) (.pair (.own (.pure (.pair (.int .i64) (.bool)))) (.own (.pure (.pair (.int .i64) (.pair (.int .i64) (.pair (.int .i64) (.pair (.int .i64) (.int .i64)))))))))))))))))), .pure (.bool)], fun x => (fun (a : Archive) (_ : Int) => Sm big20 (.pair (.int .i64) (.slice (.pair (.int .i64) (.pair (.int .i64) (.pair (.pair (.int .i64) (.pair (.slice (.str)) (.slice (.int .i64)))) (.pair (.pair (.int .i64) (.pair (.int .i64) (.pair (.int .i64) (.pair (.int .i64) (.pair (.int .i64) (.pair (.int .i64) (.pair (.int .i64) (.pair (.int .i64) (.int .i64))))))))) (.pair (.slice (.pair (.int .i64) (.pair (.slice (.int .i64)) (.int .i64)))) (.slice (.pair (.int .i64) (.pair (.int .i64) (.pair (.int .i64) (.pair (.slice (.pair (.int .i64) (.bool))) (.slice (.pair (.int .i64) (.pair (.int .i64) (.pair (.int .i64) (.pair (.int .i64) (.int .i64)))))))))))))))))) a) x.1 x.2.1, fun x => ((dropItemF x.1 x.2.1).1, (dropItemF x.1 x.2.1).2, ())⟩
set_option maxRecDepth 100000 in
/-- loop.example.g00597.spec.DropItem -/
theorem F35_ok : Meets Try.prog 35 F35 := by
  refine meets_of_vc (C := mkC 41 [4, 5] [0,1,2,4,5,6,7,8,13,23,28] [⟨77, _, F77_ok⟩, ⟨76, _, F76_ok⟩, ⟨69, _, F69_ok⟩]) (mkC_ok _ _ _ _) (fnOf_ok _) Try.func35 rfl rfl rfl (by decide) rfl ?_
  rintro ⟨a0, (a1 : Int), _⟩ hwf hpre ⟨P, C, B, X, w0, M0, pv⟩ hG rfl rfl
  show Vc _ _ [(0, ⟨0, 0, .c (.pure (.pair (.int .i64) (.slice (.pair (.int .i64) (.pair (.int .i64) (.pair (.pair (.int .i64) (.pair (.slice (.str)) (.slice (.int .i64)))) (.pair (.pair (.int .i64) (.pair (.int .i64) (.pair (.int .i64) (.pair (.int .i64) (.pair (.int .i64) (.pair (.int .i64) (.pair (.int .i64) (.pair (.int .i64) (.int .i64))))))))) (.pair (.slice (.pair (.int .i64) (.pair (.slice (.int .i64)) (.int .i64)))) (.slice (.pair (.int .i64) (.pair (.int .i64) (.pair (.int .i64) (.pair (.slice (.pair (.int .i64) (.bool))) (.slice (.pair (.int .i64) (.pair (.int .i64) (.pair (.int .i64) (.pair (.int .i64) (.int .i64))))))))))))))))))) a0⟩), (1, ⟨0, 0, .c (.pure (.int .i64)) a1⟩)] _
  have hp1 : Sm big20 (.pair (.int .i64) (.slice (.pair (.int .i64) (.pair (.int .i64) (.pair (.pair (.int .i64) (.pair (.slice (.str)) (.slice (.int .i64)))) (.pair (.pair (.int .i64) (.pair (.int .i64) (.pair (.int .i64) (.pair (.int .i64) (.pair (.int .i64) (.pair (.int .i64) (.pair (.int .i64) (.pair (.int .i64) (.int .i64))))))))) (.pair (.slice (.pair (.int .i64) (.pair (.slice (.int .i64)) (.int .i64)))) (.slice (.pair (.int .i64) (.pair (.int .i64) (.pair (.int .i64) (.pair (.slice (.pair (.int .i64) (.bool))) (.slice (.pair (.int .i64) (.pair (.int .i64) (.pair (.int .i64) (.pair (.int .i64) (.int .i64)))))))))))))))))) a0 := hpre
  have hs : List.length a0.2 ≤ 1048576 := hp1.2.1
  have hb : List.length a0.2 ≤ bigLen := hwf.1.2.1
  refine Vc.seq ?_
  refine Vc.region hG rfl ?_ ?_
  · trivial
  refine Vc.seq ?_
  refine Vc.region hG rfl ?_ ?_
  · trivial
  refine Vc.seq ?_
  refine Vc.seq ?_
  refine Vc.region hG rfl ?_ ?_
  · trivial
  refine Vc.cond rfl (fun h0 => ?_) (fun h0 => ?_)
  · skip
    have g0 : itAt a0 a1 < 0 := of_decide_eq_true h0
    refine Vc.seq ?_
    refine Vc.region hG rfl ?_ ?_
    · exact hp1
    refine Vc.ret ?_
    have e := di0 g0
    refine ⟨?_, ?_, trivial⟩
    · exact (congrArg Prod.fst e).symm
    · exact (congrArg Prod.snd e).symm
  · skip
    have g0 : ¬ itAt a0 a1 < 0 := of_decide_eq_false h0
    refine Vc.skip ?_
    refine Vc.seq ?_
    refine Vc.region hG rfl ?_ ?_
    · trivial
    refine Vc.seq ?_
    refine Vc.seq ?_
    refine Vc.region hG rfl ?_ ?_
    · trivial
    refine Vc.block ?_
    -- slots [7, 8]; frame [0, 1, 2, 4, 5, 6, 13]
    refine Vc.loopF [(7, true, .pair (.pure (.int .i64)) (.own (.pair (.pure (.int .i64)) (.pair (.pure (.int .i64)) (.pair (.pair (.pure (.int .i64)) (.pair (.own (.pure (.str))) (.own (.pure (.int .i64))))) (.pair (.pure (.pair (.int .i64) (.pair (.int .i64) (.pair (.int .i64) (.pair (.int .i64) (.pair (.int .i64) (.pair (.int .i64) (.pair (.int .i64) (.pair (.int .i64) (.int .i64)))))))))) (.pair (.own (.pair (.pure (.int .i64)) (.pair (.own (.pure (.int .i64))) (.pure (.int .i64))))) (.own (.pair (.pure (.int .i64)) (.pair (.pure (.int .i64)) (.pair (.pure (.int .i64)) (.pair (.own (.pure (.pair (.int .i64) (.bool)))) (.own (.pure (.pair (.int .i64) (.pair (.int .i64) (.pair (.int .i64) (.pair (.int .i64) (.int .i64))))))))))))))))))), (8, false, .pure (.int .i64))] [0, 1, 2, 4, 5, 6, 13] (fun v => diInv a0 (itAt a0 a1).toNat v.1 v.2.1) (fun v => ((List.length a0.2 : Int) - v.2.1).toNat) rfl ?_ ?_
    · exact diStart
    rintro ⟨o, (i : Int), _⟩ hI
    have hI : diInv a0 (itAt a0 a1).toNat o i := hI
    refine Vc.seq ?_
    refine Vc.seq ?_
    refine Vc.region hG rfl ?_ ?_
    · trivial
    refine Vc.cond rfl (fun h1 => ?_) (fun h1 => ?_)
    · skip
      have hl : i < (List.length a0.2 : Int) := of_decide_eq_true h1
      have hE : Sm big20 (.pair (.int .i64) (.pair (.int .i64) (.pair (.pair (.int .i64) (.pair (.slice (.str)) (.slice (.int .i64)))) (.pair (.pair (.int .i64) (.pair (.int .i64) (.pair (.int .i64) (.pair (.int .i64) (.pair (.int .i64) (.pair (.int .i64) (.pair (.int .i64) (.pair (.int .i64) (.int .i64))))))))) (.pair (.slice (.pair (.int .i64) (.pair (.slice (.int .i64)) (.int .i64)))) (.slice (.pair (.int .i64) (.pair (.int .i64) (.pair (.int .i64) (.pair (.slice (.pair (.int .i64) (.bool))) (.slice (.pair (.int .i64) (.pair (.int .i64) (.pair (.int .i64) (.pair (.int .i64) (.int .i64)))))))))))))))) (List.getD a0.2 i.toNat (dflt (.pair (.int .i64) (.pair (.int .i64) (.pair (.pair (.int .i64) (.pair (.slice (.str)) (.slice (.int .i64)))) (.pair (.pair (.int .i64) (.pair (.int .i64) (.pair (.int .i64) (.pair (.int .i64) (.pair (.int .i64) (.pair (.int .i64) (.pair (.int .i64) (.pair (.int .i64) (.int .i64))))))))) (.pair (.slice (.pair (.int .i64) (.pair (.slice (.int .i64)) (.int .i64)))) (.slice (.pair (.int .i64) (.pair (.int .i64) (.pair (.int .i64) (.pair (.slice (.pair (.int .i64) (.bool))) (.slice (.pair (.int .i64) (.pair (.int .i64) (.pair (.int .i64) (.pair (.int .i64) (.int .i64)))))))))))))))))) := hp1.2.2 _ (upElem hI.2.1 hl)
      refine Vc.skip ?_
      refine Vc.seq ?_
      refine Vc.block ?_
      refine Vc.seq ?_
      refine Vc.region hG rfl ?_ ?_
      · trivial
      refine Vc.cond rfl (fun h2 => ?_) (fun h2 => ?_)
      · skip
        have g2 : i.toNat ≠ (itAt a0 a1).toNat := diNe hI.2.1 g0 (show (i != itAt a0 a1) = true from h2)
        refine Vc.regionD mixed hG rfl (by kernel_rfl) ?_ ?_
        · exact ⟨upRange hI.2.1 hl, hE, diLen hI hs⟩
        refine Vc.region hG rfl ?_ ?_
        · trivial
        refine ⟨rfl, ?_⟩
        first
          | exact diNo hI hl hb g2
          | exact diYes hI hl hb g2 rfl
      · skip
        have g2 : i.toNat = (itAt a0 a1).toNat := diEq (show (i != itAt a0 a1) = false from h2)
        refine Vc.skip ?_
        refine Vc.region hG rfl ?_ ?_
        · trivial
        refine ⟨rfl, ?_⟩
        first
          | exact diNo hI hl hb g2
          | exact diYes hI hl hb g2 rfl
    · skip
      have hl : ¬ i < (List.length a0.2 : Int) := of_decide_eq_false h1
      have hei := diEnd hI hl g0
      refine Vc.exit ?_
      refine Vc.seq ?_
      refine Vc.region hG rfl ?_ ?_
      · trivial
      refine Vc.ret ?_
      have e := hei
      refine ⟨?_, ?_, trivial⟩
      · exact (congrArg Prod.fst e).symm
      · exact (congrArg Prod.snd e).symm
end Fw
