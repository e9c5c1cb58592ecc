/- Walks of functions of the program: what each computes. Conditions: those that each contract names. -/
import Derived.Test.YtlfmjohahkeejaaGreatW46T
namespace Fw
open Go Go.Proofs
set_option linter.unusedSimpArgs false
noncomputable def F84 : Fun := ⟨[.pair (.int .i64) Y8], [.pair (.pure (.int .i64)) Z12], fun x => Sm big20 Y14 x.1, fun x => (id x.1, ())⟩
set_option maxRecDepth 100000 in
/-- loop.example.g00597.spec.l6Copy -/
theorem F84_ok : Meets Tryz.prog 84 F84 := by
  refine meets_of_vc (C := mkC 14 [2] [0,1,2] []) (mkC_ok _ _ _ _) (fnOf_ok _) Tryz.func84 rfl rfl rfl (by decide) rfl ?_
  rintro ⟨a0, _⟩ hwf hpre ⟨P, C, B, X, w0, M0, pv⟩ hG rfl rfl
  show Vc _ _ [(0, ⟨0, 0, .c Z18 a0⟩)] _
  have hp1 : List.length a0.2.1 ≤ big20 := hpre.2.1.1
  have hp2 : List.length a0.2.2 ≤ big20 := hpre.2.2.1
  refine Vc.seq ?_
  refine Vc.region hG rfl ?_ ?_
  · trivial
  refine Vc.seq ?_
  refine Vc.regionD mixed hG rfl (by kernel_rfl) ?_ ?_
  · exact ⟨appOk hp1, appOk hp2⟩
  refine Vc.ret ?_
  refine ⟨?_, trivial⟩
  all_goals exact rfl
noncomputable def F154 : Fun := ⟨[.pair (.int .i64) Y6], [.pair (.pure (.int .i64)) Z11], fun x => Sm big20 Y13 x.1, fun x => (id x.1, ())⟩
set_option maxRecDepth 100000 in
/-- loop.example.g00597.spec.l18Copy -/
theorem F154_ok : Meets Tryz.prog 154 F154 := by
  refine meets_of_vc (C := mkC 12 [2] [0,1,2] []) (mkC_ok _ _ _ _) (fnOf_ok _) Tryz.func154 rfl rfl rfl (by decide) rfl ?_
  rintro ⟨a0, _⟩ hwf hpre ⟨P, C, B, X, w0, M0, pv⟩ hG rfl rfl
  show Vc _ _ [(0, ⟨0, 0, .c Z15 a0⟩)] _
  have hp : List.length a0.2.1 ≤ big20 := hpre.2.1.1
  refine Vc.seq ?_
  refine Vc.region hG rfl ?_ ?_
  · trivial
  refine Vc.seq ?_
  refine Vc.regionD mixed hG rfl (by kernel_rfl) ?_ ?_
  · exact appOk hp
  refine Vc.ret ?_
  refine ⟨?_, trivial⟩
  all_goals exact rfl
noncomputable def F121 : Fun := ⟨[.slice Y13], [.own Z20], fun x => Sm big20 Y16 x.1, fun x => (id x.1, ())⟩
set_option maxRecDepth 100000 in
/-- loop.example.g00597.spec.l18All -/
theorem F121_ok : Meets Tryz.prog 121 F121 := by
  refine meets_of_vc (C := mkC 21 [2] [0,2,3,4,9] [⟨154, _, F154_ok⟩]) (mkC_ok _ _ _ _) (fnOf_ok _) Tryz.func121 rfl rfl rfl (by decide) rfl ?_
  rintro ⟨a0, _⟩ hwf hpre ⟨P, C, B, X, w0, M0, pv⟩ hG rfl rfl
  show Vc _ _ [(0, ⟨0, 0, .c Z19 a0⟩)] _
  have hp : _ ∧ _ := hpre
  have hb : List.length a0 ≤ bigLen := hwf.1.1
  refine Vc.seq ?_
  refine Vc.region hG rfl ?_ ?_
  · trivial
  refine Vc.seq ?_
  refine Vc.region hG rfl ?_ ?_
  · trivial
  refine Vc.seq ?_
  refine Vc.seq ?_
  refine Vc.region hG rfl ?_ ?_
  · trivial
  refine Vc.block ?_
  -- slots [3, 4]; frame [0, 2]
  refine Vc.loopF [(3, false, .own Z20), (4, false, .pure (.int .i64))] [0, 2] (fun v => cpInv a0 v.1 v.2.1) (fun v => ((List.length a0 : Int) - v.2.1).toNat) rfl ?_ ?_
  · exact cpStart
  rintro ⟨acc, (i : Int), _⟩ hI
  have hI : cpInv a0 acc i := hI
  refine Vc.seq ?_
  refine Vc.seq ?_
  refine Vc.region hG rfl ?_ ?_
  · trivial
  refine Vc.cond rfl (fun h0 => ?_) (fun h0 => ?_)
  · skip
    have hl : i < (List.length a0 : Int) := of_decide_eq_true h0
    have hE : Sm big20 Y13 (List.getD a0 i.toNat (dflt Y13)) := hp.2 _ (upElem hI.1 hl)
    refine Vc.skip ?_
    refine Vc.seq ?_
    refine Vc.block ?_
    refine Vc.region hG rfl ?_ ?_
    · exact ⟨cpRange hI hl, hE, cpLen hI hl hp.1⟩
    refine Vc.region hG rfl ?_ ?_
    · trivial
    refine ⟨rfl, ?_⟩
    exact cpStep (d := dflt Y13) hI hl hb rfl
  · skip
    have hl : ¬ i < (List.length a0 : Int) := of_decide_eq_false h0
    refine Vc.exit ?_
    refine Vc.seq ?_
    refine Vc.region hG rfl ?_ ?_
    · trivial
    refine Vc.ret ?_
    refine ⟨?_, trivial⟩
    exact cpEnd hI hl
noncomputable def F109 : Fun := ⟨[.pair (.int .i64) Y36], [.pair (.pure (.int .i64)) Z40], fun x => Sm big20 Y38 x.1, fun x => (id x.1, ())⟩
set_option maxRecDepth 100000 in
/-- loop.example.g00597.spec.l19Copy -/
theorem F109_ok : Meets Tryz.prog 109 F109 := by
  refine meets_of_vc (C := mkC 14 [2] [0,1,2] []) (mkC_ok _ _ _ _) (fnOf_ok _) Tryz.func109 rfl rfl rfl (by decide) rfl ?_
  rintro ⟨a0, _⟩ hwf hpre ⟨P, C, B, X, w0, M0, pv⟩ hG rfl rfl
  show Vc _ _ [(0, ⟨0, 0, .c Z39 a0⟩)] _
  have hp1 : List.length a0.2.2.2.1 ≤ big20 := hpre.2.2.2.1.1
  have hp2 : List.length a0.2.2.2.2 ≤ big20 := hpre.2.2.2.2.1
  refine Vc.seq ?_
  refine Vc.region hG rfl ?_ ?_
  · trivial
  refine Vc.seq ?_
  refine Vc.region hG rfl ?_ ?_
  · exact appOk hp1
  refine Vc.seq ?_
  refine Vc.region hG rfl ?_ ?_
  · exact appOk hp2
  refine Vc.seq ?_
  refine Vc.region hG rfl ?_ ?_
  · trivial
  refine Vc.ret ?_
  refine ⟨?_, trivial⟩
  all_goals exact rfl
noncomputable def F85 : Fun := ⟨[.pair Y16 Y41], [.pair Z22 Z44], fun x => Sm big20 Y45 x.1, fun x => (id x.1, ())⟩
set_option maxRecDepth 100000 in
/-- loop.example.g00597.spec.l20Copy -/
theorem F85_ok : Meets Tryz.prog 85 F85 := by
  refine meets_of_vc (C := mkC 28 [2] [0,1,2,3,4,13] [⟨121, _, F121_ok⟩, ⟨109, _, F109_ok⟩]) (mkC_ok _ _ _ _) (fnOf_ok _) Tryz.func85 rfl rfl rfl (by decide) rfl ?_
  rintro ⟨a0, _⟩ hwf hpre ⟨P, C, B, X, w0, M0, pv⟩ hG rfl rfl
  show Vc _ _ [(0, ⟨0, 0, .c Z46 a0⟩)] _
  have hp0 : Sm big20 Y16 a0.1 := hpre.1
  have hp : _ ∧ _ := hpre.2
  have hb : List.length a0.2 ≤ bigLen := hwf.1.2.1
  refine Vc.seq ?_
  refine Vc.region hG rfl ?_ ?_
  · trivial
  refine Vc.seq ?_
  refine Vc.region hG rfl ?_ ?_
  · exact hp0
  refine Vc.seq ?_
  refine Vc.seq ?_
  refine Vc.region hG rfl ?_ ?_
  · trivial
  refine Vc.block ?_
  -- slots [3, 4]; frame [0, 1, 2]
  refine Vc.loopF [(3, true, .pair Z22 Z44), (4, false, .pure (.int .i64))] [0, 1, 2] (fun v => v.1.1 = a0.1 ∧ cpInv a0.2 v.1.2 v.2.1) (fun v => ((List.length a0.2 : Int) - v.2.1).toNat) rfl ?_ ?_
  · exact ⟨rfl, cpStart⟩
  rintro ⟨acc, (i : Int), _⟩ hI
  have hI : acc.1 = a0.1 ∧ cpInv a0.2 acc.2 i := hI
  refine Vc.seq ?_
  refine Vc.seq ?_
  refine Vc.region hG rfl ?_ ?_
  · trivial
  refine Vc.cond rfl (fun h0 => ?_) (fun h0 => ?_)
  · skip
    have hl : i < (List.length a0.2 : Int) := of_decide_eq_true h0
    have hE : Sm big20 Y38 (List.getD a0.2 i.toNat (dflt Y38)) := hp.2 _ (upElem hI.2.1 hl)
    refine Vc.skip ?_
    refine Vc.seq ?_
    refine Vc.block ?_
    refine Vc.regionD mixed hG rfl (by kernel_rfl) ?_ ?_
    · exact ⟨cpRange hI.2 hl, hE, cpLen hI.2 hl hp.1⟩
    refine Vc.region hG rfl ?_ ?_
    · trivial
    refine ⟨rfl, ?_⟩
    have e := cpStep (d := dflt Y38) hI.2 hl hb rfl
    exact ⟨⟨hI.1, e.1⟩, e.2⟩
  · skip
    have hl : ¬ i < (List.length a0.2 : Int) := of_decide_eq_false h0
    refine Vc.exit ?_
    refine Vc.seq ?_
    refine Vc.region hG rfl ?_ ?_
    · trivial
    refine Vc.ret ?_
    refine ⟨?_, trivial⟩
    exact Prod.ext hI.1 (cpEnd hI.2 hl)
noncomputable def F45 : Fun := ⟨[.pair (.int .i64) Y51], [.pair (.pure (.int .i64)) Z59], fun x => Sm big20 Y52 x.1, fun x => (id x.1, ())⟩
set_option maxRecDepth 100000 in
/-- loop.example.g00597.spec.l28Item -/
theorem F45_ok : Meets Tryz.prog 45 F45 := by
  refine meets_of_vc (C := mkC 12 [2] [0,1,2] [⟨84, _, F84_ok⟩, ⟨85, _, F85_ok⟩]) (mkC_ok _ _ _ _) (fnOf_ok _) Tryz.func45 rfl rfl rfl (by decide) rfl ?_
  rintro ⟨a0, _⟩ hwf hpre ⟨P, C, B, X, w0, M0, pv⟩ hG rfl rfl
  show Vc _ _ [(0, ⟨0, 0, .c Z53 a0⟩)] _
  have hp1 : Sm big20 Y14 a0.2.2.1 := hpre.2.2.1
  have hp2 : Sm big20 Y45 a0.2.2.2.2 := hpre.2.2.2.2
  refine Vc.seq ?_
  refine Vc.region hG rfl ?_ ?_
  · trivial
  refine Vc.seq ?_
  refine Vc.region hG rfl ?_ ?_
  · exact hp1
  refine Vc.seq ?_
  refine Vc.region hG rfl ?_ ?_
  · exact hp2
  refine Vc.seq ?_
  refine Vc.region hG rfl ?_ ?_
  · trivial
  refine Vc.ret ?_
  refine ⟨?_, trivial⟩
  all_goals exact rfl
noncomputable def F44 : Fun := ⟨[.pair (.int .i64) Y54], [.pair (.pure (.int .i64)) Z61], fun x => Sm big20 Y56 x.1, fun x => (id x.1, ())⟩
set_option maxRecDepth 100000 in
/-- loop.example.g00597.spec.l28Copy -/
theorem F44_ok : Meets Tryz.prog 44 F44 := by
  refine meets_of_vc (C := mkC 27 [2] [0,1,2,3,4,12] [⟨45, _, F45_ok⟩]) (mkC_ok _ _ _ _) (fnOf_ok _) Tryz.func44 rfl rfl rfl (by decide) rfl ?_
  rintro ⟨a0, _⟩ hwf hpre ⟨P, C, B, X, w0, M0, pv⟩ hG rfl rfl
  show Vc _ _ [(0, ⟨0, 0, .c Z57 a0⟩)] _
  have hp : _ ∧ _ := hpre.2
  have hb : List.length a0.2 ≤ bigLen := hwf.1.2.1
  refine Vc.seq ?_
  refine Vc.region hG rfl ?_ ?_
  · trivial
  refine Vc.seq ?_
  refine Vc.region hG rfl ?_ ?_
  · trivial
  refine Vc.seq ?_
  refine Vc.seq ?_
  refine Vc.region hG rfl ?_ ?_
  · trivial
  refine Vc.block ?_
  -- slots [3, 4]; frame [0, 1, 2]
  refine Vc.loopF [(3, true, .pair (.pure (.int .i64)) Z61), (4, false, .pure (.int .i64))] [0, 1, 2] (fun v => v.1.1 = a0.1 ∧ cpInv a0.2 v.1.2 v.2.1) (fun v => ((List.length a0.2 : Int) - v.2.1).toNat) rfl ?_ ?_
  · exact ⟨rfl, cpStart⟩
  rintro ⟨acc, (i : Int), _⟩ hI
  have hI : acc.1 = a0.1 ∧ cpInv a0.2 acc.2 i := hI
  refine Vc.seq ?_
  refine Vc.seq ?_
  refine Vc.region hG rfl ?_ ?_
  · trivial
  refine Vc.cond rfl (fun h0 => ?_) (fun h0 => ?_)
  · skip
    have hl : i < (List.length a0.2 : Int) := of_decide_eq_true h0
    have hE : Sm big20 Y52 (List.getD a0.2 i.toNat (dflt Y52)) := hp.2 _ (upElem hI.2.1 hl)
    refine Vc.skip ?_
    refine Vc.seq ?_
    refine Vc.block ?_
    refine Vc.regionD mixed hG rfl (by kernel_rfl) ?_ ?_
    · exact ⟨cpRange hI.2 hl, hE, cpLen hI.2 hl hp.1⟩
    refine Vc.region hG rfl ?_ ?_
    · trivial
    refine ⟨rfl, ?_⟩
    have e := cpStep (d := dflt Y52) hI.2 hl hb rfl
    exact ⟨⟨hI.1, e.1⟩, e.2⟩
  · skip
    have hl : ¬ i < (List.length a0.2 : Int) := of_decide_eq_false h0
    refine Vc.exit ?_
    refine Vc.seq ?_
    refine Vc.region hG rfl ?_ ?_
    · trivial
    refine Vc.ret ?_
    refine ⟨?_, trivial⟩
    exact Prod.ext hI.1 (cpEnd hI.2 hl)
noncomputable def F83 : Fun := ⟨[.int .i64, .int .i64, .int .i64], [.pure (.bool)], fun _ => True, fun x => (inRangeF x.1 x.2.1 x.2.2.1, ())⟩
set_option maxRecDepth 100000 in
/-- loop.example.g00597.spec.l1In -/
theorem F83_ok : Meets Tryz.prog 83 F83 := by
  refine meets_of_vc (C := mkC 15 [6] [0,1,2,6] []) (mkC_ok _ _ _ _) (fnOf_ok _) Tryz.func83 rfl rfl rfl (by decide) rfl ?_
  rintro ⟨(a0 : Int), (a1 : Int), (a2 : Int), _⟩ hwf hpre ⟨P, C, B, X, w0, M0, pv⟩ hG rfl rfl
  show Vc _ _ [(0, ⟨0, 0, .c (.pure (.int .i64)) a0⟩), (1, ⟨0, 0, .c (.pure (.int .i64)) a1⟩), (2, ⟨0, 0, .c (.pure (.int .i64)) a2⟩)] _
  refine Vc.seq ?_
  refine Vc.region hG rfl ?_ ?_
  · trivial
  refine Vc.seq ?_
  refine Vc.region hG rfl ?_ ?_
  · trivial
  refine Vc.ret ?_
  refine ⟨?_, trivial⟩
  all_goals exact rfl
noncomputable def F118 : Fun := ⟨[.pair (.int .i64) Y8], [.pure (.bool)], fun _ => True, fun x => (docF x.1, ())⟩
set_option maxRecDepth 100000 in
/-- loop.example.g00597.spec.IsDocument -/
theorem F118_ok : Meets Tryz.prog 118 F118 := by
  refine meets_of_vc (C := mkC 51 [2] [0,1,2,3,4,9,18,23,32] [⟨83, _, F83_ok⟩]) (mkC_ok _ _ _ _) (fnOf_ok _) Tryz.func118 rfl rfl rfl (by decide) rfl ?_
  rintro ⟨a0, _⟩ hwf hpre ⟨P, C, B, X, w0, M0, pv⟩ hG rfl rfl
  show Vc _ _ [(0, ⟨0, 0, .c Z18 a0⟩)] _
  have hb0 : List.length a0.2.1 ≤ bigLen := hwf.1.2.1.1
  have hb1 : List.length a0.2.2 ≤ bigLen := hwf.1.2.2.1
  refine Vc.seq ?_
  refine Vc.region hG rfl ?_ ?_
  · trivial
  refine Vc.seq ?_
  refine Vc.seq ?_
  refine Vc.region hG rfl ?_ ?_
  · trivial
  refine Vc.block ?_
  -- slots [3]; frame [0, 1, 4, 23, 32]
  refine Vc.loopF [(3, false, .pure (.int .i64))] [0, 1, 4, 23, 32] (fun v => kInv (fun k => (List.length (List.getD a0.2.1 k (dflt .str)) : Int) ≤ 40) a0.2.1 v.1) (fun v => ((List.length a0.2.1 : Int) - v.1).toNat) rfl ?_ ?_
  · exact kStart
  rintro ⟨(i : Int), _⟩ hI0
  have hI0 : kInv (fun k => (List.length (List.getD a0.2.1 k (dflt .str)) : Int) ≤ 40) a0.2.1 i := hI0
  refine Vc.seq ?_
  refine Vc.seq ?_
  refine Vc.region hG rfl ?_ ?_
  · trivial
  refine Vc.cond rfl (fun h0 => ?_) (fun h0 => ?_)
  · skip
    have hl0 : i < (List.length a0.2.1 : Int) := of_decide_eq_true h0
    refine Vc.skip ?_
    refine Vc.seq ?_
    refine Vc.block ?_
    refine Vc.seq ?_
    refine Vc.region hG rfl ?_ ?_
    · exact kRange hI0 hl0
    refine Vc.cond rfl (fun h1 => ?_) (fun h1 => ?_)
    · skip
      have g1 : (List.length (List.getD a0.2.1 i.toNat (dflt .str)) : Int) > 40 := of_decide_eq_true h1
      refine Vc.seq ?_
      refine Vc.region hG rfl ?_ ?_
      · trivial
      refine Vc.ret ?_
      refine ⟨?_, trivial⟩
      refine boolC_no (P := docP a0) (fun h => ?_)
      have q := h.2.2.2.1 i.toNat (kLt hI0 hl0)
      exact absurd q (Int.not_le.2 g1)
    · skip
      have g1 : ¬ (List.length (List.getD a0.2.1 i.toNat (dflt .str)) : Int) > 40 := of_decide_eq_false h1
      refine Vc.skip ?_
      refine Vc.region hG rfl ?_ ?_
      · trivial
      refine ⟨rfl, ?_⟩
      exact kStep hI0 hl0 hb0 (show (List.length (List.getD a0.2.1 i.toNat (dflt .str)) : Int) ≤ 40 from Int.not_lt.1 g1)
  · skip
    have hl0 : ¬ i < (List.length a0.2.1 : Int) := of_decide_eq_false h0
    refine Vc.exit ?_
    refine Vc.seq ?_
    refine Vc.seq ?_
    refine Vc.region hG rfl ?_ ?_
    · trivial
    refine Vc.block ?_
    -- slots [4]; frame [0, 1, 3, 9, 18]
    refine Vc.loopF [(4, false, .pure (.int .i64))] [0, 1, 3, 9, 18] (fun v => kInv (fun k => inRangeF (List.getD a0.2.2 k (dflt (.int .i64))) 1 1000000000000 = true) a0.2.2 v.1) (fun v => ((List.length a0.2.2 : Int) - v.1).toNat) rfl ?_ ?_
    · exact kStart
    rintro ⟨(i : Int), _⟩ hI1
    have hI1 : kInv (fun k => inRangeF (List.getD a0.2.2 k (dflt (.int .i64))) 1 1000000000000 = true) a0.2.2 i := hI1
    refine Vc.seq ?_
    refine Vc.seq ?_
    refine Vc.region hG rfl ?_ ?_
    · trivial
    refine Vc.cond rfl (fun h2 => ?_) (fun h2 => ?_)
    · skip
      have hl1 : i < (List.length a0.2.2 : Int) := of_decide_eq_true h2
      refine Vc.skip ?_
      refine Vc.seq ?_
      refine Vc.block ?_
      refine Vc.seq ?_
      refine Vc.region hG rfl ?_ ?_
      · exact ⟨kRange hI1 hl1, trivial⟩
      refine Vc.cond rfl (fun h3 => ?_) (fun h3 => ?_)
      · skip
        have g3 : (!(inRangeF (List.getD a0.2.2 i.toNat (dflt (.int .i64))) 1 1000000000000)) = true := h3
        refine Vc.seq ?_
        refine Vc.region hG rfl ?_ ?_
        · trivial
        refine Vc.ret ?_
        refine ⟨?_, trivial⟩
        refine boolC_no (P := docP a0) (fun h => ?_)
        exact nself (h.2.2.2.2 i.toNat (kLt hI1 hl1)) g3
      · skip
        have g3 : (!(inRangeF (List.getD a0.2.2 i.toNat (dflt (.int .i64))) 1 1000000000000)) = false := h3
        refine Vc.skip ?_
        refine Vc.region hG rfl ?_ ?_
        · trivial
        refine ⟨rfl, ?_⟩
        exact kStep hI1 hl1 hb1 (notF g3)
    · skip
      have hl1 : ¬ i < (List.length a0.2.2 : Int) := of_decide_eq_false h2
      refine Vc.exit ?_
      refine Vc.seq ?_
      refine Vc.region hG rfl ?_ ?_
      · repeat' (first | exact trivial | refine And.intro ?_ ?_ | intro _)
      refine Vc.ret ?_
      refine ⟨?_, trivial⟩
      refine boolC_by (P := docP a0) (fun e => ?_) (fun h => ?_)
      · exact ⟨(andT (andT e).1).1, (andT (andT e).1).2, lenBeqI (andT e).2, kEnd hI0 hl0, kEnd hI1 hl1⟩
      · exact yesAnd (yesAnd h.1 h.2.1) (lenBeq h.2.2.1)
noncomputable def F168 : Fun := ⟨[.int .i64, .int .i64], [.pure (.int .i64)], fun _ => True, fun x => (modF x.1 x.2.1, ())⟩
set_option maxRecDepth 100000 in
/-- loop.example.g00597.spec.Mod -/
theorem F168_ok : Meets Tryz.prog 168 F168 := by
  refine meets_of_vc (C := mkC 15 [4] [0,1,4,7] [⟨83, _, F83_ok⟩]) (mkC_ok _ _ _ _) (fnOf_ok _) Tryz.func168 rfl rfl rfl (by decide) rfl ?_
  rintro ⟨(a0 : Int), (a1 : Int), _⟩ hwf hpre ⟨P, C, B, X, w0, M0, pv⟩ hG rfl rfl
  show Vc _ _ [(0, ⟨0, 0, .c (.pure (.int .i64)) a0⟩), (1, ⟨0, 0, .c (.pure (.int .i64)) a1⟩)] _
  refine Vc.seq ?_
  refine Vc.region hG rfl ?_ ?_
  · trivial
  refine Vc.seq ?_
  refine Vc.seq ?_
  refine Vc.region hG rfl ?_ ?_
  · trivial
  refine Vc.cond rfl (fun h0 => ?_) (fun h0 => ?_)
  · skip
    have g0 : (!(inRangeF a1 1 1000000000000)) = true := h0
    refine Vc.seq ?_
    refine Vc.region hG rfl ?_ ?_
    · trivial
    refine Vc.ret ?_
    refine ⟨?_, trivial⟩
    show (0 : Int) = modF a0 a1
    unfold modF
    rw [if_neg (by simpa using g0)]
  · skip
    have g0 : (!(inRangeF a1 1 1000000000000)) = false := h0
    refine Vc.skip ?_
    refine Vc.seq ?_
    refine Vc.region hG rfl ?_ ?_
    · exact ⟨inR_pos h0, inR_pos h0⟩
    refine Vc.ret ?_
    refine ⟨?_, trivial⟩
    show _ = modF a0 a1
    unfold modF
    rw [if_pos (by simpa using g0)]
noncomputable def F162 : Fun := ⟨[.slice (.int .i64)], [.pure (.int .i64)], fun _ => True, fun x => (hashF x.1, ())⟩
set_option maxRecDepth 100000 in
/-- loop.example.g00597.spec.Hash -/
theorem F162_ok : Meets Tryz.prog 162 F162 := by
  refine meets_of_vc (C := mkC 22 [2] [0,2,3,4,8] [⟨168, _, F168_ok⟩]) (mkC_ok _ _ _ _) (fnOf_ok _) Tryz.func162 rfl rfl rfl (by decide) rfl ?_
  rintro ⟨a0, _⟩ hwf hpre ⟨P, C, B, X, w0, M0, pv⟩ hG rfl rfl
  show Vc _ _ [(0, ⟨0, 0, .c Z2 a0⟩)] _
  have hb : List.length a0 ≤ bigLen := hwf.1.1
  refine Vc.seq ?_
  refine Vc.region hG rfl ?_ ?_
  · trivial
  refine Vc.seq ?_
  refine Vc.region hG rfl ?_ ?_
  · trivial
  refine Vc.seq ?_
  refine Vc.seq ?_
  refine Vc.region hG rfl ?_ ?_
  · trivial
  refine Vc.block ?_
  -- slots [3, 4]; frame [0, 2]
  refine Vc.loopF [(3, false, .pure (.int .i64)), (4, false, .pure (.int .i64))] [0, 2] (fun v => foInv (hstep) (11) a0 v.1 v.2.1) (fun v => ((List.length a0 : Int) - v.2.1).toNat) rfl ?_ ?_
  · exact foStart
  rintro ⟨acc, (i : Int), _⟩ hI
  have hI : foInv (hstep) (11) a0 acc i := hI
  refine Vc.seq ?_
  refine Vc.seq ?_
  refine Vc.region hG rfl ?_ ?_
  · trivial
  refine Vc.cond rfl (fun h0 => ?_) (fun h0 => ?_)
  · skip
    have hl : i < (List.length a0 : Int) := of_decide_eq_true h0
    refine Vc.skip ?_
    refine Vc.seq ?_
    refine Vc.block ?_
    refine Vc.region hG rfl ?_ ?_
    · exact ⟨foRange hI hl, trivial, (show (2147483647 : Int) ≠ 0 by decide)⟩
    refine Vc.region hG rfl ?_ ?_
    · trivial
    refine ⟨rfl, ?_⟩
    exact foStep hI hl hb
  · skip
    have hl : ¬ i < (List.length a0 : Int) := of_decide_eq_false h0
    refine Vc.exit ?_
    refine Vc.seq ?_
    refine Vc.region hG rfl ?_ ?_
    · trivial
    refine Vc.ret ?_
    refine ⟨?_, trivial⟩
    exact foEnd hI hl
noncomputable def F139 : Fun := ⟨[.int .i64, .slice (.int .i64)], [.pure (.int .i64)], fun x => (fun (_ : Int) (l : List Int) => smallL l) x.1 x.2.1, fun x => (digestF x.1 x.2.1, ())⟩
set_option maxRecDepth 100000 in
/-- loop.example.g00597.spec.DigestOf -/
theorem F139_ok : Meets Tryz.prog 139 F139 := by
  refine meets_of_vc (C := mkC 10 [4] [0,1,4] [⟨162, _, F162_ok⟩]) (mkC_ok _ _ _ _) (fnOf_ok _) Tryz.func139 rfl rfl rfl (by decide) rfl ?_
  rintro ⟨(a0 : Int), a1, _⟩ hwf hpre ⟨P, C, B, X, w0, M0, pv⟩ hG rfl rfl
  show Vc _ _ [(0, ⟨0, 0, .c (.pure (.int .i64)) a0⟩), (1, ⟨0, 0, .c Z2 a1⟩)] _
  have hp : List.length a1 ≤ 1000000000 := hpre
  refine Vc.seq ?_
  refine Vc.region hG rfl ?_ ?_
  · trivial
  refine Vc.seq ?_
  refine Vc.region hG rfl ?_ ?_
  · refine ⟨?_, trivial⟩
    show 2 + List.length a1 ≤ maxApp
    unfold maxApp; omega
  refine Vc.ret ?_
  refine ⟨?_, trivial⟩
  exact (digest_eq a0 a1).symm
noncomputable def F160 : Fun := ⟨[.int .i64, .str, .int .i64], [.pure (.int .i64)], fun x => (fun (_ : Int) (s : List UInt8) (_ : Int) => s.length ≤ 40) x.1 x.2.1 x.2.2.1, fun x => (partF x.1 x.2.1 x.2.2.1, ())⟩
set_option maxRecDepth 100000 in
/-- loop.example.g00597.spec.PartDigest -/
theorem F160_ok : Meets Tryz.prog 160 F160 := by
  refine meets_of_vc (C := mkC 27 [6] [0,1,2,6,7,8,14] [⟨139, _, F139_ok⟩]) (mkC_ok _ _ _ _) (fnOf_ok _) Tryz.func160 rfl rfl rfl (by decide) rfl ?_
  rintro ⟨(a0 : Int), a1, (a2 : Int), _⟩ hwf hpre ⟨P, C, B, X, w0, M0, pv⟩ hG rfl rfl
  show Vc _ _ [(0, ⟨0, 0, .c (.pure (.int .i64)) a0⟩), (1, ⟨0, 0, .c (.pure (.str)) a1⟩), (2, ⟨0, 0, .c (.pure (.int .i64)) a2⟩)] _
  have hp : List.length a1 ≤ 40 := hpre
  have hb : List.length a1 ≤ bigLen := hwf.2.1
  refine Vc.seq ?_
  refine Vc.region hG rfl ?_ ?_
  · trivial
  refine Vc.seq ?_
  refine Vc.region hG rfl ?_ ?_
  · trivial
  refine Vc.seq ?_
  refine Vc.seq ?_
  refine Vc.region hG rfl ?_ ?_
  · trivial
  refine Vc.block ?_
  -- slots [7, 8]; frame [0, 1, 2, 6]
  refine Vc.loopF [(7, false, .own (.pure (.int .i64))), (8, false, .pure (.int .i64))] [0, 1, 2, 6] (fun v => gsInv (partG a1) [a2] a1 v.1 v.2.1) (fun v => ((List.length a1 : Int) - v.2.1).toNat) rfl ?_ ?_
  · exact gsStart
  rintro ⟨acc, (i : Int), _⟩ hI
  have hI : gsInv (partG a1) [a2] a1 acc i := hI
  have hA : List.length acc ≤ 41 := gsLen (c := 1) (m := 40) hI (fun _ => Nat.le_refl _) hp (by simp)
  refine Vc.seq ?_
  refine Vc.seq ?_
  refine Vc.region hG rfl ?_ ?_
  · trivial
  refine Vc.cond rfl (fun h0 => ?_) (fun h0 => ?_)
  · skip
    have hl : i < (List.length a1 : Int) := of_decide_eq_true h0
    refine Vc.skip ?_
    refine Vc.seq ?_
    refine Vc.block ?_
    refine Vc.region hG rfl ?_ ?_
    · exact ⟨gsRange hI hl, (show List.length acc + 1 ≤ maxApp from by unfold maxApp; omega)⟩
    refine Vc.region hG rfl ?_ ?_
    · trivial
    refine ⟨rfl, ?_⟩
    exact gsStep hI hl hb rfl
  · skip
    have hl : ¬ i < (List.length a1 : Int) := of_decide_eq_false h0
    refine Vc.exit ?_
    refine Vc.seq ?_
    refine Vc.region hG rfl ?_ ?_
    · exact (show List.length acc ≤ 1000000000 from by omega)
    refine Vc.ret ?_
    refine ⟨?_, trivial⟩
    exact congrArg (digestF a0) (gsEnd hI hl)
noncomputable def F136 : Fun := ⟨[.int .i64, .pair (.int .i64) Y8], [.pure (.int .i64)], fun _ => True, fun x => (docDigF x.1 x.2.1, ())⟩
set_option maxRecDepth 100000 in
/-- loop.example.g00597.spec.DocDigest -/
theorem F136_ok : Meets Tryz.prog 136 F136 := by
  refine meets_of_vc (C := mkC 38 [4] [0,1,3,4,5,6,9,17] [⟨118, _, F118_ok⟩, ⟨160, _, F160_ok⟩, ⟨139, _, F139_ok⟩]) (mkC_ok _ _ _ _) (fnOf_ok _) Tryz.func136 rfl rfl rfl (by decide) rfl ?_
  rintro ⟨(a0 : Int), a1, _⟩ hwf hpre ⟨P, C, B, X, w0, M0, pv⟩ hG rfl rfl
  show Vc _ _ [(0, ⟨0, 0, .c (.pure (.int .i64)) a0⟩), (1, ⟨0, 0, .c Z18 a1⟩)] _
  have hb : List.length a1.2.1 ≤ bigLen := hwf.2.1.2.1.1
  refine Vc.seq ?_
  refine Vc.region hG rfl ?_ ?_
  · trivial
  refine Vc.seq ?_
  refine Vc.seq ?_
  refine Vc.region hG rfl ?_ ?_
  · trivial
  refine Vc.cond rfl (fun h0 => ?_) (fun h0 => ?_)
  · skip
    have g0 : (!(docF a1)) = true := h0
    refine Vc.seq ?_
    refine Vc.region hG rfl ?_ ?_
    · trivial
    refine Vc.ret ?_
    refine ⟨?_, trivial⟩
    exact docDig0 g0
  · skip
    have g0 : (!(docF a1)) = false := h0
    have hd := docP_of g0
    have h6 : List.length a1.2.1 ≤ 6 := docN hd
    refine Vc.skip ?_
    refine Vc.seq ?_
    refine Vc.region hG rfl ?_ ?_
    · trivial
    refine Vc.seq ?_
    refine Vc.seq ?_
    refine Vc.region hG rfl ?_ ?_
    · trivial
    refine Vc.block ?_
    -- slots [5, 6]; frame [0, 1, 3, 4, 9]
    refine Vc.loopF [(5, false, .own (.pure (.int .i64))), (6, false, .pure (.int .i64))] [0, 1, 3, 4, 9] (fun v => gsInv (docG a0 a1) [a1.1] a1.2.1 v.1 v.2.1) (fun v => ((List.length a1.2.1 : Int) - v.2.1).toNat) rfl ?_ ?_
    · exact gsStart
    rintro ⟨acc, (i : Int), _⟩ hI
    have hI : gsInv (docG a0 a1) [a1.1] a1.2.1 acc i := hI
    have hA : List.length acc ≤ 7 := gsLen (c := 1) (m := 6) hI (fun _ => Nat.le_refl _) h6 (by simp)
    refine Vc.seq ?_
    refine Vc.seq ?_
    refine Vc.region hG rfl ?_ ?_
    · trivial
    refine Vc.cond rfl (fun h1 => ?_) (fun h1 => ?_)
    · skip
      have hl : i < (List.length a1.2.1 : Int) := of_decide_eq_true h1
      refine Vc.skip ?_
      refine Vc.seq ?_
      refine Vc.block ?_
      refine Vc.regionD mixed hG rfl (by kernel_rfl) ?_ ?_
      · exact ⟨gsRange hI hl, docX hd hI hl, doc40 hd hI hl, (show List.length acc + 1 ≤ maxApp from by unfold maxApp; omega)⟩
      refine Vc.region hG rfl ?_ ?_
      · trivial
      refine ⟨rfl, ?_⟩
      exact gsStep hI hl hb rfl
    · skip
      have hl : ¬ i < (List.length a1.2.1 : Int) := of_decide_eq_false h1
      refine Vc.exit ?_
      refine Vc.seq ?_
      refine Vc.region hG rfl ?_ ?_
      · exact (show List.length acc ≤ 1000000000 from by omega)
      refine Vc.ret ?_
      refine ⟨?_, trivial⟩
      have e := docDig1 (id := a0) (d := a1) (acc := acc) (i := i) g0 hI hl
      exact e
noncomputable def F107 : Fun := ⟨[.pair Y16 Y41, .pair (.int .i64) Y8], [.own (.pure (.int .i64))], fun x => (fun (s : Strand) (_ : Doc) => List.length s.2 ≤ 2000000) x.1 x.2.1, fun x => (docDigsF x.1 x.2.1, ())⟩
set_option maxRecDepth 100000 in
/-- loop.example.g00597.spec.DocDigests -/
theorem F107_ok : Meets Tryz.prog 107 F107 := by
  refine meets_of_vc (C := mkC 27 [4] [0,1,2,3,4,5,6,12] [⟨136, _, F136_ok⟩]) (mkC_ok _ _ _ _) (fnOf_ok _) Tryz.func107 rfl rfl rfl (by decide) rfl ?_
  rintro ⟨a0, a1, _⟩ hwf hpre ⟨P, C, B, X, w0, M0, pv⟩ hG rfl rfl
  show Vc _ _ [(0, ⟨0, 0, .c Z46 a0⟩), (1, ⟨0, 0, .c Z18 a1⟩)] _
  have hs : List.length a0.2 ≤ 2000000 := hpre
  have hb : List.length a0.2 ≤ bigLen := hwf.1.2.1
  refine Vc.seq ?_
  refine Vc.region hG rfl ?_ ?_
  · trivial
  refine Vc.seq ?_
  refine Vc.region hG rfl ?_ ?_
  · trivial
  refine Vc.seq ?_
  refine Vc.seq ?_
  refine Vc.region hG rfl ?_ ?_
  · trivial
  refine Vc.block ?_
  -- slots [5, 6]; frame [0, 1, 2, 3, 4]
  refine Vc.loopF [(5, false, .own (.pure (.int .i64))), (6, false, .pure (.int .i64))] [0, 1, 2, 3, 4] (fun v => pkInv (ddF a1) a0.2 v.1 v.2.1) (fun v => ((List.length a0.2 : Int) - v.2.1).toNat) rfl ?_ ?_
  · exact pkStart
  rintro ⟨acc, (i : Int), _⟩ hI
  have hI : pkInv (ddF a1) a0.2 acc i := hI
  refine Vc.seq ?_
  refine Vc.seq ?_
  refine Vc.region hG rfl ?_ ?_
  · trivial
  refine Vc.cond rfl (fun h0 => ?_) (fun h0 => ?_)
  · skip
    have hl : i < (List.length a0.2 : Int) := of_decide_eq_true h0
    refine Vc.skip ?_
    refine Vc.seq ?_
    refine Vc.block ?_
    refine Vc.regionD mixed hG rfl (by kernel_rfl) ?_ ?_
    · exact ⟨pkRange hI hl, trivial, pkLen2 hI hs⟩
    refine Vc.region hG rfl ?_ ?_
    · trivial
    refine ⟨rfl, ?_⟩
    exact pkYes (d := dflt Y38) hI hl hb rfl
  · skip
    have hl : ¬ i < (List.length a0.2 : Int) := of_decide_eq_false h0
    refine Vc.exit ?_
    refine Vc.seq ?_
    refine Vc.region hG rfl ?_ ?_
    · trivial
    refine Vc.ret ?_
    refine ⟨?_, trivial⟩
    exact pkEnd hI hl
noncomputable def F161 : Fun := ⟨[.pair (.int .i64) Y17], [.own (.pure (.int .i64))], fun _ => True, fun x => (stampIntsF x.1, ())⟩
set_option maxRecDepth 100000 in
/-- loop.example.g00597.spec.StampInts -/
theorem F161_ok : Meets Tryz.prog 161 F161 := by
  refine meets_of_vc (C := mkC 12 [2] [0,1,2] []) (mkC_ok _ _ _ _) (fnOf_ok _) Tryz.func161 rfl rfl rfl (by decide) rfl ?_
  rintro ⟨a0, _⟩ hwf hpre ⟨P, C, B, X, w0, M0, pv⟩ hG rfl rfl
  show Vc _ _ [(0, ⟨0, 0, .c Z24 a0⟩)] _
  refine Vc.seq ?_
  refine Vc.region hG rfl ?_ ?_
  · trivial
  refine Vc.seq ?_
  refine Vc.region hG rfl ?_ ?_
  · trivial
  refine Vc.ret ?_
  refine ⟨?_, trivial⟩
  all_goals exact rfl
noncomputable def F138 : Fun := ⟨[.int .i64, .pair (.int .i64) Y36], [.pure (.int .i64)], fun x => (fun (_ : Int) (r : Renewal) => Sm big20 TRen r) x.1 x.2.1, fun x => (renDigF x.1 x.2.1, ())⟩
set_option maxRecDepth 100000 in
/-- loop.example.g00597.spec.RenewalDigest -/
theorem F138_ok : Meets Tryz.prog 138 F138 := by
  refine meets_of_vc (C := mkC 75 [4] [0,1,3,4,5,6,7,19,36,53] [⟨161, _, F161_ok⟩, ⟨139, _, F139_ok⟩]) (mkC_ok _ _ _ _) (fnOf_ok _) Tryz.func138 rfl rfl rfl (by decide) rfl ?_
  rintro ⟨(a0 : Int), a1, _⟩ hwf hpre ⟨P, C, B, X, w0, M0, pv⟩ hG rfl rfl
  show Vc _ _ [(0, ⟨0, 0, .c (.pure (.int .i64)) a0⟩), (1, ⟨0, 0, .c Z39 a1⟩)] _
  have hp : Sm big20 TRen a1 := hpre
  have h3 : List.length a1.2.2.2.1 ≤ 1048576 := hp.2.2.2.1.1
  have h4 : List.length a1.2.2.2.2 ≤ 1048576 := hp.2.2.2.2.1
  have hb0 : List.length a1.2.2.2.1 ≤ bigLen := hwf.2.1.2.2.2.1.1
  have hb1 : List.length a1.2.2.2.2 ≤ bigLen := hwf.2.1.2.2.2.2.1
  refine Vc.seq ?_
  refine Vc.region hG rfl ?_ ?_
  · trivial
  refine Vc.seq ?_
  refine Vc.region hG rfl ?_ ?_
  · trivial
  refine Vc.seq ?_
  refine Vc.seq ?_
  refine Vc.region hG rfl ?_ ?_
  · trivial
  refine Vc.block ?_
  -- slots [5, 6]; frame [0, 1, 3, 4, 7, 53]
  refine Vc.loopF [(5, false, .own (.pure (.int .i64))), (6, false, .pure (.int .i64))] [0, 1, 3, 4, 7, 53] (fun v => gsInv (stepG a1) [4, a1.1, a1.2.1, a1.2.2.1] a1.2.2.2.1 v.1 v.2.1) (fun v => ((List.length a1.2.2.2.1 : Int) - v.2.1).toNat) rfl ?_ ?_
  · exact gsStart
  rintro ⟨acc, (i : Int), _⟩ hI0
  have hI0 : gsInv (stepG a1) [4, a1.1, a1.2.1, a1.2.2.1] a1.2.2.2.1 acc i := hI0
  have hA : List.length acc ≤ 2097156 := gsLen (c := 2) (m := 1048576) hI0 (fun _ => Nat.le_refl _) h3 (by simp)
  refine Vc.seq ?_
  refine Vc.seq ?_
  refine Vc.region hG rfl ?_ ?_
  · trivial
  refine Vc.cond rfl (fun h0 => ?_) (fun h0 => ?_)
  · skip
    have hl0 : i < (List.length a1.2.2.2.1 : Int) := of_decide_eq_true h0
    refine Vc.skip ?_
    refine Vc.seq ?_
    refine Vc.block ?_
    refine Vc.seq ?_
    refine Vc.region hG rfl ?_ ?_
    · exact ⟨gsRange hI0 hl0, (show List.length acc + 1 ≤ maxApp from by unfold maxApp; omega)⟩
    refine Vc.seq ?_
    refine Vc.region hG rfl ?_ ?_
    · exact gsRange hI0 hl0
    refine Vc.cond rfl (fun h1 => ?_) (fun h1 => ?_)
    · skip
      have g1 : (List.getD a1.2.2.2.1 i.toNat (dflt TStep)).2 = true := h1
      refine Vc.region hG rfl ?_ ?_
      · exact (by show List.length (acc ++ [(List.getD a1.2.2.2.1 i.toNat (dflt TStep)).1]) + 1 ≤ maxApp; rw [List.length_append]; show List.length acc + 1 + 1 ≤ maxApp; unfold maxApp; omega)
      refine Vc.region hG rfl ?_ ?_
      · trivial
      refine ⟨rfl, ?_⟩
      first | exact gsStep hI0 hl0 hb0 (stepYes g1) | exact gsStep hI0 hl0 hb0 (stepNo g1)
    · skip
      have g1 : (List.getD a1.2.2.2.1 i.toNat (dflt TStep)).2 = false := h1
      refine Vc.region hG rfl ?_ ?_
      · exact (by show List.length (acc ++ [(List.getD a1.2.2.2.1 i.toNat (dflt TStep)).1]) + 1 ≤ maxApp; rw [List.length_append]; show List.length acc + 1 + 1 ≤ maxApp; unfold maxApp; omega)
      refine Vc.region hG rfl ?_ ?_
      · trivial
      refine ⟨rfl, ?_⟩
      first | exact gsStep hI0 hl0 hb0 (stepYes g1) | exact gsStep hI0 hl0 hb0 (stepNo g1)
  · skip
    have hl0 : ¬ i < (List.length a1.2.2.2.1 : Int) := of_decide_eq_false h0
    refine Vc.exit ?_
    refine Vc.seq ?_
    refine Vc.region hG rfl ?_ ?_
    · exact (show List.length acc + 1 ≤ maxApp from by unfold maxApp; omega)
    refine Vc.seq ?_
    refine Vc.seq ?_
    refine Vc.region hG rfl ?_ ?_
    · trivial
    refine Vc.block ?_
    -- slots [5, 7]; frame [0, 1, 3, 4, 6, 19, 36]
    refine Vc.loopF [(5, false, .own (.pure (.int .i64))), (7, false, .pure (.int .i64))] [0, 1, 3, 4, 6, 19, 36] (fun v => gsInv (stmpG a1) (renMid a1) a1.2.2.2.2 v.1 v.2.1) (fun v => ((List.length a1.2.2.2.2 : Int) - v.2.1).toNat) rfl ?_ ?_
    · exact gsStart2 (renMidEq hI0 hl0)
    rintro ⟨acc2, (i : Int), _⟩ hI1
    have hI1 : gsInv (stmpG a1) (renMid a1) a1.2.2.2.2 acc2 i := hI1
    have hA2 : List.length acc2 ≤ 8388613 := gsLen (c := 6) (m := 1048576) hI1 (fun _ => Nat.le_refl _) h4 (by have := midLen h3; omega)
    refine Vc.seq ?_
    refine Vc.seq ?_
    refine Vc.region hG rfl ?_ ?_
    · trivial
    refine Vc.cond rfl (fun h2 => ?_) (fun h2 => ?_)
    · skip
      have hl1 : i < (List.length a1.2.2.2.2 : Int) := of_decide_eq_true h2
      refine Vc.skip ?_
      refine Vc.seq ?_
      refine Vc.block ?_
      refine Vc.regionD mixed hG rfl (by kernel_rfl) ?_ ?_
      · exact ⟨gsRange hI1 hl1, trivial, (show List.length acc2 + 5 ≤ maxApp from by unfold maxApp; omega), gsRange hI1 hl1, (by show List.length (acc2 ++ stampIntsF (List.getD a1.2.2.2.2 i.toNat (dflt TStamp))) + 1 ≤ maxApp; rw [List.length_append]; show List.length acc2 + 5 + 1 ≤ maxApp; unfold maxApp; omega)⟩
      refine Vc.region hG rfl ?_ ?_
      · trivial
      refine ⟨rfl, ?_⟩
      exact gsStep hI1 hl1 hb1 stmpEq
    · skip
      have hl1 : ¬ i < (List.length a1.2.2.2.2 : Int) := of_decide_eq_false h2
      refine Vc.exit ?_
      refine Vc.seq ?_
      refine Vc.region hG rfl ?_ ?_
      · exact (show List.length acc2 ≤ 1000000000 from by omega)
      refine Vc.ret ?_
      refine ⟨?_, trivial⟩
      have e := congrArg (digestF a0) (gsEnd hI1 hl1)
      exact e
noncomputable def F137 : Fun := ⟨[.int .i64, .slice Y13], [.pure (.int .i64)], fun x => (fun (_ : Int) (l : List Piece) => Sm big20 (.slice TPiece) l) x.1 x.2.1, fun x => (piecesF x.1 x.2.1, ())⟩
set_option maxRecDepth 100000 in
/-- loop.example.g00597.spec.PiecesDigest -/
theorem F137_ok : Meets Tryz.prog 137 F137 := by
  refine meets_of_vc (C := mkC 39 [4] [0,1,4,5,6,11] [⟨139, _, F139_ok⟩]) (mkC_ok _ _ _ _) (fnOf_ok _) Tryz.func137 rfl rfl rfl (by decide) rfl ?_
  rintro ⟨(a0 : Int), a1, _⟩ hwf hpre ⟨P, C, B, X, w0, M0, pv⟩ hG rfl rfl
  show Vc _ _ [(0, ⟨0, 0, .c (.pure (.int .i64)) a0⟩), (1, ⟨0, 0, .c Z19 a1⟩)] _
  have hp : List.length a1 ≤ big20 ∧ ∀ x ∈ a1, Sm big20 TPiece x := hpre
  have hL : List.length a1 ≤ 1048576 := hp.1
  have hb : List.length a1 ≤ bigLen := hwf.2.1.1
  refine Vc.seq ?_
  refine Vc.region hG rfl ?_ ?_
  · trivial
  refine Vc.seq ?_
  refine Vc.region hG rfl ?_ ?_
  · trivial
  refine Vc.seq ?_
  refine Vc.seq ?_
  refine Vc.region hG rfl ?_ ?_
  · trivial
  refine Vc.block ?_
  -- slots [5, 6]; frame [0, 1, 4]
  refine Vc.loopF [(5, false, .own (.pure (.int .i64))), (6, false, .pure (.int .i64))] [0, 1, 4] (fun v => gsInv (piecesG a0 a1) [2] a1 v.1 v.2.1) (fun v => ((List.length a1 : Int) - v.2.1).toNat) rfl ?_ ?_
  · exact gsStart
  rintro ⟨acc, (i : Int), _⟩ hI
  have hI : gsInv (piecesG a0 a1) [2] a1 acc i := hI
  have hA : List.length acc ≤ 1048577 := gsLen (c := 1) (m := 1048576) hI (fun _ => Nat.le_refl _) hL (by simp)
  refine Vc.seq ?_
  refine Vc.seq ?_
  refine Vc.region hG rfl ?_ ?_
  · trivial
  refine Vc.cond rfl (fun h0 => ?_) (fun h0 => ?_)
  · skip
    have hl : i < (List.length a1 : Int) := of_decide_eq_true h0
    have hE : List.length (List.getD a1 i.toNat (dflt TPiece)).2.1 ≤ 1048576 := (hp.2 _ (upElem hI.1 hl)).2.1.1
    refine Vc.skip ?_
    refine Vc.seq ?_
    refine Vc.block ?_
    refine Vc.regionD mixed hG rfl (by kernel_rfl) ?_ ?_
    · exact ⟨gsRange hI hl, gsRange hI hl, gsRange hI hl, (show 2 + List.length (List.getD a1 i.toNat (dflt TPiece)).2.1 ≤ maxApp from by unfold maxApp; omega), (show List.length (List.getD a1 i.toNat (dflt TPiece)).2.1 + 2 ≤ 1000000000 from by omega), (show List.length acc + 1 ≤ maxApp from by unfold maxApp; omega)⟩
    refine Vc.region hG rfl ?_ ?_
    · trivial
    refine ⟨rfl, ?_⟩
    exact gsStep hI hl hb rfl
  · skip
    have hl : ¬ i < (List.length a1 : Int) := of_decide_eq_false h0
    refine Vc.exit ?_
    refine Vc.seq ?_
    refine Vc.region hG rfl ?_ ?_
    · exact (show List.length acc ≤ 1000000000 from by omega)
    refine Vc.ret ?_
    refine ⟨?_, trivial⟩
    have e := congrArg (digestF a0) (gsEnd hI hl)
    exact e
noncomputable def F144 : Fun := ⟨[.int .i64, .int .i64, .slice Y13, .int .i64], [.pure (.int .i64)], fun x => (fun (_ _ : Int) (l : List Piece) (_ : Int) => Sm big20 (.slice TPiece) l) x.1 x.2.1 x.2.2.1 x.2.2.2.1, fun x => (leafOfF x.1 x.2.1 x.2.2.1 x.2.2.2.1, ())⟩
set_option maxRecDepth 100000 in
/-- loop.example.g00597.spec.LeafOf -/
theorem F144_ok : Meets Tryz.prog 144 F144 := by
  refine meets_of_vc (C := mkC 17 [8] [0,1,2,3,8] [⟨137, _, F137_ok⟩, ⟨139, _, F139_ok⟩]) (mkC_ok _ _ _ _) (fnOf_ok _) Tryz.func144 rfl rfl rfl (by decide) rfl ?_
  rintro ⟨(a0 : Int), (a1 : Int), a2, (a3 : Int), _⟩ hwf hpre ⟨P, C, B, X, w0, M0, pv⟩ hG rfl rfl
  show Vc _ _ [(0, ⟨0, 0, .c (.pure (.int .i64)) a0⟩), (1, ⟨0, 0, .c (.pure (.int .i64)) a1⟩), (2, ⟨0, 0, .c Z19 a2⟩), (3, ⟨0, 0, .c (.pure (.int .i64)) a3⟩)] _
  have hp : Sm big20 (.slice TPiece) a2 := hpre
  refine Vc.seq ?_
  refine Vc.region hG rfl ?_ ?_
  · trivial
  refine Vc.seq ?_
  refine Vc.region hG rfl ?_ ?_
  · exact ⟨hp, smallLit (n := 4) rfl (by decide)⟩
  refine Vc.ret ?_
  refine ⟨?_, trivial⟩
  all_goals exact rfl
noncomputable def F106 : Fun := ⟨[.pair Y16 Y41, .slice (.int .i64), .int .i64], [.pure (.int .i64)], fun x => (fun (s : Strand) (_ : List Int) (_ : Int) => Sm big20 (.slice TPiece) s.1 ∧ ∀ r ∈ s.2, Sm big20 TRen r) x.1 x.2.1 x.2.2.1, fun x => (leafAtF x.1 x.2.1 x.2.2.1, ())⟩
set_option maxRecDepth 100000 in
/-- loop.example.g00597.spec.LeafAt -/
theorem F106_ok : Meets Tryz.prog 106 F106 := by
  refine meets_of_vc (C := mkC 69 [6] [0,1,2,3,6,7,8,36,44] [⟨83, _, F83_ok⟩, ⟨138, _, F138_ok⟩, ⟨144, _, F144_ok⟩]) (mkC_ok _ _ _ _) (fnOf_ok _) Tryz.func106 rfl rfl rfl (by decide) rfl ?_
  rintro ⟨a0, a1, (a2 : Int), _⟩ hwf hpre ⟨P, C, B, X, w0, M0, pv⟩ hG rfl rfl
  show Vc _ _ [(0, ⟨0, 0, .c Z46 a0⟩), (1, ⟨0, 0, .c Z2 a1⟩), (2, ⟨0, 0, .c (.pure (.int .i64)) a2⟩)] _
  have hP : Sm big20 (.slice TPiece) a0.1 := hpre.1
  have hR : ∀ r ∈ a0.2, Sm big20 TRen r := hpre.2
  have hb : List.length a0.2 ≤ bigLen := hwf.1.2.1
  refine Vc.seq ?_
  refine Vc.region hG rfl ?_ ?_
  · trivial
  refine Vc.seq ?_
  refine Vc.seq ?_
  refine Vc.regionD mixed hG rfl (by kernel_rfl) ?_ ?_
  · exact ⟨trivial, fun h => laIdx (orF h).1 hb, fun _ => trivial⟩
  refine Vc.cond rfl (fun h0 => ?_) (fun h0 => ?_)
  · skip
    have g0 : leafAtBad a0 a1 a2 = true := h0
    refine Vc.seq ?_
    refine Vc.region hG rfl ?_ ?_
    · trivial
    refine Vc.ret ?_
    refine ⟨?_, trivial⟩
    exact la0 g0
  · skip
    have g0 : leafAtBad a0 a1 a2 = false := h0
    have k1 := laIdx (orF (orF g0).1).1 hb
    have k2 : (List.length a1 : Int) = (List.length a0.2 : Int) := bneI (orF (orF g0).1).2
    have k3 := rg (orF g0).2
    have k4 : inRange a2 (List.length a1) := ⟨k1.1, by have := k1.2; omega⟩
    refine Vc.skip ?_
    refine Vc.seq ?_
    refine Vc.region hG rfl ?_ ?_
    · exact k1
    refine Vc.seq ?_
    refine Vc.region hG rfl ?_ ?_
    · trivial
    refine Vc.seq ?_
    refine Vc.seq ?_
    refine Vc.region hG rfl ?_ ?_
    · trivial
    refine Vc.cond rfl (fun h1 => ?_) (fun h1 => ?_)
    · skip
      have g1 : a2 > 0 := of_decide_eq_true h1
      refine Vc.region hG rfl ?_ ?_
      · exact ⟨prevIdx k1 g1 hb, hR _ (getD_mem (prevIdx k1 g1 hb) (dflt TRen))⟩
      refine Vc.seq ?_
      refine Vc.regionD mixed hG rfl (by kernel_rfl) ?_ ?_
      · exact ⟨k4, k1, Int.le_refl _, k3.1, k3.2, subL_sm hP⟩
      refine Vc.ret ?_
      refine ⟨?_, trivial⟩
      exact la1 g0 g1
    · skip
      have g1 : ¬ a2 > 0 := of_decide_eq_false h1
      refine Vc.skip ?_
      refine Vc.seq ?_
      refine Vc.regionD mixed hG rfl (by kernel_rfl) ?_ ?_
      · exact ⟨k4, k1, Int.le_refl _, k3.1, k3.2, subL_sm hP⟩
      refine Vc.ret ?_
      refine ⟨?_, trivial⟩
      exact la2 g0 g1
noncomputable def F64 : Fun := ⟨[.pair (.int .i64) Y54, .int .i64], [.own (.pure (.int .i64))], fun x => (fun (x : Archive) (_ : Int) => Sm big20 Y56 x) x.1 x.2.1, fun x => (leavesF x.1 x.2.1, ())⟩
set_option maxRecDepth 100000 in
/-- loop.example.g00597.spec.LeavesFor -/
theorem F64_ok : Meets Tryz.prog 64 F64 := by
  refine meets_of_vc (C := mkC 51 [4] [0,1,2,4,5,6,7,13] [⟨85, _, F85_ok⟩, ⟨107, _, F107_ok⟩, ⟨106, _, F106_ok⟩]) (mkC_ok _ _ _ _) (fnOf_ok _) Tryz.func64 rfl rfl rfl (by decide) rfl ?_
  rintro ⟨a0, (a1 : Int), _⟩ hwf hpre ⟨P, C, B, X, w0, M0, pv⟩ hG rfl rfl
  show Vc _ _ [(0, ⟨0, 0, .c Z57 a0⟩), (1, ⟨0, 0, .c (.pure (.int .i64)) a1⟩)] _
  have hp : Sm big20 Y54 a0.2 := hpre.2
  have hs : List.length a0.2 ≤ 1048576 := hp.1
  have hb : List.length a0.2 ≤ bigLen := hwf.1.2.1
  refine Vc.seq ?_
  refine Vc.region hG rfl ?_ ?_
  · trivial
  refine Vc.seq ?_
  refine Vc.region hG rfl ?_ ?_
  · trivial
  refine Vc.seq ?_
  refine Vc.seq ?_
  refine Vc.region hG rfl ?_ ?_
  · trivial
  refine Vc.block ?_
  -- slots [5, 6]; frame [0, 1, 2, 4]
  refine Vc.loopF [(5, false, .own (.pure (.int .i64))), (6, false, .pure (.int .i64))] [0, 1, 2, 4] (fun v => pkInv (lvF a1) a0.2 v.1 v.2.1) (fun v => ((List.length a0.2 : Int) - v.2.1).toNat) rfl ?_ ?_
  · exact pkStart
  rintro ⟨acc, (i : Int), _⟩ hI
  have hI : pkInv (lvF a1) a0.2 acc i := hI
  refine Vc.seq ?_
  refine Vc.seq ?_
  refine Vc.region hG rfl ?_ ?_
  · trivial
  refine Vc.cond rfl (fun h0 => ?_) (fun h0 => ?_)
  · skip
    have hl : i < (List.length a0.2 : Int) := of_decide_eq_true h0
    have hE : Sm big20 Y52 (List.getD a0.2 i.toNat (dflt Y52)) := hp.2 _ (upElem hI.1 hl)
    refine Vc.skip ?_
    refine Vc.seq ?_
    refine Vc.block ?_
    refine Vc.seq ?_
    refine Vc.region hG rfl ?_ ?_
    · exact ⟨pkRange hI hl, hE.2.2.2.2⟩
    refine Vc.seq ?_
    refine Vc.region hG rfl ?_ ?_
    · exact newApp hE.2.2.2.2.2.1
    refine Vc.regionD mixed hG rfl (by kernel_rfl) ?_ ?_
    · exact ⟨pkRange hI hl, (show (withNew (List.getD a0.2 i.toNat (dflt Y52)).2.2.2.2 a1).2.length ≤ 2000000 from newLen hE.2.2.2.2.2.1), (show Sm big20 (.slice TPiece) (withNew (List.getD a0.2 i.toNat (dflt Y52)).2.2.2.2 a1).1 ∧ ∀ r ∈ (withNew (List.getD a0.2 i.toNat (dflt Y52)).2.2.2.2 a1).2, Sm big20 TRen r from newSm hE.2.2.2.2), pkLen hI hs⟩
    refine Vc.region hG rfl ?_ ?_
    · trivial
    refine ⟨rfl, ?_⟩
    exact pkYesV (d := dflt Y52) hI hl hb rfl (leafEq (List.getD a0.2 i.toNat (dflt Y52)) a1 hE.2.2.2.2.2.1)
  · skip
    have hl : ¬ i < (List.length a0.2 : Int) := of_decide_eq_false h0
    refine Vc.exit ?_
    refine Vc.seq ?_
    refine Vc.region hG rfl ?_ ?_
    · trivial
    refine Vc.ret ?_
    refine ⟨?_, trivial⟩
    exact pkEnd hI hl
noncomputable def F145 : Fun := ⟨[.int .i64, .int .i64, .int .i64], [.pure (.int .i64)], fun _ => True, fun x => (pairDF x.1 x.2.1 x.2.2.1, ())⟩
set_option maxRecDepth 100000 in
/-- loop.example.g00597.spec.PairDigest -/
theorem F145_ok : Meets Tryz.prog 145 F145 := by
  refine meets_of_vc (C := mkC 12 [6] [0,1,2,6] [⟨139, _, F139_ok⟩]) (mkC_ok _ _ _ _) (fnOf_ok _) Tryz.func145 rfl rfl rfl (by decide) rfl ?_
  rintro ⟨(a0 : Int), (a1 : Int), (a2 : Int), _⟩ hwf hpre ⟨P, C, B, X, w0, M0, pv⟩ hG rfl rfl
  show Vc _ _ [(0, ⟨0, 0, .c (.pure (.int .i64)) a0⟩), (1, ⟨0, 0, .c (.pure (.int .i64)) a1⟩), (2, ⟨0, 0, .c (.pure (.int .i64)) a2⟩)] _
  refine Vc.seq ?_
  refine Vc.region hG rfl ?_ ?_
  · trivial
  refine Vc.seq ?_
  refine Vc.region hG rfl ?_ ?_
  · exact smallLit (n := 3) rfl (by decide)
  refine Vc.ret ?_
  refine ⟨?_, trivial⟩
  all_goals exact rfl
noncomputable def F108 : Fun := ⟨[.int .i64, .slice (.int .i64)], [.own (.pure (.int .i64))], fun x => (fun (_ : Int) (l : List Int) => List.length l ≤ 1048576) x.1 x.2.1, fun x => (upF x.1 x.2.1, ())⟩
set_option maxRecDepth 100000 in
/-- loop.example.g00597.spec.l17Up -/
theorem F108_ok : Meets Tryz.prog 108 F108 := by
  refine meets_of_vc (C := mkC 41 [4] [0,1,4,5,6,11,18] [⟨145, _, F145_ok⟩]) (mkC_ok _ _ _ _) (fnOf_ok _) Tryz.func108 rfl rfl rfl (by decide) rfl ?_
  rintro ⟨(a0 : Int), a1, _⟩ hwf hpre ⟨P, C, B, X, w0, M0, pv⟩ hG rfl rfl
  show Vc _ _ [(0, ⟨0, 0, .c (.pure (.int .i64)) a0⟩), (1, ⟨0, 0, .c Z2 a1⟩)] _
  have hs : List.length a1 ≤ 1048576 := hpre
  refine Vc.seq ?_
  refine Vc.region hG rfl ?_ ?_
  · trivial
  refine Vc.seq ?_
  refine Vc.region hG rfl ?_ ?_
  · trivial
  refine Vc.seq ?_
  refine Vc.seq ?_
  refine Vc.region hG rfl ?_ ?_
  · trivial
  refine Vc.block ?_
  -- slots [5, 6]; frame [0, 1, 4]
  refine Vc.loopF [(5, false, .own (.pure (.int .i64))), (6, false, .pure (.int .i64))] [0, 1, 4] (fun v => liInv a0 a1 v.1 v.2.1) (fun v => ((List.length a1 : Int) - v.2.1).toNat) rfl ?_ ?_
  · exact liStart
  rintro ⟨out, (i : Int), _⟩ hI
  have hI : liInv a0 a1 out i := hI
  refine Vc.seq ?_
  refine Vc.seq ?_
  refine Vc.region hG rfl ?_ ?_
  · trivial
  refine Vc.cond rfl (fun h0 => ?_) (fun h0 => ?_)
  · skip
    have hl : i < (List.length a1 : Int) := of_decide_eq_true h0
    refine Vc.skip ?_
    refine Vc.seq ?_
    refine Vc.block ?_
    refine Vc.seq ?_
    refine Vc.region hG rfl ?_ ?_
    · trivial
    refine Vc.cond rfl (fun h1 => ?_) (fun h1 => ?_)
    · skip
      have g1 : IntKind.i64.wrap (i + 1) < (List.length a1 : Int) := of_decide_eq_true h1
      refine Vc.regionD mixed hG rfl (by kernel_rfl) ?_ ?_
      · exact ⟨liRange hI hl, liRange1 hI g1 hs hl, trivial, liLen hI hs hl⟩
      refine Vc.region hG rfl ?_ ?_
      · trivial
      refine ⟨rfl, ?_⟩
      first
        | exact li2 hI hl hs g1
        | exact li1 hI hl hs g1
    · skip
      have g1 : ¬ IntKind.i64.wrap (i + 1) < (List.length a1 : Int) := of_decide_eq_false h1
      refine Vc.region hG rfl ?_ ?_
      · exact ⟨liRange hI hl, liLen hI hs hl⟩
      refine Vc.region hG rfl ?_ ?_
      · trivial
      refine ⟨rfl, ?_⟩
      first
        | exact li2 hI hl hs g1
        | exact li1 hI hl hs g1
  · skip
    have hl : ¬ i < (List.length a1 : Int) := of_decide_eq_false h0
    refine Vc.exit ?_
    refine Vc.seq ?_
    refine Vc.region hG rfl ?_ ?_
    · trivial
    refine Vc.ret ?_
    refine ⟨?_, trivial⟩
    exact liEnd hI hl
noncomputable def F65 : Fun := ⟨[.int .i64, .slice (.int .i64)], [.pure (.int .i64)], fun _ => True, fun x => (treeF x.1 x.2.1, ())⟩
set_option maxRecDepth 100000 in
/-- loop.example.g00597.spec.TreeRoot -/
theorem F65_ok : Meets Tryz.prog 65 F65 := by
  refine meets_of_vc (C := mkC 22 [4] [0,1,4,5,9,15] [⟨83, _, F83_ok⟩, ⟨108, _, F108_ok⟩]) (mkC_ok _ _ _ _) (fnOf_ok _) Tryz.func65 rfl rfl rfl (by decide) rfl ?_
  rintro ⟨(a0 : Int), a1, _⟩ hwf hpre ⟨P, C, B, X, w0, M0, pv⟩ hG rfl rfl
  show Vc _ _ [(0, ⟨0, 0, .c (.pure (.int .i64)) a0⟩), (1, ⟨0, 0, .c Z2 a1⟩)] _
  refine Vc.seq ?_
  refine Vc.region hG rfl ?_ ?_
  · trivial
  refine Vc.seq ?_
  refine Vc.seq ?_
  refine Vc.region hG rfl ?_ ?_
  · trivial
  refine Vc.cond rfl (fun h0 => ?_) (fun h0 => ?_)
  · skip
    have g0 : (!(inRangeF (List.length a1 : Int) 1 16)) = true := h0
    refine Vc.seq ?_
    refine Vc.region hG rfl ?_ ?_
    · trivial
    refine Vc.ret ?_
    refine ⟨?_, trivial⟩
    exact tree0 g0
  · skip
    have g0 : (!(inRangeF (List.length a1 : Int) 1 16)) = false := h0
    have gr := rg g0
    refine Vc.skip ?_
    refine Vc.seq ?_
    refine Vc.region hG rfl ?_ ?_
    · show 0 + List.length a1 ≤ maxApp
      unfold maxApp
      omega
    refine Vc.seq ?_
    refine Vc.block ?_
    -- slots [5]; frame [0, 1, 4, 9]
    refine Vc.loopF [(5, false, .own (.pure (.int .i64)))] [0, 1, 4, 9] (fun v => trInv a0 a1 v.1) (fun v => List.length v.1) rfl ?_ ?_
    · exact trStart gr
    rintro ⟨l, _⟩ hI
    have hI : trInv a0 a1 l := hI
    refine Vc.seq ?_
    refine Vc.seq ?_
    refine Vc.region hG rfl ?_ ?_
    · trivial
    refine Vc.cond rfl (fun h1 => ?_) (fun h1 => ?_)
    · skip
      have g1 : (List.length l : Int) > 1 := of_decide_eq_true h1
      refine Vc.skip ?_
      refine Vc.block ?_
      refine Vc.region hG rfl ?_ ?_
      · exact trSmall hI
      refine ⟨rfl, ?_⟩
      exact trStep hI g1
    · skip
      have g1 : ¬ (List.length l : Int) > 1 := of_decide_eq_false h1
      refine Vc.exit ?_
      refine Vc.seq ?_
      refine Vc.region hG rfl ?_ ?_
      · exact trIdx hI
      refine Vc.ret ?_
      refine ⟨?_, trivial⟩
      exact trEnd hI g1 g0
noncomputable def F117 : Fun := ⟨[.int .i64], [.pure (.bool)], fun _ => True, fun x => (isTimeF x.1, ())⟩
set_option maxRecDepth 100000 in
/-- loop.example.g00597.spec.l4Time -/
theorem F117_ok : Meets Tryz.prog 117 F117 := by
  refine meets_of_vc (C := mkC 5 [2] [0,2] [⟨83, _, F83_ok⟩]) (mkC_ok _ _ _ _) (fnOf_ok _) Tryz.func117 rfl rfl rfl (by decide) rfl ?_
  rintro ⟨(a0 : Int), _⟩ hwf hpre ⟨P, C, B, X, w0, M0, pv⟩ hG rfl rfl
  show Vc _ _ [(0, ⟨0, 0, .c (.pure (.int .i64)) a0⟩)] _
  refine Vc.seq ?_
  refine Vc.region hG rfl ?_ ?_
  · trivial
  refine Vc.seq ?_
  refine Vc.region hG rfl ?_ ?_
  · trivial
  refine Vc.ret ?_
  refine ⟨?_, trivial⟩
  all_goals exact rfl
noncomputable def F152 : Fun := ⟨[.slice (.int .i64), .slice (.int .i64)], [.pure (.bool)], fun _ => True, fun x => (eqC x.1 x.2.1, ())⟩
set_option maxRecDepth 100000 in
/-- loop.example.g00597.spec.EqualInts -/
theorem F152_ok : Meets Tryz.prog 152 F152 := by
  refine meets_of_vc (C := mkC 26 [4] [0,1,4,5,10,14,25] []) (mkC_ok _ _ _ _) (fnOf_ok _) Tryz.func152 rfl rfl rfl (by decide) rfl ?_
  rintro ⟨a0, a1, _⟩ hwf hpre ⟨P, C, B, X, w0, M0, pv⟩ hG rfl rfl
  show Vc _ _ [(0, ⟨0, 0, .c Z2 a0⟩), (1, ⟨0, 0, .c Z2 a1⟩)] _
  have hb0 : List.length a0 ≤ bigLen := hwf.1.1
  refine Vc.seq ?_
  refine Vc.region hG rfl ?_ ?_
  · trivial
  refine Vc.seq ?_
  refine Vc.seq ?_
  refine Vc.region hG rfl ?_ ?_
  · trivial
  refine Vc.cond rfl (fun h0 => ?_) (fun h0 => ?_)
  · skip
    refine Vc.seq ?_
    refine Vc.region hG rfl ?_ ?_
    · trivial
    refine Vc.ret ?_
    refine ⟨?_, trivial⟩
    refine eqC_no (fun e => ?_)
    have e : a0 = a1 := e
    have g : ((List.length a0 : Int) != (List.length a1 : Int)) = true := h0
    subst e
    exact bself g
  · skip
    have g0 : ((List.length a0 : Int) != (List.length a1 : Int)) = false := h0
    have f0_0 : List.length a0 = List.length a1 := (lenEq g0)
    refine Vc.skip ?_
    refine Vc.seq ?_
    refine Vc.seq ?_
    refine Vc.region hG rfl ?_ ?_
    · trivial
    refine Vc.block ?_
    -- slots [5]; frame [0, 1, 10]
    refine Vc.loopF [(5, false, .pure (.int .i64))] [0, 1, 10] (fun v => eqInv a0 a1 v.1) (fun v => ((List.length a0 : Int) - v.1).toNat) rfl ?_ ?_
    · exact eqStart f0_0
    rintro ⟨(i0 : Int), _⟩ hI0
    have hI0 : eqInv a0 a1 i0 := hI0
    refine Vc.seq ?_
    refine Vc.seq ?_
    refine Vc.region hG rfl ?_ ?_
    · trivial
    refine Vc.cond rfl (fun h1 => ?_) (fun h1 => ?_)
    · skip
      have hl0 : i0 < (List.length a0 : Int) := of_decide_eq_true h1
      refine Vc.skip ?_
      refine Vc.seq ?_
      refine Vc.block ?_
      refine Vc.seq ?_
      refine Vc.regionD mixed hG rfl (by kernel_rfl) ?_ ?_
      · exact ⟨(eqRange hI0 hl0).1, (eqRange hI0 hl0).2⟩
      refine Vc.cond rfl (fun h2 => ?_) (fun h2 => ?_)
      · skip
        refine Vc.seq ?_
        refine Vc.region hG rfl ?_ ?_
        · trivial
        refine Vc.ret ?_
        refine ⟨?_, trivial⟩
        refine eqC_no (fun e => ?_)
        have e : a0 = a1 := e
        have g : ((List.getD a0 i0.toNat (dflt (.int .i64))) != (List.getD a1 i0.toNat (dflt (.int .i64)))) = true := h2
        subst e
        exact bself g
      · skip
        have g2 : ((List.getD a0 i0.toNat (dflt (.int .i64))) != (List.getD a1 i0.toNat (dflt (.int .i64)))) = false := h2
        have f2_0 : (List.getD a0 i0.toNat (dflt (.int .i64))) = (List.getD a1 i0.toNat (dflt (.int .i64))) := (bneI g2)
        have s0 : (List.getD a0 i0.toNat (dflt (.int .i64))) = (List.getD a1 i0.toNat (dflt (.int .i64))) := f2_0
        refine Vc.skip ?_
        refine Vc.region hG rfl ?_ ?_
        · trivial
        refine ⟨rfl, ?_⟩
        exact ⟨eqStep (d := dflt (.int .i64)) hI0 hl0 hb0 s0, (upStep hI0.1 hl0 hb0).2.2⟩
    · skip
      have hl0 : ¬ i0 < (List.length a0 : Int) := of_decide_eq_false h1
      have e0 : a0 = a1 := eqEnd hI0 hl0
      refine Vc.exit ?_
      refine Vc.seq ?_
      refine Vc.region hG rfl ?_ ?_
      · trivial
      refine Vc.ret ?_
      refine ⟨?_, trivial⟩
      exact eqC_yes e0
noncomputable def F119 : Fun := ⟨[.pair (.int .i64) Y6, .pair (.int .i64) Y6], [.pure (.bool)], fun _ => True, fun x => (eqC x.1 x.2.1, ())⟩
set_option maxRecDepth 100000 in
/-- loop.example.g00597.spec.EqualPieces -/
theorem F119_ok : Meets Tryz.prog 119 F119 := by
  refine meets_of_vc (C := mkC 24 [4] [0,1,2,3,4] [⟨152, _, F152_ok⟩]) (mkC_ok _ _ _ _) (fnOf_ok _) Tryz.func119 rfl rfl rfl (by decide) rfl ?_
  rintro ⟨a0, a1, _⟩ hwf hpre ⟨P, C, B, X, w0, M0, pv⟩ hG rfl rfl
  show Vc _ _ [(0, ⟨0, 0, .c Z15 a0⟩), (1, ⟨0, 0, .c Z15 a1⟩)] _
  refine Vc.seq ?_
  refine Vc.region hG rfl ?_ ?_
  · trivial
  refine Vc.seq ?_
  refine Vc.region hG rfl ?_ ?_
  · repeat' (first | exact trivial | refine And.intro ?_ ?_ | intro _)
  refine Vc.ret ?_
  refine ⟨?_, trivial⟩
  refine eqC_by (fun e => ?_) (fun e => ?_)
  · have e : (pick2 (pick2 (a0.1 == a1.1) (a0.2.2 == a1.2.2) false) (eqC a0.2.1 a1.2.1) false) = true := e
    have r_0 : a0.1 = a1.1 := (beqI2 (andT (andT e).1).1)
    have r_1 : a0.2.2 = a1.2.2 := (beqI2 (andT (andT e).1).2)
    have r_2 : a0.2.1 = a1.2.1 := (eqC_iff.1 (andT e).2)
    exact (Prod.ext r_0 (Prod.ext r_2 r_1))
  · have e : a0 = a1 := e
    subst e
    exact (yesAnd (yesAnd beqSelf beqSelf) (eqC_self _))
noncomputable def F146 : Fun := ⟨[.pair Y16 Y41, .pair (.int .i64) Y6], [.pure (.int .i64)], fun _ => True, fun x => ((fun a0 a1 => findI (fun x => eqC x a1) a0.1) x.1 x.2.1, ())⟩
set_option maxRecDepth 100000 in
/-- loop.example.g00597.spec.FindPiece -/
theorem F146_ok : Meets Tryz.prog 146 F146 := by
  refine meets_of_vc (C := mkC 21 [4] [0,1,2,3,4,5,10,19] [⟨119, _, F119_ok⟩]) (mkC_ok _ _ _ _) (fnOf_ok _) Tryz.func146 rfl rfl rfl (by decide) rfl ?_
  rintro ⟨a0, a1, _⟩ hwf hpre ⟨P, C, B, X, w0, M0, pv⟩ hG rfl rfl
  show Vc _ _ [(0, ⟨0, 0, .c Z46 a0⟩), (1, ⟨0, 0, .c Z15 a1⟩)] _
  have hb : List.length a0.1 ≤ bigLen := hwf.1.1.1
  refine Vc.seq ?_
  refine Vc.region hG rfl ?_ ?_
  · trivial
  refine Vc.seq ?_
  refine Vc.seq ?_
  refine Vc.region hG rfl ?_ ?_
  · trivial
  refine Vc.block ?_
  -- slots [5]; frame [0, 1, 2, 3]
  refine Vc.loopF [(5, false, .pure (.int .i64))] [0, 1, 2, 3] (fun v => fInv (fun x => eqC x a1) a0.1 v.1) (fun v => ((List.length a0.1 : Int) - v.1).toNat) rfl ?_ ?_
  · exact fStart
  rintro ⟨(i : Int), _⟩ hI
  have hI : fInv (fun x => eqC x a1) a0.1 i := hI
  refine Vc.seq ?_
  refine Vc.seq ?_
  refine Vc.region hG rfl ?_ ?_
  · trivial
  refine Vc.cond rfl (fun h0 => ?_) (fun h0 => ?_)
  · skip
    have hl : i < (List.length a0.1 : Int) := of_decide_eq_true h0
    refine Vc.skip ?_
    refine Vc.seq ?_
    refine Vc.block ?_
    refine Vc.seq ?_
    refine Vc.regionD mixed hG rfl (by kernel_rfl) ?_ ?_
    · exact ⟨fRange hI hl, trivial⟩
    refine Vc.cond rfl (fun h1 => ?_) (fun h1 => ?_)
    · skip
      have g1 : (fun x => eqC x a1) (List.getD a0.1 i.toNat (dflt Y13)) = true := h1
      refine Vc.seq ?_
      refine Vc.region hG rfl ?_ ?_
      · trivial
      refine Vc.ret ?_
      refine ⟨?_, trivial⟩
      exact fHit hI hl g1
    · skip
      have g1 : (fun x => eqC x a1) (List.getD a0.1 i.toNat (dflt Y13)) = false := h1
      refine Vc.skip ?_
      refine Vc.region hG rfl ?_ ?_
      · trivial
      refine ⟨rfl, ?_⟩
      exact fStep hI hl hb g1
  · skip
    have hl : ¬ i < (List.length a0.1 : Int) := of_decide_eq_false h0
    refine Vc.exit ?_
    refine Vc.seq ?_
    refine Vc.region hG rfl ?_ ?_
    · trivial
    refine Vc.ret ?_
    refine ⟨?_, trivial⟩
    exact fEnd hI hl
noncomputable def F110 : Fun := ⟨[.pair Y16 Y41], [.pure (.bool)], fun _ => True, fun x => (strandF x.1, ())⟩
set_option maxRecDepth 100000 in
/-- loop.example.g00597.spec.IsStrand -/
theorem F110_ok : Meets Tryz.prog 110 F110 := by
  refine meets_of_vc (C := mkC 69 [2] [0,1,2,3,4,9,20,25,58] [⟨146, _, F146_ok⟩, ⟨83, _, F83_ok⟩]) (mkC_ok _ _ _ _) (fnOf_ok _) Tryz.func110 rfl rfl rfl (by decide) rfl ?_
  rintro ⟨a0, _⟩ hwf hpre ⟨P, C, B, X, w0, M0, pv⟩ hG rfl rfl
  show Vc _ _ [(0, ⟨0, 0, .c Z46 a0⟩)] _
  have hb0 : List.length a0.1 ≤ bigLen := hwf.1.1.1
  have hb1 : List.length a0.2 ≤ bigLen := hwf.1.2.1
  refine Vc.seq ?_
  refine Vc.region hG rfl ?_ ?_
  · trivial
  refine Vc.seq ?_
  refine Vc.seq ?_
  refine Vc.region hG rfl ?_ ?_
  · trivial
  refine Vc.block ?_
  -- slots [3]; frame [0, 1, 4, 25, 58]
  refine Vc.loopF [(3, false, .pure (.int .i64))] [0, 1, 4, 25, 58] (fun v => kInv (fun k => newP a0 k) a0.1 v.1) (fun v => ((List.length a0.1 : Int) - v.1).toNat) rfl ?_ ?_
  · exact kStart
  rintro ⟨(i : Int), _⟩ hI0
  have hI0 : kInv (fun k => newP a0 k) a0.1 i := hI0
  refine Vc.seq ?_
  refine Vc.seq ?_
  refine Vc.region hG rfl ?_ ?_
  · trivial
  refine Vc.cond rfl (fun h0 => ?_) (fun h0 => ?_)
  · skip
    have hl0 : i < (List.length a0.1 : Int) := of_decide_eq_true h0
    refine Vc.skip ?_
    refine Vc.seq ?_
    refine Vc.block ?_
    refine Vc.seq ?_
    refine Vc.regionD mixed hG rfl (by kernel_rfl) ?_ ?_
    · exact ⟨kRange hI0 hl0, trivial⟩
    refine Vc.cond rfl (fun h1 => ?_) (fun h1 => ?_)
    · skip
      have g1 : ¬ newP a0 i.toNat := newBad hI0 hl0 (of_decide_eq_true h1)
      refine Vc.seq ?_
      refine Vc.region hG rfl ?_ ?_
      · trivial
      refine Vc.ret ?_
      refine ⟨?_, trivial⟩
      refine boolC_no (P := strandP a0) (fun h => ?_)
      exact g1 (h.2.2.1 i.toNat (kLt hI0 hl0))
    · skip
      have g1 : newP a0 i.toNat := newGood hI0 hl0 (of_decide_eq_false h1)
      refine Vc.skip ?_
      refine Vc.region hG rfl ?_ ?_
      · trivial
      refine ⟨rfl, ?_⟩
      exact kStep hI0 hl0 hb0 g1
  · skip
    have hl0 : ¬ i < (List.length a0.1 : Int) := of_decide_eq_false h0
    refine Vc.exit ?_
    refine Vc.seq ?_
    refine Vc.seq ?_
    refine Vc.region hG rfl ?_ ?_
    · trivial
    refine Vc.block ?_
    -- slots [4]; frame [0, 1, 3, 9, 20]
    refine Vc.loopF [(4, false, .pure (.int .i64))] [0, 1, 3, 9, 20] (fun v => kInv (fun k => renP a0 k) a0.2 v.1) (fun v => ((List.length a0.2 : Int) - v.1).toNat) rfl ?_ ?_
    · exact kStart
    rintro ⟨(i : Int), _⟩ hI1
    have hI1 : kInv (fun k => renP a0 k) a0.2 i := hI1
    refine Vc.seq ?_
    refine Vc.seq ?_
    refine Vc.region hG rfl ?_ ?_
    · trivial
    refine Vc.cond rfl (fun h2 => ?_) (fun h2 => ?_)
    · skip
      have hl1 : i < (List.length a0.2 : Int) := of_decide_eq_true h2
      refine Vc.skip ?_
      refine Vc.seq ?_
      refine Vc.block ?_
      refine Vc.seq ?_
      refine Vc.regionD mixed hG rfl (by kernel_rfl) ?_ ?_
      · exact ⟨kRange hI1 hl1, trivial, fun h2 => backRange hI1 hl1 hb1 (of_decide_eq_true h2), fun _ => kRange hI1 hl1⟩
      refine Vc.cond rfl (fun h3 => ?_) (fun h3 => ?_)
      · skip
        have g3 : renBadF a0 i = true := h3
        refine Vc.seq ?_
        refine Vc.region hG rfl ?_ ?_
        · trivial
        refine Vc.ret ?_
        refine ⟨?_, trivial⟩
        refine boolC_no (P := strandP a0) (fun h => ?_)
        exact renBad hI1 hl1 hb1 g3 (h.2.2.2 i.toNat (kLt hI1 hl1))
      · skip
        have g3 : renBadF a0 i = false := h3
        refine Vc.skip ?_
        refine Vc.region hG rfl ?_ ?_
        · trivial
        refine ⟨rfl, ?_⟩
        exact kStep hI1 hl1 hb1 (renGood hI1 hl1 hb1 g3)
    · skip
      have hl1 : ¬ i < (List.length a0.2 : Int) := of_decide_eq_false h2
      refine Vc.exit ?_
      refine Vc.seq ?_
      refine Vc.region hG rfl ?_ ?_
      · repeat' (first | exact trivial | refine And.intro ?_ ?_ | intro _)
      refine Vc.ret ?_
      refine ⟨?_, trivial⟩
      refine boolC_by (P := strandP a0) (fun e => ?_) (fun h => ?_)
      · exact ⟨(andT e).1, of_decide_eq_true (andT e).2, kEnd hI0 hl0, kEnd hI1 hl1⟩
      · exact yesAnd h.1 (decide_eq_true h.2.1)
noncomputable def F153 : Fun := ⟨[.pair (.int .i64) Y31], [.own (.pure (.int .i64))], fun _ => True, fun x => (sigIntsF x.1, ())⟩
set_option maxRecDepth 100000 in
/-- loop.example.g00597.spec.SignatureInts -/
theorem F153_ok : Meets Tryz.prog 153 F153 := by
  refine meets_of_vc (C := mkC 20 [2] [0,1,2] []) (mkC_ok _ _ _ _) (fnOf_ok _) Tryz.func153 rfl rfl rfl (by decide) rfl ?_
  rintro ⟨a0, _⟩ hwf hpre ⟨P, C, B, X, w0, M0, pv⟩ hG rfl rfl
  show Vc _ _ [(0, ⟨0, 0, .c Z35 a0⟩)] _
  refine Vc.seq ?_
  refine Vc.region hG rfl ?_ ?_
  · trivial
  refine Vc.seq ?_
  refine Vc.region hG rfl ?_ ?_
  · trivial
  refine Vc.ret ?_
  refine ⟨?_, trivial⟩
  all_goals exact rfl
noncomputable def F120 : Fun := ⟨[.pair (.int .i64) Y31], [.pair (.pure (.int .i64)) Z11], fun _ => True, fun x => (signPieceF x.1, ())⟩
set_option maxRecDepth 100000 in
/-- loop.example.g00597.spec.SignPiece -/
theorem F120_ok : Meets Tryz.prog 120 F120 := by
  refine meets_of_vc (C := mkC 10 [2] [0,1,2] [⟨153, _, F153_ok⟩]) (mkC_ok _ _ _ _) (fnOf_ok _) Tryz.func120 rfl rfl rfl (by decide) rfl ?_
  rintro ⟨a0, _⟩ hwf hpre ⟨P, C, B, X, w0, M0, pv⟩ hG rfl rfl
  show Vc _ _ [(0, ⟨0, 0, .c Z35 a0⟩)] _
  refine Vc.seq ?_
  refine Vc.region hG rfl ?_ ?_
  · trivial
  refine Vc.seq ?_
  refine Vc.regionD mixed hG rfl (by kernel_rfl) ?_ ?_
  · trivial
  refine Vc.ret ?_
  refine ⟨?_, trivial⟩
  all_goals exact rfl
noncomputable def F82 : Fun := ⟨[.pair (.int .i64) Y51], [.pure (.bool)], fun _ => True, fun x => (itemF x.1, ())⟩
set_option maxRecDepth 100000 in
/-- loop.example.g00597.spec.IsItem -/
theorem F82_ok : Meets Tryz.prog 82 F82 := by
  refine meets_of_vc (C := mkC 32 [2] [0,1,2] [⟨83, _, F83_ok⟩, ⟨117, _, F117_ok⟩, ⟨118, _, F118_ok⟩, ⟨110, _, F110_ok⟩, ⟨120, _, F120_ok⟩, ⟨119, _, F119_ok⟩]) (mkC_ok _ _ _ _) (fnOf_ok _) Tryz.func82 rfl rfl rfl (by decide) rfl ?_
  rintro ⟨a0, _⟩ hwf hpre ⟨P, C, B, X, w0, M0, pv⟩ hG rfl rfl
  show Vc _ _ [(0, ⟨0, 0, .c Z53 a0⟩)] _
  refine Vc.seq ?_
  refine Vc.region hG rfl ?_ ?_
  · trivial
  refine Vc.seq ?_
  refine Vc.regionD mixed hG rfl (by kernel_rfl) ?_ ?_
  · exact ⟨trivial, fun _ => trivial, fun _ => trivial, fun _ => trivial, fun h => strand0 h, fun _ => trivial, fun _ => trivial⟩
  refine Vc.ret ?_
  refine ⟨?_, trivial⟩
  all_goals exact rfl
noncomputable def F42 : Fun := ⟨[.pair (.int .i64) Y54], [.pure (.bool)], fun _ => True, fun x => (archF x.1, ())⟩
set_option maxRecDepth 100000 in
/-- loop.example.g00597.spec.IsArchive -/
theorem F42_ok : Meets Tryz.prog 42 F42 := by
  refine meets_of_vc (C := mkC 47 [2] [0,1,2,3,8,37] [⟨82, _, F82_ok⟩, ⟨83, _, F83_ok⟩]) (mkC_ok _ _ _ _) (fnOf_ok _) Tryz.func42 rfl rfl rfl (by decide) rfl ?_
  rintro ⟨a0, _⟩ hwf hpre ⟨P, C, B, X, w0, M0, pv⟩ hG rfl rfl
  show Vc _ _ [(0, ⟨0, 0, .c Z57 a0⟩)] _
  have hb0 : List.length a0.2 ≤ bigLen := hwf.1.2.1
  refine Vc.seq ?_
  refine Vc.region hG rfl ?_ ?_
  · trivial
  refine Vc.seq ?_
  refine Vc.seq ?_
  refine Vc.region hG rfl ?_ ?_
  · trivial
  refine Vc.block ?_
  -- slots [3]; frame [0, 1]
  refine Vc.loopF [(3, false, .pure (.int .i64))] [0, 1] (fun v => kInv (fun k => goodP a0 k) a0.2 v.1) (fun v => ((List.length a0.2 : Int) - v.1).toNat) rfl ?_ ?_
  · exact kStart
  rintro ⟨(i : Int), _⟩ hI0
  have hI0 : kInv (fun k => goodP a0 k) a0.2 i := hI0
  refine Vc.seq ?_
  refine Vc.seq ?_
  refine Vc.region hG rfl ?_ ?_
  · trivial
  refine Vc.cond rfl (fun h0 => ?_) (fun h0 => ?_)
  · skip
    have hl0 : i < (List.length a0.2 : Int) := of_decide_eq_true h0
    refine Vc.skip ?_
    refine Vc.seq ?_
    refine Vc.block ?_
    refine Vc.seq ?_
    refine Vc.regionD mixed hG rfl (by kernel_rfl) ?_ ?_
    · exact ⟨kRange hI0 hl0, trivial, fun h2 => backRange hI0 hl0 hb0 (of_decide_eq_true h2), fun _ => kRange hI0 hl0⟩
    refine Vc.cond rfl (fun h1 => ?_) (fun h1 => ?_)
    · skip
      have g1 : badF a0 i = true := h1
      refine Vc.seq ?_
      refine Vc.region hG rfl ?_ ?_
      · trivial
      refine Vc.ret ?_
      refine ⟨?_, trivial⟩
      refine boolC_no (fun h => ?_)
      have q := (goodIff hI0 hb0).2 (h.1 i.toNat (kLt hI0 hl0))
      rw [g1] at q; cases q
    · skip
      have g1 : badF a0 i = false := h1
      have s0 : goodP a0 i.toNat := (goodIff hI0 hb0).1 g1
      refine Vc.skip ?_
      refine Vc.region hG rfl ?_ ?_
      · trivial
      refine ⟨rfl, ?_⟩
      exact kStep hI0 hl0 hb0 s0
  · skip
    have hl0 : ¬ i < (List.length a0.2 : Int) := of_decide_eq_false h0
    refine Vc.exit ?_
    refine Vc.seq ?_
    refine Vc.region hG rfl ?_ ?_
    · repeat' (first | exact trivial | refine And.intro ?_ ?_ | intro _)
    refine Vc.ret ?_
    refine ⟨?_, trivial⟩
    refine boolC_by (fun e => ?_) (fun h => ?_)
    · exact ⟨kEnd hI0 hl0, (andT e).1, of_decide_eq_true (andT e).2⟩
    · exact yesAnd h.2.1 (decide_eq_true h.2.2)
noncomputable def F67 : Fun := ⟨[.int .i64, .slice (.int .i64), .int .i64], [.own Z4], fun _ => True, fun x => (pathF x.1 x.2.1 x.2.2.1, ())⟩
set_option maxRecDepth 100000 in
/-- loop.example.g00597.spec.TreePath -/
theorem F67_ok : Meets Tryz.prog 67 F67 := by
  refine meets_of_vc (C := mkC 60 [6] [0,1,2,6,7,8,20,27,30,44] [⟨83, _, F83_ok⟩, ⟨108, _, F108_ok⟩]) (mkC_ok _ _ _ _) (fnOf_ok _) Tryz.func67 rfl rfl rfl (by decide) rfl ?_
  rintro ⟨(a0 : Int), a1, (a2 : Int), _⟩ hwf hpre ⟨P, C, B, X, w0, M0, pv⟩ hG rfl rfl
  show Vc _ _ [(0, ⟨0, 0, .c (.pure (.int .i64)) a0⟩), (1, ⟨0, 0, .c Z2 a1⟩), (2, ⟨0, 0, .c (.pure (.int .i64)) a2⟩)] _
  have hb : List.length a1 ≤ bigLen := hwf.2.1.1
  refine Vc.seq ?_
  refine Vc.region hG rfl ?_ ?_
  · trivial
  refine Vc.seq ?_
  refine Vc.region hG rfl ?_ ?_
  · trivial
  refine Vc.seq ?_
  refine Vc.seq ?_
  refine Vc.region hG rfl ?_ ?_
  · repeat' (first | exact trivial | refine And.intro ?_ ?_ | intro _)
  refine Vc.cond rfl (fun h0 => ?_) (fun h0 => ?_)
  · skip
    have g0 := pt0s (m := a0) (i := a2) (l := a1) hb h0
    refine Vc.seq ?_
    refine Vc.region hG rfl ?_ ?_
    · trivial
    refine Vc.ret ?_
    refine ⟨?_, trivial⟩
    exact g0
  · skip
    have g0 := ptGos (i := a2) (l := a1) hb h0
    refine Vc.skip ?_
    refine Vc.seq ?_
    refine Vc.region hG rfl ?_ ?_
    · show 0 + List.length a1 ≤ maxApp
      unfold maxApp
      have := g0.2.2
      omega
    refine Vc.seq ?_
    refine Vc.block ?_
    -- slots [2, 7, 8]; frame [0, 1, 6, 20]
    refine Vc.loopF [(2, false, .pure (.int .i64)), (7, false, .own Z4), (8, false, .own (.pure (.int .i64)))] [0, 1, 6, 20] (fun v => ptInv a0 a1 a2 v.2.2.1 v.1 v.2.1) (fun v => List.length v.2.2.1) rfl ?_ ?_
    · exact ptStart g0
    rintro ⟨(i : Int), out, l, _⟩ hI
    have hI : ptInv a0 a1 a2 l i out := hI
    refine Vc.seq ?_
    refine Vc.seq ?_
    refine Vc.region hG rfl ?_ ?_
    · trivial
    refine Vc.cond rfl (fun h1 => ?_) (fun h1 => ?_)
    · skip
      have g1 : (List.length l : Int) > 1 := of_decide_eq_true h1
      refine Vc.skip ?_
      refine Vc.block ?_
      refine Vc.seq ?_
      refine Vc.seq ?_
      refine Vc.region hG rfl ?_ ?_
      · show (2 : Int) ≠ 0
        decide
      refine Vc.cond rfl (fun h2 => ?_) (fun h2 => ?_)
      · skip
        have g2 : (i.tmod 2 == 1) = true := h2
        have r1 := (ptOdd hI.2.1 hI.2.2.1 hI.2.2.2.1 g2).2
        have st := ptA hI g1 g2
        refine Vc.region hG rfl ?_ ?_
        · exact ⟨r1, ptLen hI⟩
        refine Vc.seq ?_
        refine Vc.region hG rfl ?_ ?_
        · exact ptSm hI
        refine Vc.region hG rfl ?_ ?_
        · show (2 : Int) ≠ 0
          decide
        refine ⟨rfl, ?_⟩
        exact st
      · skip
        have g2 : (i.tmod 2 == 1) = false := h2
        refine Vc.seq ?_
        refine Vc.region hG rfl ?_ ?_
        · trivial
        refine Vc.cond rfl (fun h3 => ?_) (fun h3 => ?_)
        · skip
          have g3 : IntKind.i64.wrap (i + 1) < (List.length l : Int) := of_decide_eq_true h3
          have r2 := (ptEven hI.2.1 hI.2.2.1 hI.2.2.2.1 g2 g3).2
          have st := ptB hI g1 g2 g3
          refine Vc.region hG rfl ?_ ?_
          · exact ⟨r2, ptLen hI⟩
          refine Vc.seq ?_
          refine Vc.region hG rfl ?_ ?_
          · exact ptSm hI
          refine Vc.region hG rfl ?_ ?_
          · show (2 : Int) ≠ 0
            decide
          refine ⟨rfl, ?_⟩
          exact st
        · skip
          have g3 : ¬ IntKind.i64.wrap (i + 1) < (List.length l : Int) := of_decide_eq_false h3
          have st := ptC hI g1 g2 g3
          refine Vc.skip ?_
          refine Vc.seq ?_
          refine Vc.region hG rfl ?_ ?_
          · exact ptSm hI
          refine Vc.region hG rfl ?_ ?_
          · show (2 : Int) ≠ 0
            decide
          refine ⟨rfl, ?_⟩
          exact st
    · skip
      have g1 : ¬ (List.length l : Int) > 1 := of_decide_eq_false h1
      refine Vc.exit ?_
      refine Vc.seq ?_
      refine Vc.region hG rfl ?_ ?_
      · trivial
      refine Vc.ret ?_
      refine ⟨?_, trivial⟩
      exact ptEnd hI g1 g0
noncomputable def F66 : Fun := ⟨[.pair Y16 Y41, .pair (.int .i64) Y36], [.pair Z22 Z44, .pure (.bool)], fun x => (fun (s : Strand) (r : Renewal) => Sm big20 Y45 s ∧ Sm big20 Y38 r) x.1 x.2.1, fun x => ((addRenF x.1 x.2.1).1, (addRenF x.1 x.2.1).2, ())⟩
set_option maxRecDepth 100000 in
/-- loop.example.g00597.spec.AddRenewal -/
theorem F66_ok : Meets Tryz.prog 66 F66 := by
  refine meets_of_vc (C := mkC 22 [4, 5] [0,1,2,3,4,5,6,18] [⟨85, _, F85_ok⟩, ⟨109, _, F109_ok⟩, ⟨110, _, F110_ok⟩]) (mkC_ok _ _ _ _) (fnOf_ok _) Tryz.func66 rfl rfl rfl (by decide) rfl ?_
  rintro ⟨a0, a1, _⟩ hwf hpre ⟨P, C, B, X, w0, M0, pv⟩ hG rfl rfl
  show Vc _ _ [(0, ⟨0, 0, .c Z46 a0⟩), (1, ⟨0, 0, .c Z39 a1⟩)] _
  have hp1 : Sm big20 Y45 a0 := hpre.1
  have hp2 : Sm big20 Y38 a1 := hpre.2
  refine Vc.seq ?_
  refine Vc.region hG rfl ?_ ?_
  · trivial
  refine Vc.seq ?_
  refine Vc.region hG rfl ?_ ?_
  · exact hp1
  refine Vc.seq ?_
  refine Vc.regionD mixed hG rfl (by kernel_rfl) ?_ ?_
  · exact ⟨hp2, arLen hp1.2.1⟩
  refine Vc.seq ?_
  refine Vc.seq ?_
  refine Vc.region hG rfl ?_ ?_
  · trivial
  refine Vc.cond rfl (fun h0 => ?_) (fun h0 => ?_)
  · skip
    have g0 : (!(strandF (a0.1, a0.2 ++ [a1]))) = true := h0
    refine Vc.seq ?_
    refine Vc.region hG rfl ?_ ?_
    · exact hp1
    refine Vc.ret ?_
    have e := ar0 g0
    refine ⟨?_, ?_, trivial⟩
    · exact (congrArg Prod.fst e).symm
    · exact (congrArg Prod.snd e).symm
  · skip
    have g0 : (!(strandF (a0.1, a0.2 ++ [a1]))) = false := h0
    refine Vc.skip ?_
    refine Vc.seq ?_
    refine Vc.region hG rfl ?_ ?_
    · trivial
    refine Vc.ret ?_
    have e := ar1 g0
    refine ⟨?_, ?_, trivial⟩
    · exact (congrArg Prod.fst e).symm
    · exact (congrArg Prod.snd e).symm
noncomputable def F28 : Fun := ⟨[.pair (.int .i64) Y54, .int .i64, .slice Y23], [.pair (.pure (.int .i64)) Z61, .pure (.bool)], fun x => (fun (a : Archive) (_ : Int) (l : List Stamp) => Sm big20 Y56 a ∧ Sm big20 (.slice TStamp) l) x.1 x.2.1 x.2.2.1, fun x => ((sealF x.1 x.2.1 x.2.2.1).1, (sealF x.1 x.2.1 x.2.2.1).2, ())⟩
set_option maxRecDepth 100000 in
/-- loop.example.g00597.spec.SealArchive -/
theorem F28_ok : Meets Tryz.prog 28 F28 := by
  refine meets_of_vc (C := mkC 84 [6, 7, 8] [0,1,2,3,6,7,8,9,10,11,12,13,14,38,80] [⟨44, _, F44_ok⟩, ⟨64, _, F64_ok⟩, ⟨65, _, F65_ok⟩, ⟨42, _, F42_ok⟩, ⟨67, _, F67_ok⟩, ⟨66, _, F66_ok⟩]) (mkC_ok _ _ _ _) (fnOf_ok _) Tryz.func28 rfl rfl rfl (by decide) rfl ?_
  rintro ⟨a0, (a1 : Int), a2, _⟩ hwf hpre ⟨P, C, B, X, w0, M0, pv⟩ hG rfl rfl
  show Vc _ _ [(0, ⟨0, 0, .c Z57 a0⟩), (1, ⟨0, 0, .c (.pure (.int .i64)) a1⟩), (2, ⟨0, 0, .c Z27 a2⟩)] _
  have hp1 : Sm big20 Y56 a0 := hpre.1
  have hp2 : Sm big20 (.slice TStamp) a2 := hpre.2
  have hb : List.length a0.2 ≤ bigLen := hwf.1.2.1
  refine Vc.seq ?_
  refine Vc.region hG rfl ?_ ?_
  · trivial
  refine Vc.seq ?_
  refine Vc.region hG rfl ?_ ?_
  · exact hp1
  refine Vc.seq ?_
  refine Vc.region hG rfl ?_ ?_
  · exact hp1
  refine Vc.seq ?_
  refine Vc.region hG rfl ?_ ?_
  · trivial
  refine Vc.seq ?_
  refine Vc.region hG rfl ?_ ?_
  · trivial
  refine Vc.seq ?_
  refine Vc.seq ?_
  refine Vc.region hG rfl ?_ ?_
  · trivial
  refine Vc.block ?_
  -- slots [8, 11, 12]; frame [0, 1, 2, 3, 6, 7, 9, 10, 80]
  refine Vc.loopF [(8, true, .pair (.pure (.int .i64)) Z61), (11, false, .pure (.bool)), (12, false, .pure (.int .i64))] [0, 1, 2, 3, 6, 7, 9, 10, 80] (fun v => slInvS a0 a1 a2 v.1 v.2.1 v.2.2.1) (fun v => ((List.length a0.2 : Int) - v.2.2.1).toNat) rfl ?_ ?_
  · exact slStartS
  rintro ⟨o, ok, (i : Int), _⟩ hI
  have hI : slInvS a0 a1 a2 o ok i := hI
  refine Vc.seq ?_
  refine Vc.seq ?_
  refine Vc.region hG rfl ?_ ?_
  · trivial
  refine Vc.cond rfl (fun h0 => ?_) (fun h0 => ?_)
  · skip
    have g0 : pick2 (decide (i < (List.length a0.2 : Int))) ok false = true := h0
    have hl : i < (List.length a0.2 : Int) := of_decide_eq_true (andT g0).1
    have gk := (andT g0).2
    have hE := itKSm hp1 hI.1 hl
    have ea := slAt (m := a1) (st := a2) hI.1
    have hgs := slGoS hI gk
    refine Vc.skip ?_
    refine Vc.seq ?_
    refine Vc.block ?_
    refine Vc.seq ?_
    refine Vc.regionL mixed hG rfl (by kernel_rfl) ?_ ?_
    · exact ⟨upRange hI.1 hl, upRange hI.1 hl, trivial, hE.2.2.2.2, renSm i.toNat i hp2⟩
    refine Vc.seq ?_
    refine Vc.region hG rfl ?_ ?_
    · exact slRange hgs.1 hl
    refine Vc.region hG rfl ?_ ?_
    · trivial
    refine Vc.region hG rfl ?_ ?_
    · trivial
    refine ⟨rfl, ?_⟩
    exact slNextS hI gk hl hb (by rw [ea]; rfl) (by rw [ea]; rfl) rfl
  · skip
    have g0 : pick2 (decide (i < (List.length a0.2 : Int))) ok false = false := h0
    refine Vc.exit ?_
    refine Vc.seq ?_
    refine Vc.seq ?_
    refine Vc.region hG rfl ?_ ?_
    · repeat' (first | exact trivial | refine And.intro ?_ ?_ | intro _)
    refine Vc.cond rfl (fun h1 => ?_) (fun h1 => ?_)
    · skip
      have g1 : pick2 (!ok) true (!(archF o)) = true := h1
      refine Vc.seq ?_
      refine Vc.region hG rfl ?_ ?_
      · exact hp1
      refine Vc.ret ?_
      have e := slEndBad hI g0 g1
      refine ⟨?_, ?_, trivial⟩
      · exact (congrArg Prod.fst e).symm
      · exact (congrArg Prod.snd e).symm
    · skip
      have g1 : pick2 (!ok) true (!(archF o)) = false := h1
      refine Vc.skip ?_
      refine Vc.seq ?_
      refine Vc.region hG rfl ?_ ?_
      · trivial
      refine Vc.ret ?_
      have e := slEndOk hI g0 g1
      refine ⟨?_, ?_, trivial⟩
      · exact (congrArg Prod.fst e).symm
      · exact (congrArg Prod.snd e).symm
end Fw
