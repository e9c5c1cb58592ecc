/- Walks of functions of the program: what each computes. Conditions: those that each contract names. -/
import Derived.Test.YtadkcilmknpkhaaGreatW53T
namespace Fw
open Go Go.Proofs
set_option linter.unusedSimpArgs false
noncomputable def F196 : Fun := ⟨[.int .i64, .int .i64, .int .i64], [.pure (.bool)], fun _ => True, fun x => (inRangeF x.1 x.2.1 x.2.2.1, ())⟩
set_option maxRecDepth 100000 in
/-- loop.example.g00597.spec.l1In -/
theorem F196_ok : Meets Tryz.prog 196 F196 := by
  refine meets_of_vc (C := mkC 15 [6] [0,1,2,6] []) (mkC_ok _ _ _ _) (fnOf_ok _) Tryz.func196 rfl rfl rfl (by decide) rfl ?_
  rintro ⟨(a0 : Int), (a1 : Int), (a2 : Int), _⟩ hwf hpre ⟨P, C, B, X, w0, M0, pv⟩ hG rfl rfl
  show Vc _ _ [(0, ⟨0, 0, .c (.pure (.int .i64)) a0⟩), (1, ⟨0, 0, .c (.pure (.int .i64)) a1⟩), (2, ⟨0, 0, .c (.pure (.int .i64)) a2⟩)] _
  refine Vc.seq ?_
  refine Vc.region hG rfl ?_ ?_
  · trivial
  refine Vc.seq ?_
  refine Vc.region hG rfl ?_ ?_
  · trivial
  refine Vc.ret ?_
  refine ⟨?_, trivial⟩
  all_goals exact rfl
noncomputable def F194 : Fun := ⟨[.pair (.int .i64) Y13], [.pure (.bool)], fun _ => True, fun x => (docF x.1, ())⟩
set_option maxRecDepth 100000 in
/-- loop.example.g00597.spec.IsDocument -/
theorem F194_ok : Meets Tryz.prog 194 F194 := by
  refine meets_of_vc (C := mkC 51 [2] [0,1,2,3,4,9,18,23,32] [⟨196, _, F196_ok⟩]) (mkC_ok _ _ _ _) (fnOf_ok _) Tryz.func194 rfl rfl rfl (by decide) rfl ?_
  rintro ⟨a0, _⟩ hwf hpre ⟨P, C, B, X, w0, M0, pv⟩ hG rfl rfl
  show Vc _ _ [(0, ⟨0, 0, .c Z25 a0⟩)] _
  have hb0 : List.length a0.2.1 ≤ bigLen := hwf.1.2.1.1
  have hb1 : List.length a0.2.2 ≤ bigLen := hwf.1.2.2.1
  refine Vc.seq ?_
  refine Vc.region hG rfl ?_ ?_
  · trivial
  refine Vc.seq ?_
  refine Vc.seq ?_
  refine Vc.region hG rfl ?_ ?_
  · trivial
  refine Vc.block ?_
  -- slots [3]; frame [0, 1, 4, 23, 32]
  refine Vc.loopF [(3, false, .pure (.int .i64))] [0, 1, 4, 23, 32] (fun v => kInv (fun k => (List.length (List.getD a0.2.1 k (dflt .str)) : Int) ≤ 40) a0.2.1 v.1) (fun v => ((List.length a0.2.1 : Int) - v.1).toNat) rfl ?_ ?_
  · exact kStart
  rintro ⟨(i : Int), _⟩ hI0
  have hI0 : kInv (fun k => (List.length (List.getD a0.2.1 k (dflt .str)) : Int) ≤ 40) a0.2.1 i := hI0
  refine Vc.seq ?_
  refine Vc.seq ?_
  refine Vc.region hG rfl ?_ ?_
  · trivial
  refine Vc.cond rfl (fun h0 => ?_) (fun h0 => ?_)
  · skip
    have hl0 : i < (List.length a0.2.1 : Int) := of_decide_eq_true h0
    refine Vc.skip ?_
    refine Vc.seq ?_
    refine Vc.block ?_
    refine Vc.seq ?_
    refine Vc.region hG rfl ?_ ?_
    · exact kRange hI0 hl0
    refine Vc.cond rfl (fun h1 => ?_) (fun h1 => ?_)
    · skip
      have g1 : (List.length (List.getD a0.2.1 i.toNat (dflt .str)) : Int) > 40 := of_decide_eq_true h1
      refine Vc.seq ?_
      refine Vc.region hG rfl ?_ ?_
      · trivial
      refine Vc.ret ?_
      refine ⟨?_, trivial⟩
      refine boolC_no (P := docP a0) (fun h => ?_)
      have q := h.2.2.2.1 i.toNat (kLt hI0 hl0)
      exact absurd q (Int.not_le.2 g1)
    · skip
      have g1 : ¬ (List.length (List.getD a0.2.1 i.toNat (dflt .str)) : Int) > 40 := of_decide_eq_false h1
      refine Vc.skip ?_
      refine Vc.region hG rfl ?_ ?_
      · trivial
      refine ⟨rfl, ?_⟩
      exact kStep hI0 hl0 hb0 (show (List.length (List.getD a0.2.1 i.toNat (dflt .str)) : Int) ≤ 40 from Int.not_lt.1 g1)
  · skip
    have hl0 : ¬ i < (List.length a0.2.1 : Int) := of_decide_eq_false h0
    refine Vc.exit ?_
    refine Vc.seq ?_
    refine Vc.seq ?_
    refine Vc.region hG rfl ?_ ?_
    · trivial
    refine Vc.block ?_
    -- slots [4]; frame [0, 1, 3, 9, 18]
    refine Vc.loopF [(4, false, .pure (.int .i64))] [0, 1, 3, 9, 18] (fun v => kInv (fun k => inRangeF (List.getD a0.2.2 k (dflt (.int .i64))) 1 1000000000000 = true) a0.2.2 v.1) (fun v => ((List.length a0.2.2 : Int) - v.1).toNat) rfl ?_ ?_
    · exact kStart
    rintro ⟨(i : Int), _⟩ hI1
    have hI1 : kInv (fun k => inRangeF (List.getD a0.2.2 k (dflt (.int .i64))) 1 1000000000000 = true) a0.2.2 i := hI1
    refine Vc.seq ?_
    refine Vc.seq ?_
    refine Vc.region hG rfl ?_ ?_
    · trivial
    refine Vc.cond rfl (fun h2 => ?_) (fun h2 => ?_)
    · skip
      have hl1 : i < (List.length a0.2.2 : Int) := of_decide_eq_true h2
      refine Vc.skip ?_
      refine Vc.seq ?_
      refine Vc.block ?_
      refine Vc.seq ?_
      refine Vc.region hG rfl ?_ ?_
      · exact ⟨kRange hI1 hl1, trivial⟩
      refine Vc.cond rfl (fun h3 => ?_) (fun h3 => ?_)
      · skip
        have g3 : (!(inRangeF (List.getD a0.2.2 i.toNat (dflt (.int .i64))) 1 1000000000000)) = true := h3
        refine Vc.seq ?_
        refine Vc.region hG rfl ?_ ?_
        · trivial
        refine Vc.ret ?_
        refine ⟨?_, trivial⟩
        refine boolC_no (P := docP a0) (fun h => ?_)
        exact nself (h.2.2.2.2 i.toNat (kLt hI1 hl1)) g3
      · skip
        have g3 : (!(inRangeF (List.getD a0.2.2 i.toNat (dflt (.int .i64))) 1 1000000000000)) = false := h3
        refine Vc.skip ?_
        refine Vc.region hG rfl ?_ ?_
        · trivial
        refine ⟨rfl, ?_⟩
        exact kStep hI1 hl1 hb1 (notF g3)
    · skip
      have hl1 : ¬ i < (List.length a0.2.2 : Int) := of_decide_eq_false h2
      refine Vc.exit ?_
      refine Vc.seq ?_
      refine Vc.region hG rfl ?_ ?_
      · repeat' (first | exact trivial | refine And.intro ?_ ?_ | intro _)
      refine Vc.ret ?_
      refine ⟨?_, trivial⟩
      refine boolC_by (P := docP a0) (fun e => ?_) (fun h => ?_)
      · exact ⟨(andT (andT e).1).1, (andT (andT e).1).2, lenBeqI (andT e).2, kEnd hI0 hl0, kEnd hI1 hl1⟩
      · exact yesAnd (yesAnd h.1 h.2.1) (lenBeq h.2.2.1)
noncomputable def F226 : Fun := ⟨[.int .i64, .int .i64], [.pure (.int .i64)], fun _ => True, fun x => (modF x.1 x.2.1, ())⟩
set_option maxRecDepth 100000 in
/-- loop.example.g00597.spec.Mod -/
theorem F226_ok : Meets Tryz.prog 226 F226 := by
  refine meets_of_vc (C := mkC 15 [4] [0,1,4,7] [⟨196, _, F196_ok⟩]) (mkC_ok _ _ _ _) (fnOf_ok _) Tryz.func226 rfl rfl rfl (by decide) rfl ?_
  rintro ⟨(a0 : Int), (a1 : Int), _⟩ hwf hpre ⟨P, C, B, X, w0, M0, pv⟩ hG rfl rfl
  show Vc _ _ [(0, ⟨0, 0, .c (.pure (.int .i64)) a0⟩), (1, ⟨0, 0, .c (.pure (.int .i64)) a1⟩)] _
  refine Vc.seq ?_
  refine Vc.region hG rfl ?_ ?_
  · trivial
  refine Vc.seq ?_
  refine Vc.seq ?_
  refine Vc.region hG rfl ?_ ?_
  · trivial
  refine Vc.cond rfl (fun h0 => ?_) (fun h0 => ?_)
  · skip
    have g0 : (!(inRangeF a1 1 1000000000000)) = true := h0
    refine Vc.seq ?_
    refine Vc.region hG rfl ?_ ?_
    · trivial
    refine Vc.ret ?_
    refine ⟨?_, trivial⟩
    show (0 : Int) = modF a0 a1
    unfold modF
    rw [if_neg (by simpa using g0)]
  · skip
    have g0 : (!(inRangeF a1 1 1000000000000)) = false := h0
    refine Vc.skip ?_
    refine Vc.seq ?_
    refine Vc.region hG rfl ?_ ?_
    · exact ⟨inR_pos h0, inR_pos h0⟩
    refine Vc.ret ?_
    refine ⟨?_, trivial⟩
    show _ = modF a0 a1
    unfold modF
    rw [if_pos (by simpa using g0)]
noncomputable def F199 : Fun := ⟨[.slice (.int .i64)], [.pure (.int .i64)], fun _ => True, fun x => (hashF x.1, ())⟩
set_option maxRecDepth 100000 in
/-- loop.example.g00597.spec.Hash -/
theorem F199_ok : Meets Tryz.prog 199 F199 := by
  refine meets_of_vc (C := mkC 22 [2] [0,2,3,4,8] [⟨226, _, F226_ok⟩]) (mkC_ok _ _ _ _) (fnOf_ok _) Tryz.func199 rfl rfl rfl (by decide) rfl ?_
  rintro ⟨a0, _⟩ hwf hpre ⟨P, C, B, X, w0, M0, pv⟩ hG rfl rfl
  show Vc _ _ [(0, ⟨0, 0, .c Z2 a0⟩)] _
  have hb : List.length a0 ≤ bigLen := hwf.1.1
  refine Vc.seq ?_
  refine Vc.region hG rfl ?_ ?_
  · trivial
  refine Vc.seq ?_
  refine Vc.region hG rfl ?_ ?_
  · trivial
  refine Vc.seq ?_
  refine Vc.seq ?_
  refine Vc.region hG rfl ?_ ?_
  · trivial
  refine Vc.block ?_
  -- slots [3, 4]; frame [0, 2]
  refine Vc.loopF [(3, false, .pure (.int .i64)), (4, false, .pure (.int .i64))] [0, 2] (fun v => foInv (hstep) (11) a0 v.1 v.2.1) (fun v => ((List.length a0 : Int) - v.2.1).toNat) rfl ?_ ?_
  · exact foStart
  rintro ⟨acc, (i : Int), _⟩ hI
  have hI : foInv (hstep) (11) a0 acc i := hI
  refine Vc.seq ?_
  refine Vc.seq ?_
  refine Vc.region hG rfl ?_ ?_
  · trivial
  refine Vc.cond rfl (fun h0 => ?_) (fun h0 => ?_)
  · skip
    have hl : i < (List.length a0 : Int) := of_decide_eq_true h0
    refine Vc.skip ?_
    refine Vc.seq ?_
    refine Vc.block ?_
    refine Vc.region hG rfl ?_ ?_
    · exact ⟨foRange hI hl, trivial, (show (2147483647 : Int) ≠ 0 by decide)⟩
    refine Vc.region hG rfl ?_ ?_
    · trivial
    refine ⟨rfl, ?_⟩
    exact foStep hI hl hb
  · skip
    have hl : ¬ i < (List.length a0 : Int) := of_decide_eq_false h0
    refine Vc.exit ?_
    refine Vc.seq ?_
    refine Vc.region hG rfl ?_ ?_
    · trivial
    refine Vc.ret ?_
    refine ⟨?_, trivial⟩
    exact foEnd hI hl
noncomputable def F164 : Fun := ⟨[.int .i64, .slice (.int .i64)], [.pure (.int .i64)], fun x => (fun (_ : Int) (l : List Int) => smallL l) x.1 x.2.1, fun x => (digestF x.1 x.2.1, ())⟩
set_option maxRecDepth 100000 in
/-- loop.example.g00597.spec.DigestOf -/
theorem F164_ok : Meets Tryz.prog 164 F164 := by
  refine meets_of_vc (C := mkC 10 [4] [0,1,4] [⟨199, _, F199_ok⟩]) (mkC_ok _ _ _ _) (fnOf_ok _) Tryz.func164 rfl rfl rfl (by decide) rfl ?_
  rintro ⟨(a0 : Int), a1, _⟩ hwf hpre ⟨P, C, B, X, w0, M0, pv⟩ hG rfl rfl
  show Vc _ _ [(0, ⟨0, 0, .c (.pure (.int .i64)) a0⟩), (1, ⟨0, 0, .c Z2 a1⟩)] _
  have hp : List.length a1 ≤ 1000000000 := hpre
  refine Vc.seq ?_
  refine Vc.region hG rfl ?_ ?_
  · trivial
  refine Vc.seq ?_
  refine Vc.region hG rfl ?_ ?_
  · refine ⟨?_, trivial⟩
    show 2 + List.length a1 ≤ maxApp
    unfold maxApp; omega
  refine Vc.ret ?_
  refine ⟨?_, trivial⟩
  exact (digest_eq a0 a1).symm
noncomputable def F195 : Fun := ⟨[.int .i64, .str, .int .i64], [.pure (.int .i64)], fun x => (fun (_ : Int) (s : List UInt8) (_ : Int) => s.length ≤ 40) x.1 x.2.1 x.2.2.1, fun x => (partF x.1 x.2.1 x.2.2.1, ())⟩
set_option maxRecDepth 100000 in
/-- loop.example.g00597.spec.PartDigest -/
theorem F195_ok : Meets Tryz.prog 195 F195 := by
  refine meets_of_vc (C := mkC 27 [6] [0,1,2,6,7,8,14] [⟨164, _, F164_ok⟩]) (mkC_ok _ _ _ _) (fnOf_ok _) Tryz.func195 rfl rfl rfl (by decide) rfl ?_
  rintro ⟨(a0 : Int), a1, (a2 : Int), _⟩ hwf hpre ⟨P, C, B, X, w0, M0, pv⟩ hG rfl rfl
  show Vc _ _ [(0, ⟨0, 0, .c (.pure (.int .i64)) a0⟩), (1, ⟨0, 0, .c (.pure (.str)) a1⟩), (2, ⟨0, 0, .c (.pure (.int .i64)) a2⟩)] _
  have hp : List.length a1 ≤ 40 := hpre
  have hb : List.length a1 ≤ bigLen := hwf.2.1
  refine Vc.seq ?_
  refine Vc.region hG rfl ?_ ?_
  · trivial
  refine Vc.seq ?_
  refine Vc.region hG rfl ?_ ?_
  · trivial
  refine Vc.seq ?_
  refine Vc.seq ?_
  refine Vc.region hG rfl ?_ ?_
  · trivial
  refine Vc.block ?_
  -- slots [7, 8]; frame [0, 1, 2, 6]
  refine Vc.loopF [(7, false, .own (.pure (.int .i64))), (8, false, .pure (.int .i64))] [0, 1, 2, 6] (fun v => gsInv (partG a1) [a2] a1 v.1 v.2.1) (fun v => ((List.length a1 : Int) - v.2.1).toNat) rfl ?_ ?_
  · exact gsStart
  rintro ⟨acc, (i : Int), _⟩ hI
  have hI : gsInv (partG a1) [a2] a1 acc i := hI
  have hA : List.length acc ≤ 41 := gsLen (c := 1) (m := 40) hI (fun _ => Nat.le_refl _) hp (by simp)
  refine Vc.seq ?_
  refine Vc.seq ?_
  refine Vc.region hG rfl ?_ ?_
  · trivial
  refine Vc.cond rfl (fun h0 => ?_) (fun h0 => ?_)
  · skip
    have hl : i < (List.length a1 : Int) := of_decide_eq_true h0
    refine Vc.skip ?_
    refine Vc.seq ?_
    refine Vc.block ?_
    refine Vc.region hG rfl ?_ ?_
    · exact ⟨gsRange hI hl, (show List.length acc + 1 ≤ maxApp from by unfold maxApp; omega)⟩
    refine Vc.region hG rfl ?_ ?_
    · trivial
    refine ⟨rfl, ?_⟩
    exact gsStep hI hl hb rfl
  · skip
    have hl : ¬ i < (List.length a1 : Int) := of_decide_eq_false h0
    refine Vc.exit ?_
    refine Vc.seq ?_
    refine Vc.region hG rfl ?_ ?_
    · exact (show List.length acc ≤ 1000000000 from by omega)
    refine Vc.ret ?_
    refine ⟨?_, trivial⟩
    exact congrArg (digestF a0) (gsEnd hI hl)
noncomputable def F159 : Fun := ⟨[.int .i64, .pair (.int .i64) Y13], [.pure (.int .i64)], fun _ => True, fun x => (docDigF x.1 x.2.1, ())⟩
set_option maxRecDepth 100000 in
/-- loop.example.g00597.spec.DocDigest -/
theorem F159_ok : Meets Tryz.prog 159 F159 := by
  refine meets_of_vc (C := mkC 38 [4] [0,1,3,4,5,6,9,17] [⟨194, _, F194_ok⟩, ⟨195, _, F195_ok⟩, ⟨164, _, F164_ok⟩]) (mkC_ok _ _ _ _) (fnOf_ok _) Tryz.func159 rfl rfl rfl (by decide) rfl ?_
  rintro ⟨(a0 : Int), a1, _⟩ hwf hpre ⟨P, C, B, X, w0, M0, pv⟩ hG rfl rfl
  show Vc _ _ [(0, ⟨0, 0, .c (.pure (.int .i64)) a0⟩), (1, ⟨0, 0, .c Z25 a1⟩)] _
  have hb : List.length a1.2.1 ≤ bigLen := hwf.2.1.2.1.1
  refine Vc.seq ?_
  refine Vc.region hG rfl ?_ ?_
  · trivial
  refine Vc.seq ?_
  refine Vc.seq ?_
  refine Vc.region hG rfl ?_ ?_
  · trivial
  refine Vc.cond rfl (fun h0 => ?_) (fun h0 => ?_)
  · skip
    have g0 : (!(docF a1)) = true := h0
    refine Vc.seq ?_
    refine Vc.region hG rfl ?_ ?_
    · trivial
    refine Vc.ret ?_
    refine ⟨?_, trivial⟩
    exact docDig0 g0
  · skip
    have g0 : (!(docF a1)) = false := h0
    have hd := docP_of g0
    have h6 : List.length a1.2.1 ≤ 6 := docN hd
    refine Vc.skip ?_
    refine Vc.seq ?_
    refine Vc.region hG rfl ?_ ?_
    · trivial
    refine Vc.seq ?_
    refine Vc.seq ?_
    refine Vc.region hG rfl ?_ ?_
    · trivial
    refine Vc.block ?_
    -- slots [5, 6]; frame [0, 1, 3, 4, 9]
    refine Vc.loopF [(5, false, .own (.pure (.int .i64))), (6, false, .pure (.int .i64))] [0, 1, 3, 4, 9] (fun v => gsInv (docG a0 a1) [a1.1] a1.2.1 v.1 v.2.1) (fun v => ((List.length a1.2.1 : Int) - v.2.1).toNat) rfl ?_ ?_
    · exact gsStart
    rintro ⟨acc, (i : Int), _⟩ hI
    have hI : gsInv (docG a0 a1) [a1.1] a1.2.1 acc i := hI
    have hA : List.length acc ≤ 7 := gsLen (c := 1) (m := 6) hI (fun _ => Nat.le_refl _) h6 (by simp)
    refine Vc.seq ?_
    refine Vc.seq ?_
    refine Vc.region hG rfl ?_ ?_
    · trivial
    refine Vc.cond rfl (fun h1 => ?_) (fun h1 => ?_)
    · skip
      have hl : i < (List.length a1.2.1 : Int) := of_decide_eq_true h1
      refine Vc.skip ?_
      refine Vc.seq ?_
      refine Vc.block ?_
      refine Vc.regionD mixed hG rfl (by kernel_rfl) ?_ ?_
      · exact ⟨gsRange hI hl, docX hd hI hl, doc40 hd hI hl, (show List.length acc + 1 ≤ maxApp from by unfold maxApp; omega)⟩
      refine Vc.region hG rfl ?_ ?_
      · trivial
      refine ⟨rfl, ?_⟩
      exact gsStep hI hl hb rfl
    · skip
      have hl : ¬ i < (List.length a1.2.1 : Int) := of_decide_eq_false h1
      refine Vc.exit ?_
      refine Vc.seq ?_
      refine Vc.region hG rfl ?_ ?_
      · exact (show List.length acc ≤ 1000000000 from by omega)
      refine Vc.ret ?_
      refine ⟨?_, trivial⟩
      have e := docDig1 (id := a0) (d := a1) (acc := acc) (i := i) g0 hI hl
      exact e
noncomputable def F119 : Fun := ⟨[.pair Y23 Y55, .pair (.int .i64) Y13], [.own (.pure (.int .i64))], fun x => (fun (s : Strand) (_ : Doc) => List.length s.2 ≤ 2000000) x.1 x.2.1, fun x => (docDigsF x.1 x.2.1, ())⟩
set_option maxRecDepth 100000 in
/-- loop.example.g00597.spec.DocDigests -/
theorem F119_ok : Meets Tryz.prog 119 F119 := by
  refine meets_of_vc (C := mkC 27 [4] [0,1,2,3,4,5,6,12] [⟨159, _, F159_ok⟩]) (mkC_ok _ _ _ _) (fnOf_ok _) Tryz.func119 rfl rfl rfl (by decide) rfl ?_
  rintro ⟨a0, a1, _⟩ hwf hpre ⟨P, C, B, X, w0, M0, pv⟩ hG rfl rfl
  show Vc _ _ [(0, ⟨0, 0, .c Z61 a0⟩), (1, ⟨0, 0, .c Z25 a1⟩)] _
  have hs : List.length a0.2 ≤ 2000000 := hpre
  have hb : List.length a0.2 ≤ bigLen := hwf.1.2.1
  refine Vc.seq ?_
  refine Vc.region hG rfl ?_ ?_
  · trivial
  refine Vc.seq ?_
  refine Vc.region hG rfl ?_ ?_
  · trivial
  refine Vc.seq ?_
  refine Vc.seq ?_
  refine Vc.region hG rfl ?_ ?_
  · trivial
  refine Vc.block ?_
  -- slots [5, 6]; frame [0, 1, 2, 3, 4]
  refine Vc.loopF [(5, false, .own (.pure (.int .i64))), (6, false, .pure (.int .i64))] [0, 1, 2, 3, 4] (fun v => pkInv (ddF a1) a0.2 v.1 v.2.1) (fun v => ((List.length a0.2 : Int) - v.2.1).toNat) rfl ?_ ?_
  · exact pkStart
  rintro ⟨acc, (i : Int), _⟩ hI
  have hI : pkInv (ddF a1) a0.2 acc i := hI
  refine Vc.seq ?_
  refine Vc.seq ?_
  refine Vc.region hG rfl ?_ ?_
  · trivial
  refine Vc.cond rfl (fun h0 => ?_) (fun h0 => ?_)
  · skip
    have hl : i < (List.length a0.2 : Int) := of_decide_eq_true h0
    refine Vc.skip ?_
    refine Vc.seq ?_
    refine Vc.block ?_
    refine Vc.regionD mixed hG rfl (by kernel_rfl) ?_ ?_
    · exact ⟨pkRange hI hl, trivial, pkLen2 hI hs⟩
    refine Vc.region hG rfl ?_ ?_
    · trivial
    refine ⟨rfl, ?_⟩
    exact pkYes (d := dflt Y52) hI hl hb rfl
  · skip
    have hl : ¬ i < (List.length a0.2 : Int) := of_decide_eq_false h0
    refine Vc.exit ?_
    refine Vc.seq ?_
    refine Vc.region hG rfl ?_ ?_
    · trivial
    refine Vc.ret ?_
    refine ⟨?_, trivial⟩
    exact pkEnd hI hl
noncomputable def F70 : Fun := ⟨[.pair Y62 Y37, .pair (.int .i64) Y13], [.own Z0], fun x => (fun (e : Evidence) (_ : Doc) => Sm big20 Y62 e.1) x.1 x.2.1, fun x => (allDigsF x.1 x.2.1, ())⟩
set_option maxRecDepth 100000 in
/-- loop.example.g00597.spec.AllDocDigests -/
theorem F70_ok : Meets Tryz.prog 70 F70 := by
  refine meets_of_vc (C := mkC 26 [4] [0,1,2,3,4,5,6,12] [⟨119, _, F119_ok⟩]) (mkC_ok _ _ _ _) (fnOf_ok _) Tryz.func70 rfl rfl rfl (by decide) rfl ?_
  rintro ⟨a0, a1, _⟩ hwf hpre ⟨P, C, B, X, w0, M0, pv⟩ hG rfl rfl
  show Vc _ _ [(0, ⟨0, 0, .c Z67 a0⟩), (1, ⟨0, 0, .c Z25 a1⟩)] _
  have hS : Sm big20 Y62 a0.1 := hpre
  have hs : List.length a0.1 ≤ 1048576 := hS.1
  have hb : List.length a0.1 ≤ bigLen := hwf.1.1.1
  refine Vc.seq ?_
  refine Vc.region hG rfl ?_ ?_
  · trivial
  refine Vc.seq ?_
  refine Vc.region hG rfl ?_ ?_
  · trivial
  refine Vc.seq ?_
  refine Vc.seq ?_
  refine Vc.region hG rfl ?_ ?_
  · trivial
  refine Vc.block ?_
  -- slots [5, 6]; frame [0, 1, 2, 3, 4]
  refine Vc.loopF [(5, false, .own Z0), (6, false, .pure (.int .i64))] [0, 1, 2, 3, 4] (fun v => pkInv (adF a1) a0.1 v.1 v.2.1) (fun v => ((List.length a0.1 : Int) - v.2.1).toNat) rfl ?_ ?_
  · exact pkStart
  rintro ⟨acc, (i : Int), _⟩ hI
  have hI : pkInv (adF a1) a0.1 acc i := hI
  refine Vc.seq ?_
  refine Vc.seq ?_
  refine Vc.region hG rfl ?_ ?_
  · trivial
  refine Vc.cond rfl (fun h0 => ?_) (fun h0 => ?_)
  · skip
    have hl : i < (List.length a0.1 : Int) := of_decide_eq_true h0
    have r1 := pkRange hI hl
    have hE : List.length (List.getD a0.1 i.toNat (dflt Y59)).2 ≤ 2000000 := Nat.le_trans (hS.2 _ (getD_mem r1 _)).2.1 (by decide)
    refine Vc.skip ?_
    refine Vc.seq ?_
    refine Vc.block ?_
    refine Vc.regionD mixed hG rfl (by kernel_rfl) ?_ ?_
    · exact ⟨r1, hE, pkLen hI hs⟩
    refine Vc.region hG rfl ?_ ?_
    · trivial
    refine ⟨rfl, ?_⟩
    exact pkYes (d := dflt Y59) hI hl hb rfl
  · skip
    have hl : ¬ i < (List.length a0.1 : Int) := of_decide_eq_false h0
    refine Vc.exit ?_
    refine Vc.seq ?_
    refine Vc.region hG rfl ?_ ?_
    · trivial
    refine Vc.ret ?_
    refine ⟨?_, trivial⟩
    exact pkEnd hI hl
noncomputable def F100 : Fun := ⟨[.slice Y32, .int .i64], [.pure (.int .i64)], fun _ => True, fun x => ((fun a0 a1 => findI (fun x => x.1 == a1) a0) x.1 x.2.1, ())⟩
set_option maxRecDepth 100000 in
/-- loop.example.g00597.spec.FindKey -/
theorem F100_ok : Meets Tryz.prog 100 F100 := by
  refine meets_of_vc (C := mkC 20 [4] [0,1,4,5,9,18] []) (mkC_ok _ _ _ _) (fnOf_ok _) Tryz.func100 rfl rfl rfl (by decide) rfl ?_
  rintro ⟨a0, (a1 : Int), _⟩ hwf hpre ⟨P, C, B, X, w0, M0, pv⟩ hG rfl rfl
  show Vc _ _ [(0, ⟨0, 0, .c Z36 a0⟩), (1, ⟨0, 0, .c (.pure (.int .i64)) a1⟩)] _
  have hb : List.length a0 ≤ bigLen := hwf.1.1
  refine Vc.seq ?_
  refine Vc.region hG rfl ?_ ?_
  · trivial
  refine Vc.seq ?_
  refine Vc.seq ?_
  refine Vc.region hG rfl ?_ ?_
  · trivial
  refine Vc.block ?_
  -- slots [5]; frame [0, 1]
  refine Vc.loopF [(5, false, .pure (.int .i64))] [0, 1] (fun v => fInv (fun x => x.1 == a1) a0 v.1) (fun v => ((List.length a0 : Int) - v.1).toNat) rfl ?_ ?_
  · exact fStart
  rintro ⟨(i : Int), _⟩ hI
  have hI : fInv (fun x => x.1 == a1) a0 i := hI
  refine Vc.seq ?_
  refine Vc.seq ?_
  refine Vc.region hG rfl ?_ ?_
  · trivial
  refine Vc.cond rfl (fun h0 => ?_) (fun h0 => ?_)
  · skip
    have hl : i < (List.length a0 : Int) := of_decide_eq_true h0
    refine Vc.skip ?_
    refine Vc.seq ?_
    refine Vc.block ?_
    refine Vc.seq ?_
    refine Vc.region hG rfl ?_ ?_
    · exact fRange hI hl
    refine Vc.cond rfl (fun h1 => ?_) (fun h1 => ?_)
    · skip
      have g1 : (fun x => x.1 == a1) (List.getD a0 i.toNat (dflt Y32)) = true := h1
      refine Vc.seq ?_
      refine Vc.region hG rfl ?_ ?_
      · trivial
      refine Vc.ret ?_
      refine ⟨?_, trivial⟩
      exact fHit hI hl g1
    · skip
      have g1 : (fun x => x.1 == a1) (List.getD a0 i.toNat (dflt Y32)) = false := h1
      refine Vc.skip ?_
      refine Vc.region hG rfl ?_ ?_
      · trivial
      refine ⟨rfl, ?_⟩
      exact fStep hI hl hb g1
  · skip
    have hl : ¬ i < (List.length a0 : Int) := of_decide_eq_false h0
    refine Vc.exit ?_
    refine Vc.seq ?_
    refine Vc.region hG rfl ?_ ?_
    · trivial
    refine Vc.ret ?_
    refine ⟨?_, trivial⟩
    exact fEnd hI hl
noncomputable def F160 : Fun := ⟨[.pair (.int .i64) Y9], [.pure (.int .i64)], fun _ => True, fun x => (kindF x.1, ())⟩
set_option maxRecDepth 100000 in
/-- loop.example.g00597.spec.KindOfPiece -/
theorem F160_ok : Meets Tryz.prog 160 F160 := by
  refine meets_of_vc (C := mkC 31 [2] [0,1,2,14,26] [⟨196, _, F196_ok⟩]) (mkC_ok _ _ _ _) (fnOf_ok _) Tryz.func160 rfl rfl rfl (by decide) rfl ?_
  rintro ⟨a0, _⟩ hwf hpre ⟨P, C, B, X, w0, M0, pv⟩ hG rfl rfl
  show Vc _ _ [(0, ⟨0, 0, .c Z22 a0⟩)] _
  refine Vc.seq ?_
  refine Vc.region hG rfl ?_ ?_
  · trivial
  refine Vc.seq ?_
  refine Vc.seq ?_
  refine Vc.region hG rfl ?_ ?_
  · exact ⟨fun h => kLen h, fun _ => trivial⟩
  refine Vc.cond rfl (fun h0 => ?_) (fun h0 => ?_)
  · skip
    have g0 : kb1 a0 = true := h0
    refine Vc.seq ?_
    refine Vc.region hG rfl ?_ ?_
    · trivial
    refine Vc.ret ?_
    refine ⟨?_, trivial⟩
    exact kind0 g0
  · skip
    have g0 : kb1 a0 = false := h0
    refine Vc.skip ?_
    refine Vc.seq ?_
    refine Vc.seq ?_
    refine Vc.regionD mixed hG rfl (by kernel_rfl) ?_ ?_
    · exact ⟨kLen1 g0, kIdx g0⟩
    refine Vc.cond rfl (fun h1 => ?_) (fun h1 => ?_)
    · skip
      have g1 : kb2 a0 = true := h1
      refine Vc.seq ?_
      refine Vc.region hG rfl ?_ ?_
      · trivial
      refine Vc.ret ?_
      refine ⟨?_, trivial⟩
      exact kind1 g1
    · skip
      have g1 : kb2 a0 = false := h1
      refine Vc.skip ?_
      refine Vc.seq ?_
      refine Vc.region hG rfl ?_ ?_
      · exact kLen1 g0
      refine Vc.ret ?_
      refine ⟨?_, trivial⟩
      exact kind2 g0 g1
noncomputable def F120 : Fun := ⟨[.pair (.int .i64) Y9], [.pure Y41, .pure (.bool)], fun _ => True, fun x => ((pieceCertF x.1).1, (pieceCertF x.1).2, ())⟩
set_option maxRecDepth 100000 in
/-- loop.example.g00597.spec.PieceCert -/
theorem F120_ok : Meets Tryz.prog 120 F120 := by
  refine meets_of_vc (C := mkC 44 [2, 3] [0,1,2,3,15] [⟨160, _, F160_ok⟩]) (mkC_ok _ _ _ _) (fnOf_ok _) Tryz.func120 rfl rfl rfl (by decide) rfl ?_
  rintro ⟨a0, _⟩ hwf hpre ⟨P, C, B, X, w0, M0, pv⟩ hG rfl rfl
  show Vc _ _ [(0, ⟨0, 0, .c Z22 a0⟩)] _
  refine Vc.seq ?_
  refine Vc.region hG rfl ?_ ?_
  · trivial
  refine Vc.seq ?_
  refine Vc.seq ?_
  refine Vc.regionD mixed hG rfl (by kernel_rfl) ?_ ?_
  · exact ⟨trivial, fun h => seven (kind7 h) 6 (by decide)⟩
  refine Vc.cond rfl (fun h0 => ?_) (fun h0 => ?_)
  · skip
    have g0 : pcBad a0 = true := h0
    refine Vc.seq ?_
    refine Vc.region hG rfl ?_ ?_
    · trivial
    refine Vc.ret ?_
    have e := pc0 g0
    refine ⟨?_, ?_, trivial⟩
    · exact (congrArg Prod.fst e).symm
    · exact (congrArg Prod.snd e).symm
  · skip
    have g0 : pcBad a0 = false := h0
    refine Vc.skip ?_
    refine Vc.seq ?_
    refine Vc.regionD mixed hG rfl (by kernel_rfl) ?_ ?_
    · exact ⟨seven (pc7 g0) 1 (by decide), seven (pc7 g0) 2 (by decide), seven (pc7 g0) 3 (by decide), seven (pc7 g0) 4 (by decide), seven (pc7 g0) 5 (by decide), seven (pc7 g0) 6 (by decide)⟩
    refine Vc.ret ?_
    have e := pc1 g0
    refine ⟨?_, ?_, trivial⟩
    · exact (congrArg Prod.fst e).symm
    · exact (congrArg Prod.snd e).symm
noncomputable def F124 : Fun := ⟨[.pair (.int .i64) Y9], [.pure Y32, .pure (.bool)], fun _ => True, fun x => ((pieceStatF x.1).1, (pieceStatF x.1).2, ())⟩
set_option maxRecDepth 100000 in
/-- loop.example.g00597.spec.PieceStatus -/
theorem F124_ok : Meets Tryz.prog 124 F124 := by
  refine meets_of_vc (C := mkC 36 [2, 3] [0,1,2,3,15] [⟨160, _, F160_ok⟩]) (mkC_ok _ _ _ _) (fnOf_ok _) Tryz.func124 rfl rfl rfl (by decide) rfl ?_
  rintro ⟨a0, _⟩ hwf hpre ⟨P, C, B, X, w0, M0, pv⟩ hG rfl rfl
  show Vc _ _ [(0, ⟨0, 0, .c Z22 a0⟩)] _
  refine Vc.seq ?_
  refine Vc.region hG rfl ?_ ?_
  · trivial
  refine Vc.seq ?_
  refine Vc.seq ?_
  refine Vc.regionD mixed hG rfl (by kernel_rfl) ?_ ?_
  · exact ⟨trivial, fun h => nIdx (psN h) 4 (by decide)⟩
  refine Vc.cond rfl (fun h0 => ?_) (fun h0 => ?_)
  · skip
    have g0 : psBad a0 = true := h0
    refine Vc.seq ?_
    refine Vc.region hG rfl ?_ ?_
    · trivial
    refine Vc.ret ?_
    have e := ps0 g0
    refine ⟨?_, ?_, trivial⟩
    · exact (congrArg Prod.fst e).symm
    · exact (congrArg Prod.snd e).symm
  · skip
    have g0 : psBad a0 = false := h0
    refine Vc.skip ?_
    refine Vc.seq ?_
    refine Vc.regionD mixed hG rfl (by kernel_rfl) ?_ ?_
    · exact ⟨nIdx (psN (orF g0).1) 1 (by decide), nIdx (psN (orF g0).1) 2 (by decide), nIdx (psN (orF g0).1) 3 (by decide), nIdx (psN (orF g0).1) 4 (by decide)⟩
    refine Vc.ret ?_
    have e := ps1 g0
    refine ⟨?_, ?_, trivial⟩
    · exact (congrArg Prod.fst e).symm
    · exact (congrArg Prod.snd e).symm
noncomputable def F189 : Fun := ⟨[.pair (.int .i64) Y9], [.pure Y32, .pure (.bool)], fun _ => True, fun x => ((pieceStampF x.1).1, (pieceStampF x.1).2, ())⟩
set_option maxRecDepth 100000 in
/-- loop.example.g00597.spec.PieceStamp -/
theorem F189_ok : Meets Tryz.prog 189 F189 := by
  refine meets_of_vc (C := mkC 27 [2, 3] [0,1,2,3,6] [⟨160, _, F160_ok⟩]) (mkC_ok _ _ _ _) (fnOf_ok _) Tryz.func189 rfl rfl rfl (by decide) rfl ?_
  rintro ⟨a0, _⟩ hwf hpre ⟨P, C, B, X, w0, M0, pv⟩ hG rfl rfl
  show Vc _ _ [(0, ⟨0, 0, .c Z22 a0⟩)] _
  refine Vc.seq ?_
  refine Vc.region hG rfl ?_ ?_
  · trivial
  refine Vc.seq ?_
  refine Vc.seq ?_
  refine Vc.region hG rfl ?_ ?_
  · trivial
  refine Vc.cond rfl (fun h0 => ?_) (fun h0 => ?_)
  · skip
    have g0 : pstBad a0 = true := h0
    refine Vc.seq ?_
    refine Vc.region hG rfl ?_ ?_
    · trivial
    refine Vc.ret ?_
    have e := pst0 g0
    refine ⟨?_, ?_, trivial⟩
    · exact (congrArg Prod.fst e).symm
    · exact (congrArg Prod.snd e).symm
  · skip
    have g0 : pstBad a0 = false := h0
    refine Vc.skip ?_
    refine Vc.seq ?_
    refine Vc.regionD mixed hG rfl (by kernel_rfl) ?_ ?_
    · exact ⟨nIdx (pstN g0) 1 (by decide), nIdx (pstN g0) 2 (by decide), nIdx (pstN g0) 3 (by decide), nIdx (pstN g0) 4 (by decide)⟩
    refine Vc.ret ?_
    have e := pst1 g0
    refine ⟨?_, ?_, trivial⟩
    · exact (congrArg Prod.fst e).symm
    · exact (congrArg Prod.snd e).symm
noncomputable def F190 : Fun := ⟨[.pair (.int .i64) Y9], [.pure Y47, .pure (.bool)], fun _ => True, fun x => ((pieceSignF x.1).1, (pieceSignF x.1).2, ())⟩
set_option maxRecDepth 100000 in
/-- loop.example.g00597.spec.PieceSign -/
theorem F190_ok : Meets Tryz.prog 190 F190 := by
  refine meets_of_vc (C := mkC 52 [2, 3] [0,1,2,3,15] [⟨160, _, F160_ok⟩]) (mkC_ok _ _ _ _) (fnOf_ok _) Tryz.func190 rfl rfl rfl (by decide) rfl ?_
  rintro ⟨a0, _⟩ hwf hpre ⟨P, C, B, X, w0, M0, pv⟩ hG rfl rfl
  show Vc _ _ [(0, ⟨0, 0, .c Z22 a0⟩)] _
  refine Vc.seq ?_
  refine Vc.region hG rfl ?_ ?_
  · trivial
  refine Vc.seq ?_
  refine Vc.seq ?_
  refine Vc.regionD mixed hG rfl (by kernel_rfl) ?_ ?_
  · exact ⟨trivial, fun h => nIdx (psgN h) 1 (by decide)⟩
  refine Vc.cond rfl (fun h0 => ?_) (fun h0 => ?_)
  · skip
    have g0 : psgBad a0 = true := h0
    refine Vc.seq ?_
    refine Vc.region hG rfl ?_ ?_
    · trivial
    refine Vc.ret ?_
    have e := psg0 g0
    refine ⟨?_, ?_, trivial⟩
    · exact (congrArg Prod.fst e).symm
    · exact (congrArg Prod.snd e).symm
  · skip
    have g0 : psgBad a0 = false := h0
    refine Vc.skip ?_
    refine Vc.seq ?_
    refine Vc.regionD mixed hG rfl (by kernel_rfl) ?_ ?_
    · exact ⟨nIdx (psgN (orF g0).1) 1 (by decide), nIdx (psgN (orF g0).1) 2 (by decide), nIdx (psgN (orF g0).1) 3 (by decide), nIdx (psgN (orF g0).1) 4 (by decide), nIdx (psgN (orF g0).1) 5 (by decide), nIdx (psgN (orF g0).1) 6 (by decide), nIdx (psgN (orF g0).1) 7 (by decide), nIdx (psgN (orF g0).1) 8 (by decide)⟩
    refine Vc.ret ?_
    have e := psg1 g0
    refine ⟨?_, ?_, trivial⟩
    · exact (congrArg Prod.fst e).symm
    · exact (congrArg Prod.snd e).symm
noncomputable def F191 : Fun := ⟨[.pair (.int .i64) Y9], [.pure Y38, .pure (.bool)], fun _ => True, fun x => ((pieceMandF x.1).1, (pieceMandF x.1).2, ())⟩
set_option maxRecDepth 100000 in
/-- loop.example.g00597.spec.PieceMandate -/
theorem F191_ok : Meets Tryz.prog 191 F191 := by
  refine meets_of_vc (C := mkC 40 [2, 3] [0,1,2,3,15] [⟨160, _, F160_ok⟩]) (mkC_ok _ _ _ _) (fnOf_ok _) Tryz.func191 rfl rfl rfl (by decide) rfl ?_
  rintro ⟨a0, _⟩ hwf hpre ⟨P, C, B, X, w0, M0, pv⟩ hG rfl rfl
  show Vc _ _ [(0, ⟨0, 0, .c Z22 a0⟩)] _
  refine Vc.seq ?_
  refine Vc.region hG rfl ?_ ?_
  · trivial
  refine Vc.seq ?_
  refine Vc.seq ?_
  refine Vc.regionD mixed hG rfl (by kernel_rfl) ?_ ?_
  · exact ⟨trivial, fun h => nIdx (pmN h) 5 (by decide)⟩
  refine Vc.cond rfl (fun h0 => ?_) (fun h0 => ?_)
  · skip
    have g0 : pmBad a0 = true := h0
    refine Vc.seq ?_
    refine Vc.region hG rfl ?_ ?_
    · trivial
    refine Vc.ret ?_
    have e := pm0 g0
    refine ⟨?_, ?_, trivial⟩
    · exact (congrArg Prod.fst e).symm
    · exact (congrArg Prod.snd e).symm
  · skip
    have g0 : pmBad a0 = false := h0
    refine Vc.skip ?_
    refine Vc.seq ?_
    refine Vc.regionD mixed hG rfl (by kernel_rfl) ?_ ?_
    · exact ⟨nIdx (pmN (orF g0).1) 1 (by decide), nIdx (pmN (orF g0).1) 2 (by decide), nIdx (pmN (orF g0).1) 3 (by decide), nIdx (pmN (orF g0).1) 4 (by decide), nIdx (pmN (orF g0).1) 5 (by decide)⟩
    refine Vc.ret ?_
    have e := pm1 g0
    refine ⟨?_, ?_, trivial⟩
    · exact (congrArg Prod.fst e).symm
    · exact (congrArg Prod.snd e).symm
noncomputable def F150 : Fun := ⟨[.pair (.int .i64) Y9], [.pure (.bool)], fun _ => True, fun x => (shapeF x.1, ())⟩
set_option maxRecDepth 100000 in
/-- loop.example.g00597.spec.l18Shape -/
theorem F150_ok : Meets Tryz.prog 150 F150 := by
  refine meets_of_vc (C := mkC 51 [2] [0,1,2,4,6,8,10,12] [⟨120, _, F120_ok⟩, ⟨124, _, F124_ok⟩, ⟨189, _, F189_ok⟩, ⟨190, _, F190_ok⟩, ⟨191, _, F191_ok⟩]) (mkC_ok _ _ _ _) (fnOf_ok _) Tryz.func150 rfl rfl rfl (by decide) rfl ?_
  rintro ⟨a0, _⟩ hwf hpre ⟨P, C, B, X, w0, M0, pv⟩ hG rfl rfl
  show Vc _ _ [(0, ⟨0, 0, .c Z22 a0⟩)] _
  refine Vc.seq ?_
  refine Vc.region hG rfl ?_ ?_
  · trivial
  refine Vc.seq ?_
  refine Vc.region hG rfl ?_ ?_
  · trivial
  refine Vc.seq ?_
  refine Vc.region hG rfl ?_ ?_
  · trivial
  refine Vc.seq ?_
  refine Vc.region hG rfl ?_ ?_
  · trivial
  refine Vc.seq ?_
  refine Vc.region hG rfl ?_ ?_
  · trivial
  refine Vc.seq ?_
  refine Vc.region hG rfl ?_ ?_
  · trivial
  refine Vc.seq ?_
  refine Vc.region hG rfl ?_ ?_
  · trivial
  refine Vc.ret ?_
  refine ⟨?_, trivial⟩
  all_goals exact rfl
noncomputable def F224 : Fun := ⟨[.int .i64, .slice (.int .i64)], [.pure (.int .i64)], fun x => (fun (_ : Int) (l : List Int) => l.length ≤ 1000000001) x.1 x.2.1, fun x => (keyedF x.1 x.2.1, ())⟩
set_option maxRecDepth 100000 in
/-- loop.example.g00597.spec.KeyedHash -/
theorem F224_ok : Meets Tryz.prog 224 F224 := by
  refine meets_of_vc (C := mkC 13 [4] [0,1,4] [⟨199, _, F199_ok⟩]) (mkC_ok _ _ _ _) (fnOf_ok _) Tryz.func224 rfl rfl rfl (by decide) rfl ?_
  rintro ⟨(a0 : Int), a1, _⟩ hwf hpre ⟨P, C, B, X, w0, M0, pv⟩ hG rfl rfl
  show Vc _ _ [(0, ⟨0, 0, .c (.pure (.int .i64)) a0⟩), (1, ⟨0, 0, .c Z2 a1⟩)] _
  have hp : List.length a1 ≤ 1000000001 := hpre
  refine Vc.seq ?_
  refine Vc.region hG rfl ?_ ?_
  · trivial
  refine Vc.seq ?_
  refine Vc.region hG rfl ?_ ?_
  · refine ⟨?_, ?_, trivial⟩
    · show 1 + List.length a1 ≤ maxApp
      unfold maxApp; omega
    · show (List.length a1 + 1) + 1 ≤ maxApp
      unfold maxApp; omega
  refine Vc.ret ?_
  refine ⟨?_, trivial⟩
  all_goals exact rfl
noncomputable def F192 : Fun := ⟨[.pair (.int .i64) Y24, .slice (.int .i64)], [.pure (.int .i64)], fun x => (fun (_ : Key) (l : List Int) => smallL l) x.1 x.2.1, fun x => (markWithF x.1 x.2.1, ())⟩
set_option maxRecDepth 100000 in
/-- loop.example.g00597.spec.MarkWith -/
theorem F192_ok : Meets Tryz.prog 192 F192 := by
  refine meets_of_vc (C := mkC 13 [4] [0,1,2,4] [⟨224, _, F224_ok⟩]) (mkC_ok _ _ _ _) (fnOf_ok _) Tryz.func192 rfl rfl rfl (by decide) rfl ?_
  rintro ⟨a0, a1, _⟩ hwf hpre ⟨P, C, B, X, w0, M0, pv⟩ hG rfl rfl
  show Vc _ _ [(0, ⟨0, 0, .c Z33 a0⟩), (1, ⟨0, 0, .c Z2 a1⟩)] _
  have hp : List.length a1 ≤ 1000000000 := hpre
  refine Vc.seq ?_
  refine Vc.region hG rfl ?_ ?_
  · trivial
  refine Vc.seq ?_
  refine Vc.regionD mixed hG rfl (by kernel_rfl) ?_ ?_
  · refine ⟨?_, ?_⟩
    · show 1 + List.length a1 ≤ maxApp
      unfold maxApp; omega
    · show List.length a1 + 1 ≤ 1000000001
      omega
  refine Vc.ret ?_
  refine ⟨?_, trivial⟩
  all_goals exact rfl
noncomputable def F151 : Fun := ⟨[.slice Y32, .int .i64, .slice (.int .i64), .int .i64], [.pure (.bool)], fun x => (fun (_ : List Key) (_ : Int) (l : List Int) (_ : Int) => smallL l) x.1 x.2.1 x.2.2.1 x.2.2.2.1, fun x => (checkMarkF x.1 x.2.1 x.2.2.1 x.2.2.2.1, ())⟩
set_option maxRecDepth 100000 in
/-- loop.example.g00597.spec.CheckMark -/
theorem F151_ok : Meets Tryz.prog 151 F151 := by
  refine meets_of_vc (C := mkC 25 [8] [0,1,2,3,8,9] [⟨100, _, F100_ok⟩, ⟨192, _, F192_ok⟩]) (mkC_ok _ _ _ _) (fnOf_ok _) Tryz.func151 rfl rfl rfl (by decide) rfl ?_
  rintro ⟨a0, (a1 : Int), a2, (a3 : Int), _⟩ hwf hpre ⟨P, C, B, X, w0, M0, pv⟩ hG rfl rfl
  show Vc _ _ [(0, ⟨0, 0, .c Z36 a0⟩), (1, ⟨0, 0, .c (.pure (.int .i64)) a1⟩), (2, ⟨0, 0, .c Z2 a2⟩), (3, ⟨0, 0, .c (.pure (.int .i64)) a3⟩)] _
  have hp : smallL a2 := hpre
  refine Vc.seq ?_
  refine Vc.region hG rfl ?_ ?_
  · trivial
  refine Vc.seq ?_
  refine Vc.region hG rfl ?_ ?_
  · trivial
  refine Vc.seq ?_
  refine Vc.region hG rfl ?_ ?_
  · exact ⟨fun h => findRange (show ¬ keyI a0 a1 < 0 from by have : keyI a0 a1 ≥ 0 := of_decide_eq_true h; omega), fun _ => hp⟩
  refine Vc.ret ?_
  refine ⟨?_, trivial⟩
  all_goals exact rfl
noncomputable def F101 : Fun := ⟨[.slice Y32, .pair (.int .i64) Y9], [.pure (.bool)], fun _ => True, fun x => (checkPieceF x.1 x.2.1, ())⟩
set_option maxRecDepth 100000 in
/-- loop.example.g00597.spec.CheckPiece -/
theorem F101_ok : Meets Tryz.prog 101 F101 := by
  refine meets_of_vc (C := mkC 17 [4] [0,1,3,4] [⟨150, _, F150_ok⟩, ⟨151, _, F151_ok⟩]) (mkC_ok _ _ _ _) (fnOf_ok _) Tryz.func101 rfl rfl rfl (by decide) rfl ?_
  rintro ⟨a0, a1, _⟩ hwf hpre ⟨P, C, B, X, w0, M0, pv⟩ hG rfl rfl
  show Vc _ _ [(0, ⟨0, 0, .c Z36 a0⟩), (1, ⟨0, 0, .c Z22 a1⟩)] _
  refine Vc.seq ?_
  refine Vc.region hG rfl ?_ ?_
  · trivial
  refine Vc.seq ?_
  refine Vc.region hG rfl ?_ ?_
  · exact ⟨trivial, fun h => shapeSmall h⟩
  refine Vc.ret ?_
  refine ⟨?_, trivial⟩
  all_goals exact rfl
noncomputable def F153 : Fun := ⟨[.slice (.int .i64), .slice (.int .i64)], [.pure (.bool)], fun _ => True, fun x => (eqC x.1 x.2.1, ())⟩
set_option maxRecDepth 100000 in
/-- loop.example.g00597.spec.EqualInts -/
theorem F153_ok : Meets Tryz.prog 153 F153 := by
  refine meets_of_vc (C := mkC 26 [4] [0,1,4,5,10,14,25] []) (mkC_ok _ _ _ _) (fnOf_ok _) Tryz.func153 rfl rfl rfl (by decide) rfl ?_
  rintro ⟨a0, a1, _⟩ hwf hpre ⟨P, C, B, X, w0, M0, pv⟩ hG rfl rfl
  show Vc _ _ [(0, ⟨0, 0, .c Z2 a0⟩), (1, ⟨0, 0, .c Z2 a1⟩)] _
  have hb0 : List.length a0 ≤ bigLen := hwf.1.1
  refine Vc.seq ?_
  refine Vc.region hG rfl ?_ ?_
  · trivial
  refine Vc.seq ?_
  refine Vc.seq ?_
  refine Vc.region hG rfl ?_ ?_
  · trivial
  refine Vc.cond rfl (fun h0 => ?_) (fun h0 => ?_)
  · skip
    refine Vc.seq ?_
    refine Vc.region hG rfl ?_ ?_
    · trivial
    refine Vc.ret ?_
    refine ⟨?_, trivial⟩
    refine eqC_no (fun e => ?_)
    have e : a0 = a1 := e
    have g : ((List.length a0 : Int) != (List.length a1 : Int)) = true := h0
    subst e
    exact bself g
  · skip
    have g0 : ((List.length a0 : Int) != (List.length a1 : Int)) = false := h0
    have f0_0 : List.length a0 = List.length a1 := (lenEq g0)
    refine Vc.skip ?_
    refine Vc.seq ?_
    refine Vc.seq ?_
    refine Vc.region hG rfl ?_ ?_
    · trivial
    refine Vc.block ?_
    -- slots [5]; frame [0, 1, 10]
    refine Vc.loopF [(5, false, .pure (.int .i64))] [0, 1, 10] (fun v => eqInv a0 a1 v.1) (fun v => ((List.length a0 : Int) - v.1).toNat) rfl ?_ ?_
    · exact eqStart f0_0
    rintro ⟨(i0 : Int), _⟩ hI0
    have hI0 : eqInv a0 a1 i0 := hI0
    refine Vc.seq ?_
    refine Vc.seq ?_
    refine Vc.region hG rfl ?_ ?_
    · trivial
    refine Vc.cond rfl (fun h1 => ?_) (fun h1 => ?_)
    · skip
      have hl0 : i0 < (List.length a0 : Int) := of_decide_eq_true h1
      refine Vc.skip ?_
      refine Vc.seq ?_
      refine Vc.block ?_
      refine Vc.seq ?_
      refine Vc.regionD mixed hG rfl (by kernel_rfl) ?_ ?_
      · exact ⟨(eqRange hI0 hl0).1, (eqRange hI0 hl0).2⟩
      refine Vc.cond rfl (fun h2 => ?_) (fun h2 => ?_)
      · skip
        refine Vc.seq ?_
        refine Vc.region hG rfl ?_ ?_
        · trivial
        refine Vc.ret ?_
        refine ⟨?_, trivial⟩
        refine eqC_no (fun e => ?_)
        have e : a0 = a1 := e
        have g : ((List.getD a0 i0.toNat (dflt (.int .i64))) != (List.getD a1 i0.toNat (dflt (.int .i64)))) = true := h2
        subst e
        exact bself g
      · skip
        have g2 : ((List.getD a0 i0.toNat (dflt (.int .i64))) != (List.getD a1 i0.toNat (dflt (.int .i64)))) = false := h2
        have f2_0 : (List.getD a0 i0.toNat (dflt (.int .i64))) = (List.getD a1 i0.toNat (dflt (.int .i64))) := (bneI g2)
        have s0 : (List.getD a0 i0.toNat (dflt (.int .i64))) = (List.getD a1 i0.toNat (dflt (.int .i64))) := f2_0
        refine Vc.skip ?_
        refine Vc.region hG rfl ?_ ?_
        · trivial
        refine ⟨rfl, ?_⟩
        exact ⟨eqStep (d := dflt (.int .i64)) hI0 hl0 hb0 s0, (upStep hI0.1 hl0 hb0).2.2⟩
    · skip
      have hl0 : ¬ i0 < (List.length a0 : Int) := of_decide_eq_false h1
      have e0 : a0 = a1 := eqEnd hI0 hl0
      refine Vc.exit ?_
      refine Vc.seq ?_
      refine Vc.region hG rfl ?_ ?_
      · trivial
      refine Vc.ret ?_
      refine ⟨?_, trivial⟩
      exact eqC_yes e0
noncomputable def F104 : Fun := ⟨[.pair (.int .i64) Y9, .pair (.int .i64) Y9], [.pure (.bool)], fun _ => True, fun x => (eqC x.1 x.2.1, ())⟩
set_option maxRecDepth 100000 in
/-- loop.example.g00597.spec.EqualPieces -/
theorem F104_ok : Meets Tryz.prog 104 F104 := by
  refine meets_of_vc (C := mkC 24 [4] [0,1,2,3,4] [⟨153, _, F153_ok⟩]) (mkC_ok _ _ _ _) (fnOf_ok _) Tryz.func104 rfl rfl rfl (by decide) rfl ?_
  rintro ⟨a0, a1, _⟩ hwf hpre ⟨P, C, B, X, w0, M0, pv⟩ hG rfl rfl
  show Vc _ _ [(0, ⟨0, 0, .c Z22 a0⟩), (1, ⟨0, 0, .c Z22 a1⟩)] _
  refine Vc.seq ?_
  refine Vc.region hG rfl ?_ ?_
  · trivial
  refine Vc.seq ?_
  refine Vc.region hG rfl ?_ ?_
  · repeat' (first | exact trivial | refine And.intro ?_ ?_ | intro _)
  refine Vc.ret ?_
  refine ⟨?_, trivial⟩
  refine eqC_by (fun e => ?_) (fun e => ?_)
  · have e : (pick2 (pick2 (a0.1 == a1.1) (a0.2.2 == a1.2.2) false) (eqC a0.2.1 a1.2.1) false) = true := e
    have r_0 : a0.1 = a1.1 := (beqI2 (andT (andT e).1).1)
    have r_1 : a0.2.2 = a1.2.2 := (beqI2 (andT (andT e).1).2)
    have r_2 : a0.2.1 = a1.2.1 := (eqC_iff.1 (andT e).2)
    exact (Prod.ext r_0 (Prod.ext r_2 r_1))
  · have e : a0 = a1 := e
    subst e
    exact (yesAnd (yesAnd beqSelf beqSelf) (eqC_self _))
noncomputable def F86 : Fun := ⟨[.pair Y23 Y55, .pair (.int .i64) Y9], [.pure (.int .i64)], fun _ => True, fun x => ((fun a0 a1 => findI (fun x => eqC x a1) a0.1) x.1 x.2.1, ())⟩
set_option maxRecDepth 100000 in
/-- loop.example.g00597.spec.FindPiece -/
theorem F86_ok : Meets Tryz.prog 86 F86 := by
  refine meets_of_vc (C := mkC 21 [4] [0,1,2,3,4,5,10,19] [⟨104, _, F104_ok⟩]) (mkC_ok _ _ _ _) (fnOf_ok _) Tryz.func86 rfl rfl rfl (by decide) rfl ?_
  rintro ⟨a0, a1, _⟩ hwf hpre ⟨P, C, B, X, w0, M0, pv⟩ hG rfl rfl
  show Vc _ _ [(0, ⟨0, 0, .c Z61 a0⟩), (1, ⟨0, 0, .c Z22 a1⟩)] _
  have hb : List.length a0.1 ≤ bigLen := hwf.1.1.1
  refine Vc.seq ?_
  refine Vc.region hG rfl ?_ ?_
  · trivial
  refine Vc.seq ?_
  refine Vc.seq ?_
  refine Vc.region hG rfl ?_ ?_
  · trivial
  refine Vc.block ?_
  -- slots [5]; frame [0, 1, 2, 3]
  refine Vc.loopF [(5, false, .pure (.int .i64))] [0, 1, 2, 3] (fun v => fInv (fun x => eqC x a1) a0.1 v.1) (fun v => ((List.length a0.1 : Int) - v.1).toNat) rfl ?_ ?_
  · exact fStart
  rintro ⟨(i : Int), _⟩ hI
  have hI : fInv (fun x => eqC x a1) a0.1 i := hI
  refine Vc.seq ?_
  refine Vc.seq ?_
  refine Vc.region hG rfl ?_ ?_
  · trivial
  refine Vc.cond rfl (fun h0 => ?_) (fun h0 => ?_)
  · skip
    have hl : i < (List.length a0.1 : Int) := of_decide_eq_true h0
    refine Vc.skip ?_
    refine Vc.seq ?_
    refine Vc.block ?_
    refine Vc.seq ?_
    refine Vc.regionD mixed hG rfl (by kernel_rfl) ?_ ?_
    · exact ⟨fRange hI hl, trivial⟩
    refine Vc.cond rfl (fun h1 => ?_) (fun h1 => ?_)
    · skip
      have g1 : (fun x => eqC x a1) (List.getD a0.1 i.toNat (dflt Y19)) = true := h1
      refine Vc.seq ?_
      refine Vc.region hG rfl ?_ ?_
      · trivial
      refine Vc.ret ?_
      refine ⟨?_, trivial⟩
      exact fHit hI hl g1
    · skip
      have g1 : (fun x => eqC x a1) (List.getD a0.1 i.toNat (dflt Y19)) = false := h1
      refine Vc.skip ?_
      refine Vc.region hG rfl ?_ ?_
      · trivial
      refine ⟨rfl, ?_⟩
      exact fStep hI hl hb g1
  · skip
    have hl : ¬ i < (List.length a0.1 : Int) := of_decide_eq_false h0
    refine Vc.exit ?_
    refine Vc.seq ?_
    refine Vc.region hG rfl ?_ ?_
    · trivial
    refine Vc.ret ?_
    refine ⟨?_, trivial⟩
    exact fEnd hI hl
noncomputable def F200 : Fun := ⟨[.slice Y15, .int .i64], [.pure (.int .i64)], fun _ => True, fun x => ((fun a0 a1 => findI (fun x => x.1 == a1) a0) x.1 x.2.1, ())⟩
set_option maxRecDepth 100000 in
/-- loop.example.g00597.spec.FindAuthority -/
theorem F200_ok : Meets Tryz.prog 200 F200 := by
  refine meets_of_vc (C := mkC 20 [4] [0,1,4,5,9,18] []) (mkC_ok _ _ _ _) (fnOf_ok _) Tryz.func200 rfl rfl rfl (by decide) rfl ?_
  rintro ⟨a0, (a1 : Int), _⟩ hwf hpre ⟨P, C, B, X, w0, M0, pv⟩ hG rfl rfl
  show Vc _ _ [(0, ⟨0, 0, .c Z21 a0⟩), (1, ⟨0, 0, .c (.pure (.int .i64)) a1⟩)] _
  have hb : List.length a0 ≤ bigLen := hwf.1.1
  refine Vc.seq ?_
  refine Vc.region hG rfl ?_ ?_
  · trivial
  refine Vc.seq ?_
  refine Vc.seq ?_
  refine Vc.region hG rfl ?_ ?_
  · trivial
  refine Vc.block ?_
  -- slots [5]; frame [0, 1]
  refine Vc.loopF [(5, false, .pure (.int .i64))] [0, 1] (fun v => fInv (fun x => x.1 == a1) a0 v.1) (fun v => ((List.length a0 : Int) - v.1).toNat) rfl ?_ ?_
  · exact fStart
  rintro ⟨(i : Int), _⟩ hI
  have hI : fInv (fun x => x.1 == a1) a0 i := hI
  refine Vc.seq ?_
  refine Vc.seq ?_
  refine Vc.region hG rfl ?_ ?_
  · trivial
  refine Vc.cond rfl (fun h0 => ?_) (fun h0 => ?_)
  · skip
    have hl : i < (List.length a0 : Int) := of_decide_eq_true h0
    refine Vc.skip ?_
    refine Vc.seq ?_
    refine Vc.block ?_
    refine Vc.seq ?_
    refine Vc.region hG rfl ?_ ?_
    · exact fRange hI hl
    refine Vc.cond rfl (fun h1 => ?_) (fun h1 => ?_)
    · skip
      have g1 : (fun x => x.1 == a1) (List.getD a0 i.toNat (dflt Y15)) = true := h1
      refine Vc.seq ?_
      refine Vc.region hG rfl ?_ ?_
      · trivial
      refine Vc.ret ?_
      refine ⟨?_, trivial⟩
      exact fHit hI hl g1
    · skip
      have g1 : (fun x => x.1 == a1) (List.getD a0 i.toNat (dflt Y15)) = false := h1
      refine Vc.skip ?_
      refine Vc.region hG rfl ?_ ?_
      · trivial
      refine ⟨rfl, ?_⟩
      exact fStep hI hl hb g1
  · skip
    have hl : ¬ i < (List.length a0 : Int) := of_decide_eq_false h0
    refine Vc.exit ?_
    refine Vc.seq ?_
    refine Vc.region hG rfl ?_ ?_
    · trivial
    refine Vc.ret ?_
    refine ⟨?_, trivial⟩
    exact fEnd hI hl
noncomputable def F201 : Fun := ⟨[.int .i64], [.pure (.bool)], fun _ => True, fun x => (isTimeF x.1, ())⟩
set_option maxRecDepth 100000 in
/-- loop.example.g00597.spec.l4Time -/
theorem F201_ok : Meets Tryz.prog 201 F201 := by
  refine meets_of_vc (C := mkC 5 [2] [0,2] [⟨196, _, F196_ok⟩]) (mkC_ok _ _ _ _) (fnOf_ok _) Tryz.func201 rfl rfl rfl (by decide) rfl ?_
  rintro ⟨(a0 : Int), _⟩ hwf hpre ⟨P, C, B, X, w0, M0, pv⟩ hG rfl rfl
  show Vc _ _ [(0, ⟨0, 0, .c (.pure (.int .i64)) a0⟩)] _
  refine Vc.seq ?_
  refine Vc.region hG rfl ?_ ?_
  · trivial
  refine Vc.seq ?_
  refine Vc.region hG rfl ?_ ?_
  · trivial
  refine Vc.ret ?_
  refine ⟨?_, trivial⟩
  all_goals exact rfl
noncomputable def F127 : Fun := ⟨[.int .i64, .int .i64], [.pure (.int .i64)], fun _ => True, fun x => ((fun (a b : Int) => max a b) x.1 x.2.1, ())⟩
set_option maxRecDepth 100000 in
/-- loop.example.g00597.spec.Max -/
theorem F127_ok : Meets Tryz.prog 127 F127 := by
  refine meets_of_vc (C := mkC 10 [4] [0,1,4,7] []) (mkC_ok _ _ _ _) (fnOf_ok _) Tryz.func127 rfl rfl rfl (by decide) rfl ?_
  rintro ⟨(a0 : Int), (a1 : Int), _⟩ hwf hpre ⟨P, C, B, X, w0, M0, pv⟩ hG rfl rfl
  show Vc _ _ [(0, ⟨0, 0, .c (.pure (.int .i64)) a0⟩), (1, ⟨0, 0, .c (.pure (.int .i64)) a1⟩)] _
  refine Vc.seq ?_
  refine Vc.region hG rfl ?_ ?_
  · trivial
  refine Vc.seq ?_
  refine Vc.seq ?_
  refine Vc.region hG rfl ?_ ?_
  · trivial
  refine Vc.cond rfl (fun h0 => ?_) (fun h0 => ?_)
  · skip
    refine Vc.seq ?_
    refine Vc.region hG rfl ?_ ?_
    · trivial
    refine Vc.ret ?_
    refine ⟨?_, trivial⟩
    exact maxT h0
  · skip
    refine Vc.skip ?_
    refine Vc.seq ?_
    refine Vc.region hG rfl ?_ ?_
    · trivial
    refine Vc.ret ?_
    refine ⟨?_, trivial⟩
    exact maxE h0
noncomputable def F40 : Fun := ⟨[.int .i64, .int .i64], [.pure (.int .i64)], fun _ => True, fun x => ((fun (a b : Int) => min a b) x.1 x.2.1, ())⟩
set_option maxRecDepth 100000 in
/-- loop.example.g00597.spec.Min -/
theorem F40_ok : Meets Tryz.prog 40 F40 := by
  refine meets_of_vc (C := mkC 10 [4] [0,1,4,7] []) (mkC_ok _ _ _ _) (fnOf_ok _) Tryz.func40 rfl rfl rfl (by decide) rfl ?_
  rintro ⟨(a0 : Int), (a1 : Int), _⟩ hwf hpre ⟨P, C, B, X, w0, M0, pv⟩ hG rfl rfl
  show Vc _ _ [(0, ⟨0, 0, .c (.pure (.int .i64)) a0⟩), (1, ⟨0, 0, .c (.pure (.int .i64)) a1⟩)] _
  refine Vc.seq ?_
  refine Vc.region hG rfl ?_ ?_
  · trivial
  refine Vc.seq ?_
  refine Vc.seq ?_
  refine Vc.region hG rfl ?_ ?_
  · trivial
  refine Vc.cond rfl (fun h0 => ?_) (fun h0 => ?_)
  · skip
    refine Vc.seq ?_
    refine Vc.region hG rfl ?_ ?_
    · trivial
    refine Vc.ret ?_
    refine ⟨?_, trivial⟩
    exact minT h0
  · skip
    refine Vc.skip ?_
    refine Vc.seq ?_
    refine Vc.region hG rfl ?_ ?_
    · trivial
    refine Vc.ret ?_
    refine ⟨?_, trivial⟩
    exact minE h0
noncomputable def F202 : Fun := ⟨[.int .i64, .int .i64], [.pure Y4, .pure (.bool)], fun _ => True, fun x => ((makeSpanF x.1 x.2.1).1, (makeSpanF x.1 x.2.1).2, ())⟩
set_option maxRecDepth 100000 in
/-- loop.example.g00597.spec.MakeSpan -/
theorem F202_ok : Meets Tryz.prog 202 F202 := by
  refine meets_of_vc (C := mkC 19 [4, 5] [0,1,4,5,6,16] [⟨127, _, F127_ok⟩, ⟨40, _, F40_ok⟩]) (mkC_ok _ _ _ _) (fnOf_ok _) Tryz.func202 rfl rfl rfl (by decide) rfl ?_
  rintro ⟨(a0 : Int), (a1 : Int), _⟩ hwf hpre ⟨P, C, B, X, w0, M0, pv⟩ hG rfl rfl
  show Vc _ _ [(0, ⟨0, 0, .c (.pure (.int .i64)) a0⟩), (1, ⟨0, 0, .c (.pure (.int .i64)) a1⟩)] _
  refine Vc.seq ?_
  refine Vc.region hG rfl ?_ ?_
  · trivial
  refine Vc.seq ?_
  refine Vc.region hG rfl ?_ ?_
  · trivial
  refine Vc.seq ?_
  refine Vc.seq ?_
  refine Vc.region hG rfl ?_ ?_
  · trivial
  refine Vc.cond rfl (fun h0 => ?_) (fun h0 => ?_)
  · skip
    have g0 : max 0 a0 > min 10000 a1 := of_decide_eq_true h0
    refine Vc.seq ?_
    refine Vc.region hG rfl ?_ ?_
    · trivial
    refine Vc.ret ?_
    have e := mkSp0 g0
    refine ⟨?_, ?_, trivial⟩
    · exact (congrArg Prod.fst e).symm
    · exact (congrArg Prod.snd e).symm
  · skip
    have g0 : ¬ max 0 a0 > min 10000 a1 := of_decide_eq_false h0
    refine Vc.skip ?_
    refine Vc.seq ?_
    refine Vc.region hG rfl ?_ ?_
    · trivial
    refine Vc.ret ?_
    have e := mkSp1 g0
    refine ⟨?_, ?_, trivial⟩
    · exact (congrArg Prod.fst e).symm
    · exact (congrArg Prod.snd e).symm
noncomputable def F165 : Fun := ⟨[.slice Y15, .pair (.int .i64) Y24], [.pure Y4, .pure (.bool)], fun _ => True, fun x => ((stampSpanF x.1 x.2.1).1, (stampSpanF x.1 x.2.1).2, ())⟩
set_option maxRecDepth 100000 in
/-- loop.example.g00597.spec.StampSpan -/
theorem F165_ok : Meets Tryz.prog 165 F165 := by
  refine meets_of_vc (C := mkC 47 [4, 5] [0,1,3,4,5,6,26] [⟨200, _, F200_ok⟩, ⟨201, _, F201_ok⟩, ⟨202, _, F202_ok⟩]) (mkC_ok _ _ _ _) (fnOf_ok _) Tryz.func165 rfl rfl rfl (by decide) rfl ?_
  rintro ⟨a0, a1, _⟩ hwf hpre ⟨P, C, B, X, w0, M0, pv⟩ hG rfl rfl
  show Vc _ _ [(0, ⟨0, 0, .c Z21 a0⟩), (1, ⟨0, 0, .c Z33 a1⟩)] _
  refine Vc.seq ?_
  refine Vc.region hG rfl ?_ ?_
  · trivial
  refine Vc.seq ?_
  refine Vc.region hG rfl ?_ ?_
  · trivial
  refine Vc.seq ?_
  refine Vc.seq ?_
  refine Vc.region hG rfl ?_ ?_
  · exact ⟨fun h => findRange (of_decide_eq_false h), fun _ => trivial⟩
  refine Vc.cond rfl (fun h0 => ?_) (fun h0 => ?_)
  · skip
    have g0 : ssBad a0 a1 = true := h0
    refine Vc.seq ?_
    refine Vc.region hG rfl ?_ ?_
    · trivial
    refine Vc.ret ?_
    have e := ss0 g0
    refine ⟨?_, ?_, trivial⟩
    · exact (congrArg Prod.fst e).symm
    · exact (congrArg Prod.snd e).symm
  · skip
    have g0 : ssBad a0 a1 = false := h0
    refine Vc.skip ?_
    refine Vc.seq ?_
    refine Vc.regionD mixed hG rfl (by kernel_rfl) ?_ ?_
    · exact ⟨ssIdx g0, ssIdx g0, trivial⟩
    refine Vc.ret ?_
    have e := ss1 g0
    refine ⟨?_, ?_, trivial⟩
    · exact (congrArg Prod.fst e).symm
    · exact (congrArg Prod.snd e).symm
noncomputable def F197 : Fun := ⟨[.pair (.int .i64) (.int .i64)], [.pure (.bool)], fun _ => True, fun x => (isSpanF x.1, ())⟩
set_option maxRecDepth 100000 in
/-- loop.example.g00597.spec.IsSpan -/
theorem F197_ok : Meets Tryz.prog 197 F197 := by
  refine meets_of_vc (C := mkC 18 [2] [0,1,2] [⟨201, _, F201_ok⟩]) (mkC_ok _ _ _ _) (fnOf_ok _) Tryz.func197 rfl rfl rfl (by decide) rfl ?_
  rintro ⟨a0, _⟩ hwf hpre ⟨P, C, B, X, w0, M0, pv⟩ hG rfl rfl
  show Vc _ _ [(0, ⟨0, 0, .c Z8 a0⟩)] _
  refine Vc.seq ?_
  refine Vc.region hG rfl ?_ ?_
  · trivial
  refine Vc.seq ?_
  refine Vc.region hG rfl ?_ ?_
  · repeat' (first | exact trivial | refine And.intro ?_ ?_ | intro _)
  refine Vc.ret ?_
  refine ⟨?_, trivial⟩
  all_goals exact rfl
noncomputable def F227 : Fun := ⟨[.slice Y4, .int .i64], [.pure (.int .i64)], fun _ => True, fun x => (countAtF x.1 x.2.1, ())⟩
set_option maxRecDepth 100000 in
/-- loop.example.g00597.spec.CountAt -/
theorem F227_ok : Meets Tryz.prog 227 F227 := by
  refine meets_of_vc (C := mkC 39 [4] [0,1,4,5,6,10,35] [⟨197, _, F197_ok⟩]) (mkC_ok _ _ _ _) (fnOf_ok _) Tryz.func227 rfl rfl rfl (by decide) rfl ?_
  rintro ⟨a0, (a1 : Int), _⟩ hwf hpre ⟨P, C, B, X, w0, M0, pv⟩ hG rfl rfl
  show Vc _ _ [(0, ⟨0, 0, .c Z14 a0⟩), (1, ⟨0, 0, .c (.pure (.int .i64)) a1⟩)] _
  have hb : List.length a0 ≤ bigLen := hwf.1.1
  refine Vc.seq ?_
  refine Vc.region hG rfl ?_ ?_
  · trivial
  refine Vc.seq ?_
  refine Vc.region hG rfl ?_ ?_
  · trivial
  refine Vc.seq ?_
  refine Vc.seq ?_
  refine Vc.region hG rfl ?_ ?_
  · trivial
  refine Vc.block ?_
  -- slots [5, 6]; frame [0, 1, 4]
  refine Vc.loopF [(5, false, .pure (.int .i64)), (6, false, .pure (.int .i64))] [0, 1, 4] (fun v => foInv (cntStep a1) 0 a0 v.1 v.2.1) (fun v => ((List.length a0 : Int) - v.2.1).toNat) rfl ?_ ?_
  · exact foStart
  rintro ⟨(acc : Int), (i : Int), _⟩ hI
  have hI : foInv (cntStep a1) 0 a0 acc i := hI
  refine Vc.seq ?_
  refine Vc.seq ?_
  refine Vc.region hG rfl ?_ ?_
  · trivial
  refine Vc.cond rfl (fun h0 => ?_) (fun h0 => ?_)
  · skip
    have hl : i < (List.length a0 : Int) := of_decide_eq_true h0
    refine Vc.skip ?_
    refine Vc.seq ?_
    refine Vc.block ?_
    refine Vc.seq ?_
    refine Vc.region hG rfl ?_ ?_
    · repeat' (first | exact trivial | exact foRange hI hl | refine And.intro ?_ ?_ | intro _)
    refine Vc.cond rfl (fun h1 => ?_) (fun h1 => ?_)
    · skip
      have g1 : inSp a1 (List.getD a0 i.toNat (dflt Y4)) = true := cntSpec.symm.trans h1
      have st := foStepE (d := dflt Y4) hI hl hb (cntY (n := acc) g1).symm
      refine Vc.region hG rfl ?_ ?_
      · trivial
      refine Vc.region hG rfl ?_ ?_
      · trivial
      refine ⟨rfl, ?_⟩
      exact st
    · skip
      have g1 : inSp a1 (List.getD a0 i.toNat (dflt Y4)) = false := cntSpec.symm.trans h1
      have st := foStepE (d := dflt Y4) hI hl hb (cntN (n := acc) g1).symm
      refine Vc.skip ?_
      refine Vc.region hG rfl ?_ ?_
      · trivial
      refine ⟨rfl, ?_⟩
      exact st
  · skip
    have hl : ¬ i < (List.length a0 : Int) := of_decide_eq_false h0
    refine Vc.exit ?_
    refine Vc.seq ?_
    refine Vc.region hG rfl ?_ ?_
    · trivial
    refine Vc.ret ?_
    refine ⟨?_, trivial⟩
    exact foEnd hI hl
noncomputable def F204 : Fun := ⟨[.slice Y4, .int .i64, .int .i64], [.pure (.bool)], fun _ => True, fun x => (supF x.1 x.2.1 x.2.2.1, ())⟩
set_option maxRecDepth 100000 in
/-- loop.example.g00597.spec.IsSupported -/
theorem F204_ok : Meets Tryz.prog 204 F204 := by
  refine meets_of_vc (C := mkC 22 [6] [0,1,2,6] [⟨196, _, F196_ok⟩, ⟨227, _, F227_ok⟩]) (mkC_ok _ _ _ _) (fnOf_ok _) Tryz.func204 rfl rfl rfl (by decide) rfl ?_
  rintro ⟨a0, (a1 : Int), (a2 : Int), _⟩ hwf hpre ⟨P, C, B, X, w0, M0, pv⟩ hG rfl rfl
  show Vc _ _ [(0, ⟨0, 0, .c Z14 a0⟩), (1, ⟨0, 0, .c (.pure (.int .i64)) a1⟩), (2, ⟨0, 0, .c (.pure (.int .i64)) a2⟩)] _
  refine Vc.seq ?_
  refine Vc.region hG rfl ?_ ?_
  · trivial
  refine Vc.seq ?_
  refine Vc.region hG rfl ?_ ?_
  · repeat' (first | exact trivial | refine And.intro ?_ ?_ | intro _)
  refine Vc.ret ?_
  refine ⟨?_, trivial⟩
  all_goals exact rfl
noncomputable def F169 : Fun := ⟨[.slice Y4, .int .i64], [.pure Y4, .pure (.bool)], fun _ => True, fun x => ((agreedF x.1 x.2.1).1, (agreedF x.1 x.2.1).2, ())⟩
set_option maxRecDepth 100000 in
/-- loop.example.g00597.spec.AgreedSpan -/
theorem F169_ok : Meets Tryz.prog 169 F169 := by
  refine meets_of_vc (C := mkC 83 [4, 5] [0,1,4,5,6,7,8,14,19,49,69,78] [⟨196, _, F196_ok⟩, ⟨197, _, F197_ok⟩, ⟨204, _, F204_ok⟩, ⟨127, _, F127_ok⟩]) (mkC_ok _ _ _ _) (fnOf_ok _) Tryz.func169 rfl rfl rfl (by decide) rfl ?_
  rintro ⟨a0, (a1 : Int), _⟩ hwf hpre ⟨P, C, B, X, w0, M0, pv⟩ hG rfl rfl
  show Vc _ _ [(0, ⟨0, 0, .c Z14 a0⟩), (1, ⟨0, 0, .c (.pure (.int .i64)) a1⟩)] _
  have hb : List.length a0 ≤ bigLen := hwf.1.1
  refine Vc.seq ?_
  refine Vc.region hG rfl ?_ ?_
  · trivial
  refine Vc.seq ?_
  refine Vc.seq ?_
  refine Vc.region hG rfl ?_ ?_
  · trivial
  refine Vc.cond rfl (fun h0 => ?_) (fun h0 => ?_)
  · skip
    have g0 := h0
    refine Vc.seq ?_
    refine Vc.region hG rfl ?_ ?_
    · trivial
    refine Vc.ret ?_
    have e := agBad g0
    refine ⟨?_, ?_, trivial⟩
    · exact (congrArg Prod.fst e).symm
    · exact (congrArg Prod.snd e).symm
  · skip
    have g0 := h0
    refine Vc.skip ?_
    refine Vc.seq ?_
    refine Vc.region hG rfl ?_ ?_
    · trivial
    refine Vc.seq ?_
    refine Vc.region hG rfl ?_ ?_
    · trivial
    refine Vc.seq ?_
    refine Vc.seq ?_
    refine Vc.region hG rfl ?_ ?_
    · trivial
    refine Vc.block ?_
    -- slots [6, 7, 8]; frame [0, 1, 4, 5, 14, 78]
    refine Vc.loopF [(6, false, .pure (.int .i64)), (7, false, .pure (.int .i64)), (8, false, .pure (.int .i64))] [0, 1, 4, 5, 14, 78] (fun v => aeInv a0 a1 v.1 v.2.1 v.2.2.1) (fun v => ((List.length a0 : Int) - v.2.2.1).toNat) rfl ?_ ?_
    · exact aeStart
    rintro ⟨(f : Int), (t : Int), (i : Int), _⟩ hI
    have hI : aeInv a0 a1 f t i := hI
    refine Vc.seq ?_
    refine Vc.seq ?_
    refine Vc.region hG rfl ?_ ?_
    · trivial
    refine Vc.cond rfl (fun h1 => ?_) (fun h1 => ?_)
    · skip
      have hl : i < (List.length a0 : Int) := of_decide_eq_true h1
      refine Vc.skip ?_
      refine Vc.seq ?_
      refine Vc.block ?_
      refine Vc.seq ?_
      refine Vc.seq ?_
      refine Vc.region hG rfl ?_ ?_
      · repeat' (first | exact trivial | exact upRange hI.1 hl | refine And.intro ?_ ?_ | intro _)
      refine Vc.cond rfl (fun h2 => ?_) (fun h2 => ?_)
      · skip
        have g2 : aeA a0 a1 f (List.getD a0 i.toNat (dflt Y4)) = true := h2
        have e2 : (List.getD a0 i.toNat (dflt Y4)).1 = (if aeA a0 a1 f (List.getD a0 i.toNat (dflt Y4)) = true then (List.getD a0 i.toNat (dflt Y4)).1 else f) := by rw [if_pos g2]
        refine Vc.region hG rfl ?_ ?_
        · exact upRange hI.1 hl
        refine Vc.seq ?_
        refine Vc.region hG rfl ?_ ?_
        · repeat' (first | exact trivial | exact upRange hI.1 hl | refine And.intro ?_ ?_ | intro _)
        refine Vc.cond rfl (fun h3 => ?_) (fun h3 => ?_)
        · skip
          have g3 : aeB a0 a1 (List.getD a0 i.toNat (dflt Y4)) = true := h3
          have e3 : max t (List.getD a0 i.toNat (dflt Y4)).2 = (if aeB a0 a1 (List.getD a0 i.toNat (dflt Y4)) = true then max t (List.getD a0 i.toNat (dflt Y4)).2 else t) := by rw [if_pos g3]
          refine Vc.region hG rfl ?_ ?_
          · exact ⟨upRange hI.1 hl, trivial⟩
          refine Vc.region hG rfl ?_ ?_
          · trivial
          refine ⟨rfl, ?_⟩
          exact aeStep (d := dflt Y4) hI hl hb e2 e3
        · skip
          have g3 : aeB a0 a1 (List.getD a0 i.toNat (dflt Y4)) = false := h3
          have e3 : t = (if aeB a0 a1 (List.getD a0 i.toNat (dflt Y4)) = true then max t (List.getD a0 i.toNat (dflt Y4)).2 else t) := by rw [if_neg (by rw [g3]; decide)]
          refine Vc.skip ?_
          refine Vc.region hG rfl ?_ ?_
          · trivial
          refine ⟨rfl, ?_⟩
          exact aeStep (d := dflt Y4) hI hl hb e2 e3
      · skip
        have g2 : aeA a0 a1 f (List.getD a0 i.toNat (dflt Y4)) = false := h2
        have e2 : f = (if aeA a0 a1 f (List.getD a0 i.toNat (dflt Y4)) = true then (List.getD a0 i.toNat (dflt Y4)).1 else f) := by rw [if_neg (by rw [g2]; decide)]
        refine Vc.skip ?_
        refine Vc.seq ?_
        refine Vc.region hG rfl ?_ ?_
        · repeat' (first | exact trivial | exact upRange hI.1 hl | refine And.intro ?_ ?_ | intro _)
        refine Vc.cond rfl (fun h4 => ?_) (fun h4 => ?_)
        · skip
          have g3 : aeB a0 a1 (List.getD a0 i.toNat (dflt Y4)) = true := h4
          have e3 : max t (List.getD a0 i.toNat (dflt Y4)).2 = (if aeB a0 a1 (List.getD a0 i.toNat (dflt Y4)) = true then max t (List.getD a0 i.toNat (dflt Y4)).2 else t) := by rw [if_pos g3]
          refine Vc.region hG rfl ?_ ?_
          · exact ⟨upRange hI.1 hl, trivial⟩
          refine Vc.region hG rfl ?_ ?_
          · trivial
          refine ⟨rfl, ?_⟩
          exact aeStep (d := dflt Y4) hI hl hb e2 e3
        · skip
          have g3 : aeB a0 a1 (List.getD a0 i.toNat (dflt Y4)) = false := h4
          have e3 : t = (if aeB a0 a1 (List.getD a0 i.toNat (dflt Y4)) = true then max t (List.getD a0 i.toNat (dflt Y4)).2 else t) := by rw [if_neg (by rw [g3]; decide)]
          refine Vc.skip ?_
          refine Vc.region hG rfl ?_ ?_
          · trivial
          refine ⟨rfl, ?_⟩
          exact aeStep (d := dflt Y4) hI hl hb e2 e3
    · skip
      have hl : ¬ i < (List.length a0 : Int) := of_decide_eq_false h1
      refine Vc.exit ?_
      refine Vc.seq ?_
      refine Vc.seq ?_
      refine Vc.region hG rfl ?_ ?_
      · trivial
      refine Vc.cond rfl (fun h5 => ?_) (fun h5 => ?_)
      · skip
        have g4 : f < 0 := of_decide_eq_true h5
        refine Vc.seq ?_
        refine Vc.region hG rfl ?_ ?_
        · trivial
        refine Vc.ret ?_
        have e := aeNone hb hI hl g4
        refine ⟨?_, ?_, trivial⟩
        · exact (congrArg Prod.fst e).symm
        · exact (congrArg Prod.snd e).symm
      · skip
        have g4 : ¬ f < 0 := of_decide_eq_false h5
        refine Vc.skip ?_
        refine Vc.seq ?_
        refine Vc.region hG rfl ?_ ?_
        · trivial
        refine Vc.ret ?_
        have e := aeSome hb hI hl g4
        refine ⟨?_, ?_, trivial⟩
        · exact (congrArg Prod.fst e).symm
        · exact (congrArg Prod.snd e).symm
noncomputable def F142 : Fun := ⟨[.slice Y15, .pair (.int .i64) Y49, .int .i64], [.pure Y4, .pure (.bool)], fun x => (fun (_ : List Authority) (a1 : Renewal) (_ : Int) => List.length a1.2.2.2.2 ≤ 1048576) x.1 x.2.1 x.2.2.1, fun x => (((fun a0 a1 a2 => rsF a0 a1.2.2.2.2 a2) x.1 x.2.1 x.2.2.1).1, ((fun a0 a1 a2 => rsF a0 a1.2.2.2.2 a2) x.1 x.2.1 x.2.2.1).2, ())⟩
set_option maxRecDepth 100000 in
/-- loop.example.g00597.spec.RenewalSpan -/
theorem F142_ok : Meets Tryz.prog 142 F142 := by
  refine meets_of_vc (C := mkC 42 [6, 7] [0,1,2,4,6,7,8,9,10,11,17,31] [⟨165, _, F165_ok⟩, ⟨169, _, F169_ok⟩]) (mkC_ok _ _ _ _) (fnOf_ok _) Tryz.func142 rfl rfl rfl (by decide) rfl ?_
  rintro ⟨a0, a1, (a2 : Int), _⟩ hwf hpre ⟨P, C, B, X, w0, M0, pv⟩ hG rfl rfl
  show Vc _ _ [(0, ⟨0, 0, .c Z21 a0⟩), (1, ⟨0, 0, .c Z53 a1⟩), (2, ⟨0, 0, .c (.pure (.int .i64)) a2⟩)] _
  have hs : List.length a1.2.2.2.2 ≤ 1048576 := hpre
  have hb : List.length a1.2.2.2.2 ≤ bigLen := by unfold bigLen; omega
  refine Vc.seq ?_
  refine Vc.region hG rfl ?_ ?_
  · trivial
  refine Vc.seq ?_
  refine Vc.region hG rfl ?_ ?_
  · trivial
  refine Vc.seq ?_
  refine Vc.seq ?_
  refine Vc.region hG rfl ?_ ?_
  · trivial
  refine Vc.block ?_
  -- slots [6, 8, 9]; frame [0, 1, 2, 4]
  refine Vc.loopF [(6, true, .pure Y4), (8, false, .own Z8), (9, false, .pure (.int .i64))] [0, 1, 2, 4] (fun v => rsInv a0 a1.2.2.2.2 v.2.1 v.2.2.1) (fun v => ((List.length a1.2.2.2.2 : Int) - v.2.2.1).toNat) rfl ?_ ?_
  · exact rsStart
  rintro ⟨r6, acc, (i : Int), _⟩ hI
  have hI : rsInv a0 a1.2.2.2.2 acc i := hI
  have hA : List.length acc ≤ 1048576 := Nat.le_trans (rsLen hI) hs
  refine Vc.seq ?_
  refine Vc.seq ?_
  refine Vc.region hG rfl ?_ ?_
  · trivial
  refine Vc.cond rfl (fun h0 => ?_) (fun h0 => ?_)
  · skip
    have hl : i < (List.length a1.2.2.2.2 : Int) := of_decide_eq_true h0
    refine Vc.skip ?_
    refine Vc.seq ?_
    refine Vc.block ?_
    refine Vc.seq ?_
    refine Vc.region hG rfl ?_ ?_
    · exact ⟨rsRange hI hl, trivial⟩
    refine Vc.seq ?_
    refine Vc.seq ?_
    refine Vc.region hG rfl ?_ ?_
    · trivial
    refine Vc.cond rfl (fun h1 => ?_) (fun h1 => ?_)
    · skip
      have g1 : ¬ rsP a0 (List.getD a1.2.2.2.2 i.toNat (dflt TStamp)) := fun q => nself q h1
      refine Vc.seq ?_
      refine Vc.region hG rfl ?_ ?_
      · trivial
      refine Vc.ret ?_
      have e := rsBad (d := dflt TStamp) (liars := a2) hI hl g1
      refine ⟨?_, ?_, trivial⟩
      · exact congrArg (fun (q : Span × Bool) => q.1) e
      · exact congrArg (fun (q : Span × Bool) => q.2) e
    · skip
      have g1 : rsP a0 (List.getD a1.2.2.2.2 i.toNat (dflt TStamp)) := notF h1
      refine Vc.skip ?_
      refine Vc.region hG rfl ?_ ?_
      · show List.length acc + 1 ≤ maxApp
        unfold maxApp; omega
      refine Vc.region hG rfl ?_ ?_
      · trivial
      refine ⟨rfl, ?_⟩
      exact rsStep (d := dflt TStamp) hI hl hb g1
  · skip
    have hl : ¬ i < (List.length a1.2.2.2.2 : Int) := of_decide_eq_false h0
    refine Vc.exit ?_
    refine Vc.seq ?_
    refine Vc.region hG rfl ?_ ?_
    · trivial
    refine Vc.ret ?_
    have e := rsEnd (liars := a2) hI hl
    refine ⟨?_, ?_, trivial⟩
    · exact congrArg (fun (q : Span × Bool) => q.1) e
    · exact congrArg (fun (q : Span × Bool) => q.2) e
noncomputable def F152 : Fun := ⟨[.slice Y24, .int .i64], [.pure (.int .i64)], fun _ => True, fun x => ((fun a0 a1 => findI (fun x => x.1 == a1) a0) x.1 x.2.1, ())⟩
set_option maxRecDepth 100000 in
/-- loop.example.g00597.spec.FindMethod -/
theorem F152_ok : Meets Tryz.prog 152 F152 := by
  refine meets_of_vc (C := mkC 20 [4] [0,1,4,5,9,18] []) (mkC_ok _ _ _ _) (fnOf_ok _) Tryz.func152 rfl rfl rfl (by decide) rfl ?_
  rintro ⟨a0, (a1 : Int), _⟩ hwf hpre ⟨P, C, B, X, w0, M0, pv⟩ hG rfl rfl
  show Vc _ _ [(0, ⟨0, 0, .c Z30 a0⟩), (1, ⟨0, 0, .c (.pure (.int .i64)) a1⟩)] _
  have hb : List.length a0 ≤ bigLen := hwf.1.1
  refine Vc.seq ?_
  refine Vc.region hG rfl ?_ ?_
  · trivial
  refine Vc.seq ?_
  refine Vc.seq ?_
  refine Vc.region hG rfl ?_ ?_
  · trivial
  refine Vc.block ?_
  -- slots [5]; frame [0, 1]
  refine Vc.loopF [(5, false, .pure (.int .i64))] [0, 1] (fun v => fInv (fun x => x.1 == a1) a0 v.1) (fun v => ((List.length a0 : Int) - v.1).toNat) rfl ?_ ?_
  · exact fStart
  rintro ⟨(i : Int), _⟩ hI
  have hI : fInv (fun x => x.1 == a1) a0 i := hI
  refine Vc.seq ?_
  refine Vc.seq ?_
  refine Vc.region hG rfl ?_ ?_
  · trivial
  refine Vc.cond rfl (fun h0 => ?_) (fun h0 => ?_)
  · skip
    have hl : i < (List.length a0 : Int) := of_decide_eq_true h0
    refine Vc.skip ?_
    refine Vc.seq ?_
    refine Vc.block ?_
    refine Vc.seq ?_
    refine Vc.region hG rfl ?_ ?_
    · exact fRange hI hl
    refine Vc.cond rfl (fun h1 => ?_) (fun h1 => ?_)
    · skip
      have g1 : (fun x => x.1 == a1) (List.getD a0 i.toNat (dflt Y24)) = true := h1
      refine Vc.seq ?_
      refine Vc.region hG rfl ?_ ?_
      · trivial
      refine Vc.ret ?_
      refine ⟨?_, trivial⟩
      exact fHit hI hl g1
    · skip
      have g1 : (fun x => x.1 == a1) (List.getD a0 i.toNat (dflt Y24)) = false := h1
      refine Vc.skip ?_
      refine Vc.region hG rfl ?_ ?_
      · trivial
      refine ⟨rfl, ?_⟩
      exact fStep hI hl hb g1
  · skip
    have hl : ¬ i < (List.length a0 : Int) := of_decide_eq_false h0
    refine Vc.exit ?_
    refine Vc.seq ?_
    refine Vc.region hG rfl ?_ ?_
    · trivial
    refine Vc.ret ?_
    refine ⟨?_, trivial⟩
    exact fEnd hI hl
noncomputable def F102 : Fun := ⟨[.slice Y24, .int .i64], [.pure (.int .i64)], fun _ => True, fun x => (breakF x.1 x.2.1, ())⟩
set_option maxRecDepth 100000 in
/-- loop.example.g00597.spec.BreakOf -/
theorem F102_ok : Meets Tryz.prog 102 F102 := by
  refine meets_of_vc (C := mkC 16 [4] [0,1,4,5,10] [⟨152, _, F152_ok⟩]) (mkC_ok _ _ _ _) (fnOf_ok _) Tryz.func102 rfl rfl rfl (by decide) rfl ?_
  rintro ⟨a0, (a1 : Int), _⟩ hwf hpre ⟨P, C, B, X, w0, M0, pv⟩ hG rfl rfl
  show Vc _ _ [(0, ⟨0, 0, .c Z30 a0⟩), (1, ⟨0, 0, .c (.pure (.int .i64)) a1⟩)] _
  refine Vc.seq ?_
  refine Vc.region hG rfl ?_ ?_
  · trivial
  refine Vc.seq ?_
  refine Vc.region hG rfl ?_ ?_
  · trivial
  refine Vc.seq ?_
  refine Vc.seq ?_
  refine Vc.region hG rfl ?_ ?_
  · trivial
  refine Vc.cond rfl (fun h0 => ?_) (fun h0 => ?_)
  · skip
    have g0 : methI a0 a1 < 0 := of_decide_eq_true h0
    refine Vc.seq ?_
    refine Vc.region hG rfl ?_ ?_
    · trivial
    refine Vc.ret ?_
    refine ⟨?_, trivial⟩
    exact brk0 g0
  · skip
    have g0 : ¬ methI a0 a1 < 0 := of_decide_eq_false h0
    refine Vc.skip ?_
    refine Vc.seq ?_
    refine Vc.region hG rfl ?_ ?_
    · exact findRange g0
    refine Vc.ret ?_
    refine ⟨?_, trivial⟩
    exact brk1 g0
noncomputable def F168 : Fun := ⟨[.slice Y15, .pair (.int .i64) Y24], [.pure (.int .i64)], fun _ => True, fun x => (stampKeyF x.1 x.2.1, ())⟩
set_option maxRecDepth 100000 in
/-- loop.example.g00597.spec.StampKey -/
theorem F168_ok : Meets Tryz.prog 168 F168 := by
  refine meets_of_vc (C := mkC 17 [4] [0,1,3,4,5,11] [⟨200, _, F200_ok⟩]) (mkC_ok _ _ _ _) (fnOf_ok _) Tryz.func168 rfl rfl rfl (by decide) rfl ?_
  rintro ⟨a0, a1, _⟩ hwf hpre ⟨P, C, B, X, w0, M0, pv⟩ hG rfl rfl
  show Vc _ _ [(0, ⟨0, 0, .c Z21 a0⟩), (1, ⟨0, 0, .c Z33 a1⟩)] _
  refine Vc.seq ?_
  refine Vc.region hG rfl ?_ ?_
  · trivial
  refine Vc.seq ?_
  refine Vc.region hG rfl ?_ ?_
  · trivial
  refine Vc.seq ?_
  refine Vc.seq ?_
  refine Vc.region hG rfl ?_ ?_
  · trivial
  refine Vc.cond rfl (fun h0 => ?_) (fun h0 => ?_)
  · skip
    have g0 : authI a0 a1.1 < 0 := of_decide_eq_true h0
    refine Vc.seq ?_
    refine Vc.region hG rfl ?_ ?_
    · trivial
    refine Vc.ret ?_
    refine ⟨?_, trivial⟩
    exact stampKey0 g0
  · skip
    have g0 : ¬ authI a0 a1.1 < 0 := of_decide_eq_false h0
    refine Vc.skip ?_
    refine Vc.seq ?_
    refine Vc.region hG rfl ?_ ?_
    · exact findRange g0
    refine Vc.ret ?_
    refine ⟨?_, trivial⟩
    exact stampKey1 g0
noncomputable def F231 : Fun := ⟨[.slice Y32, .slice Y15, .slice Y24, .pair (.int .i64) Y49], [.pure (.int .i64)], fun _ => True, fun x => (rbF x.1 x.2.1 x.2.2.1 x.2.2.2.1, ())⟩
set_option maxRecDepth 100000 in
/-- loop.example.g00597.spec.RenewalBreak -/
theorem F231_ok : Meets Tryz.prog 231 F231 := by
  refine meets_of_vc (C := mkC 44 [8] [0,1,2,3,7,8,9,10,11,20,33] [⟨102, _, F102_ok⟩, ⟨168, _, F168_ok⟩, ⟨100, _, F100_ok⟩, ⟨40, _, F40_ok⟩]) (mkC_ok _ _ _ _) (fnOf_ok _) Tryz.func231 rfl rfl rfl (by decide) rfl ?_
  rintro ⟨a0, a1, a2, a3, _⟩ hwf hpre ⟨P, C, B, X, w0, M0, pv⟩ hG rfl rfl
  show Vc _ _ [(0, ⟨0, 0, .c Z36 a0⟩), (1, ⟨0, 0, .c Z21 a1⟩), (2, ⟨0, 0, .c Z30 a2⟩), (3, ⟨0, 0, .c Z53 a3⟩)] _
  have hb : List.length a3.2.2.2.2 ≤ bigLen := hwf.2.2.2.1.2.2.2.2.1
  refine Vc.seq ?_
  refine Vc.region hG rfl ?_ ?_
  · trivial
  refine Vc.seq ?_
  refine Vc.region hG rfl ?_ ?_
  · trivial
  refine Vc.seq ?_
  refine Vc.seq ?_
  refine Vc.region hG rfl ?_ ?_
  · trivial
  refine Vc.block ?_
  -- slots [9, 10]; frame [0, 1, 2, 3, 7]
  refine Vc.loopF [(9, false, .pure (.int .i64)), (10, false, .pure (.int .i64))] [0, 1, 2, 3, 7] (fun v => efInv (rbBad a0 a1) (rbG a0 a1 a2) 0 (breakF a2 a3.2.1) a3.2.2.2.2 v.1 v.2.1) (fun v => ((List.length a3.2.2.2.2 : Int) - v.2.1).toNat) rfl ?_ ?_
  · exact efStart
  rintro ⟨(m : Int), (i : Int), _⟩ hI
  have hI : efInv (rbBad a0 a1) (rbG a0 a1 a2) 0 (breakF a2 a3.2.1) a3.2.2.2.2 m i := hI
  refine Vc.seq ?_
  refine Vc.seq ?_
  refine Vc.region hG rfl ?_ ?_
  · trivial
  refine Vc.cond rfl (fun h0 => ?_) (fun h0 => ?_)
  · skip
    have hl : i < (List.length a3.2.2.2.2 : Int) := of_decide_eq_true h0
    refine Vc.skip ?_
    refine Vc.seq ?_
    refine Vc.block ?_
    refine Vc.seq ?_
    refine Vc.region hG rfl ?_ ?_
    · exact ⟨efRange hI hl, trivial, trivial⟩
    refine Vc.seq ?_
    refine Vc.seq ?_
    refine Vc.region hG rfl ?_ ?_
    · trivial
    refine Vc.cond rfl (fun h1 => ?_) (fun h1 => ?_)
    · skip
      have g1 : rbBad a0 a1 (List.getD a3.2.2.2.2 i.toNat (dflt Y32)) = true := h1
      refine Vc.seq ?_
      refine Vc.region hG rfl ?_ ?_
      · trivial
      refine Vc.ret ?_
      refine ⟨?_, trivial⟩
      exact efStop (d := dflt Y32) hI hl g1
    · skip
      have g1 : rbBad a0 a1 (List.getD a3.2.2.2.2 i.toNat (dflt Y32)) = false := h1
      have n1 : ¬ keyI a0 (stampKeyF a1 (List.getD a3.2.2.2.2 i.toNat (dflt Y32))) < 0 := of_decide_eq_false h1
      refine Vc.skip ?_
      refine Vc.region hG rfl ?_ ?_
      · exact ⟨findRange n1, trivial, trivial⟩
      refine Vc.region hG rfl ?_ ?_
      · trivial
      refine ⟨rfl, ?_⟩
      exact efStep (d := dflt Y32) hI hl hb g1
  · skip
    have hl : ¬ i < (List.length a3.2.2.2.2 : Int) := of_decide_eq_false h0
    refine Vc.exit ?_
    refine Vc.seq ?_
    refine Vc.region hG rfl ?_ ?_
    · trivial
    refine Vc.ret ?_
    refine ⟨?_, trivial⟩
    exact efEnd hI hl
noncomputable def F214 : Fun := ⟨[.pair Y34 Y51, .pair Y23 Y55, .int .i64], [.pure (.bool)], fun x => (fun (_ : Frame) (s : Strand) (_ : Int) => Sm big20 (.slice TPiece) s.1 ∧ ∀ r ∈ s.2, Sm big20 TRen r) x.1 x.2.1 x.2.2.1, fun x => (linkF x.1 x.2.1 x.2.2.1, ())⟩
set_option maxRecDepth 100000 in
/-- loop.example.g00597.spec.LinkHolds -/
theorem F214_ok : Meets Tryz.prog 214 F214 := by
  refine meets_of_vc (C := mkC 60 [6] [0,1,2,3,4,6,7,8,9,16,34] [⟨196, _, F196_ok⟩, ⟨231, _, F231_ok⟩, ⟨142, _, F142_ok⟩]) (mkC_ok _ _ _ _) (fnOf_ok _) Tryz.func214 rfl rfl rfl (by decide) rfl ?_
  rintro ⟨a0, a1, (a2 : Int), _⟩ hwf hpre ⟨P, C, B, X, w0, M0, pv⟩ hG rfl rfl
  show Vc _ _ [(0, ⟨0, 0, .c Z63 a0⟩), (1, ⟨0, 0, .c Z61 a1⟩), (2, ⟨0, 0, .c (.pure (.int .i64)) a2⟩)] _
  have hP : Sm big20 (.slice TPiece) a1.1 := hpre.1
  have hR : ∀ r ∈ a1.2, Sm big20 TRen r := hpre.2
  have hb : List.length a1.2 ≤ bigLen := hwf.2.1.2.1
  have hSt : ∀ k : Int, inRange k (List.length a1.2) → List.length (chAt a1 k).2.2.2.2 ≤ 1048576 := fun k hk => (hR _ (getD_mem hk (dflt TRen))).2.2.2.2.1
  refine Vc.seq ?_
  refine Vc.region hG rfl ?_ ?_
  · trivial
  refine Vc.seq ?_
  refine Vc.seq ?_
  refine Vc.region hG rfl ?_ ?_
  · trivial
  refine Vc.cond rfl (fun h0 => ?_) (fun h0 => ?_)
  · skip
    have g0 := h0
    refine Vc.seq ?_
    refine Vc.region hG rfl ?_ ?_
    · trivial
    refine Vc.ret ?_
    refine ⟨?_, trivial⟩
    exact lk0 g0
  · skip
    have g0 := h0
    have k0 := laIdx g0 hb
    refine Vc.skip ?_
    refine Vc.seq ?_
    refine Vc.regionD mixed hG rfl (by kernel_rfl) ?_ ?_
    · exact ⟨k0, trivial⟩
    refine Vc.seq ?_
    refine Vc.seq ?_
    refine Vc.region hG rfl ?_ ?_
    · trivial
    refine Vc.cond rfl (fun h1 => ?_) (fun h1 => ?_)
    · skip
      have g1 := h1
      refine Vc.seq ?_
      refine Vc.region hG rfl ?_ ?_
      · trivial
      refine Vc.ret ?_
      refine ⟨?_, trivial⟩
      exact lk1 g0 g1
    · skip
      have g1 := h1
      have k1 := lkNext g0 g1 hb
      refine Vc.skip ?_
      refine Vc.seq ?_
      refine Vc.regionD mixed hG rfl (by kernel_rfl) ?_ ?_
      · exact ⟨k1, hSt _ k1⟩
      refine Vc.seq ?_
      refine Vc.region hG rfl ?_ ?_
      · trivial
      refine Vc.ret ?_
      refine ⟨?_, trivial⟩
      exact lk2 g0 g1
noncomputable def F203 : Fun := ⟨[.pair (.int .i64) Y24], [.own (.pure (.int .i64))], fun _ => True, fun x => (stampIntsF x.1, ())⟩
set_option maxRecDepth 100000 in
/-- loop.example.g00597.spec.StampInts -/
theorem F203_ok : Meets Tryz.prog 203 F203 := by
  refine meets_of_vc (C := mkC 12 [2] [0,1,2] []) (mkC_ok _ _ _ _) (fnOf_ok _) Tryz.func203 rfl rfl rfl (by decide) rfl ?_
  rintro ⟨a0, _⟩ hwf hpre ⟨P, C, B, X, w0, M0, pv⟩ hG rfl rfl
  show Vc _ _ [(0, ⟨0, 0, .c Z33 a0⟩)] _
  refine Vc.seq ?_
  refine Vc.region hG rfl ?_ ?_
  · trivial
  refine Vc.seq ?_
  refine Vc.region hG rfl ?_ ?_
  · trivial
  refine Vc.ret ?_
  refine ⟨?_, trivial⟩
  all_goals exact rfl
noncomputable def F234 : Fun := ⟨[.int .i64, .pair (.int .i64) Y49], [.pure (.int .i64)], fun x => (fun (_ : Int) (r : Renewal) => Sm big20 TRen r) x.1 x.2.1, fun x => (renDigF x.1 x.2.1, ())⟩
set_option maxRecDepth 100000 in
/-- loop.example.g00597.spec.RenewalDigest -/
theorem F234_ok : Meets Tryz.prog 234 F234 := by
  refine meets_of_vc (C := mkC 75 [4] [0,1,3,4,5,6,7,19,36,53] [⟨203, _, F203_ok⟩, ⟨164, _, F164_ok⟩]) (mkC_ok _ _ _ _) (fnOf_ok _) Tryz.func234 rfl rfl rfl (by decide) rfl ?_
  rintro ⟨(a0 : Int), a1, _⟩ hwf hpre ⟨P, C, B, X, w0, M0, pv⟩ hG rfl rfl
  show Vc _ _ [(0, ⟨0, 0, .c (.pure (.int .i64)) a0⟩), (1, ⟨0, 0, .c Z53 a1⟩)] _
  have hp : Sm big20 TRen a1 := hpre
  have h3 : List.length a1.2.2.2.1 ≤ 1048576 := hp.2.2.2.1.1
  have h4 : List.length a1.2.2.2.2 ≤ 1048576 := hp.2.2.2.2.1
  have hb0 : List.length a1.2.2.2.1 ≤ bigLen := hwf.2.1.2.2.2.1.1
  have hb1 : List.length a1.2.2.2.2 ≤ bigLen := hwf.2.1.2.2.2.2.1
  refine Vc.seq ?_
  refine Vc.region hG rfl ?_ ?_
  · trivial
  refine Vc.seq ?_
  refine Vc.region hG rfl ?_ ?_
  · trivial
  refine Vc.seq ?_
  refine Vc.seq ?_
  refine Vc.region hG rfl ?_ ?_
  · trivial
  refine Vc.block ?_
  -- slots [5, 6]; frame [0, 1, 3, 4, 7, 53]
  refine Vc.loopF [(5, false, .own (.pure (.int .i64))), (6, false, .pure (.int .i64))] [0, 1, 3, 4, 7, 53] (fun v => gsInv (stepG a1) [4, a1.1, a1.2.1, a1.2.2.1] a1.2.2.2.1 v.1 v.2.1) (fun v => ((List.length a1.2.2.2.1 : Int) - v.2.1).toNat) rfl ?_ ?_
  · exact gsStart
  rintro ⟨acc, (i : Int), _⟩ hI0
  have hI0 : gsInv (stepG a1) [4, a1.1, a1.2.1, a1.2.2.1] a1.2.2.2.1 acc i := hI0
  have hA : List.length acc ≤ 2097156 := gsLen (c := 2) (m := 1048576) hI0 (fun _ => Nat.le_refl _) h3 (by simp)
  refine Vc.seq ?_
  refine Vc.seq ?_
  refine Vc.region hG rfl ?_ ?_
  · trivial
  refine Vc.cond rfl (fun h0 => ?_) (fun h0 => ?_)
  · skip
    have hl0 : i < (List.length a1.2.2.2.1 : Int) := of_decide_eq_true h0
    refine Vc.skip ?_
    refine Vc.seq ?_
    refine Vc.block ?_
    refine Vc.seq ?_
    refine Vc.region hG rfl ?_ ?_
    · exact ⟨gsRange hI0 hl0, (show List.length acc + 1 ≤ maxApp from by unfold maxApp; omega)⟩
    refine Vc.seq ?_
    refine Vc.region hG rfl ?_ ?_
    · exact gsRange hI0 hl0
    refine Vc.cond rfl (fun h1 => ?_) (fun h1 => ?_)
    · skip
      have g1 : (List.getD a1.2.2.2.1 i.toNat (dflt TStep)).2 = true := h1
      refine Vc.region hG rfl ?_ ?_
      · exact (by show List.length (acc ++ [(List.getD a1.2.2.2.1 i.toNat (dflt TStep)).1]) + 1 ≤ maxApp; rw [List.length_append]; show List.length acc + 1 + 1 ≤ maxApp; unfold maxApp; omega)
      refine Vc.region hG rfl ?_ ?_
      · trivial
      refine ⟨rfl, ?_⟩
      first | exact gsStep hI0 hl0 hb0 (stepYes g1) | exact gsStep hI0 hl0 hb0 (stepNo g1)
    · skip
      have g1 : (List.getD a1.2.2.2.1 i.toNat (dflt TStep)).2 = false := h1
      refine Vc.region hG rfl ?_ ?_
      · exact (by show List.length (acc ++ [(List.getD a1.2.2.2.1 i.toNat (dflt TStep)).1]) + 1 ≤ maxApp; rw [List.length_append]; show List.length acc + 1 + 1 ≤ maxApp; unfold maxApp; omega)
      refine Vc.region hG rfl ?_ ?_
      · trivial
      refine ⟨rfl, ?_⟩
      first | exact gsStep hI0 hl0 hb0 (stepYes g1) | exact gsStep hI0 hl0 hb0 (stepNo g1)
  · skip
    have hl0 : ¬ i < (List.length a1.2.2.2.1 : Int) := of_decide_eq_false h0
    refine Vc.exit ?_
    refine Vc.seq ?_
    refine Vc.region hG rfl ?_ ?_
    · exact (show List.length acc + 1 ≤ maxApp from by unfold maxApp; omega)
    refine Vc.seq ?_
    refine Vc.seq ?_
    refine Vc.region hG rfl ?_ ?_
    · trivial
    refine Vc.block ?_
    -- slots [5, 7]; frame [0, 1, 3, 4, 6, 19, 36]
    refine Vc.loopF [(5, false, .own (.pure (.int .i64))), (7, false, .pure (.int .i64))] [0, 1, 3, 4, 6, 19, 36] (fun v => gsInv (stmpG a1) (renMid a1) a1.2.2.2.2 v.1 v.2.1) (fun v => ((List.length a1.2.2.2.2 : Int) - v.2.1).toNat) rfl ?_ ?_
    · exact gsStart2 (renMidEq hI0 hl0)
    rintro ⟨acc2, (i : Int), _⟩ hI1
    have hI1 : gsInv (stmpG a1) (renMid a1) a1.2.2.2.2 acc2 i := hI1
    have hA2 : List.length acc2 ≤ 8388613 := gsLen (c := 6) (m := 1048576) hI1 (fun _ => Nat.le_refl _) h4 (by have := midLen h3; omega)
    refine Vc.seq ?_
    refine Vc.seq ?_
    refine Vc.region hG rfl ?_ ?_
    · trivial
    refine Vc.cond rfl (fun h2 => ?_) (fun h2 => ?_)
    · skip
      have hl1 : i < (List.length a1.2.2.2.2 : Int) := of_decide_eq_true h2
      refine Vc.skip ?_
      refine Vc.seq ?_
      refine Vc.block ?_
      refine Vc.regionD mixed hG rfl (by kernel_rfl) ?_ ?_
      · exact ⟨gsRange hI1 hl1, trivial, (show List.length acc2 + 5 ≤ maxApp from by unfold maxApp; omega), gsRange hI1 hl1, (by show List.length (acc2 ++ stampIntsF (List.getD a1.2.2.2.2 i.toNat (dflt TStamp))) + 1 ≤ maxApp; rw [List.length_append]; show List.length acc2 + 5 + 1 ≤ maxApp; unfold maxApp; omega)⟩
      refine Vc.region hG rfl ?_ ?_
      · trivial
      refine ⟨rfl, ?_⟩
      exact gsStep hI1 hl1 hb1 stmpEq
    · skip
      have hl1 : ¬ i < (List.length a1.2.2.2.2 : Int) := of_decide_eq_false h2
      refine Vc.exit ?_
      refine Vc.seq ?_
      refine Vc.region hG rfl ?_ ?_
      · exact (show List.length acc2 ≤ 1000000000 from by omega)
      refine Vc.ret ?_
      refine ⟨?_, trivial⟩
      have e := congrArg (digestF a0) (gsEnd hI1 hl1)
      exact e
noncomputable def F243 : Fun := ⟨[.int .i64, .slice Y19], [.pure (.int .i64)], fun x => (fun (_ : Int) (l : List Piece) => Sm big20 (.slice TPiece) l) x.1 x.2.1, fun x => (piecesF x.1 x.2.1, ())⟩
set_option maxRecDepth 100000 in
/-- loop.example.g00597.spec.PiecesDigest -/
theorem F243_ok : Meets Tryz.prog 243 F243 := by
  refine meets_of_vc (C := mkC 39 [4] [0,1,4,5,6,11] [⟨164, _, F164_ok⟩]) (mkC_ok _ _ _ _) (fnOf_ok _) Tryz.func243 rfl rfl rfl (by decide) rfl ?_
  rintro ⟨(a0 : Int), a1, _⟩ hwf hpre ⟨P, C, B, X, w0, M0, pv⟩ hG rfl rfl
  show Vc _ _ [(0, ⟨0, 0, .c (.pure (.int .i64)) a0⟩), (1, ⟨0, 0, .c Z26 a1⟩)] _
  have hp : List.length a1 ≤ big20 ∧ ∀ x ∈ a1, Sm big20 TPiece x := hpre
  have hL : List.length a1 ≤ 1048576 := hp.1
  have hb : List.length a1 ≤ bigLen := hwf.2.1.1
  refine Vc.seq ?_
  refine Vc.region hG rfl ?_ ?_
  · trivial
  refine Vc.seq ?_
  refine Vc.region hG rfl ?_ ?_
  · trivial
  refine Vc.seq ?_
  refine Vc.seq ?_
  refine Vc.region hG rfl ?_ ?_
  · trivial
  refine Vc.block ?_
  -- slots [5, 6]; frame [0, 1, 4]
  refine Vc.loopF [(5, false, .own (.pure (.int .i64))), (6, false, .pure (.int .i64))] [0, 1, 4] (fun v => gsInv (piecesG a0 a1) [2] a1 v.1 v.2.1) (fun v => ((List.length a1 : Int) - v.2.1).toNat) rfl ?_ ?_
  · exact gsStart
  rintro ⟨acc, (i : Int), _⟩ hI
  have hI : gsInv (piecesG a0 a1) [2] a1 acc i := hI
  have hA : List.length acc ≤ 1048577 := gsLen (c := 1) (m := 1048576) hI (fun _ => Nat.le_refl _) hL (by simp)
  refine Vc.seq ?_
  refine Vc.seq ?_
  refine Vc.region hG rfl ?_ ?_
  · trivial
  refine Vc.cond rfl (fun h0 => ?_) (fun h0 => ?_)
  · skip
    have hl : i < (List.length a1 : Int) := of_decide_eq_true h0
    have hE : List.length (List.getD a1 i.toNat (dflt TPiece)).2.1 ≤ 1048576 := (hp.2 _ (upElem hI.1 hl)).2.1.1
    refine Vc.skip ?_
    refine Vc.seq ?_
    refine Vc.block ?_
    refine Vc.regionD mixed hG rfl (by kernel_rfl) ?_ ?_
    · exact ⟨gsRange hI hl, gsRange hI hl, gsRange hI hl, (show 2 + List.length (List.getD a1 i.toNat (dflt TPiece)).2.1 ≤ maxApp from by unfold maxApp; omega), (show List.length (List.getD a1 i.toNat (dflt TPiece)).2.1 + 2 ≤ 1000000000 from by omega), (show List.length acc + 1 ≤ maxApp from by unfold maxApp; omega)⟩
    refine Vc.region hG rfl ?_ ?_
    · trivial
    refine ⟨rfl, ?_⟩
    exact gsStep hI hl hb rfl
  · skip
    have hl : ¬ i < (List.length a1 : Int) := of_decide_eq_false h0
    refine Vc.exit ?_
    refine Vc.seq ?_
    refine Vc.region hG rfl ?_ ?_
    · exact (show List.length acc ≤ 1000000000 from by omega)
    refine Vc.ret ?_
    refine ⟨?_, trivial⟩
    have e := congrArg (digestF a0) (gsEnd hI hl)
    exact e
noncomputable def F235 : Fun := ⟨[.int .i64, .int .i64, .slice Y19, .int .i64], [.pure (.int .i64)], fun x => (fun (_ _ : Int) (l : List Piece) (_ : Int) => Sm big20 (.slice TPiece) l) x.1 x.2.1 x.2.2.1 x.2.2.2.1, fun x => (leafOfF x.1 x.2.1 x.2.2.1 x.2.2.2.1, ())⟩
set_option maxRecDepth 100000 in
/-- loop.example.g00597.spec.LeafOf -/
theorem F235_ok : Meets Tryz.prog 235 F235 := by
  refine meets_of_vc (C := mkC 17 [8] [0,1,2,3,8] [⟨243, _, F243_ok⟩, ⟨164, _, F164_ok⟩]) (mkC_ok _ _ _ _) (fnOf_ok _) Tryz.func235 rfl rfl rfl (by decide) rfl ?_
  rintro ⟨(a0 : Int), (a1 : Int), a2, (a3 : Int), _⟩ hwf hpre ⟨P, C, B, X, w0, M0, pv⟩ hG rfl rfl
  show Vc _ _ [(0, ⟨0, 0, .c (.pure (.int .i64)) a0⟩), (1, ⟨0, 0, .c (.pure (.int .i64)) a1⟩), (2, ⟨0, 0, .c Z26 a2⟩), (3, ⟨0, 0, .c (.pure (.int .i64)) a3⟩)] _
  have hp : Sm big20 (.slice TPiece) a2 := hpre
  refine Vc.seq ?_
  refine Vc.region hG rfl ?_ ?_
  · trivial
  refine Vc.seq ?_
  refine Vc.region hG rfl ?_ ?_
  · exact ⟨hp, smallLit (n := 4) rfl (by decide)⟩
  refine Vc.ret ?_
  refine ⟨?_, trivial⟩
  all_goals exact rfl
noncomputable def F216 : Fun := ⟨[.pair Y23 Y55, .slice (.int .i64), .int .i64], [.pure (.int .i64)], fun x => (fun (s : Strand) (_ : List Int) (_ : Int) => Sm big20 (.slice TPiece) s.1 ∧ ∀ r ∈ s.2, Sm big20 TRen r) x.1 x.2.1 x.2.2.1, fun x => (leafAtF x.1 x.2.1 x.2.2.1, ())⟩
set_option maxRecDepth 100000 in
/-- loop.example.g00597.spec.LeafAt -/
theorem F216_ok : Meets Tryz.prog 216 F216 := by
  refine meets_of_vc (C := mkC 69 [6] [0,1,2,3,6,7,8,36,44] [⟨196, _, F196_ok⟩, ⟨234, _, F234_ok⟩, ⟨235, _, F235_ok⟩]) (mkC_ok _ _ _ _) (fnOf_ok _) Tryz.func216 rfl rfl rfl (by decide) rfl ?_
  rintro ⟨a0, a1, (a2 : Int), _⟩ hwf hpre ⟨P, C, B, X, w0, M0, pv⟩ hG rfl rfl
  show Vc _ _ [(0, ⟨0, 0, .c Z61 a0⟩), (1, ⟨0, 0, .c Z2 a1⟩), (2, ⟨0, 0, .c (.pure (.int .i64)) a2⟩)] _
  have hP : Sm big20 (.slice TPiece) a0.1 := hpre.1
  have hR : ∀ r ∈ a0.2, Sm big20 TRen r := hpre.2
  have hb : List.length a0.2 ≤ bigLen := hwf.1.2.1
  refine Vc.seq ?_
  refine Vc.region hG rfl ?_ ?_
  · trivial
  refine Vc.seq ?_
  refine Vc.seq ?_
  refine Vc.regionD mixed hG rfl (by kernel_rfl) ?_ ?_
  · exact ⟨trivial, fun h => laIdx (orF h).1 hb, fun _ => trivial⟩
  refine Vc.cond rfl (fun h0 => ?_) (fun h0 => ?_)
  · skip
    have g0 : leafAtBad a0 a1 a2 = true := h0
    refine Vc.seq ?_
    refine Vc.region hG rfl ?_ ?_
    · trivial
    refine Vc.ret ?_
    refine ⟨?_, trivial⟩
    exact la0 g0
  · skip
    have g0 : leafAtBad a0 a1 a2 = false := h0
    have k1 := laIdx (orF (orF g0).1).1 hb
    have k2 : (List.length a1 : Int) = (List.length a0.2 : Int) := bneI (orF (orF g0).1).2
    have k3 := rg (orF g0).2
    have k4 : inRange a2 (List.length a1) := ⟨k1.1, by have := k1.2; omega⟩
    refine Vc.skip ?_
    refine Vc.seq ?_
    refine Vc.region hG rfl ?_ ?_
    · exact k1
    refine Vc.seq ?_
    refine Vc.region hG rfl ?_ ?_
    · trivial
    refine Vc.seq ?_
    refine Vc.seq ?_
    refine Vc.region hG rfl ?_ ?_
    · trivial
    refine Vc.cond rfl (fun h1 => ?_) (fun h1 => ?_)
    · skip
      have g1 : a2 > 0 := of_decide_eq_true h1
      refine Vc.region hG rfl ?_ ?_
      · exact ⟨prevIdx k1 g1 hb, hR _ (getD_mem (prevIdx k1 g1 hb) (dflt TRen))⟩
      refine Vc.seq ?_
      refine Vc.regionD mixed hG rfl (by kernel_rfl) ?_ ?_
      · exact ⟨k4, k1, Int.le_refl _, k3.1, k3.2, subL_sm hP⟩
      refine Vc.ret ?_
      refine ⟨?_, trivial⟩
      exact la1 g0 g1
    · skip
      have g1 : ¬ a2 > 0 := of_decide_eq_false h1
      refine Vc.skip ?_
      refine Vc.seq ?_
      refine Vc.regionD mixed hG rfl (by kernel_rfl) ?_ ?_
      · exact ⟨k4, k1, Int.le_refl _, k3.1, k3.2, subL_sm hP⟩
      refine Vc.ret ?_
      refine ⟨?_, trivial⟩
      exact la2 g0 g1
noncomputable def F241 : Fun := ⟨[.int .i64, .int .i64, .int .i64], [.pure (.int .i64)], fun _ => True, fun x => (pairDF x.1 x.2.1 x.2.2.1, ())⟩
set_option maxRecDepth 100000 in
/-- loop.example.g00597.spec.PairDigest -/
theorem F241_ok : Meets Tryz.prog 241 F241 := by
  refine meets_of_vc (C := mkC 12 [6] [0,1,2,6] [⟨164, _, F164_ok⟩]) (mkC_ok _ _ _ _) (fnOf_ok _) Tryz.func241 rfl rfl rfl (by decide) rfl ?_
  rintro ⟨(a0 : Int), (a1 : Int), (a2 : Int), _⟩ hwf hpre ⟨P, C, B, X, w0, M0, pv⟩ hG rfl rfl
  show Vc _ _ [(0, ⟨0, 0, .c (.pure (.int .i64)) a0⟩), (1, ⟨0, 0, .c (.pure (.int .i64)) a1⟩), (2, ⟨0, 0, .c (.pure (.int .i64)) a2⟩)] _
  refine Vc.seq ?_
  refine Vc.region hG rfl ?_ ?_
  · trivial
  refine Vc.seq ?_
  refine Vc.region hG rfl ?_ ?_
  · exact smallLit (n := 3) rfl (by decide)
  refine Vc.ret ?_
  refine ⟨?_, trivial⟩
  all_goals exact rfl
noncomputable def F232 : Fun := ⟨[.int .i64, .int .i64, .slice Y1], [.pure (.int .i64)], fun _ => True, fun x => (followF x.1 x.2.1 x.2.2.1, ())⟩
set_option maxRecDepth 100000 in
/-- loop.example.g00597.spec.FollowPath -/
theorem F232_ok : Meets Tryz.prog 232 F232 := by
  refine meets_of_vc (C := mkC 38 [6] [0,1,2,6,7,8,13,20] [⟨241, _, F241_ok⟩]) (mkC_ok _ _ _ _) (fnOf_ok _) Tryz.func232 rfl rfl rfl (by decide) rfl ?_
  rintro ⟨(a0 : Int), (a1 : Int), a2, _⟩ hwf hpre ⟨P, C, B, X, w0, M0, pv⟩ hG rfl rfl
  show Vc _ _ [(0, ⟨0, 0, .c (.pure (.int .i64)) a0⟩), (1, ⟨0, 0, .c (.pure (.int .i64)) a1⟩), (2, ⟨0, 0, .c Z12 a2⟩)] _
  have hb : List.length a2 ≤ bigLen := hwf.2.2.1.1
  refine Vc.seq ?_
  refine Vc.region hG rfl ?_ ?_
  · trivial
  refine Vc.seq ?_
  refine Vc.region hG rfl ?_ ?_
  · trivial
  refine Vc.seq ?_
  refine Vc.seq ?_
  refine Vc.region hG rfl ?_ ?_
  · trivial
  refine Vc.block ?_
  -- slots [7, 8]; frame [0, 1, 2, 6]
  refine Vc.loopF [(7, false, .pure (.int .i64)), (8, false, .pure (.int .i64))] [0, 1, 2, 6] (fun v => foInv (flStep a0) a1 a2 v.1 v.2.1) (fun v => ((List.length a2 : Int) - v.2.1).toNat) rfl ?_ ?_
  · exact foStart
  rintro ⟨(acc : Int), (i : Int), _⟩ hI
  have hI : foInv (flStep a0) a1 a2 acc i := hI
  refine Vc.seq ?_
  refine Vc.seq ?_
  refine Vc.region hG rfl ?_ ?_
  · trivial
  refine Vc.cond rfl (fun h0 => ?_) (fun h0 => ?_)
  · skip
    have hl : i < (List.length a2 : Int) := of_decide_eq_true h0
    refine Vc.skip ?_
    refine Vc.seq ?_
    refine Vc.block ?_
    refine Vc.seq ?_
    refine Vc.region hG rfl ?_ ?_
    · exact foRange hI hl
    refine Vc.cond rfl (fun h1 => ?_) (fun h1 => ?_)
    · skip
      have g1 : (List.getD a2 i.toNat (dflt (.pair TI .bool))).2 = true := h1
      have st := foStepE (d := dflt (.pair TI .bool)) hI hl hb (flL (m := a0) (x := acc) g1).symm
      refine Vc.region hG rfl ?_ ?_
      · exact ⟨foRange hI hl, trivial⟩
      refine Vc.region hG rfl ?_ ?_
      · trivial
      refine ⟨rfl, ?_⟩
      exact st
    · skip
      have g1 : (List.getD a2 i.toNat (dflt (.pair TI .bool))).2 = false := h1
      have st := foStepE (d := dflt (.pair TI .bool)) hI hl hb (flR (m := a0) (x := acc) g1).symm
      refine Vc.region hG rfl ?_ ?_
      · exact ⟨foRange hI hl, trivial⟩
      refine Vc.region hG rfl ?_ ?_
      · trivial
      refine ⟨rfl, ?_⟩
      exact st
  · skip
    have hl : ¬ i < (List.length a2 : Int) := of_decide_eq_false h0
    refine Vc.exit ?_
    refine Vc.seq ?_
    refine Vc.region hG rfl ?_ ?_
    · trivial
    refine Vc.ret ?_
    refine ⟨?_, trivial⟩
    exact foEnd hI hl
noncomputable def F242 : Fun := ⟨[.slice Y32, .slice Y15, .pair (.int .i64) Y24], [.pure Y32, .pure (.bool)], fun _ => True, fun x => ((makeStampF x.1 x.2.1 x.2.2.1).1, (makeStampF x.1 x.2.1 x.2.2.1).2, ())⟩
set_option maxRecDepth 100000 in
/-- loop.example.g00597.spec.MakeStamp -/
theorem F242_ok : Meets Tryz.prog 242 F242 := by
  refine meets_of_vc (C := mkC 47 [6, 7] [0,1,2,5,6,7,8,9,26,36] [⟨200, _, F200_ok⟩, ⟨201, _, F201_ok⟩, ⟨100, _, F100_ok⟩, ⟨203, _, F203_ok⟩, ⟨192, _, F192_ok⟩]) (mkC_ok _ _ _ _) (fnOf_ok _) Tryz.func242 rfl rfl rfl (by decide) rfl ?_
  rintro ⟨a0, a1, a2, _⟩ hwf hpre ⟨P, C, B, X, w0, M0, pv⟩ hG rfl rfl
  show Vc _ _ [(0, ⟨0, 0, .c Z36 a0⟩), (1, ⟨0, 0, .c Z21 a1⟩), (2, ⟨0, 0, .c Z33 a2⟩)] _
  refine Vc.seq ?_
  refine Vc.region hG rfl ?_ ?_
  · trivial
  refine Vc.seq ?_
  refine Vc.region hG rfl ?_ ?_
  · trivial
  refine Vc.seq ?_
  refine Vc.seq ?_
  refine Vc.region hG rfl ?_ ?_
  · intro _; exact trivial
  refine Vc.cond rfl (fun h0 => ?_) (fun h0 => ?_)
  · skip
    have g0 : stampBad a1 a2 = true := h0
    refine Vc.seq ?_
    refine Vc.region hG rfl ?_ ?_
    · trivial
    refine Vc.ret ?_
    have e := ms_1 (keys := a0) g0
    refine ⟨?_, ?_, trivial⟩
    · exact (congrArg Prod.fst e).symm
    · exact (congrArg Prod.snd e).symm
  · skip
    have g0 : stampBad a1 a2 = false := h0
    refine Vc.skip ?_
    refine Vc.seq ?_
    refine Vc.region hG rfl ?_ ?_
    · exact ⟨bad_idx g0, trivial⟩
    refine Vc.seq ?_
    refine Vc.seq ?_
    refine Vc.region hG rfl ?_ ?_
    · trivial
    refine Vc.cond rfl (fun h1 => ?_) (fun h1 => ?_)
    · skip
      have g1 : keyI a0 (authAt a1 a2.1).2.1 < 0 := of_decide_eq_true h1
      refine Vc.seq ?_
      refine Vc.region hG rfl ?_ ?_
      · trivial
      refine Vc.ret ?_
      have e := ms_2 (keys := a0) g0 g1
      refine ⟨?_, ?_, trivial⟩
      · exact (congrArg Prod.fst e).symm
      · exact (congrArg Prod.snd e).symm
    · skip
      have g1 : ¬ keyI a0 (authAt a1 a2.1).2.1 < 0 := of_decide_eq_false h1
      refine Vc.skip ?_
      refine Vc.seq ?_
      refine Vc.regionD mixed hG rfl (by kernel_rfl) ?_ ?_
      · exact ⟨findRange g1, trivial, smallLit (n := 5) rfl (by decide)⟩
      refine Vc.seq ?_
      refine Vc.region hG rfl ?_ ?_
      · trivial
      refine Vc.ret ?_
      have e := ms_3 (keys := a0) g0 g1
      refine ⟨?_, ?_, trivial⟩
      · exact (congrArg Prod.fst e).symm
      · exact (congrArg Prod.snd e).symm
noncomputable def F233 : Fun := ⟨[.slice Y32, .slice Y15, .pair (.int .i64) Y24], [.pure (.bool)], fun _ => True, fun x => (checkStampF x.1 x.2.1 x.2.2.1, ())⟩
set_option maxRecDepth 100000 in
/-- loop.example.g00597.spec.CheckStamp -/
theorem F233_ok : Meets Tryz.prog 233 F233 := by
  refine meets_of_vc (C := mkC 22 [6] [0,1,2,5,6,7,8] [⟨242, _, F242_ok⟩]) (mkC_ok _ _ _ _) (fnOf_ok _) Tryz.func233 rfl rfl rfl (by decide) rfl ?_
  rintro ⟨a0, a1, a2, _⟩ hwf hpre ⟨P, C, B, X, w0, M0, pv⟩ hG rfl rfl
  show Vc _ _ [(0, ⟨0, 0, .c Z36 a0⟩), (1, ⟨0, 0, .c Z21 a1⟩), (2, ⟨0, 0, .c Z33 a2⟩)] _
  refine Vc.seq ?_
  refine Vc.region hG rfl ?_ ?_
  · trivial
  refine Vc.seq ?_
  refine Vc.region hG rfl ?_ ?_
  · trivial
  refine Vc.seq ?_
  refine Vc.region hG rfl ?_ ?_
  · trivial
  refine Vc.ret ?_
  refine ⟨?_, trivial⟩
  all_goals exact rfl
noncomputable def F215 : Fun := ⟨[.slice Y32, .slice Y15, .pair (.int .i64) Y49, .int .i64], [.pure (.bool)], fun _ => True, fun x => (checkRenF x.1 x.2.1 x.2.2.1 x.2.2.2.1, ())⟩
set_option maxRecDepth 100000 in
/-- loop.example.g00597.spec.CheckRenewal -/
theorem F215_ok : Meets Tryz.prog 215 F215 := by
  refine meets_of_vc (C := mkC 73 [8] [0,1,2,3,6,8,9,10,32,37,72] [⟨232, _, F232_ok⟩, ⟨196, _, F196_ok⟩, ⟨233, _, F233_ok⟩]) (mkC_ok _ _ _ _) (fnOf_ok _) Tryz.func215 rfl rfl rfl (by decide) rfl ?_
  rintro ⟨a0, a1, a2, (a3 : Int), _⟩ hwf hpre ⟨P, C, B, X, w0, M0, pv⟩ hG rfl rfl
  show Vc _ _ [(0, ⟨0, 0, .c Z36 a0⟩), (1, ⟨0, 0, .c Z21 a1⟩), (2, ⟨0, 0, .c Z53 a2⟩), (3, ⟨0, 0, .c (.pure (.int .i64)) a3⟩)] _
  have hb : List.length a2.2.2.2.2 ≤ bigLen := hwf.2.2.1.2.2.2.2.1
  refine Vc.seq ?_
  refine Vc.region hG rfl ?_ ?_
  · trivial
  refine Vc.seq ?_
  refine Vc.seq ?_
  refine Vc.regionD mixed hG rfl (by kernel_rfl) ?_ ?_
  · repeat' (first | exact trivial | refine And.intro ?_ ?_ | intro _)
  refine Vc.cond rfl (fun h0 => ?_) (fun h0 => ?_)
  · skip
    have g0 := cr0S (keys := a0) (l := a1) (r := a2) (leaf := a3) h0
    refine Vc.seq ?_
    refine Vc.region hG rfl ?_ ?_
    · trivial
    refine Vc.ret ?_
    refine ⟨?_, trivial⟩
    exact g0
  · skip
    have g0 := crPreS.1 h0
    refine Vc.skip ?_
    refine Vc.seq ?_
    refine Vc.seq ?_
    refine Vc.region hG rfl ?_ ?_
    · trivial
    refine Vc.block ?_
    -- slots [9]; frame [0, 1, 2, 3, 6, 32]
    refine Vc.loopF [(9, false, .pure (.int .i64))] [0, 1, 2, 3, 6, 32] (fun v => kInv (crS a0 a1 a2) a2.2.2.2.2 v.1) (fun v => ((List.length a2.2.2.2.2 : Int) - v.1).toNat) rfl ?_ ?_
    · exact kStart
    rintro ⟨(i : Int), _⟩ hI
    have hI : kInv (crS a0 a1 a2) a2.2.2.2.2 i := hI
    refine Vc.seq ?_
    refine Vc.seq ?_
    refine Vc.region hG rfl ?_ ?_
    · trivial
    refine Vc.cond rfl (fun h1 => ?_) (fun h1 => ?_)
    · skip
      have hl : i < (List.length a2.2.2.2.2 : Int) := of_decide_eq_true h1
      refine Vc.skip ?_
      refine Vc.seq ?_
      refine Vc.block ?_
      refine Vc.seq ?_
      refine Vc.region hG rfl ?_ ?_
      · exact kRange hI hl
      refine Vc.seq ?_
      refine Vc.regionD mixed hG rfl (by kernel_rfl) ?_ ?_
      · repeat' (first | exact trivial | (intro h2; exact backRange hI hl hb (of_decide_eq_true h2)) | refine And.intro ?_ ?_ | intro _)
      refine Vc.cond rfl (fun h2 => ?_) (fun h2 => ?_)
      · skip
        have g2 : crTestS a0 a1 a2 i = true := h2
        refine Vc.seq ?_
        refine Vc.region hG rfl ?_ ?_
        · trivial
        refine Vc.ret ?_
        refine ⟨?_, trivial⟩
        exact crBadS hI hl hb g2
      · skip
        have g2 : crTestS a0 a1 a2 i = false := h2
        refine Vc.skip ?_
        refine Vc.region hG rfl ?_ ?_
        · trivial
        refine ⟨rfl, ?_⟩
        exact kStep hI hl hb (crGoodS hI hl hb g2)
    · skip
      have hl : ¬ i < (List.length a2.2.2.2.2 : Int) := of_decide_eq_false h1
      refine Vc.exit ?_
      refine Vc.seq ?_
      refine Vc.region hG rfl ?_ ?_
      · trivial
      refine Vc.ret ?_
      refine ⟨?_, trivial⟩
      exact crEndS g0 hI hl
noncomputable def F182 : Fun := ⟨[.pair Y34 Y51, .pair Y23 Y55, .slice (.int .i64), .int .i64], [.pure (.bool)], fun x => (fun (_ : Frame) (s : Strand) (_ : List Int) (k : Int) => (Sm big20 (.slice TPiece) s.1 ∧ ∀ r ∈ s.2, Sm big20 TRen r) ∧ inRange k (List.length s.2)) x.1 x.2.1 x.2.2.1 x.2.2.2.1, fun x => (keptF x.1 x.2.1 x.2.2.1 x.2.2.2.1, ())⟩
set_option maxRecDepth 100000 in
/-- loop.example.g00597.spec.l21Kept -/
theorem F182_ok : Meets Tryz.prog 182 F182 := by
  refine meets_of_vc (C := mkC 47 [8] [0,1,2,3,4,5,8,10] [⟨142, _, F142_ok⟩, ⟨214, _, F214_ok⟩, ⟨216, _, F216_ok⟩, ⟨215, _, F215_ok⟩]) (mkC_ok _ _ _ _) (fnOf_ok _) Tryz.func182 rfl rfl rfl (by decide) rfl ?_
  rintro ⟨a0, a1, a2, (a3 : Int), _⟩ hwf hpre ⟨P, C, B, X, w0, M0, pv⟩ hG rfl rfl
  show Vc _ _ [(0, ⟨0, 0, .c Z63 a0⟩), (1, ⟨0, 0, .c Z61 a1⟩), (2, ⟨0, 0, .c Z2 a2⟩), (3, ⟨0, 0, .c (.pure (.int .i64)) a3⟩)] _
  have hP : Sm big20 (.slice TPiece) a1.1 := hpre.1.1
  have hR : ∀ r ∈ a1.2, Sm big20 TRen r := hpre.1.2
  have hb : List.length a1.2 ≤ bigLen := hwf.2.1.2.1
  have hSt : ∀ k : Int, inRange k (List.length a1.2) → List.length (chAt a1 k).2.2.2.2 ≤ 1048576 := fun k hk => (hR _ (getD_mem hk (dflt TRen))).2.2.2.2.1
  have hk : inRange a3 (List.length a1.2) := hpre.2
  refine Vc.seq ?_
  refine Vc.region hG rfl ?_ ?_
  · trivial
  refine Vc.seq ?_
  refine Vc.regionD mixed hG rfl (by kernel_rfl) ?_ ?_
  · exact ⟨hk, hSt _ hk⟩
  refine Vc.seq ?_
  refine Vc.regionD mixed hG rfl (by kernel_rfl) ?_ ?_
  · repeat' (first | exact trivial | exact hk | exact ⟨hP, hR⟩ | refine And.intro ?_ ?_ | intro _)
  refine Vc.ret ?_
  refine ⟨?_, trivial⟩
  all_goals exact rfl
noncomputable def F141 : Fun := ⟨[.pair Y34 Y51, .pair Y23 Y55, .slice (.int .i64)], [.pure (.int .i64)], fun x => (fun (_ : Frame) (s : Strand) (_ : List Int) => Sm big20 (.slice TPiece) s.1 ∧ ∀ r ∈ s.2, Sm big20 TRen r) x.1 x.2.1 x.2.2.1, fun x => (firstKeptF x.1 x.2.1 x.2.2.1, ())⟩
set_option maxRecDepth 100000 in
/-- loop.example.g00597.spec.FirstKept -/
theorem F141_ok : Meets Tryz.prog 141 F141 := by
  refine meets_of_vc (C := mkC 24 [6] [0,1,2,3,4,6,7,20] [⟨182, _, F182_ok⟩]) (mkC_ok _ _ _ _) (fnOf_ok _) Tryz.func141 rfl rfl rfl (by decide) rfl ?_
  rintro ⟨a0, a1, a2, _⟩ hwf hpre ⟨P, C, B, X, w0, M0, pv⟩ hG rfl rfl
  show Vc _ _ [(0, ⟨0, 0, .c Z63 a0⟩), (1, ⟨0, 0, .c Z61 a1⟩), (2, ⟨0, 0, .c Z2 a2⟩)] _
  have hP : Sm big20 (.slice TPiece) a1.1 := hpre.1
  have hR : ∀ r ∈ a1.2, Sm big20 TRen r := hpre.2
  have hb : List.length a1.2 ≤ bigLen := hwf.2.1.2.1
  have hSt : ∀ k : Int, inRange k (List.length a1.2) → List.length (chAt a1 k).2.2.2.2 ≤ 1048576 := fun k hk => (hR _ (getD_mem hk (dflt TRen))).2.2.2.2.1
  refine Vc.seq ?_
  refine Vc.region hG rfl ?_ ?_
  · trivial
  refine Vc.seq ?_
  refine Vc.region hG rfl ?_ ?_
  · trivial
  refine Vc.seq ?_
  refine Vc.block ?_
  -- slots [7]; frame [0, 1, 2, 3, 4, 6]
  refine Vc.loopF [(7, false, .pure (.int .i64))] [0, 1, 2, 3, 4, 6] (fun v => fkInv a0 a1 a2 v.1) (fun v => v.1.toNat) rfl ?_ ?_
  · exact fkStart
  rintro ⟨(j : Int), _⟩ hI
  have hI : fkInv a0 a1 a2 j := hI
  refine Vc.seq ?_
  refine Vc.seq ?_
  refine Vc.region hG rfl ?_ ?_
  · exact fun h => ⟨⟨hP, hR⟩, fkIdx hI (of_decide_eq_true h) hb⟩
  refine Vc.cond rfl (fun h0 => ?_) (fun h0 => ?_)
  · skip
    have g0 : j > 0 := of_decide_eq_true (andT h0).1
    have g1 : keptF a0 a1 a2 (IntKind.i64.wrap (j - 1)) = true := (andT h0).2
    refine Vc.skip ?_
    refine Vc.block ?_
    refine Vc.region hG rfl ?_ ?_
    · trivial
    refine ⟨rfl, ?_⟩
    exact fkStep hI g0 hb g1
  · skip
    have g1 := fkEndS hI hb h0
    refine Vc.exit ?_
    refine Vc.seq ?_
    refine Vc.region hG rfl ?_ ?_
    · trivial
    refine Vc.ret ?_
    refine ⟨?_, trivial⟩
    exact g1
end Fw
