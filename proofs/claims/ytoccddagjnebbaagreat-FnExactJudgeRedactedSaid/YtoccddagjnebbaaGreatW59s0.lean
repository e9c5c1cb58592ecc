/- Walks of functions of the program: what each computes. Conditions: those that each contract names. -/
import Derived.Test.YtoccddagjnebbaaGreatW59T
namespace Fw
open Go Go.Proofs
set_option linter.unusedSimpArgs false
set_option maxRecDepth 100000
noncomputable def F207 : Fun := ⟨[.int .i64, .int .i64, .int .i64], [.pure (.bool)], fun _ => True, fun x => (inRangeF x.1 x.2.1 x.2.2.1, ())⟩
theorem F207_ok : Meets Tryz.prog 207 F207 := by
 refine meets_of_vc (C := mkC 15 [6] [0,1,2,6] []) (mkC_ok _ _ _ _) (fnOf_ok _) Tryz.func207 rfl rfl rfl (by decide) rfl ?_
 rintro ⟨(a0 : Int), (a1 : Int), (a2 : Int), _⟩ hwf hpre ⟨P, C, B, X, w0, M0, pv⟩ hG rfl rfl
 show Vc _ _ [(0, ⟨0, 0, .c (.pure (.int .i64)) a0⟩), (1, ⟨0, 0, .c (.pure (.int .i64)) a1⟩), (2, ⟨0, 0, .c (.pure (.int .i64)) a2⟩)] _
 refine Vc.seq (Vc.region hG rfl (by trivial) (Vc.seq (Vc.region hG rfl (by trivial) ?_)))
 refine Vc.ret ?_
 refine ⟨?_, trivial⟩
 all_goals exact rfl
noncomputable def F176 : Fun := ⟨[.pair (.int .i64) Y13], [.pure (.bool)], fun _ => True, fun x => (docF x.1, ())⟩
theorem F176_ok : Meets Tryz.prog 176 F176 := by
 refine meets_of_vc (C := mkC 51 [2] [0,1,2,3,4,9,18,23,32] [⟨207, _, F207_ok⟩]) (mkC_ok _ _ _ _) (fnOf_ok _) Tryz.func176 rfl rfl rfl (by decide) rfl ?_
 rintro ⟨a0, _⟩ hwf hpre ⟨P, C, B, X, w0, M0, pv⟩ hG rfl rfl
 show Vc _ _ [(0, ⟨0, 0, .c (.pure (.pair (.int .i64) Y13)) a0⟩)] _
 have hb0 : List.length a0.2.1 ≤ bigLen := hwf.1.2.1.1
 have hb1 : List.length a0.2.2 ≤ bigLen := hwf.1.2.2.1
 refine Vc.seq (Vc.region hG rfl (by trivial) (Vc.seq (Vc.seq ?_)))
 refine Vc.region hG rfl (by trivial) (Vc.block ?_)
 refine Vc.loopF [(3, false, .pure (.int .i64))] [0, 1, 4, 23, 32] (fun v => kInv (fun k => (List.length (List.getD a0.2.1 k (dflt .str)) : Int) ≤ 40) a0.2.1 v.1) (fun v => ((List.length a0.2.1 : Int) - v.1).toNat) rfl ?_ ?_
 · exact kStart
 rintro ⟨(i : Int), _⟩ hI0
 have hI0 : kInv (fun k => (List.length (List.getD a0.2.1 k (dflt .str)) : Int) ≤ 40) a0.2.1 i := hI0
 refine Vc.seq (Vc.seq (Vc.region hG rfl (by trivial) ?_))
 refine Vc.cond rfl (fun h0 => ?_) (fun h0 => ?_)
 · have hl0 : i < (List.length a0.2.1 : Int) := of_decide_eq_true h0
   refine Vc.skip (Vc.seq (Vc.block (Vc.seq ?_)))
   refine Vc.region hG rfl ?_ ?_
   · exact kRange hI0 hl0
   refine Vc.cond rfl (fun h1 => ?_) (fun h1 => ?_)
   · have g1 : (List.length (List.getD a0.2.1 i.toNat (dflt .str)) : Int) > 40 := of_decide_eq_true h1
     refine Vc.seq (Vc.region hG rfl (by trivial) (Vc.ret ?_))
     refine ⟨?_, trivial⟩
     refine boolC_no (P := docP a0) (fun h => ?_)
     have q := h.2.2.2.1 i.toNat (kLt hI0 hl0)
     exact absurd q (Int.not_le.2 g1)
   · have g1 : ¬ (List.length (List.getD a0.2.1 i.toNat (dflt .str)) : Int) > 40 := of_decide_eq_false h1
     refine Vc.skip (Vc.region hG rfl (by trivial) ?_)
     refine ⟨rfl, ?_⟩
     exact kStep hI0 hl0 hb0 (show (List.length (List.getD a0.2.1 i.toNat (dflt .str)) : Int) ≤ 40 from Int.not_lt.1 g1)
 · have hl0 : ¬ i < (List.length a0.2.1 : Int) := of_decide_eq_false h0
   refine Vc.exit (Vc.seq (Vc.seq (Vc.region hG rfl (by trivial) ?_)))
   refine Vc.block ?_
   refine Vc.loopF [(4, false, .pure (.int .i64))] [0, 1, 3, 9, 18] (fun v => kInv (fun k => inRangeF (List.getD a0.2.2 k (dflt (.int .i64))) 1 1000000000000 = true) a0.2.2 v.1) (fun v => ((List.length a0.2.2 : Int) - v.1).toNat) rfl ?_ ?_
   · exact kStart
   rintro ⟨(i : Int), _⟩ hI1
   have hI1 : kInv (fun k => inRangeF (List.getD a0.2.2 k (dflt (.int .i64))) 1 1000000000000 = true) a0.2.2 i := hI1
   refine Vc.seq (Vc.seq (Vc.region hG rfl (by trivial) ?_))
   refine Vc.cond rfl (fun h2 => ?_) (fun h2 => ?_)
   · have hl1 : i < (List.length a0.2.2 : Int) := of_decide_eq_true h2
     refine Vc.skip (Vc.seq (Vc.block (Vc.seq ?_)))
     refine Vc.region hG rfl ?_ ?_
     · exact ⟨kRange hI1 hl1, trivial⟩
     refine Vc.cond rfl (fun h3 => ?_) (fun h3 => ?_)
     · have g3 : (!(inRangeF (List.getD a0.2.2 i.toNat (dflt (.int .i64))) 1 1000000000000)) = true := h3
       refine Vc.seq (Vc.region hG rfl (by trivial) (Vc.ret ?_))
       refine ⟨?_, trivial⟩
       refine boolC_no (P := docP a0) (fun h => ?_)
       exact nself (h.2.2.2.2 i.toNat (kLt hI1 hl1)) g3
     · have g3 : (!(inRangeF (List.getD a0.2.2 i.toNat (dflt (.int .i64))) 1 1000000000000)) = false := h3
       refine Vc.skip (Vc.region hG rfl (by trivial) ?_)
       refine ⟨rfl, ?_⟩
       exact kStep hI1 hl1 hb1 (notF g3)
   · have hl1 : ¬ i < (List.length a0.2.2 : Int) := of_decide_eq_false h2
     refine Vc.exit (Vc.seq ?_)
     refine Vc.region hG rfl ?_ ?_
     · repeat' (first | exact trivial | refine And.intro ?_ ?_ | intro _)
     refine Vc.ret ?_
     refine ⟨?_, trivial⟩
     refine boolC_by (P := docP a0) (fun e => ?_) (fun h => ?_)
     · exact ⟨(andT (andT e).1).1, (andT (andT e).1).2, lenBeqI (andT e).2, kEnd hI0 hl0, kEnd hI1 hl1⟩
     · exact yesAnd (yesAnd h.1 h.2.1) (lenBeq h.2.2.1)
noncomputable def F192 : Fun := ⟨[.pair (.int .i64) Y46], [.pure (.bool)], fun _ => True, fun x => (isRedF x.1, ())⟩
set_option maxHeartbeats 2000000 in
theorem F192_ok : Meets Tryz.prog 192 F192 := by
 refine meets_of_vc (C := mkC 129 [2] [0,1,2,3,4,5,32,38,45,115] [⟨207, _, F207_ok⟩, ⟨176, _, F176_ok⟩]) (mkC_ok _ _ _ _) (fnOf_ok _) Tryz.func192 rfl rfl rfl (by decide) rfl ?_
 rintro ⟨a0, _⟩ hwf hpre ⟨P, C, B, X, w0, M0, pv⟩ hG rfl rfl
 show Vc _ _ [(0, ⟨0, 0, .c Z52 a0⟩)] _
 have hb : List.length a0.2.2.1 ≤ bigLen := hwf.1.2.2.1.1
 refine Vc.seq (Vc.region hG rfl (by trivial) (Vc.seq (Vc.region hG rfl (by trivial) ?_)))
 refine Vc.seq (Vc.seq (Vc.region hG rfl (by trivial) ?_))
 refine Vc.cond rfl (fun h0 => ?_) (fun h0 => ?_)
 · have g0 : rdBad0 a0 = true := h0
   refine Vc.seq (Vc.region hG rfl (by trivial) (Vc.ret ?_))
   refine ⟨?_, trivial⟩
   exact irBad0 g0
 · have g0 : rdBad0 a0 = false := h0
   have hL := rdLens g0
   refine Vc.skip (Vc.seq (Vc.region hG rfl (by trivial) (Vc.seq ?_)))
   refine Vc.seq (Vc.region hG rfl (by trivial) (Vc.block ?_))
   refine Vc.loopF [(4, true, .pair (.pure (.int .i64)) (.pair (.own (.pure (.str))) Z0)), (5, false, .pure (.int .i64))] [0, 1, 3, 32] (fun v => irInv a0 v.1 v.2.1) (fun v => ((List.length a0.2.2.1 : Int) - v.2.1).toNat) rfl ?_ ?_
   · exact irStart
   rintro ⟨d, (i : Int), _⟩ hI
   have hI : irInv a0 d i := hI
   refine Vc.seq (Vc.seq (Vc.region hG rfl (by trivial) ?_))
   refine Vc.cond rfl (fun h1 => ?_) (fun h1 => ?_)
   · have hl : i < (List.length a0.2.2.1 : Int) := of_decide_eq_true h1
     have ri := irRange hI hl
     have rp : inRange i (List.length a0.2.2.2.1) := ⟨ri.1, by have := ri.2; omega⟩
     have rs : inRange i (List.length a0.2.2.2.2.1) := ⟨ri.1, by have := ri.2; omega⟩
     have rg : inRange i (List.length a0.2.2.2.2.2) := ⟨ri.1, by have := ri.2; omega⟩
     have hA := irLen hI hl hL.1
     refine Vc.skip (Vc.seq (Vc.block (Vc.seq ?_)))
     refine Vc.seq ?_
     refine Vc.region hG rfl ?_ ?_
     · exact ri
     refine Vc.cond rfl (fun h2 => ?_) (fun h2 => ?_)
     · have g2 : rdS a0 i.toNat = true := h2
       refine Vc.seq ?_
       refine Vc.regionD mixed hG rfl (by kernel_rfl) ?_ ?_
       · exact ⟨rp, hA.1⟩
       refine Vc.regionD mixed hG rfl (by kernel_rfl) ?_ ?_
       · exact ⟨rs, hA.2⟩
       refine Vc.seq ?_
       refine Vc.regionD mixed hG rfl (by kernel_rfl) ?_ ?_
       · repeat' (first | exact trivial | exact ri | exact rp | exact rs | exact rg | refine And.intro ?_ ?_ | intro _)
       refine Vc.cond rfl (fun h3 => ?_) (fun h3 => ?_)
       · have n3 : ¬ rowP a0 i.toNat := fun q => by have q2 := rowT_iff.2 q; have q3 : rowT a0 i.toNat = true := h3; rw [q2] at q3; cases q3
         refine Vc.seq (Vc.region hG rfl (by trivial) (Vc.ret ?_))
         refine ⟨?_, trivial⟩
         exact irBad hI hl n3
       · have st := irY hI hl hb g2 (rowT_iff.1 h3)
         refine Vc.skip (Vc.region hG rfl (by trivial) ?_)
         refine ⟨rfl, ?_⟩
         exact st
     · have g2 : rdS a0 i.toNat = false := h2
       refine Vc.skip (Vc.seq ?_)
       refine Vc.regionD mixed hG rfl (by kernel_rfl) ?_ ?_
       · repeat' (first | exact trivial | exact ri | exact rp | exact rs | exact rg | refine And.intro ?_ ?_ | intro _)
       refine Vc.cond rfl (fun h4 => ?_) (fun h4 => ?_)
       · have n4 : ¬ rowP a0 i.toNat := fun q => by have q2 := rowT_iff.2 q; have q3 : rowT a0 i.toNat = true := h4; rw [q2] at q3; cases q3
         refine Vc.seq (Vc.region hG rfl (by trivial) (Vc.ret ?_))
         refine ⟨?_, trivial⟩
         exact irBad hI hl n4
       · have st := irN hI hl hb g2 (rowT_iff.1 h4)
         refine Vc.skip (Vc.region hG rfl (by trivial) ?_)
         refine ⟨rfl, ?_⟩
         exact st
   · have hl : ¬ i < (List.length a0.2.2.1 : Int) := of_decide_eq_false h1
     refine Vc.exit (Vc.seq ?_)
     refine Vc.region hG rfl ?_ ?_
     · repeat' (first | exact trivial | refine And.intro ?_ ?_ | intro _)
     refine Vc.ret ?_
     refine ⟨?_, trivial⟩
     exact irEnd g0 hI hl
noncomputable def F303 : Fun := ⟨[.int .i64, .int .i64], [.pure (.int .i64)], fun _ => True, fun x => (modF x.1 x.2.1, ())⟩
theorem F303_ok : Meets Tryz.prog 303 F303 := by
 refine meets_of_vc (C := mkC 15 [4] [0,1,4,7] [⟨207, _, F207_ok⟩]) (mkC_ok _ _ _ _) (fnOf_ok _) Tryz.func303 rfl rfl rfl (by decide) rfl ?_
 rintro ⟨(a0 : Int), (a1 : Int), _⟩ hwf hpre ⟨P, C, B, X, w0, M0, pv⟩ hG rfl rfl
 show Vc _ _ [(0, ⟨0, 0, .c (.pure (.int .i64)) a0⟩), (1, ⟨0, 0, .c (.pure (.int .i64)) a1⟩)] _
 refine Vc.seq (Vc.region hG rfl (by trivial) (Vc.seq (Vc.seq ?_)))
 refine Vc.region hG rfl (by trivial) ?_
 refine Vc.cond rfl (fun h0 => ?_) (fun h0 => ?_)
 · have g0 : (!(inRangeF a1 1 1000000000000)) = true := h0
   refine Vc.seq (Vc.region hG rfl (by trivial) (Vc.ret ?_))
   refine ⟨?_, trivial⟩
   show (0 : Int) = modF a0 a1
   unfold modF
   rw [if_neg (by simpa using g0)]
 · have g0 : (!(inRangeF a1 1 1000000000000)) = false := h0
   refine Vc.skip (Vc.seq ?_)
   refine Vc.region hG rfl ?_ ?_
   · exact ⟨inR_pos h0, inR_pos h0⟩
   refine Vc.ret ?_
   refine ⟨?_, trivial⟩
   show _ = modF a0 a1
   unfold modF
   rw [if_pos (by simpa using g0)]
noncomputable def F263 : Fun := ⟨[.slice (.int .i64)], [.pure (.int .i64)], fun _ => True, fun x => (hashF x.1, ())⟩
theorem F263_ok : Meets Tryz.prog 263 F263 := by
 refine meets_of_vc (C := mkC 22 [2] [0,2,3,4,8] [⟨303, _, F303_ok⟩]) (mkC_ok _ _ _ _) (fnOf_ok _) Tryz.func263 rfl rfl rfl (by decide) rfl ?_
 rintro ⟨a0, _⟩ hwf hpre ⟨P, C, B, X, w0, M0, pv⟩ hG rfl rfl
 show Vc _ _ [(0, ⟨0, 0, .c Z2 a0⟩)] _
 have hb : List.length a0 ≤ bigLen := hwf.1.1
 refine Vc.seq (Vc.region hG rfl (by trivial) (Vc.seq (Vc.region hG rfl (by trivial) ?_)))
 refine Vc.seq (Vc.seq (Vc.region hG rfl (by trivial) (Vc.block ?_)))
 refine Vc.loopF [(3, false, .pure (.int .i64)), (4, false, .pure (.int .i64))] [0, 2] (fun v => foInv (hstep) (11) a0 v.1 v.2.1) (fun v => ((List.length a0 : Int) - v.2.1).toNat) rfl ?_ ?_
 · exact foStart
 rintro ⟨acc, (i : Int), _⟩ hI
 have hI : foInv (hstep) (11) a0 acc i := hI
 refine Vc.seq (Vc.seq (Vc.region hG rfl (by trivial) ?_))
 refine Vc.cond rfl (fun h0 => ?_) (fun h0 => ?_)
 · have hl : i < (List.length a0 : Int) := of_decide_eq_true h0
   refine Vc.skip (Vc.seq (Vc.block ?_))
   refine Vc.region hG rfl ?_ ?_
   · exact ⟨foRange hI hl, trivial, (show (2147483647 : Int) ≠ 0 by decide)⟩
   refine Vc.region hG rfl (by trivial) ?_
   refine ⟨rfl, ?_⟩
   exact foStep hI hl hb
 · have hl : ¬ i < (List.length a0 : Int) := of_decide_eq_false h0
   refine Vc.exit (Vc.seq (Vc.region hG rfl (by trivial) (Vc.ret ?_)))
   refine ⟨?_, trivial⟩
   exact foEnd hI hl
noncomputable def F178 : Fun := ⟨[.int .i64, .slice (.int .i64)], [.pure (.int .i64)], fun x => (fun (_ : Int) (l : List Int) => smallL l) x.1 x.2.1, fun x => (digestF x.1 x.2.1, ())⟩
theorem F178_ok : Meets Tryz.prog 178 F178 := by
 refine meets_of_vc (C := mkC 10 [4] [0,1,4] [⟨263, _, F263_ok⟩]) (mkC_ok _ _ _ _) (fnOf_ok _) Tryz.func178 rfl rfl rfl (by decide) rfl ?_
 rintro ⟨(a0 : Int), a1, _⟩ hwf hpre ⟨P, C, B, X, w0, M0, pv⟩ hG rfl rfl
 show Vc _ _ [(0, ⟨0, 0, .c (.pure (.int .i64)) a0⟩), (1, ⟨0, 0, .c Z2 a1⟩)] _
 have hp : List.length a1 ≤ 1000000000 := hpre
 refine Vc.seq (Vc.region hG rfl (by trivial) (Vc.seq ?_))
 refine Vc.region hG rfl ?_ ?_
 · refine ⟨?_, trivial⟩
   show 2 + List.length a1 ≤ maxApp
   unfold maxApp; omega
 refine Vc.ret ?_
 refine ⟨?_, trivial⟩
 exact (digest_eq a0 a1).symm
noncomputable def F177 : Fun := ⟨[.int .i64, .str, .int .i64], [.pure (.int .i64)], fun x => (fun (_ : Int) (s : List UInt8) (_ : Int) => s.length ≤ 40) x.1 x.2.1 x.2.2.1, fun x => (partF x.1 x.2.1 x.2.2.1, ())⟩
theorem F177_ok : Meets Tryz.prog 177 F177 := by
 refine meets_of_vc (C := mkC 27 [6] [0,1,2,6,7,8,14] [⟨178, _, F178_ok⟩]) (mkC_ok _ _ _ _) (fnOf_ok _) Tryz.func177 rfl rfl rfl (by decide) rfl ?_
 rintro ⟨(a0 : Int), a1, (a2 : Int), _⟩ hwf hpre ⟨P, C, B, X, w0, M0, pv⟩ hG rfl rfl
 show Vc _ _ [(0, ⟨0, 0, .c (.pure (.int .i64)) a0⟩), (1, ⟨0, 0, .c (.pure (.str)) a1⟩), (2, ⟨0, 0, .c (.pure (.int .i64)) a2⟩)] _
 have hp : List.length a1 ≤ 40 := hpre
 have hb : List.length a1 ≤ bigLen := hwf.2.1
 refine Vc.seq (Vc.region hG rfl (by trivial) (Vc.seq (Vc.region hG rfl (by trivial) ?_)))
 refine Vc.seq (Vc.seq (Vc.region hG rfl (by trivial) (Vc.block ?_)))
 refine Vc.loopF [(7, false, .own (.pure (.int .i64))), (8, false, .pure (.int .i64))] [0, 1, 2, 6] (fun v => gsInv (partG a1) [a2] a1 v.1 v.2.1) (fun v => ((List.length a1 : Int) - v.2.1).toNat) rfl ?_ ?_
 · exact gsStart
 rintro ⟨acc, (i : Int), _⟩ hI
 have hI : gsInv (partG a1) [a2] a1 acc i := hI
 have hA : List.length acc ≤ 41 := gsLen (c := 1) (m := 40) hI (fun _ => Nat.le_refl _) hp (by simp)
 refine Vc.seq (Vc.seq (Vc.region hG rfl (by trivial) ?_))
 refine Vc.cond rfl (fun h0 => ?_) (fun h0 => ?_)
 · have hl : i < (List.length a1 : Int) := of_decide_eq_true h0
   refine Vc.skip (Vc.seq (Vc.block ?_))
   refine Vc.region hG rfl ?_ ?_
   · exact ⟨gsRange hI hl, (show List.length acc + 1 ≤ maxApp from by unfold maxApp; omega)⟩
   refine Vc.region hG rfl (by trivial) ?_
   refine ⟨rfl, ?_⟩
   exact gsStep hI hl hb rfl
 · have hl : ¬ i < (List.length a1 : Int) := of_decide_eq_false h0
   refine Vc.exit (Vc.seq ?_)
   refine Vc.region hG rfl ?_ ?_
   · exact (show List.length acc ≤ 1000000000 from by omega)
   refine Vc.ret ?_
   refine ⟨?_, trivial⟩
   exact congrArg (digestF a0) (gsEnd hI hl)
noncomputable def F110 : Fun := ⟨[.int .i64, .pair (.int .i64) Y46], [.pure (.int .i64)], fun _ => True, fun x => (redDigF x.1 x.2.1, ())⟩
set_option maxHeartbeats 2000000 in
theorem F110_ok : Meets Tryz.prog 110 F110 := by
 refine meets_of_vc (C := mkC 76 [4] [0,1,3,4,5,6,7,10,24,34,41,61] [⟨192, _, F192_ok⟩, ⟨177, _, F177_ok⟩, ⟨178, _, F178_ok⟩]) (mkC_ok _ _ _ _) (fnOf_ok _) Tryz.func110 rfl rfl rfl (by decide) rfl ?_
 rintro ⟨(a0 : Int), a1, _⟩ hwf hpre ⟨P, C, B, X, w0, M0, pv⟩ hG rfl rfl
 show Vc _ _ [(0, ⟨0, 0, .c (.pure (.int .i64)) a0⟩), (1, ⟨0, 0, .c Z52 a1⟩)] _
 have hb : List.length a1.2.2.1 ≤ bigLen := hwf.2.1.2.2.1.1
 have hbm : List.length a1.2.1 ≤ bigLen := hwf.2.1.2.1.1
 refine Vc.seq (Vc.region hG rfl (by trivial) (Vc.seq (Vc.seq ?_)))
 refine Vc.region hG rfl (by trivial) ?_
 refine Vc.cond rfl (fun h0 => ?_) (fun h0 => ?_)
 · have g0 := notT' h0
   refine Vc.seq (Vc.region hG rfl (by trivial) (Vc.ret ?_))
   refine ⟨?_, trivial⟩
   exact rgBad g0
 · have hR : isRedF a1 = true := notF h0
   have hL := rdLens (isRed_iff.1 hR).1
   refine Vc.skip (Vc.seq (Vc.region hG rfl (by trivial) (Vc.seq ?_)))
   refine Vc.block ?_
   refine Vc.loopF [(5, false, .pure (.int .i64))] [0, 1, 3, 4, 6, 7, 10, 34, 41, 61] (fun v => tkInv (fun (x : Int) => x != a0) a1.2.1 v.1) (fun v => ((List.length a1.2.1 : Int) - v.1).toNat) rfl ?_ ?_
   · exact tkStart
   rintro ⟨(k : Int), _⟩ hQ
   have hQ : tkInv (fun (x : Int) => x != a0) a1.2.1 k := hQ
   refine Vc.seq (Vc.seq ?_)
   refine Vc.region hG rfl ?_ ?_
   · exact fun h => tkRange hQ (of_decide_eq_true h)
   refine Vc.cond rfl (fun h1 => ?_) (fun h1 => ?_)
   · have g1 : pick2 (decide (k < (List.length a1.2.1 : Int))) ((fun (x : Int) => x != a0) (List.getD a1.2.1 k.toNat (dflt TI))) false = true := h1
     refine Vc.skip (Vc.block (Vc.region hG rfl (by trivial) ?_))
     refine ⟨rfl, ?_⟩
     exact tkStepB (p := (fun (x : Int) => x != a0)) hQ hbm g1
   · have g1 : pick2 (decide (k < (List.length a1.2.1 : Int))) ((fun (x : Int) => x != a0) (List.getD a1.2.1 k.toNat (dflt TI))) false = false := h1
     have ek : k.toNat = redIdx a0 a1 := tkEnd (p := (fun (x : Int) => x != a0)) hQ g1
     refine Vc.exit (Vc.seq (Vc.region hG rfl (by trivial) (Vc.seq ?_)))
     refine Vc.seq (Vc.region hG rfl (by trivial) (Vc.block ?_))
     refine Vc.loopF [(6, false, .own (.pure (.int .i64))), (7, false, .pure (.int .i64))] [0, 1, 3, 5, 10, 24] (fun v => rgInv a0 a1 v.1 v.2.1) (fun v => ((List.length a1.2.2.1 : Int) - v.2.1).toNat) rfl ?_ ?_
     · exact rgStart
     rintro ⟨acc, (i : Int), _⟩ hI
     have hI : rgInv a0 a1 acc i := hI
     refine Vc.seq (Vc.seq (Vc.region hG rfl (by trivial) ?_))
     refine Vc.cond rfl (fun h2 => ?_) (fun h2 => ?_)
     · have hl : i < (List.length a1.2.2.1 : Int) := of_decide_eq_true h2
       have ri := rgRange hI hl
       have rp : inRange i (List.length a1.2.2.2.1) := ⟨ri.1, by have := ri.2; omega⟩
       have rs : inRange i (List.length a1.2.2.2.2.1) := ⟨ri.1, by have := ri.2; omega⟩
       have rg : inRange i (List.length a1.2.2.2.2.2) := ⟨ri.1, by have := ri.2; omega⟩
       have hA := rgLen hI hl hL.1
       have hk : i.toNat < List.length a1.2.2.1 := by have := ri.1; have := ri.2; omega
       refine Vc.skip (Vc.seq (Vc.block (Vc.seq ?_)))
       refine Vc.seq ?_
       refine Vc.region hG rfl ?_ ?_
       · exact ri
       refine Vc.cond rfl (fun h3 => ?_) (fun h3 => ?_)
       · have g3 : rdS a1 i.toNat = true := h3
         have st := rgStep hI hl hb (rgY g3) (fun _ => g3)
         refine Vc.seq ?_
         refine Vc.regionD mixed hG rfl (by kernel_rfl) ?_ ?_
         · exact ⟨rp, rs, red40 hR hk g3, hA⟩
         refine Vc.exit (Vc.region hG rfl (by trivial) ?_)
         refine ⟨rfl, ?_⟩
         exact st
       · have g3 : rdS a1 i.toNat = false := h3
         refine Vc.skip (Vc.seq (Vc.seq (Vc.region hG rfl (by trivial) ?_)))
         refine Vc.cond rfl (fun h4 => ?_) (fun h4 => ?_)
         · have q4 := beqI2 h4
           have g4 : redIdx a0 a1 = List.length a1.2.1 := by have := hQ.1; omega
           refine Vc.seq (Vc.region hG rfl (by trivial) (Vc.ret ?_))
           refine ⟨?_, trivial⟩
           exact rgHid hI hl g3 g4
         · have q4 := bneI' h4
           have g4 : redIdx a0 a1 ≠ List.length a1.2.1 := by have := hQ.1; omega
           have st := rgStep hI hl hb (rgN (a := k) g3 ek) (fun q => absurd q g4)
           refine Vc.skip ?_
           refine Vc.region hG rfl ?_ ?_
           · exact ⟨rg, rgIdx hR hI hl g3 hQ.1 ek g4, hA⟩
           refine Vc.region hG rfl (by trivial) ?_
           refine ⟨rfl, ?_⟩
           exact st
     · have hl : ¬ i < (List.length a1.2.2.1 : Int) := of_decide_eq_false h2
       refine Vc.exit (Vc.seq ?_)
       refine Vc.region hG rfl ?_ ?_
       · exact rgSmall hI hL.1
       refine Vc.ret ?_
       refine ⟨?_, trivial⟩
       exact rgEnd hI hl hR
noncomputable def F191 : Fun := ⟨[.pair Y23 Y62, .pair (.int .i64) Y46], [.own (.pure (.int .i64))], fun x => (fun (s : Strand) (_ : Red) => List.length s.2 ≤ 2000000) x.1 x.2.1, fun x => (redDigsF x.1 x.2.1, ())⟩
theorem F191_ok : Meets Tryz.prog 191 F191 := by
 refine meets_of_vc (C := mkC 27 [4] [0,1,2,3,4,5,6,12] [⟨110, _, F110_ok⟩]) (mkC_ok _ _ _ _) (fnOf_ok _) Tryz.func191 rfl rfl rfl (by decide) rfl ?_
 rintro ⟨a0, a1, _⟩ hwf hpre ⟨P, C, B, X, w0, M0, pv⟩ hG rfl rfl
 show Vc _ _ [(0, ⟨0, 0, .c Z68 a0⟩), (1, ⟨0, 0, .c Z52 a1⟩)] _
 have hs : List.length a0.2 ≤ 2000000 := hpre
 have hb : List.length a0.2 ≤ bigLen := hwf.1.2.1
 refine Vc.seq (Vc.region hG rfl (by trivial) (Vc.seq (Vc.region hG rfl (by trivial) ?_)))
 refine Vc.seq (Vc.seq (Vc.region hG rfl (by trivial) (Vc.block ?_)))
 refine Vc.loopF [(5, false, .own (.pure (.int .i64))), (6, false, .pure (.int .i64))] [0, 1, 2, 3, 4] (fun v => pkInv (rdgF a1) a0.2 v.1 v.2.1) (fun v => ((List.length a0.2 : Int) - v.2.1).toNat) rfl ?_ ?_
 · exact pkStart
 rintro ⟨acc, (i : Int), _⟩ hI
 have hI : pkInv (rdgF a1) a0.2 acc i := hI
 refine Vc.seq (Vc.seq (Vc.region hG rfl (by trivial) ?_))
 refine Vc.cond rfl (fun h0 => ?_) (fun h0 => ?_)
 · have hl : i < (List.length a0.2 : Int) := of_decide_eq_true h0
   refine Vc.skip (Vc.seq (Vc.block ?_))
   refine Vc.regionD mixed hG rfl (by kernel_rfl) ?_ ?_
   · exact ⟨pkRange hI hl, trivial, pkLen2 hI hs⟩
   refine Vc.region hG rfl (by trivial) ?_
   refine ⟨rfl, ?_⟩
   exact pkYes (d := dflt Y59) hI hl hb rfl
 · have hl : ¬ i < (List.length a0.2 : Int) := of_decide_eq_false h0
   refine Vc.exit (Vc.seq (Vc.region hG rfl (by trivial) (Vc.ret ?_)))
   refine ⟨?_, trivial⟩
   exact pkEnd hI hl
noncomputable def F109 : Fun := ⟨[.pair Y69 Y38, .pair (.int .i64) Y46], [.own Z0], fun x => (fun (e : Evidence) (_ : Red) => Sm big20 Y69 e.1) x.1 x.2.1, fun x => (allRedF x.1 x.2.1, ())⟩
theorem F109_ok : Meets Tryz.prog 109 F109 := by
 refine meets_of_vc (C := mkC 26 [4] [0,1,2,3,4,5,6,12] [⟨191, _, F191_ok⟩]) (mkC_ok _ _ _ _) (fnOf_ok _) Tryz.func109 rfl rfl rfl (by decide) rfl ?_
 rintro ⟨a0, a1, _⟩ hwf hpre ⟨P, C, B, X, w0, M0, pv⟩ hG rfl rfl
 show Vc _ _ [(0, ⟨0, 0, .c Z74 a0⟩), (1, ⟨0, 0, .c Z52 a1⟩)] _
 have hS : Sm big20 Y69 a0.1 := hpre
 have hs : List.length a0.1 ≤ 1048576 := hS.1
 have hb : List.length a0.1 ≤ bigLen := hwf.1.1.1
 refine Vc.seq (Vc.region hG rfl (by trivial) (Vc.seq (Vc.region hG rfl (by trivial) ?_)))
 refine Vc.seq (Vc.seq (Vc.region hG rfl (by trivial) (Vc.block ?_)))
 refine Vc.loopF [(5, false, .own Z0), (6, false, .pure (.int .i64))] [0, 1, 2, 3, 4] (fun v => pkInv (arF a1) a0.1 v.1 v.2.1) (fun v => ((List.length a0.1 : Int) - v.2.1).toNat) rfl ?_ ?_
 · exact pkStart
 rintro ⟨acc, (i : Int), _⟩ hI
 have hI : pkInv (arF a1) a0.1 acc i := hI
 refine Vc.seq (Vc.seq (Vc.region hG rfl (by trivial) ?_))
 refine Vc.cond rfl (fun h0 => ?_) (fun h0 => ?_)
 · have hl : i < (List.length a0.1 : Int) := of_decide_eq_true h0
   have r1 := pkRange hI hl
   have hE : List.length (List.getD a0.1 i.toNat (dflt Y66)).2 ≤ 2000000 := Nat.le_trans (hS.2 _ (getD_mem r1 _)).2.1 (by decide)
   refine Vc.skip (Vc.seq (Vc.block ?_))
   refine Vc.regionD mixed hG rfl (by kernel_rfl) ?_ ?_
   · exact ⟨r1, hE, pkLen hI hs⟩
   refine Vc.region hG rfl (by trivial) ?_
   refine ⟨rfl, ?_⟩
   exact pkYes (d := dflt Y66) hI hl hb rfl
 · have hl : ¬ i < (List.length a0.1 : Int) := of_decide_eq_false h0
   refine Vc.exit (Vc.seq (Vc.region hG rfl (by trivial) (Vc.ret ?_)))
   refine ⟨?_, trivial⟩
   exact pkEnd hI hl
noncomputable def F208 : Fun := ⟨[.int .i64], [.pure (.bool)], fun _ => True, fun x => (isTimeF x.1, ())⟩
theorem F208_ok : Meets Tryz.prog 208 F208 := by
 refine meets_of_vc (C := mkC 5 [2] [0,2] [⟨207, _, F207_ok⟩]) (mkC_ok _ _ _ _) (fnOf_ok _) Tryz.func208 rfl rfl rfl (by decide) rfl ?_
 rintro ⟨(a0 : Int), _⟩ hwf hpre ⟨P, C, B, X, w0, M0, pv⟩ hG rfl rfl
 show Vc _ _ [(0, ⟨0, 0, .c (.pure (.int .i64)) a0⟩)] _
 refine Vc.seq (Vc.region hG rfl (by trivial) (Vc.seq (Vc.region hG rfl (by trivial) ?_)))
 refine Vc.ret ?_
 refine ⟨?_, trivial⟩
 all_goals exact rfl
noncomputable def F308 : Fun := ⟨[.int .i64], [.pure (.bool)], fun _ => True, fun x => (validKeyF x.1, ())⟩
theorem F308_ok : Meets Tryz.prog 308 F308 := by
 refine meets_of_vc (C := mkC 5 [2] [0,2] [⟨207, _, F207_ok⟩]) (mkC_ok _ _ _ _) (fnOf_ok _) Tryz.func308 rfl rfl rfl (by decide) rfl ?_
 rintro ⟨(a0 : Int), _⟩ hwf hpre ⟨P, C, B, X, w0, M0, pv⟩ hG rfl rfl
 show Vc _ _ [(0, ⟨0, 0, .c (.pure (.int .i64)) a0⟩)] _
 refine Vc.seq (Vc.region hG rfl (by trivial) (Vc.seq (Vc.region hG rfl (by trivial) ?_)))
 refine Vc.ret ?_
 refine ⟨?_, trivial⟩
 all_goals exact rfl
noncomputable def F279 : Fun := ⟨[.pair (.int .i64) Y24], [.pure (.bool)], fun _ => True, fun x => (isKeyF x.1, ())⟩
theorem F279_ok : Meets Tryz.prog 279 F279 := by
 refine meets_of_vc (C := mkC 26 [2] [0,1,2] [⟨207, _, F207_ok⟩, ⟨208, _, F208_ok⟩, ⟨308, _, F308_ok⟩]) (mkC_ok _ _ _ _) (fnOf_ok _) Tryz.func279 rfl rfl rfl (by decide) rfl ?_
 rintro ⟨a0, _⟩ hwf hpre ⟨P, C, B, X, w0, M0, pv⟩ hG rfl rfl
 show Vc _ _ [(0, ⟨0, 0, .c Z33 a0⟩)] _
 refine Vc.seq (Vc.region hG rfl (by trivial) (Vc.seq ?_))
 refine Vc.region hG rfl ?_ ?_
 · repeat' (first | exact trivial | refine And.intro ?_ ?_ | intro _)
 refine Vc.ret ?_
 refine ⟨?_, trivial⟩
 all_goals exact rfl
noncomputable def F204 : Fun := ⟨[.slice Y32], [.pure (.bool)], fun _ => True, fun x => (areKeysF x.1, ())⟩
theorem F204_ok : Meets Tryz.prog 204 F204 := by
 refine meets_of_vc (C := mkC 37 [2] [0,2,3,7,33] [⟨279, _, F279_ok⟩]) (mkC_ok _ _ _ _) (fnOf_ok _) Tryz.func204 rfl rfl rfl (by decide) rfl ?_
 rintro ⟨a0, _⟩ hwf hpre ⟨P, C, B, X, w0, M0, pv⟩ hG rfl rfl
 show Vc _ _ [(0, ⟨0, 0, .c Z37 a0⟩)] _
 have hb : List.length a0 ≤ bigLen := hwf.1.1
 refine Vc.seq (Vc.region hG rfl (by trivial) (Vc.seq (Vc.seq ?_)))
 refine Vc.region hG rfl (by trivial) (Vc.block ?_)
 refine Vc.loopF [(3, false, .pure (.int .i64))] [0] (fun v => kInv (areG isKeyF (fun k => k.1) (dflt (TKey)) a0) a0 v.1) (fun v => ((List.length a0 : Int) - v.1).toNat) rfl ?_ ?_
 · exact kStart
 rintro ⟨(i : Int), _⟩ hI
 have hI : kInv (areG isKeyF (fun k => k.1) (dflt (TKey)) a0) a0 i := hI
 refine Vc.seq (Vc.seq (Vc.region hG rfl (by trivial) ?_))
 refine Vc.cond rfl (fun h0 => ?_) (fun h0 => ?_)
 · have hl : i < (List.length a0 : Int) := of_decide_eq_true h0
   refine Vc.skip (Vc.seq (Vc.block (Vc.seq ?_)))
   refine Vc.regionD mixed hG rfl (by kernel_rfl) ?_ ?_
   · repeat' (first | exact trivial | exact kRange hI hl | (intro _ h2; exact prevIdx (kRange hI hl) (of_decide_eq_true h2) hb) | (intro h2; exact prevIdx (kRange hI hl) (of_decide_eq_true h2) hb) | refine And.intro ?_ ?_ | intro _)
   refine Vc.cond rfl (fun h1 => ?_) (fun h1 => ?_)
   · have g1 : areT isKeyF (fun k => k.1) (dflt (TKey)) a0 i = true := h1
     refine Vc.seq (Vc.region hG rfl (by trivial) (Vc.ret ?_))
     refine ⟨?_, trivial⟩
     exact areBad (m := 12) hI hl hb g1
   · have g1 : areT isKeyF (fun k => k.1) (dflt (TKey)) a0 i = false := h1
     refine Vc.skip (Vc.region hG rfl (by trivial) ?_)
     refine ⟨rfl, ?_⟩
     exact areStep hI hl hb g1
 · have hl : ¬ i < (List.length a0 : Int) := of_decide_eq_false h0
   refine Vc.exit (Vc.seq (Vc.region hG rfl (by trivial) (Vc.ret ?_)))
   refine ⟨?_, trivial⟩
   exact areEnd (m := 12) hI hl
noncomputable def F205 : Fun := ⟨[.slice Y15], [.pure (.bool)], fun _ => True, fun x => (areAuthsF x.1, ())⟩
theorem F205_ok : Meets Tryz.prog 205 F205 := by
 refine meets_of_vc (C := mkC 56 [2] [0,2,3,7,52] [⟨207, _, F207_ok⟩]) (mkC_ok _ _ _ _) (fnOf_ok _) Tryz.func205 rfl rfl rfl (by decide) rfl ?_
 rintro ⟨a0, _⟩ hwf hpre ⟨P, C, B, X, w0, M0, pv⟩ hG rfl rfl
 show Vc _ _ [(0, ⟨0, 0, .c Z21 a0⟩)] _
 have hb : List.length a0 ≤ bigLen := hwf.1.1
 refine Vc.seq (Vc.region hG rfl (by trivial) (Vc.seq (Vc.seq ?_)))
 refine Vc.region hG rfl (by trivial) (Vc.block ?_)
 refine Vc.loopF [(3, false, .pure (.int .i64))] [0] (fun v => kInv (areG isAuthF (fun k => k.1) (dflt (TAuth)) a0) a0 v.1) (fun v => ((List.length a0 : Int) - v.1).toNat) rfl ?_ ?_
 · exact kStart
 rintro ⟨(i : Int), _⟩ hI
 have hI : kInv (areG isAuthF (fun k => k.1) (dflt (TAuth)) a0) a0 i := hI
 refine Vc.seq (Vc.seq (Vc.region hG rfl (by trivial) ?_))
 refine Vc.cond rfl (fun h0 => ?_) (fun h0 => ?_)
 · have hl : i < (List.length a0 : Int) := of_decide_eq_true h0
   refine Vc.skip (Vc.seq (Vc.block (Vc.seq ?_)))
   refine Vc.regionD mixed hG rfl (by kernel_rfl) ?_ ?_
   · repeat' (first | exact trivial | exact kRange hI hl | (intro _ h2; exact prevIdx (kRange hI hl) (of_decide_eq_true h2) hb) | (intro h2; exact prevIdx (kRange hI hl) (of_decide_eq_true h2) hb) | refine And.intro ?_ ?_ | intro _)
   refine Vc.cond rfl (fun h1 => ?_) (fun h1 => ?_)
   · have g1 : areT isAuthF (fun k => k.1) (dflt (TAuth)) a0 i = true := (nor3 _ _ _ _).symm.trans h1
     refine Vc.seq (Vc.region hG rfl (by trivial) (Vc.ret ?_))
     refine ⟨?_, trivial⟩
     exact areBad (m := 6) hI hl hb g1
   · have g1 : areT isAuthF (fun k => k.1) (dflt (TAuth)) a0 i = false := (nor3 _ _ _ _).symm.trans h1
     refine Vc.skip (Vc.region hG rfl (by trivial) ?_)
     refine ⟨rfl, ?_⟩
     exact areStep hI hl hb g1
 · have hl : ¬ i < (List.length a0 : Int) := of_decide_eq_false h0
   refine Vc.exit (Vc.seq (Vc.region hG rfl (by trivial) (Vc.ret ?_)))
   refine ⟨?_, trivial⟩
   exact areEnd (m := 6) hI hl
noncomputable def F280 : Fun := ⟨[.pair (.int .i64) Y15], [.pure (.bool)], fun _ => True, fun x => (isMethodF x.1, ())⟩
theorem F280_ok : Meets Tryz.prog 280 F280 := by
 refine meets_of_vc (C := mkC 35 [2] [0,1,2] [⟨207, _, F207_ok⟩, ⟨208, _, F208_ok⟩]) (mkC_ok _ _ _ _) (fnOf_ok _) Tryz.func280 rfl rfl rfl (by decide) rfl ?_
 rintro ⟨a0, _⟩ hwf hpre ⟨P, C, B, X, w0, M0, pv⟩ hG rfl rfl
 show Vc _ _ [(0, ⟨0, 0, .c Z26 a0⟩)] _
 refine Vc.seq (Vc.region hG rfl (by trivial) (Vc.seq ?_))
 refine Vc.region hG rfl ?_ ?_
 · repeat' (first | exact trivial | refine And.intro ?_ ?_ | intro _)
 refine Vc.ret ?_
 refine ⟨?_, trivial⟩
 all_goals exact rfl
noncomputable def F206 : Fun := ⟨[.slice Y24], [.pure (.bool)], fun _ => True, fun x => (areMethodsF x.1, ())⟩
theorem F206_ok : Meets Tryz.prog 206 F206 := by
 refine meets_of_vc (C := mkC 37 [2] [0,2,3,7,33] [⟨280, _, F280_ok⟩]) (mkC_ok _ _ _ _) (fnOf_ok _) Tryz.func206 rfl rfl rfl (by decide) rfl ?_
 rintro ⟨a0, _⟩ hwf hpre ⟨P, C, B, X, w0, M0, pv⟩ hG rfl rfl
 show Vc _ _ [(0, ⟨0, 0, .c Z30 a0⟩)] _
 have hb : List.length a0 ≤ bigLen := hwf.1.1
 refine Vc.seq (Vc.region hG rfl (by trivial) (Vc.seq (Vc.seq ?_)))
 refine Vc.region hG rfl (by trivial) (Vc.block ?_)
 refine Vc.loopF [(3, false, .pure (.int .i64))] [0] (fun v => kInv (areG isMethodF (fun k => k.1) (dflt (TMethod)) a0) a0 v.1) (fun v => ((List.length a0 : Int) - v.1).toNat) rfl ?_ ?_
 · exact kStart
 rintro ⟨(i : Int), _⟩ hI
 have hI : kInv (areG isMethodF (fun k => k.1) (dflt (TMethod)) a0) a0 i := hI
 refine Vc.seq (Vc.seq (Vc.region hG rfl (by trivial) ?_))
 refine Vc.cond rfl (fun h0 => ?_) (fun h0 => ?_)
 · have hl : i < (List.length a0 : Int) := of_decide_eq_true h0
   refine Vc.skip (Vc.seq (Vc.block (Vc.seq ?_)))
   refine Vc.regionD mixed hG rfl (by kernel_rfl) ?_ ?_
   · repeat' (first | exact trivial | exact kRange hI hl | (intro _ h2; exact prevIdx (kRange hI hl) (of_decide_eq_true h2) hb) | (intro h2; exact prevIdx (kRange hI hl) (of_decide_eq_true h2) hb) | refine And.intro ?_ ?_ | intro _)
   refine Vc.cond rfl (fun h1 => ?_) (fun h1 => ?_)
   · have g1 : areT isMethodF (fun k => k.1) (dflt (TMethod)) a0 i = true := h1
     refine Vc.seq (Vc.region hG rfl (by trivial) (Vc.ret ?_))
     refine ⟨?_, trivial⟩
     exact areBad (m := 8) hI hl hb g1
   · have g1 : areT isMethodF (fun k => k.1) (dflt (TMethod)) a0 i = false := h1
     refine Vc.skip (Vc.region hG rfl (by trivial) ?_)
     refine ⟨rfl, ?_⟩
     exact areStep hI hl hb g1
 · have hl : ¬ i < (List.length a0 : Int) := of_decide_eq_false h0
   refine Vc.exit (Vc.seq (Vc.region hG rfl (by trivial) (Vc.ret ?_)))
   refine ⟨?_, trivial⟩
   exact areEnd (m := 8) hI hl
noncomputable def F118 : Fun := ⟨[.pair Y34 Y58], [.pure (.bool)], fun _ => True, fun x => (isFrameF x.1, ())⟩
theorem F118_ok : Meets Tryz.prog 118 F118 := by
 refine meets_of_vc (C := mkC 26 [2] [0,1,2] [⟨204, _, F204_ok⟩, ⟨205, _, F205_ok⟩, ⟨206, _, F206_ok⟩, ⟨207, _, F207_ok⟩, ⟨208, _, F208_ok⟩]) (mkC_ok _ _ _ _) (fnOf_ok _) Tryz.func118 rfl rfl rfl (by decide) rfl ?_
 rintro ⟨a0, _⟩ hwf hpre ⟨P, C, B, X, w0, M0, pv⟩ hG rfl rfl
 show Vc _ _ [(0, ⟨0, 0, .c Z70 a0⟩)] _
 refine Vc.seq (Vc.region hG rfl (by trivial) (Vc.seq ?_))
 refine Vc.region hG rfl ?_ ?_
 · repeat' (first | exact trivial | refine And.intro ?_ ?_ | intro _)
 refine Vc.ret ?_
 refine ⟨?_, trivial⟩
 all_goals exact rfl
noncomputable def F55 : Fun := ⟨[.int .i64], [.pure Y24], fun _ => True, fun x => ((fun (r : Int) => ((3, r, (0, 0)) : Verdict)) x.1, ())⟩
theorem F55_ok : Meets Tryz.prog 55 F55 := by
 refine meets_of_vc (C := mkC 5 [2] [0,2] []) (mkC_ok _ _ _ _) (fnOf_ok _) Tryz.func55 rfl rfl rfl (by decide) rfl ?_
 rintro ⟨(a0 : Int), _⟩ hwf hpre ⟨P, C, B, X, w0, M0, pv⟩ hG rfl rfl
 show Vc _ _ [(0, ⟨0, 0, .c (.pure (.int .i64)) a0⟩)] _
 refine Vc.seq (Vc.region hG rfl (by trivial) (Vc.seq (Vc.region hG rfl (by trivial) ?_)))
 refine Vc.ret ?_
 refine ⟨?_, trivial⟩
 all_goals exact rfl
noncomputable def F119 : Fun := ⟨[.pair (.int .i64) Y49], [.pure (.bool)], fun _ => True, fun x => (isSigF x.1, ())⟩
theorem F119_ok : Meets Tryz.prog 119 F119 := by
 refine meets_of_vc (C := mkC 41 [2] [0,1,2] [⟨207, _, F207_ok⟩]) (mkC_ok _ _ _ _) (fnOf_ok _) Tryz.func119 rfl rfl rfl (by decide) rfl ?_
 rintro ⟨a0, _⟩ hwf hpre ⟨P, C, B, X, w0, M0, pv⟩ hG rfl rfl
 show Vc _ _ [(0, ⟨0, 0, .c Z55 a0⟩)] _
 refine Vc.seq (Vc.region hG rfl (by trivial) (Vc.seq ?_))
 refine Vc.region hG rfl ?_ ?_
 · repeat' (first | exact trivial | refine And.intro ?_ ?_ | intro _)
 refine Vc.ret ?_
 refine ⟨?_, trivial⟩
 all_goals exact rfl
noncomputable def F120 : Fun := ⟨[.int .i64], [.pure Y24], fun _ => True, fun x => ((fun (r : Int) => ((2, r, (0, 0)) : Verdict)) x.1, ())⟩
theorem F120_ok : Meets Tryz.prog 120 F120 := by
 refine meets_of_vc (C := mkC 5 [2] [0,2] []) (mkC_ok _ _ _ _) (fnOf_ok _) Tryz.func120 rfl rfl rfl (by decide) rfl ?_
 rintro ⟨(a0 : Int), _⟩ hwf hpre ⟨P, C, B, X, w0, M0, pv⟩ hG rfl rfl
 show Vc _ _ [(0, ⟨0, 0, .c (.pure (.int .i64)) a0⟩)] _
 refine Vc.seq (Vc.region hG rfl (by trivial) (Vc.seq (Vc.region hG rfl (by trivial) ?_)))
 refine Vc.ret ?_
 refine ⟨?_, trivial⟩
 all_goals exact rfl
noncomputable def F53 : Fun := ⟨[.slice Y32, .int .i64], [.pure (.int .i64)], fun _ => True, fun x => ((fun a0 a1 => findI (fun x => x.1 == a1) a0) x.1 x.2.1, ())⟩
theorem F53_ok : Meets Tryz.prog 53 F53 := by
 refine meets_of_vc (C := mkC 20 [4] [0,1,4,5,9,18] []) (mkC_ok _ _ _ _) (fnOf_ok _) Tryz.func53 rfl rfl rfl (by decide) rfl ?_
 rintro ⟨a0, (a1 : Int), _⟩ hwf hpre ⟨P, C, B, X, w0, M0, pv⟩ hG rfl rfl
 show Vc _ _ [(0, ⟨0, 0, .c Z37 a0⟩), (1, ⟨0, 0, .c (.pure (.int .i64)) a1⟩)] _
 have hb : List.length a0 ≤ bigLen := hwf.1.1
 refine Vc.seq (Vc.region hG rfl (by trivial) (Vc.seq (Vc.seq ?_)))
 refine Vc.region hG rfl (by trivial) (Vc.block ?_)
 refine Vc.loopF [(5, false, .pure (.int .i64))] [0, 1] (fun v => fInv (fun x => x.1 == a1) a0 v.1) (fun v => ((List.length a0 : Int) - v.1).toNat) rfl ?_ ?_
 · exact fStart
 rintro ⟨(i : Int), _⟩ hI
 have hI : fInv (fun x => x.1 == a1) a0 i := hI
 refine Vc.seq (Vc.seq (Vc.region hG rfl (by trivial) ?_))
 refine Vc.cond rfl (fun h0 => ?_) (fun h0 => ?_)
 · have hl : i < (List.length a0 : Int) := of_decide_eq_true h0
   refine Vc.skip (Vc.seq (Vc.block (Vc.seq ?_)))
   refine Vc.region hG rfl ?_ ?_
   · exact fRange hI hl
   refine Vc.cond rfl (fun h1 => ?_) (fun h1 => ?_)
   · have g1 : (fun x => x.1 == a1) (List.getD a0 i.toNat (dflt Y32)) = true := h1
     refine Vc.seq (Vc.region hG rfl (by trivial) (Vc.ret ?_))
     refine ⟨?_, trivial⟩
     exact fHit hI hl g1
   · have g1 : (fun x => x.1 == a1) (List.getD a0 i.toNat (dflt Y32)) = false := h1
     refine Vc.skip (Vc.region hG rfl (by trivial) ?_)
     refine ⟨rfl, ?_⟩
     exact fStep hI hl hb g1
 · have hl : ¬ i < (List.length a0 : Int) := of_decide_eq_false h0
   refine Vc.exit (Vc.seq (Vc.region hG rfl (by trivial) (Vc.ret ?_)))
   refine ⟨?_, trivial⟩
   exact fEnd hI hl
noncomputable def F124 : Fun := ⟨[.pair (.int .i64) Y49], [.own (.pure (.int .i64))], fun _ => True, fun x => (sigIntsF x.1, ())⟩
theorem F124_ok : Meets Tryz.prog 124 F124 := by
 refine meets_of_vc (C := mkC 20 [2] [0,1,2] []) (mkC_ok _ _ _ _) (fnOf_ok _) Tryz.func124 rfl rfl rfl (by decide) rfl ?_
 rintro ⟨a0, _⟩ hwf hpre ⟨P, C, B, X, w0, M0, pv⟩ hG rfl rfl
 show Vc _ _ [(0, ⟨0, 0, .c Z55 a0⟩)] _
 refine Vc.seq (Vc.region hG rfl (by trivial) (Vc.seq (Vc.region hG rfl (by trivial) ?_)))
 refine Vc.ret ?_
 refine ⟨?_, trivial⟩
 all_goals exact rfl
noncomputable def F309 : Fun := ⟨[.int .i64, .slice (.int .i64)], [.pure (.int .i64)], fun x => (fun (_ : Int) (l : List Int) => l.length ≤ 1000000001) x.1 x.2.1, fun x => (keyedF x.1 x.2.1, ())⟩
theorem F309_ok : Meets Tryz.prog 309 F309 := by
 refine meets_of_vc (C := mkC 13 [4] [0,1,4] [⟨263, _, F263_ok⟩]) (mkC_ok _ _ _ _) (fnOf_ok _) Tryz.func309 rfl rfl rfl (by decide) rfl ?_
 rintro ⟨(a0 : Int), a1, _⟩ hwf hpre ⟨P, C, B, X, w0, M0, pv⟩ hG rfl rfl
 show Vc _ _ [(0, ⟨0, 0, .c (.pure (.int .i64)) a0⟩), (1, ⟨0, 0, .c Z2 a1⟩)] _
 have hp : List.length a1 ≤ 1000000001 := hpre
 refine Vc.seq (Vc.region hG rfl (by trivial) (Vc.seq ?_))
 refine Vc.region hG rfl ?_ ?_
 · refine ⟨?_, ?_, trivial⟩
   · show 1 + List.length a1 ≤ maxApp
     unfold maxApp; omega
   · show (List.length a1 + 1) + 1 ≤ maxApp
     unfold maxApp; omega
 refine Vc.ret ?_
 refine ⟨?_, trivial⟩
 all_goals exact rfl
noncomputable def F281 : Fun := ⟨[.pair (.int .i64) Y24, .slice (.int .i64)], [.pure (.int .i64)], fun x => (fun (_ : Key) (l : List Int) => smallL l) x.1 x.2.1, fun x => (markWithF x.1 x.2.1, ())⟩
theorem F281_ok : Meets Tryz.prog 281 F281 := by
 refine meets_of_vc (C := mkC 13 [4] [0,1,2,4] [⟨309, _, F309_ok⟩]) (mkC_ok _ _ _ _) (fnOf_ok _) Tryz.func281 rfl rfl rfl (by decide) rfl ?_
 rintro ⟨a0, a1, _⟩ hwf hpre ⟨P, C, B, X, w0, M0, pv⟩ hG rfl rfl
 show Vc _ _ [(0, ⟨0, 0, .c Z33 a0⟩), (1, ⟨0, 0, .c Z2 a1⟩)] _
 have hp : List.length a1 ≤ 1000000000 := hpre
 refine Vc.seq (Vc.region hG rfl (by trivial) (Vc.seq ?_))
 refine Vc.regionD mixed hG rfl (by kernel_rfl) ?_ ?_
 · refine ⟨?_, ?_⟩
   · show 1 + List.length a1 ≤ maxApp
     unfold maxApp; omega
   · show List.length a1 + 1 ≤ 1000000001
     omega
 refine Vc.ret ?_
 refine ⟨?_, trivial⟩
 all_goals exact rfl
noncomputable def F209 : Fun := ⟨[.slice Y32, .int .i64, .slice (.int .i64), .int .i64], [.pure (.bool)], fun x => (fun (_ : List Key) (_ : Int) (l : List Int) (_ : Int) => smallL l) x.1 x.2.1 x.2.2.1 x.2.2.2.1, fun x => (checkMarkF x.1 x.2.1 x.2.2.1 x.2.2.2.1, ())⟩
theorem F209_ok : Meets Tryz.prog 209 F209 := by
 refine meets_of_vc (C := mkC 25 [8] [0,1,2,3,8,9] [⟨53, _, F53_ok⟩, ⟨281, _, F281_ok⟩]) (mkC_ok _ _ _ _) (fnOf_ok _) Tryz.func209 rfl rfl rfl (by decide) rfl ?_
 rintro ⟨a0, (a1 : Int), a2, (a3 : Int), _⟩ hwf hpre ⟨P, C, B, X, w0, M0, pv⟩ hG rfl rfl
 show Vc _ _ [(0, ⟨0, 0, .c Z37 a0⟩), (1, ⟨0, 0, .c (.pure (.int .i64)) a1⟩), (2, ⟨0, 0, .c Z2 a2⟩), (3, ⟨0, 0, .c (.pure (.int .i64)) a3⟩)] _
 have hp : smallL a2 := hpre
 refine Vc.seq (Vc.region hG rfl (by trivial) (Vc.seq (Vc.region hG rfl (by trivial) ?_)))
 refine Vc.seq ?_
 refine Vc.region hG rfl ?_ ?_
 · exact ⟨fun h => findRange (show ¬ keyI a0 a1 < 0 from by have : keyI a0 a1 ≥ 0 := of_decide_eq_true h; omega), fun _ => hp⟩
 refine Vc.ret ?_
 refine ⟨?_, trivial⟩
 all_goals exact rfl
noncomputable def F121 : Fun := ⟨[.slice Y32, .pair (.int .i64) Y49], [.pure (.bool)], fun _ => True, fun x => (checkSigF x.1 x.2.1, ())⟩
theorem F121_ok : Meets Tryz.prog 121 F121 := by
 refine meets_of_vc (C := mkC 17 [4] [0,1,3,4] [⟨119, _, F119_ok⟩, ⟨124, _, F124_ok⟩, ⟨209, _, F209_ok⟩]) (mkC_ok _ _ _ _) (fnOf_ok _) Tryz.func121 rfl rfl rfl (by decide) rfl ?_
 rintro ⟨a0, a1, _⟩ hwf hpre ⟨P, C, B, X, w0, M0, pv⟩ hG rfl rfl
 show Vc _ _ [(0, ⟨0, 0, .c Z37 a0⟩), (1, ⟨0, 0, .c Z55 a1⟩)] _
 refine Vc.seq (Vc.region hG rfl (by trivial) (Vc.seq ?_))
 refine Vc.regionD mixed hG rfl (by kernel_rfl) ?_ ?_
 · repeat' (first | exact trivial | exact smallLit (n := 9) rfl (by decide) | refine And.intro ?_ ?_ | intro _)
 refine Vc.ret ?_
 refine ⟨?_, trivial⟩
 all_goals exact rfl
noncomputable def F50 : Fun := ⟨[.pair Y34 Y58, .int .i64, .pair (.int .i64) Y49], [.pure Y24], fun _ => True, fun x => (formF x.1 x.2.1 x.2.2.1, ())⟩
theorem F50_ok : Meets Tryz.prog 50 F50 := by
 refine meets_of_vc (C := mkC 43 [6] [0,1,2,3,5,6,7,12,17,21,27,35] [⟨118, _, F118_ok⟩, ⟨55, _, F55_ok⟩, ⟨119, _, F119_ok⟩, ⟨120, _, F120_ok⟩, ⟨53, _, F53_ok⟩, ⟨121, _, F121_ok⟩]) (mkC_ok _ _ _ _) (fnOf_ok _) Tryz.func50 rfl rfl rfl (by decide) rfl ?_
 rintro ⟨a0, (a1 : Int), a2, _⟩ hwf hpre ⟨P, C, B, X, w0, M0, pv⟩ hG rfl rfl
 show Vc _ _ [(0, ⟨0, 0, .c Z70 a0⟩), (1, ⟨0, 0, .c (.pure (.int .i64)) a1⟩), (2, ⟨0, 0, .c Z55 a2⟩)] _
 refine Vc.seq (Vc.region hG rfl (by trivial) (Vc.seq (Vc.block ?_)))
 refine Vc.seq (Vc.region hG rfl (by trivial) ?_)
 refine Vc.cond rfl (fun h0 => ?_) (fun h0 => ?_)
 · refine Vc.seq (Vc.region hG rfl (by trivial) (Vc.ret ?_))
   refine ⟨?_, trivial⟩
   exact fo1 h0
 · refine Vc.seq (Vc.region hG rfl (by trivial) ?_)
   refine Vc.cond rfl (fun h1 => ?_) (fun h1 => ?_)
   · refine Vc.seq (Vc.region hG rfl (by trivial) (Vc.ret ?_))
     refine ⟨?_, trivial⟩
     exact fo2' h0 h1
   · refine Vc.seq (Vc.region hG rfl (by trivial) ?_)
     refine Vc.cond rfl (fun h2 => ?_) (fun h2 => ?_)
     · refine Vc.seq (Vc.region hG rfl (by trivial) (Vc.ret ?_))
       refine ⟨?_, trivial⟩
       exact fo3' h0 h1 h2
     · refine Vc.seq (Vc.region hG rfl (by trivial) ?_)
       refine Vc.cond rfl (fun h3 => ?_) (fun h3 => ?_)
       · refine Vc.seq (Vc.region hG rfl (by trivial) (Vc.ret ?_))
         refine ⟨?_, trivial⟩
         exact fo4 h0 h1 h2 h3
       · refine Vc.seq (Vc.region hG rfl (by trivial) ?_)
         refine Vc.cond rfl (fun h4 => ?_) (fun h4 => ?_)
         · refine Vc.seq (Vc.region hG rfl (by trivial) (Vc.ret ?_))
           refine ⟨?_, trivial⟩
           exact fo5 h0 h1 h2 h3 h4
         · refine Vc.seq (Vc.region hG rfl (by trivial) ?_)
           refine Vc.cond rfl (fun h5 => ?_) (fun h5 => ?_)
           · refine Vc.seq (Vc.region hG rfl (by trivial) (Vc.ret ?_))
             refine ⟨?_, trivial⟩
             exact fo6 h0 h1 h2 h3 h4 h5
           · refine Vc.skip (Vc.seq (Vc.region hG rfl (by trivial) (Vc.ret ?_)))
             refine ⟨?_, trivial⟩
             exact fo7 h0 h1 h2 h3 h4 h5
noncomputable def F52 : Fun := ⟨[.pair (.int .i64) Y49], [.pair (.pure (.int .i64)) Z16], fun _ => True, fun x => (signPieceF x.1, ())⟩
theorem F52_ok : Meets Tryz.prog 52 F52 := by
 refine meets_of_vc (C := mkC 10 [2] [0,1,2] [⟨124, _, F124_ok⟩]) (mkC_ok _ _ _ _) (fnOf_ok _) Tryz.func52 rfl rfl rfl (by decide) rfl ?_
 rintro ⟨a0, _⟩ hwf hpre ⟨P, C, B, X, w0, M0, pv⟩ hG rfl rfl
 show Vc _ _ [(0, ⟨0, 0, .c Z55 a0⟩)] _
 refine Vc.seq (Vc.region hG rfl (by trivial) (Vc.seq (Vc.regionD mixed hG rfl (by kernel_rfl) (by trivial) ?_)))
 refine Vc.ret ?_
 refine ⟨?_, trivial⟩
 all_goals exact rfl
noncomputable def F285 : Fun := ⟨[.slice (.int .i64), .slice (.int .i64)], [.pure (.bool)], fun _ => True, fun x => (eqC x.1 x.2.1, ())⟩
theorem F285_ok : Meets Tryz.prog 285 F285 := by
 refine meets_of_vc (C := mkC 26 [4] [0,1,4,5,10,14,25] []) (mkC_ok _ _ _ _) (fnOf_ok _) Tryz.func285 rfl rfl rfl (by decide) rfl ?_
 rintro ⟨a0, a1, _⟩ hwf hpre ⟨P, C, B, X, w0, M0, pv⟩ hG rfl rfl
 show Vc _ _ [(0, ⟨0, 0, .c Z2 a0⟩), (1, ⟨0, 0, .c Z2 a1⟩)] _
 have hb0 : List.length a0 ≤ bigLen := hwf.1.1
 refine Vc.seq (Vc.region hG rfl (by trivial) (Vc.seq (Vc.seq ?_)))
 refine Vc.region hG rfl (by trivial) ?_
 refine Vc.cond rfl (fun h0 => ?_) (fun h0 => ?_)
 · refine Vc.seq (Vc.region hG rfl (by trivial) (Vc.ret ?_))
   refine ⟨?_, trivial⟩
   refine eqC_no (fun e => ?_)
   have e : a0 = a1 := e
   have g : ((List.length a0 : Int) != (List.length a1 : Int)) = true := h0
   subst e
   exact bself g
 · have g0 : ((List.length a0 : Int) != (List.length a1 : Int)) = false := h0
   have f0_0 : List.length a0 = List.length a1 := (lenEq g0)
   refine Vc.skip (Vc.seq (Vc.seq (Vc.region hG rfl (by trivial) ?_)))
   refine Vc.block ?_
   refine Vc.loopF [(5, false, .pure (.int .i64))] [0, 1, 10] (fun v => eqInv a0 a1 v.1) (fun v => ((List.length a0 : Int) - v.1).toNat) rfl ?_ ?_
   · exact eqStart f0_0
   rintro ⟨(i0 : Int), _⟩ hI0
   have hI0 : eqInv a0 a1 i0 := hI0
   refine Vc.seq (Vc.seq (Vc.region hG rfl (by trivial) ?_))
   refine Vc.cond rfl (fun h1 => ?_) (fun h1 => ?_)
   · have hl0 : i0 < (List.length a0 : Int) := of_decide_eq_true h1
     refine Vc.skip (Vc.seq (Vc.block (Vc.seq ?_)))
     refine Vc.regionD mixed hG rfl (by kernel_rfl) ?_ ?_
     · exact ⟨(eqRange hI0 hl0).1, (eqRange hI0 hl0).2⟩
     refine Vc.cond rfl (fun h2 => ?_) (fun h2 => ?_)
     · refine Vc.seq (Vc.region hG rfl (by trivial) (Vc.ret ?_))
       refine ⟨?_, trivial⟩
       refine eqC_no (fun e => ?_)
       have e : a0 = a1 := e
       have g : ((List.getD a0 i0.toNat (dflt (.int .i64))) != (List.getD a1 i0.toNat (dflt (.int .i64)))) = true := h2
       subst e
       exact bself g
     · have g2 : ((List.getD a0 i0.toNat (dflt (.int .i64))) != (List.getD a1 i0.toNat (dflt (.int .i64)))) = false := h2
       have f2_0 : (List.getD a0 i0.toNat (dflt (.int .i64))) = (List.getD a1 i0.toNat (dflt (.int .i64))) := (bneI g2)
       have s0 : (List.getD a0 i0.toNat (dflt (.int .i64))) = (List.getD a1 i0.toNat (dflt (.int .i64))) := f2_0
       refine Vc.skip (Vc.region hG rfl (by trivial) ?_)
       refine ⟨rfl, ?_⟩
       exact ⟨eqStep (d := dflt (.int .i64)) hI0 hl0 hb0 s0, (upStep hI0.1 hl0 hb0).2.2⟩
   · have hl0 : ¬ i0 < (List.length a0 : Int) := of_decide_eq_false h1
     have e0 : a0 = a1 := eqEnd hI0 hl0
     refine Vc.exit (Vc.seq (Vc.region hG rfl (by trivial) (Vc.ret ?_)))
     refine ⟨?_, trivial⟩
     exact eqC_yes e0
noncomputable def F214 : Fun := ⟨[.pair (.int .i64) Y9, .pair (.int .i64) Y9], [.pure (.bool)], fun _ => True, fun x => (eqC x.1 x.2.1, ())⟩
theorem F214_ok : Meets Tryz.prog 214 F214 := by
 refine meets_of_vc (C := mkC 24 [4] [0,1,2,3,4] [⟨285, _, F285_ok⟩]) (mkC_ok _ _ _ _) (fnOf_ok _) Tryz.func214 rfl rfl rfl (by decide) rfl ?_
 rintro ⟨a0, a1, _⟩ hwf hpre ⟨P, C, B, X, w0, M0, pv⟩ hG rfl rfl
 show Vc _ _ [(0, ⟨0, 0, .c Z22 a0⟩), (1, ⟨0, 0, .c Z22 a1⟩)] _
 refine Vc.seq (Vc.region hG rfl (by trivial) (Vc.seq ?_))
 refine Vc.region hG rfl ?_ ?_
 · repeat' (first | exact trivial | refine And.intro ?_ ?_ | intro _)
 refine Vc.ret ?_
 refine ⟨?_, trivial⟩
 refine eqC_by (fun e => ?_) (fun e => ?_)
 · have e : (pick2 (pick2 (a0.1 == a1.1) (a0.2.2 == a1.2.2) false) (eqC a0.2.1 a1.2.1) false) = true := e
   have r_0 : a0.1 = a1.1 := (beqI2 (andT (andT e).1).1)
   have r_1 : a0.2.2 = a1.2.2 := (beqI2 (andT (andT e).1).2)
   have r_2 : a0.2.1 = a1.2.1 := (eqC_iff.1 (andT e).2)
   exact (Prod.ext r_0 (Prod.ext r_2 r_1))
 · have e : a0 = a1 := e
   subst e
   exact (yesAnd (yesAnd beqSelf beqSelf) (eqC_self _))
noncomputable def F210 : Fun := ⟨[.pair Y23 Y62, .pair (.int .i64) Y9], [.pure (.int .i64)], fun _ => True, fun x => ((fun a0 a1 => findI (fun x => eqC x a1) a0.1) x.1 x.2.1, ())⟩
theorem F210_ok : Meets Tryz.prog 210 F210 := by
 refine meets_of_vc (C := mkC 21 [4] [0,1,2,3,4,5,10,19] [⟨214, _, F214_ok⟩]) (mkC_ok _ _ _ _) (fnOf_ok _) Tryz.func210 rfl rfl rfl (by decide) rfl ?_
 rintro ⟨a0, a1, _⟩ hwf hpre ⟨P, C, B, X, w0, M0, pv⟩ hG rfl rfl
 show Vc _ _ [(0, ⟨0, 0, .c Z68 a0⟩), (1, ⟨0, 0, .c Z22 a1⟩)] _
 have hb : List.length a0.1 ≤ bigLen := hwf.1.1.1
 refine Vc.seq (Vc.region hG rfl (by trivial) (Vc.seq (Vc.seq ?_)))
 refine Vc.region hG rfl (by trivial) (Vc.block ?_)
 refine Vc.loopF [(5, false, .pure (.int .i64))] [0, 1, 2, 3] (fun v => fInv (fun x => eqC x a1) a0.1 v.1) (fun v => ((List.length a0.1 : Int) - v.1).toNat) rfl ?_ ?_
 · exact fStart
 rintro ⟨(i : Int), _⟩ hI
 have hI : fInv (fun x => eqC x a1) a0.1 i := hI
 refine Vc.seq (Vc.seq (Vc.region hG rfl (by trivial) ?_))
 refine Vc.cond rfl (fun h0 => ?_) (fun h0 => ?_)
 · have hl : i < (List.length a0.1 : Int) := of_decide_eq_true h0
   refine Vc.skip (Vc.seq (Vc.block (Vc.seq ?_)))
   refine Vc.regionD mixed hG rfl (by kernel_rfl) ?_ ?_
   · exact ⟨fRange hI hl, trivial⟩
   refine Vc.cond rfl (fun h1 => ?_) (fun h1 => ?_)
   · have g1 : (fun x => eqC x a1) (List.getD a0.1 i.toNat (dflt Y20)) = true := h1
     refine Vc.seq (Vc.region hG rfl (by trivial) (Vc.ret ?_))
     refine ⟨?_, trivial⟩
     exact fHit hI hl g1
   · have g1 : (fun x => eqC x a1) (List.getD a0.1 i.toNat (dflt Y20)) = false := h1
     refine Vc.skip (Vc.region hG rfl (by trivial) ?_)
     refine ⟨rfl, ?_⟩
     exact fStep hI hl hb g1
 · have hl : ¬ i < (List.length a0.1 : Int) := of_decide_eq_false h0
   refine Vc.exit (Vc.seq (Vc.region hG rfl (by trivial) (Vc.ret ?_)))
   refine ⟨?_, trivial⟩
   exact fEnd hI hl
noncomputable def F286 : Fun := ⟨[.slice Y15, .int .i64], [.pure (.int .i64)], fun _ => True, fun x => ((fun a0 a1 => findI (fun x => x.1 == a1) a0) x.1 x.2.1, ())⟩
theorem F286_ok : Meets Tryz.prog 286 F286 := by
 refine meets_of_vc (C := mkC 20 [4] [0,1,4,5,9,18] []) (mkC_ok _ _ _ _) (fnOf_ok _) Tryz.func286 rfl rfl rfl (by decide) rfl ?_
 rintro ⟨a0, (a1 : Int), _⟩ hwf hpre ⟨P, C, B, X, w0, M0, pv⟩ hG rfl rfl
 show Vc _ _ [(0, ⟨0, 0, .c Z21 a0⟩), (1, ⟨0, 0, .c (.pure (.int .i64)) a1⟩)] _
 have hb : List.length a0 ≤ bigLen := hwf.1.1
 refine Vc.seq (Vc.region hG rfl (by trivial) (Vc.seq (Vc.seq ?_)))
 refine Vc.region hG rfl (by trivial) (Vc.block ?_)
 refine Vc.loopF [(5, false, .pure (.int .i64))] [0, 1] (fun v => fInv (fun x => x.1 == a1) a0 v.1) (fun v => ((List.length a0 : Int) - v.1).toNat) rfl ?_ ?_
 · exact fStart
 rintro ⟨(i : Int), _⟩ hI
 have hI : fInv (fun x => x.1 == a1) a0 i := hI
 refine Vc.seq (Vc.seq (Vc.region hG rfl (by trivial) ?_))
 refine Vc.cond rfl (fun h0 => ?_) (fun h0 => ?_)
 · have hl : i < (List.length a0 : Int) := of_decide_eq_true h0
   refine Vc.skip (Vc.seq (Vc.block (Vc.seq ?_)))
   refine Vc.region hG rfl ?_ ?_
   · exact fRange hI hl
   refine Vc.cond rfl (fun h1 => ?_) (fun h1 => ?_)
   · have g1 : (fun x => x.1 == a1) (List.getD a0 i.toNat (dflt Y15)) = true := h1
     refine Vc.seq (Vc.region hG rfl (by trivial) (Vc.ret ?_))
     refine ⟨?_, trivial⟩
     exact fHit hI hl g1
   · have g1 : (fun x => x.1 == a1) (List.getD a0 i.toNat (dflt Y15)) = false := h1
     refine Vc.skip (Vc.region hG rfl (by trivial) ?_)
     refine ⟨rfl, ?_⟩
     exact fStep hI hl hb g1
 · have hl : ¬ i < (List.length a0 : Int) := of_decide_eq_false h0
   refine Vc.exit (Vc.seq (Vc.region hG rfl (by trivial) (Vc.ret ?_)))
   refine ⟨?_, trivial⟩
   exact fEnd hI hl
noncomputable def F132 : Fun := ⟨[.int .i64, .int .i64], [.pure (.int .i64)], fun _ => True, fun x => ((fun (a b : Int) => max a b) x.1 x.2.1, ())⟩
theorem F132_ok : Meets Tryz.prog 132 F132 := by
 refine meets_of_vc (C := mkC 10 [4] [0,1,4,7] []) (mkC_ok _ _ _ _) (fnOf_ok _) Tryz.func132 rfl rfl rfl (by decide) rfl ?_
 rintro ⟨(a0 : Int), (a1 : Int), _⟩ hwf hpre ⟨P, C, B, X, w0, M0, pv⟩ hG rfl rfl
 show Vc _ _ [(0, ⟨0, 0, .c (.pure (.int .i64)) a0⟩), (1, ⟨0, 0, .c (.pure (.int .i64)) a1⟩)] _
 refine Vc.seq (Vc.region hG rfl (by trivial) (Vc.seq (Vc.seq ?_)))
 refine Vc.region hG rfl (by trivial) ?_
 refine Vc.cond rfl (fun h0 => ?_) (fun h0 => ?_)
 · refine Vc.seq (Vc.region hG rfl (by trivial) (Vc.ret ?_))
   refine ⟨?_, trivial⟩
   exact maxT h0
 · refine Vc.skip (Vc.seq (Vc.region hG rfl (by trivial) (Vc.ret ?_)))
   refine ⟨?_, trivial⟩
   exact maxE h0
noncomputable def F122 : Fun := ⟨[.int .i64, .int .i64], [.pure (.int .i64)], fun _ => True, fun x => ((fun (a b : Int) => min a b) x.1 x.2.1, ())⟩
theorem F122_ok : Meets Tryz.prog 122 F122 := by
 refine meets_of_vc (C := mkC 10 [4] [0,1,4,7] []) (mkC_ok _ _ _ _) (fnOf_ok _) Tryz.func122 rfl rfl rfl (by decide) rfl ?_
 rintro ⟨(a0 : Int), (a1 : Int), _⟩ hwf hpre ⟨P, C, B, X, w0, M0, pv⟩ hG rfl rfl
 show Vc _ _ [(0, ⟨0, 0, .c (.pure (.int .i64)) a0⟩), (1, ⟨0, 0, .c (.pure (.int .i64)) a1⟩)] _
 refine Vc.seq (Vc.region hG rfl (by trivial) (Vc.seq (Vc.seq ?_)))
 refine Vc.region hG rfl (by trivial) ?_
 refine Vc.cond rfl (fun h0 => ?_) (fun h0 => ?_)
 · refine Vc.seq (Vc.region hG rfl (by trivial) (Vc.ret ?_))
   refine ⟨?_, trivial⟩
   exact minT h0
 · refine Vc.skip (Vc.seq (Vc.region hG rfl (by trivial) (Vc.ret ?_)))
   refine ⟨?_, trivial⟩
   exact minE h0
noncomputable def F230 : Fun := ⟨[.int .i64, .int .i64], [.pure Y4, .pure (.bool)], fun _ => True, fun x => ((makeSpanF x.1 x.2.1).1, (makeSpanF x.1 x.2.1).2, ())⟩
theorem F230_ok : Meets Tryz.prog 230 F230 := by
 refine meets_of_vc (C := mkC 19 [4, 5] [0,1,4,5,6,16] [⟨132, _, F132_ok⟩, ⟨122, _, F122_ok⟩]) (mkC_ok _ _ _ _) (fnOf_ok _) Tryz.func230 rfl rfl rfl (by decide) rfl ?_
 rintro ⟨(a0 : Int), (a1 : Int), _⟩ hwf hpre ⟨P, C, B, X, w0, M0, pv⟩ hG rfl rfl
 show Vc _ _ [(0, ⟨0, 0, .c (.pure (.int .i64)) a0⟩), (1, ⟨0, 0, .c (.pure (.int .i64)) a1⟩)] _
 refine Vc.seq (Vc.region hG rfl (by trivial) (Vc.seq (Vc.region hG rfl (by trivial) ?_)))
 refine Vc.seq (Vc.seq (Vc.region hG rfl (by trivial) ?_))
 refine Vc.cond rfl (fun h0 => ?_) (fun h0 => ?_)
 · have g0 : max 0 a0 > min 10000 a1 := of_decide_eq_true h0
   refine Vc.seq (Vc.region hG rfl (by trivial) (Vc.ret ?_))
   have e := mkSp0 g0
   refine ⟨?_, ?_, trivial⟩
   · exact (congrArg Prod.fst e).symm
   · exact (congrArg Prod.snd e).symm
 · have g0 : ¬ max 0 a0 > min 10000 a1 := of_decide_eq_false h0
   refine Vc.skip (Vc.seq (Vc.region hG rfl (by trivial) (Vc.ret ?_)))
   have e := mkSp1 g0
   refine ⟨?_, ?_, trivial⟩
   · exact (congrArg Prod.fst e).symm
   · exact (congrArg Prod.snd e).symm
noncomputable def F220 : Fun := ⟨[.slice Y15, .pair (.int .i64) Y24], [.pure Y4, .pure (.bool)], fun _ => True, fun x => ((stampSpanF x.1 x.2.1).1, (stampSpanF x.1 x.2.1).2, ())⟩
theorem F220_ok : Meets Tryz.prog 220 F220 := by
 refine meets_of_vc (C := mkC 47 [4, 5] [0,1,3,4,5,6,26] [⟨286, _, F286_ok⟩, ⟨208, _, F208_ok⟩, ⟨230, _, F230_ok⟩]) (mkC_ok _ _ _ _) (fnOf_ok _) Tryz.func220 rfl rfl rfl (by decide) rfl ?_
 rintro ⟨a0, a1, _⟩ hwf hpre ⟨P, C, B, X, w0, M0, pv⟩ hG rfl rfl
 show Vc _ _ [(0, ⟨0, 0, .c Z21 a0⟩), (1, ⟨0, 0, .c Z33 a1⟩)] _
 refine Vc.seq (Vc.region hG rfl (by trivial) (Vc.seq (Vc.region hG rfl (by trivial) ?_)))
 refine Vc.seq (Vc.seq ?_)
 refine Vc.region hG rfl ?_ ?_
 · exact ⟨fun h => findRange (of_decide_eq_false h), fun _ => trivial⟩
 refine Vc.cond rfl (fun h0 => ?_) (fun h0 => ?_)
 · have g0 : ssBad a0 a1 = true := h0
   refine Vc.seq (Vc.region hG rfl (by trivial) (Vc.ret ?_))
   have e := ss0 g0
   refine ⟨?_, ?_, trivial⟩
   · exact (congrArg Prod.fst e).symm
   · exact (congrArg Prod.snd e).symm
 · have g0 : ssBad a0 a1 = false := h0
   refine Vc.skip (Vc.seq ?_)
   refine Vc.regionD mixed hG rfl (by kernel_rfl) ?_ ?_
   · exact ⟨ssIdx g0, ssIdx g0, trivial⟩
   refine Vc.ret ?_
   have e := ss1 g0
   refine ⟨?_, ?_, trivial⟩
   · exact (congrArg Prod.fst e).symm
   · exact (congrArg Prod.snd e).symm
noncomputable def F137 : Fun := ⟨[.pair (.int .i64) (.int .i64)], [.pure (.bool)], fun _ => True, fun x => (isSpanF x.1, ())⟩
theorem F137_ok : Meets Tryz.prog 137 F137 := by
 refine meets_of_vc (C := mkC 18 [2] [0,1,2] [⟨208, _, F208_ok⟩]) (mkC_ok _ _ _ _) (fnOf_ok _) Tryz.func137 rfl rfl rfl (by decide) rfl ?_
 rintro ⟨a0, _⟩ hwf hpre ⟨P, C, B, X, w0, M0, pv⟩ hG rfl rfl
 show Vc _ _ [(0, ⟨0, 0, .c Z8 a0⟩)] _
 refine Vc.seq (Vc.region hG rfl (by trivial) (Vc.seq ?_))
 refine Vc.region hG rfl ?_ ?_
 · repeat' (first | exact trivial | refine And.intro ?_ ?_ | intro _)
 refine Vc.ret ?_
 refine ⟨?_, trivial⟩
 all_goals exact rfl
noncomputable def F313 : Fun := ⟨[.slice Y4, .int .i64], [.pure (.int .i64)], fun _ => True, fun x => (countAtF x.1 x.2.1, ())⟩
theorem F313_ok : Meets Tryz.prog 313 F313 := by
 refine meets_of_vc (C := mkC 39 [4] [0,1,4,5,6,10,35] [⟨137, _, F137_ok⟩]) (mkC_ok _ _ _ _) (fnOf_ok _) Tryz.func313 rfl rfl rfl (by decide) rfl ?_
 rintro ⟨a0, (a1 : Int), _⟩ hwf hpre ⟨P, C, B, X, w0, M0, pv⟩ hG rfl rfl
 show Vc _ _ [(0, ⟨0, 0, .c Z14 a0⟩), (1, ⟨0, 0, .c (.pure (.int .i64)) a1⟩)] _
 have hb : List.length a0 ≤ bigLen := hwf.1.1
 refine Vc.seq (Vc.region hG rfl (by trivial) (Vc.seq (Vc.region hG rfl (by trivial) ?_)))
 refine Vc.seq (Vc.seq (Vc.region hG rfl (by trivial) (Vc.block ?_)))
 refine Vc.loopF [(5, false, .pure (.int .i64)), (6, false, .pure (.int .i64))] [0, 1, 4] (fun v => foInv (cntStep a1) 0 a0 v.1 v.2.1) (fun v => ((List.length a0 : Int) - v.2.1).toNat) rfl ?_ ?_
 · exact foStart
 rintro ⟨(acc : Int), (i : Int), _⟩ hI
 have hI : foInv (cntStep a1) 0 a0 acc i := hI
 refine Vc.seq (Vc.seq (Vc.region hG rfl (by trivial) ?_))
 refine Vc.cond rfl (fun h0 => ?_) (fun h0 => ?_)
 · have hl : i < (List.length a0 : Int) := of_decide_eq_true h0
   refine Vc.skip (Vc.seq (Vc.block (Vc.seq ?_)))
   refine Vc.region hG rfl ?_ ?_
   · repeat' (first | exact trivial | exact foRange hI hl | refine And.intro ?_ ?_ | intro _)
   refine Vc.cond rfl (fun h1 => ?_) (fun h1 => ?_)
   · have g1 : inSp a1 (List.getD a0 i.toNat (dflt Y4)) = true := cntSpec.symm.trans h1
     have st := foStepE (d := dflt Y4) hI hl hb (cntY (n := acc) g1).symm
     refine Vc.region hG rfl (by trivial) (Vc.region hG rfl (by trivial) ?_)
     refine ⟨rfl, ?_⟩
     exact st
   · have g1 : inSp a1 (List.getD a0 i.toNat (dflt Y4)) = false := cntSpec.symm.trans h1
     have st := foStepE (d := dflt Y4) hI hl hb (cntN (n := acc) g1).symm
     refine Vc.skip (Vc.region hG rfl (by trivial) ?_)
     refine ⟨rfl, ?_⟩
     exact st
 · have hl : ¬ i < (List.length a0 : Int) := of_decide_eq_false h0
   refine Vc.exit (Vc.seq (Vc.region hG rfl (by trivial) (Vc.ret ?_)))
   refine ⟨?_, trivial⟩
   exact foEnd hI hl
noncomputable def F288 : Fun := ⟨[.slice Y4, .int .i64, .int .i64], [.pure (.bool)], fun _ => True, fun x => (supF x.1 x.2.1 x.2.2.1, ())⟩
theorem F288_ok : Meets Tryz.prog 288 F288 := by
 refine meets_of_vc (C := mkC 22 [6] [0,1,2,6] [⟨207, _, F207_ok⟩, ⟨313, _, F313_ok⟩]) (mkC_ok _ _ _ _) (fnOf_ok _) Tryz.func288 rfl rfl rfl (by decide) rfl ?_
 rintro ⟨a0, (a1 : Int), (a2 : Int), _⟩ hwf hpre ⟨P, C, B, X, w0, M0, pv⟩ hG rfl rfl
 show Vc _ _ [(0, ⟨0, 0, .c Z14 a0⟩), (1, ⟨0, 0, .c (.pure (.int .i64)) a1⟩), (2, ⟨0, 0, .c (.pure (.int .i64)) a2⟩)] _
 refine Vc.seq (Vc.region hG rfl (by trivial) (Vc.seq ?_))
 refine Vc.region hG rfl ?_ ?_
 · repeat' (first | exact trivial | refine And.intro ?_ ?_ | intro _)
 refine Vc.ret ?_
 refine ⟨?_, trivial⟩
 all_goals exact rfl
noncomputable def F224 : Fun := ⟨[.slice Y4, .int .i64], [.pure Y4, .pure (.bool)], fun _ => True, fun x => ((agreedF x.1 x.2.1).1, (agreedF x.1 x.2.1).2, ())⟩
theorem F224_ok : Meets Tryz.prog 224 F224 := by
 refine meets_of_vc (C := mkC 83 [4, 5] [0,1,4,5,6,7,8,14,19,49,69,78] [⟨207, _, F207_ok⟩, ⟨137, _, F137_ok⟩, ⟨288, _, F288_ok⟩, ⟨132, _, F132_ok⟩]) (mkC_ok _ _ _ _) (fnOf_ok _) Tryz.func224 rfl rfl rfl (by decide) rfl ?_
 rintro ⟨a0, (a1 : Int), _⟩ hwf hpre ⟨P, C, B, X, w0, M0, pv⟩ hG rfl rfl
 show Vc _ _ [(0, ⟨0, 0, .c Z14 a0⟩), (1, ⟨0, 0, .c (.pure (.int .i64)) a1⟩)] _
 have hb : List.length a0 ≤ bigLen := hwf.1.1
 refine Vc.seq (Vc.region hG rfl (by trivial) (Vc.seq (Vc.seq ?_)))
 refine Vc.region hG rfl (by trivial) ?_
 refine Vc.cond rfl (fun h0 => ?_) (fun h0 => ?_)
 · have g0 := h0
   refine Vc.seq (Vc.region hG rfl (by trivial) (Vc.ret ?_))
   have e := agBad g0
   refine ⟨?_, ?_, trivial⟩
   · exact (congrArg Prod.fst e).symm
   · exact (congrArg Prod.snd e).symm
 · have g0 := h0
   refine Vc.skip (Vc.seq (Vc.region hG rfl (by trivial) (Vc.seq ?_)))
   refine Vc.region hG rfl (by trivial) (Vc.seq (Vc.seq (Vc.region hG rfl (by trivial) ?_)))
   refine Vc.block ?_
   refine Vc.loopF [(6, false, .pure (.int .i64)), (7, false, .pure (.int .i64)), (8, false, .pure (.int .i64))] [0, 1, 4, 5, 14, 78] (fun v => aeInv a0 a1 v.1 v.2.1 v.2.2.1) (fun v => ((List.length a0 : Int) - v.2.2.1).toNat) rfl ?_ ?_
   · exact aeStart
   rintro ⟨(f : Int), (t : Int), (i : Int), _⟩ hI
   have hI : aeInv a0 a1 f t i := hI
   refine Vc.seq (Vc.seq (Vc.region hG rfl (by trivial) ?_))
   refine Vc.cond rfl (fun h1 => ?_) (fun h1 => ?_)
   · have hl : i < (List.length a0 : Int) := of_decide_eq_true h1
     refine Vc.skip (Vc.seq (Vc.block (Vc.seq ?_)))
     refine Vc.seq ?_
     refine Vc.region hG rfl ?_ ?_
     · repeat' (first | exact trivial | exact upRange hI.1 hl | refine And.intro ?_ ?_ | intro _)
     refine Vc.cond rfl (fun h2 => ?_) (fun h2 => ?_)
     · have g2 : aeA a0 a1 f (List.getD a0 i.toNat (dflt Y4)) = true := h2
       have e2 : (List.getD a0 i.toNat (dflt Y4)).1 = (if aeA a0 a1 f (List.getD a0 i.toNat (dflt Y4)) = true then (List.getD a0 i.toNat (dflt Y4)).1 else f) := by rw [if_pos g2]
       refine Vc.region hG rfl ?_ ?_
       · exact upRange hI.1 hl
       refine Vc.seq ?_
       refine Vc.region hG rfl ?_ ?_
       · repeat' (first | exact trivial | exact upRange hI.1 hl | refine And.intro ?_ ?_ | intro _)
       refine Vc.cond rfl (fun h3 => ?_) (fun h3 => ?_)
       · have g3 : aeB a0 a1 (List.getD a0 i.toNat (dflt Y4)) = true := h3
         have e3 : max t (List.getD a0 i.toNat (dflt Y4)).2 = (if aeB a0 a1 (List.getD a0 i.toNat (dflt Y4)) = true then max t (List.getD a0 i.toNat (dflt Y4)).2 else t) := by rw [if_pos g3]
         refine Vc.region hG rfl ?_ ?_
         · exact ⟨upRange hI.1 hl, trivial⟩
         refine Vc.region hG rfl (by trivial) ?_
         refine ⟨rfl, ?_⟩
         exact aeStep (d := dflt Y4) hI hl hb e2 e3
       · have g3 : aeB a0 a1 (List.getD a0 i.toNat (dflt Y4)) = false := h3
         have e3 : t = (if aeB a0 a1 (List.getD a0 i.toNat (dflt Y4)) = true then max t (List.getD a0 i.toNat (dflt Y4)).2 else t) := by rw [if_neg (by rw [g3]; decide)]
         refine Vc.skip (Vc.region hG rfl (by trivial) ?_)
         refine ⟨rfl, ?_⟩
         exact aeStep (d := dflt Y4) hI hl hb e2 e3
     · have g2 : aeA a0 a1 f (List.getD a0 i.toNat (dflt Y4)) = false := h2
       have e2 : f = (if aeA a0 a1 f (List.getD a0 i.toNat (dflt Y4)) = true then (List.getD a0 i.toNat (dflt Y4)).1 else f) := by rw [if_neg (by rw [g2]; decide)]
       refine Vc.skip (Vc.seq ?_)
       refine Vc.region hG rfl ?_ ?_
       · repeat' (first | exact trivial | exact upRange hI.1 hl | refine And.intro ?_ ?_ | intro _)
       refine Vc.cond rfl (fun h4 => ?_) (fun h4 => ?_)
       · have g3 : aeB a0 a1 (List.getD a0 i.toNat (dflt Y4)) = true := h4
         have e3 : max t (List.getD a0 i.toNat (dflt Y4)).2 = (if aeB a0 a1 (List.getD a0 i.toNat (dflt Y4)) = true then max t (List.getD a0 i.toNat (dflt Y4)).2 else t) := by rw [if_pos g3]
         refine Vc.region hG rfl ?_ ?_
         · exact ⟨upRange hI.1 hl, trivial⟩
         refine Vc.region hG rfl (by trivial) ?_
         refine ⟨rfl, ?_⟩
         exact aeStep (d := dflt Y4) hI hl hb e2 e3
       · have g3 : aeB a0 a1 (List.getD a0 i.toNat (dflt Y4)) = false := h4
         have e3 : t = (if aeB a0 a1 (List.getD a0 i.toNat (dflt Y4)) = true then max t (List.getD a0 i.toNat (dflt Y4)).2 else t) := by rw [if_neg (by rw [g3]; decide)]
         refine Vc.skip (Vc.region hG rfl (by trivial) ?_)
         refine ⟨rfl, ?_⟩
         exact aeStep (d := dflt Y4) hI hl hb e2 e3
   · have hl : ¬ i < (List.length a0 : Int) := of_decide_eq_false h1
     refine Vc.exit (Vc.seq (Vc.seq (Vc.region hG rfl (by trivial) ?_)))
     refine Vc.cond rfl (fun h5 => ?_) (fun h5 => ?_)
     · have g4 : f < 0 := of_decide_eq_true h5
       refine Vc.seq (Vc.region hG rfl (by trivial) (Vc.ret ?_))
       have e := aeNone hb hI hl g4
       refine ⟨?_, ?_, trivial⟩
       · exact (congrArg Prod.fst e).symm
       · exact (congrArg Prod.snd e).symm
     · have g4 : ¬ f < 0 := of_decide_eq_false h5
       refine Vc.skip (Vc.seq (Vc.region hG rfl (by trivial) (Vc.ret ?_)))
       have e := aeSome hb hI hl g4
       refine ⟨?_, ?_, trivial⟩
       · exact (congrArg Prod.fst e).symm
       · exact (congrArg Prod.snd e).symm
noncomputable def F283 : Fun := ⟨[.slice Y15, .pair (.int .i64) Y56, .int .i64], [.pure Y4, .pure (.bool)], fun x => (fun (_ : List Authority) (a1 : Renewal) (_ : Int) => List.length a1.2.2.2.2 ≤ 1048576) x.1 x.2.1 x.2.2.1, fun x => (((fun a0 a1 a2 => rsF a0 a1.2.2.2.2 a2) x.1 x.2.1 x.2.2.1).1, ((fun a0 a1 a2 => rsF a0 a1.2.2.2.2 a2) x.1 x.2.1 x.2.2.1).2, ())⟩
theorem F283_ok : Meets Tryz.prog 283 F283 := by
 refine meets_of_vc (C := mkC 42 [6, 7] [0,1,2,4,6,7,8,9,10,11,17,31] [⟨220, _, F220_ok⟩, ⟨224, _, F224_ok⟩]) (mkC_ok _ _ _ _) (fnOf_ok _) Tryz.func283 rfl rfl rfl (by decide) rfl ?_
 rintro ⟨a0, a1, (a2 : Int), _⟩ hwf hpre ⟨P, C, B, X, w0, M0, pv⟩ hG rfl rfl
 show Vc _ _ [(0, ⟨0, 0, .c Z21 a0⟩), (1, ⟨0, 0, .c Z60 a1⟩), (2, ⟨0, 0, .c (.pure (.int .i64)) a2⟩)] _
 have hs : List.length a1.2.2.2.2 ≤ 1048576 := hpre
 have hb : List.length a1.2.2.2.2 ≤ bigLen := by unfold bigLen; omega
 refine Vc.seq (Vc.region hG rfl (by trivial) (Vc.seq (Vc.region hG rfl (by trivial) ?_)))
 refine Vc.seq (Vc.seq (Vc.region hG rfl (by trivial) (Vc.block ?_)))
 refine Vc.loopF [(6, true, .pure Y4), (8, false, .own Z8), (9, false, .pure (.int .i64))] [0, 1, 2, 4] (fun v => rsInv a0 a1.2.2.2.2 v.2.1 v.2.2.1) (fun v => ((List.length a1.2.2.2.2 : Int) - v.2.2.1).toNat) rfl ?_ ?_
 · exact rsStart
 rintro ⟨r6, acc, (i : Int), _⟩ hI
 have hI : rsInv a0 a1.2.2.2.2 acc i := hI
 have hA : List.length acc ≤ 1048576 := Nat.le_trans (rsLen hI) hs
 refine Vc.seq (Vc.seq (Vc.region hG rfl (by trivial) ?_))
 refine Vc.cond rfl (fun h0 => ?_) (fun h0 => ?_)
 · have hl : i < (List.length a1.2.2.2.2 : Int) := of_decide_eq_true h0
   refine Vc.skip (Vc.seq (Vc.block (Vc.seq ?_)))
   refine Vc.region hG rfl ?_ ?_
   · exact ⟨rsRange hI hl, trivial⟩
   refine Vc.seq (Vc.seq (Vc.region hG rfl (by trivial) ?_))
   refine Vc.cond rfl (fun h1 => ?_) (fun h1 => ?_)
   · have g1 : ¬ rsP a0 (List.getD a1.2.2.2.2 i.toNat (dflt TStamp)) := fun q => nself q h1
     refine Vc.seq (Vc.region hG rfl (by trivial) (Vc.ret ?_))
     have e := rsBad (d := dflt TStamp) (liars := a2) hI hl g1
     refine ⟨?_, ?_, trivial⟩
     · exact congrArg (fun (q : Span × Bool) => q.1) e
     · exact congrArg (fun (q : Span × Bool) => q.2) e
   · have g1 : rsP a0 (List.getD a1.2.2.2.2 i.toNat (dflt TStamp)) := notF h1
     refine Vc.skip ?_
     refine Vc.region hG rfl ?_ ?_
     · show List.length acc + 1 ≤ maxApp
       unfold maxApp; omega
     refine Vc.region hG rfl (by trivial) ?_
     refine ⟨rfl, ?_⟩
     exact rsStep (d := dflt TStamp) hI hl hb g1
 · have hl : ¬ i < (List.length a1.2.2.2.2 : Int) := of_decide_eq_false h0
   refine Vc.exit (Vc.seq (Vc.region hG rfl (by trivial) (Vc.ret ?_)))
   have e := rsEnd (liars := a2) hI hl
   refine ⟨?_, ?_, trivial⟩
   · exact congrArg (fun (q : Span × Bool) => q.1) e
   · exact congrArg (fun (q : Span × Bool) => q.2) e
noncomputable def F125 : Fun := ⟨[.slice Y24, .int .i64], [.pure (.int .i64)], fun _ => True, fun x => ((fun a0 a1 => findI (fun x => x.1 == a1) a0) x.1 x.2.1, ())⟩
theorem F125_ok : Meets Tryz.prog 125 F125 := by
 refine meets_of_vc (C := mkC 20 [4] [0,1,4,5,9,18] []) (mkC_ok _ _ _ _) (fnOf_ok _) Tryz.func125 rfl rfl rfl (by decide) rfl ?_
 rintro ⟨a0, (a1 : Int), _⟩ hwf hpre ⟨P, C, B, X, w0, M0, pv⟩ hG rfl rfl
 show Vc _ _ [(0, ⟨0, 0, .c Z30 a0⟩), (1, ⟨0, 0, .c (.pure (.int .i64)) a1⟩)] _
 have hb : List.length a0 ≤ bigLen := hwf.1.1
 refine Vc.seq (Vc.region hG rfl (by trivial) (Vc.seq (Vc.seq ?_)))
 refine Vc.region hG rfl (by trivial) (Vc.block ?_)
 refine Vc.loopF [(5, false, .pure (.int .i64))] [0, 1] (fun v => fInv (fun x => x.1 == a1) a0 v.1) (fun v => ((List.length a0 : Int) - v.1).toNat) rfl ?_ ?_
 · exact fStart
 rintro ⟨(i : Int), _⟩ hI
 have hI : fInv (fun x => x.1 == a1) a0 i := hI
 refine Vc.seq (Vc.seq (Vc.region hG rfl (by trivial) ?_))
 refine Vc.cond rfl (fun h0 => ?_) (fun h0 => ?_)
 · have hl : i < (List.length a0 : Int) := of_decide_eq_true h0
   refine Vc.skip (Vc.seq (Vc.block (Vc.seq ?_)))
   refine Vc.region hG rfl ?_ ?_
   · exact fRange hI hl
   refine Vc.cond rfl (fun h1 => ?_) (fun h1 => ?_)
   · have g1 : (fun x => x.1 == a1) (List.getD a0 i.toNat (dflt Y24)) = true := h1
     refine Vc.seq (Vc.region hG rfl (by trivial) (Vc.ret ?_))
     refine ⟨?_, trivial⟩
     exact fHit hI hl g1
   · have g1 : (fun x => x.1 == a1) (List.getD a0 i.toNat (dflt Y24)) = false := h1
     refine Vc.skip (Vc.region hG rfl (by trivial) ?_)
     refine ⟨rfl, ?_⟩
     exact fStep hI hl hb g1
 · have hl : ¬ i < (List.length a0 : Int) := of_decide_eq_false h0
   refine Vc.exit (Vc.seq (Vc.region hG rfl (by trivial) (Vc.ret ?_)))
   refine ⟨?_, trivial⟩
   exact fEnd hI hl
noncomputable def F54 : Fun := ⟨[.slice Y24, .int .i64], [.pure (.int .i64)], fun _ => True, fun x => (breakF x.1 x.2.1, ())⟩
theorem F54_ok : Meets Tryz.prog 54 F54 := by
 refine meets_of_vc (C := mkC 16 [4] [0,1,4,5,10] [⟨125, _, F125_ok⟩]) (mkC_ok _ _ _ _) (fnOf_ok _) Tryz.func54 rfl rfl rfl (by decide) rfl ?_
 rintro ⟨a0, (a1 : Int), _⟩ hwf hpre ⟨P, C, B, X, w0, M0, pv⟩ hG rfl rfl
 show Vc _ _ [(0, ⟨0, 0, .c Z30 a0⟩), (1, ⟨0, 0, .c (.pure (.int .i64)) a1⟩)] _
 refine Vc.seq (Vc.region hG rfl (by trivial) (Vc.seq (Vc.region hG rfl (by trivial) ?_)))
 refine Vc.seq (Vc.seq (Vc.region hG rfl (by trivial) ?_))
 refine Vc.cond rfl (fun h0 => ?_) (fun h0 => ?_)
 · have g0 : methI a0 a1 < 0 := of_decide_eq_true h0
   refine Vc.seq (Vc.region hG rfl (by trivial) (Vc.ret ?_))
   refine ⟨?_, trivial⟩
   exact brk0 g0
 · have g0 : ¬ methI a0 a1 < 0 := of_decide_eq_false h0
   refine Vc.skip (Vc.seq ?_)
   refine Vc.region hG rfl ?_ ?_
   · exact findRange g0
   refine Vc.ret ?_
   refine ⟨?_, trivial⟩
   exact brk1 g0
noncomputable def F223 : Fun := ⟨[.slice Y15, .pair (.int .i64) Y24], [.pure (.int .i64)], fun _ => True, fun x => (stampKeyF x.1 x.2.1, ())⟩
theorem F223_ok : Meets Tryz.prog 223 F223 := by
 refine meets_of_vc (C := mkC 17 [4] [0,1,3,4,5,11] [⟨286, _, F286_ok⟩]) (mkC_ok _ _ _ _) (fnOf_ok _) Tryz.func223 rfl rfl rfl (by decide) rfl ?_
 rintro ⟨a0, a1, _⟩ hwf hpre ⟨P, C, B, X, w0, M0, pv⟩ hG rfl rfl
 show Vc _ _ [(0, ⟨0, 0, .c Z21 a0⟩), (1, ⟨0, 0, .c Z33 a1⟩)] _
 refine Vc.seq (Vc.region hG rfl (by trivial) (Vc.seq (Vc.region hG rfl (by trivial) ?_)))
 refine Vc.seq (Vc.seq (Vc.region hG rfl (by trivial) ?_))
 refine Vc.cond rfl (fun h0 => ?_) (fun h0 => ?_)
 · have g0 : authI a0 a1.1 < 0 := of_decide_eq_true h0
   refine Vc.seq (Vc.region hG rfl (by trivial) (Vc.ret ?_))
   refine ⟨?_, trivial⟩
   exact stampKey0 g0
 · have g0 : ¬ authI a0 a1.1 < 0 := of_decide_eq_false h0
   refine Vc.skip (Vc.seq ?_)
   refine Vc.region hG rfl ?_ ?_
   · exact findRange g0
   refine Vc.ret ?_
   refine ⟨?_, trivial⟩
   exact stampKey1 g0
noncomputable def F330 : Fun := ⟨[.slice Y32, .slice Y15, .slice Y24, .pair (.int .i64) Y56], [.pure (.int .i64)], fun _ => True, fun x => (rbF x.1 x.2.1 x.2.2.1 x.2.2.2.1, ())⟩
theorem F330_ok : Meets Tryz.prog 330 F330 := by
 refine meets_of_vc (C := mkC 44 [8] [0,1,2,3,7,8,9,10,11,20,33] [⟨54, _, F54_ok⟩, ⟨223, _, F223_ok⟩, ⟨53, _, F53_ok⟩, ⟨122, _, F122_ok⟩]) (mkC_ok _ _ _ _) (fnOf_ok _) Tryz.func330 rfl rfl rfl (by decide) rfl ?_
 rintro ⟨a0, a1, a2, a3, _⟩ hwf hpre ⟨P, C, B, X, w0, M0, pv⟩ hG rfl rfl
 show Vc _ _ [(0, ⟨0, 0, .c Z37 a0⟩), (1, ⟨0, 0, .c Z21 a1⟩), (2, ⟨0, 0, .c Z30 a2⟩), (3, ⟨0, 0, .c Z60 a3⟩)] _
 have hb : List.length a3.2.2.2.2 ≤ bigLen := hwf.2.2.2.1.2.2.2.2.1
 refine Vc.seq (Vc.region hG rfl (by trivial) (Vc.seq (Vc.region hG rfl (by trivial) ?_)))
 refine Vc.seq (Vc.seq (Vc.region hG rfl (by trivial) (Vc.block ?_)))
 refine Vc.loopF [(9, false, .pure (.int .i64)), (10, false, .pure (.int .i64))] [0, 1, 2, 3, 7] (fun v => efInv (rbBad a0 a1) (rbG a0 a1 a2) 0 (breakF a2 a3.2.1) a3.2.2.2.2 v.1 v.2.1) (fun v => ((List.length a3.2.2.2.2 : Int) - v.2.1).toNat) rfl ?_ ?_
 · exact efStart
 rintro ⟨(m : Int), (i : Int), _⟩ hI
 have hI : efInv (rbBad a0 a1) (rbG a0 a1 a2) 0 (breakF a2 a3.2.1) a3.2.2.2.2 m i := hI
 refine Vc.seq (Vc.seq (Vc.region hG rfl (by trivial) ?_))
 refine Vc.cond rfl (fun h0 => ?_) (fun h0 => ?_)
 · have hl : i < (List.length a3.2.2.2.2 : Int) := of_decide_eq_true h0
   refine Vc.skip (Vc.seq (Vc.block (Vc.seq ?_)))
   refine Vc.region hG rfl ?_ ?_
   · exact ⟨efRange hI hl, trivial, trivial⟩
   refine Vc.seq (Vc.seq (Vc.region hG rfl (by trivial) ?_))
   refine Vc.cond rfl (fun h1 => ?_) (fun h1 => ?_)
   · have g1 : rbBad a0 a1 (List.getD a3.2.2.2.2 i.toNat (dflt Y32)) = true := h1
     refine Vc.seq (Vc.region hG rfl (by trivial) (Vc.ret ?_))
     refine ⟨?_, trivial⟩
     exact efStop (d := dflt Y32) hI hl g1
   · have g1 : rbBad a0 a1 (List.getD a3.2.2.2.2 i.toNat (dflt Y32)) = false := h1
     have n1 : ¬ keyI a0 (stampKeyF a1 (List.getD a3.2.2.2.2 i.toNat (dflt Y32))) < 0 := of_decide_eq_false h1
     refine Vc.skip ?_
     refine Vc.region hG rfl ?_ ?_
     · exact ⟨findRange n1, trivial, trivial⟩
     refine Vc.region hG rfl (by trivial) ?_
     refine ⟨rfl, ?_⟩
     exact efStep (d := dflt Y32) hI hl hb g1
 · have hl : ¬ i < (List.length a3.2.2.2.2 : Int) := of_decide_eq_false h0
   refine Vc.exit (Vc.seq (Vc.region hG rfl (by trivial) (Vc.ret ?_)))
   refine ⟨?_, trivial⟩
   exact efEnd hI hl
noncomputable def F322 : Fun := ⟨[.pair Y34 Y58, .pair Y23 Y62, .int .i64], [.pure (.bool)], fun x => (fun (_ : Frame) (s : Strand) (_ : Int) => Sm big20 (.slice TPiece) s.1 ∧ ∀ r ∈ s.2, Sm big20 TRen r) x.1 x.2.1 x.2.2.1, fun x => (linkF x.1 x.2.1 x.2.2.1, ())⟩
theorem F322_ok : Meets Tryz.prog 322 F322 := by
 refine meets_of_vc (C := mkC 60 [6] [0,1,2,3,4,6,7,8,9,16,34] [⟨207, _, F207_ok⟩, ⟨330, _, F330_ok⟩, ⟨283, _, F283_ok⟩]) (mkC_ok _ _ _ _) (fnOf_ok _) Tryz.func322 rfl rfl rfl (by decide) rfl ?_
 rintro ⟨a0, a1, (a2 : Int), _⟩ hwf hpre ⟨P, C, B, X, w0, M0, pv⟩ hG rfl rfl
 show Vc _ _ [(0, ⟨0, 0, .c Z70 a0⟩), (1, ⟨0, 0, .c Z68 a1⟩), (2, ⟨0, 0, .c (.pure (.int .i64)) a2⟩)] _
 have hP : Sm big20 (.slice TPiece) a1.1 := hpre.1
 have hR : ∀ r ∈ a1.2, Sm big20 TRen r := hpre.2
 have hb : List.length a1.2 ≤ bigLen := hwf.2.1.2.1
 have hSt : ∀ k : Int, inRange k (List.length a1.2) → List.length (chAt a1 k).2.2.2.2 ≤ 1048576 := fun k hk => (hR _ (getD_mem hk (dflt TRen))).2.2.2.2.1
 refine Vc.seq (Vc.region hG rfl (by trivial) (Vc.seq (Vc.seq ?_)))
 refine Vc.region hG rfl (by trivial) ?_
 refine Vc.cond rfl (fun h0 => ?_) (fun h0 => ?_)
 · have g0 := h0
   refine Vc.seq (Vc.region hG rfl (by trivial) (Vc.ret ?_))
   refine ⟨?_, trivial⟩
   exact lk0 g0
 · have g0 := h0
   have k0 := laIdx g0 hb
   refine Vc.skip (Vc.seq ?_)
   refine Vc.regionD mixed hG rfl (by kernel_rfl) ?_ ?_
   · exact ⟨k0, trivial⟩
   refine Vc.seq (Vc.seq (Vc.region hG rfl (by trivial) ?_))
   refine Vc.cond rfl (fun h1 => ?_) (fun h1 => ?_)
   · have g1 := h1
     refine Vc.seq (Vc.region hG rfl (by trivial) (Vc.ret ?_))
     refine ⟨?_, trivial⟩
     exact lk1 g0 g1
   · have g1 := h1
     have k1 := lkNext g0 g1 hb
     refine Vc.skip (Vc.seq ?_)
     refine Vc.regionD mixed hG rfl (by kernel_rfl) ?_ ?_
     · exact ⟨k1, hSt _ k1⟩
     refine Vc.seq (Vc.region hG rfl (by trivial) (Vc.ret ?_))
     refine ⟨?_, trivial⟩
     exact lk2 g0 g1
noncomputable def F287 : Fun := ⟨[.pair (.int .i64) Y24], [.own (.pure (.int .i64))], fun _ => True, fun x => (stampIntsF x.1, ())⟩
theorem F287_ok : Meets Tryz.prog 287 F287 := by
 refine meets_of_vc (C := mkC 12 [2] [0,1,2] []) (mkC_ok _ _ _ _) (fnOf_ok _) Tryz.func287 rfl rfl rfl (by decide) rfl ?_
 rintro ⟨a0, _⟩ hwf hpre ⟨P, C, B, X, w0, M0, pv⟩ hG rfl rfl
 show Vc _ _ [(0, ⟨0, 0, .c Z33 a0⟩)] _
 refine Vc.seq (Vc.region hG rfl (by trivial) (Vc.seq (Vc.region hG rfl (by trivial) ?_)))
 refine Vc.ret ?_
 refine ⟨?_, trivial⟩
 all_goals exact rfl
end Fw
