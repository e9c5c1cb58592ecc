/- Walks of functions of the program: what each computes. Conditions: those that each contract names. -/
import Derived.Test.YtoccddagjnebbaaGreatW59T
namespace Fw
open Go Go.Proofs
set_option linter.unusedSimpArgs false
set_option maxRecDepth 100000
noncomputable def F194 : Fun := ⟨[.slice (.int .i64), .int .i64], [.pure (.int .i64)], fun _ => True, fun x => ((fun a0 a1 => findI (fun y => y == a1) a0) x.1 x.2.1, ())⟩
theorem F194_ok : Meets Tryz.prog 194 F194 := by
 refine meets_of_vc (C := mkC 19 [4] [0,1,4,5,6,7,8,9,10,16] []) (mkC_ok _ _ _ _) (fnOf_ok _) Tryz.func194 rfl rfl rfl (by decide) rfl ?_
 rintro ⟨a0, (a1 : Int), _⟩ hwf hpre ⟨P, C, B, X, w0, M0, pv⟩ hG rfl rfl
 show Vc _ _ [(0, ⟨0, 0, .c Z2 a0⟩), (1, ⟨0, 0, .c (.pure (.int .i64)) a1⟩)] _
 have hb : List.length a0 ≤ bigLen := hwf.1.1
 refine Vc.seq (Vc.region hG rfl (by trivial) (Vc.seq (Vc.seq ?_)))
 refine Vc.region hG rfl (by trivial) (Vc.block ?_)
 refine Vc.loopF [(9, false, .pure (.int .i64))] [0, 1, 7, 8] (fun v => fInv (fun y => y == a1) a0 v.1) (fun v => ((List.length a0 : Int) - v.1).toNat) rfl ?_ ?_
 · exact fStart
 rintro ⟨(i : Int), _⟩ hI
 have hI : fInv (fun y => y == a1) a0 i := hI
 refine Vc.seq (Vc.region hG rfl (by trivial) (Vc.seq ?_))
 refine Vc.cond rfl (fun h0 => ?_) (fun h0 => ?_)
 · have hl : i < (List.length a0 : Int) := of_decide_eq_true h0
   refine Vc.skip (Vc.seq (Vc.block (Vc.seq ?_)))
   refine Vc.region hG rfl ?_ ?_
   · exact fRange hI hl
   refine Vc.seq (Vc.region hG rfl (by trivial) ?_)
   refine Vc.cond rfl (fun h1 => ?_) (fun h1 => ?_)
   · have g1 : (fun y => y == a1) (List.getD a0 i.toNat (dflt (.int .i64))) = true := h1
     refine Vc.seq (Vc.region hG rfl (by trivial) (Vc.ret ?_))
     refine ⟨?_, trivial⟩
     exact fHit hI hl g1
   · have g1 : (fun y => y == a1) (List.getD a0 i.toNat (dflt (.int .i64))) = false := h1
     refine Vc.skip (Vc.region hG rfl (by trivial) ?_)
     refine ⟨rfl, ?_⟩
     exact fStep hI hl hb g1
 · have hl : ¬ i < (List.length a0 : Int) := of_decide_eq_false h0
   refine Vc.exit (Vc.seq (Vc.region hG rfl (by trivial) (Vc.ret ?_)))
   refine ⟨?_, trivial⟩
   exact fEnd hI hl
noncomputable def F147 : Fun := ⟨[.int .i64, .int .i64, .int .i64], [.pure (.bool)], fun _ => True, fun x => (inRangeF x.1 x.2.1 x.2.2.1, ())⟩
theorem F147_ok : Meets Tryz.prog 147 F147 := by
 refine meets_of_vc (C := mkC 15 [6] [0,1,2,6] []) (mkC_ok _ _ _ _) (fnOf_ok _) Tryz.func147 rfl rfl rfl (by decide) rfl ?_
 rintro ⟨(a0 : Int), (a1 : Int), (a2 : Int), _⟩ hwf hpre ⟨P, C, B, X, w0, M0, pv⟩ hG rfl rfl
 show Vc _ _ [(0, ⟨0, 0, .c (.pure (.int .i64)) a0⟩), (1, ⟨0, 0, .c (.pure (.int .i64)) a1⟩), (2, ⟨0, 0, .c (.pure (.int .i64)) a2⟩)] _
 refine Vc.seq (Vc.region hG rfl (by trivial) (Vc.seq (Vc.region hG rfl (by trivial) ?_)))
 refine Vc.ret ?_
 refine ⟨?_, trivial⟩
 all_goals exact rfl
noncomputable def F180 : Fun := ⟨[.pair (.int .i64) Y13], [.pure (.bool)], fun _ => True, fun x => (docF x.1, ())⟩
theorem F180_ok : Meets Tryz.prog 180 F180 := by
 refine meets_of_vc (C := mkC 46 [2] [0,1,2,3,4,24,26,27,28,29,44] [⟨147, _, F147_ok⟩]) (mkC_ok _ _ _ _) (fnOf_ok _) Tryz.func180 rfl rfl rfl (by decide) rfl ?_
 rintro ⟨a0, _⟩ hwf hpre ⟨P, C, B, X, w0, M0, pv⟩ hG rfl rfl
 show Vc _ _ [(0, ⟨0, 0, .c (.pure (.pair (.int .i64) Y13)) a0⟩)] _
 have hb0 : List.length a0.2.1 ≤ bigLen := hwf.1.2.1.1
 refine Vc.seq (Vc.region hG rfl (by trivial) (Vc.seq (Vc.seq ?_)))
 refine Vc.region hG rfl ?_ ?_
 · repeat' (first | exact trivial | refine And.intro ?_ ?_ | intro _)
 refine Vc.cond rfl (fun h0 => ?_) (fun h0 => ?_)
 · have g0 : pick2 (pick2 (!(inRangeF a0.1 0 999)) true (!(inRangeF (List.length a0.2.1 : Int) 1 6))) true ((List.length a0.2.2 : Int) != (List.length a0.2.1 : Int)) = true := h0
   refine Vc.seq (Vc.region hG rfl (by trivial) (Vc.ret ?_))
   refine ⟨?_, trivial⟩
   refine boolC_no (P := docP a0) (fun h => ?_)
   exact noOr (noOr (nself h.1) (nself h.2.1)) (lenNe h.2.2.1) g0
 · have g0 : pick2 (pick2 (!(inRangeF a0.1 0 999)) true (!(inRangeF (List.length a0.2.1 : Int) 1 6))) true ((List.length a0.2.2 : Int) != (List.length a0.2.1 : Int)) = false := h0
   have f0 : inRangeF a0.1 0 999 = true ∧ inRangeF (List.length a0.2.1 : Int) 1 6 = true ∧ List.length a0.2.2 = List.length a0.2.1 := ⟨notF (orF (orF g0).1).1, notF (orF (orF g0).1).2, lenEq (orF g0).2⟩
   refine Vc.skip (Vc.seq (Vc.seq (Vc.region hG rfl (by trivial) ?_)))
   refine Vc.block ?_
   refine Vc.loopF [(28, false, .pure (.int .i64))] [0, 1, 24, 26, 27] (fun v => kInv (fun k => (List.length (List.getD a0.2.1 k (dflt .str)) : Int) ≤ 40 ∧ inRangeF (List.getD a0.2.2 k (dflt (.int .i64))) 1 1000000000000 = true) a0.2.1 v.1) (fun v => ((List.length a0.2.1 : Int) - v.1).toNat) rfl ?_ ?_
   · exact kStart
   rintro ⟨(i : Int), _⟩ hI0
   have hI0 : kInv (fun k => (List.length (List.getD a0.2.1 k (dflt .str)) : Int) ≤ 40 ∧ inRangeF (List.getD a0.2.2 k (dflt (.int .i64))) 1 1000000000000 = true) a0.2.1 i := hI0
   refine Vc.seq (Vc.region hG rfl (by trivial) (Vc.seq ?_))
   refine Vc.cond rfl (fun h1 => ?_) (fun h1 => ?_)
   · have hl0 : i < (List.length a0.2.1 : Int) := of_decide_eq_true h1
     refine Vc.skip (Vc.seq (Vc.block (Vc.seq ?_)))
     refine Vc.region hG rfl ?_ ?_
     · exact kRange hI0 hl0
     refine Vc.seq ?_
     refine Vc.region hG rfl ?_ ?_
     · exact ⟨fun _ => (show inRange i (List.length a0.2.2) from by rw [f0.2.2]; exact kRange hI0 hl0), fun _ => trivial⟩
     refine Vc.cond rfl (fun h2 => ?_) (fun h2 => ?_)
     · have g2 : pick2 (decide ((List.length (List.getD a0.2.1 i.toNat (dflt .str)) : Int) > 40)) true (!(inRangeF (List.getD a0.2.2 i.toNat (dflt (.int .i64))) 1 1000000000000)) = true := h2
       refine Vc.seq (Vc.region hG rfl (by trivial) (Vc.ret ?_))
       refine ⟨?_, trivial⟩
       refine boolC_no (P := docP a0) (fun h => ?_)
       exact noOr (fun q => absurd (h.2.2.2.1 i.toNat (kLt hI0 hl0)) (Int.not_le.2 (of_decide_eq_true q))) (nself (h.2.2.2.2 i.toNat (by rw [h.2.2.1]; exact kLt hI0 hl0))) g2
     · have g2 : pick2 (decide ((List.length (List.getD a0.2.1 i.toNat (dflt .str)) : Int) > 40)) true (!(inRangeF (List.getD a0.2.2 i.toNat (dflt (.int .i64))) 1 1000000000000)) = false := h2
       have s0 : (fun k => (List.length (List.getD a0.2.1 k (dflt .str)) : Int) ≤ 40 ∧ inRangeF (List.getD a0.2.2 k (dflt (.int .i64))) 1 1000000000000 = true) i.toNat := ⟨Int.not_lt.1 (of_decide_eq_false (orF g2).1), notF (orF g2).2⟩
       refine Vc.skip (Vc.region hG rfl (by trivial) ?_)
       refine ⟨rfl, ?_⟩
       exact kStep hI0 hl0 hb0 s0
   · have hl0 : ¬ i < (List.length a0.2.1 : Int) := of_decide_eq_false h1
     refine Vc.exit (Vc.seq (Vc.region hG rfl (by trivial) (Vc.ret ?_)))
     refine ⟨?_, trivial⟩
     exact boolC_yes (P := docP a0) ⟨f0.1, f0.2.1, f0.2.2, fun k hk => (kEnd hI0 hl0 k hk).1, fun k hk => (kEnd hI0 hl0 k (by rw [← f0.2.2]; exact hk)).2⟩
noncomputable def F195 : Fun := ⟨[.pair (.int .i64) Y46], [.pure (.bool)], fun _ => True, fun x => (isRedF x.1, ())⟩
set_option maxHeartbeats 2000000 in
theorem F195_ok : Meets Tryz.prog 195 F195 := by
 refine meets_of_vc (C := mkC 113 [2] [0,1,2,3,4,5,6,33,38,39,40,41,45,52,98] [⟨147, _, F147_ok⟩, ⟨180, _, F180_ok⟩]) (mkC_ok _ _ _ _) (fnOf_ok _) Tryz.func195 rfl rfl rfl (by decide) rfl ?_
 rintro ⟨a0, _⟩ hwf hpre ⟨P, C, B, X, w0, M0, pv⟩ hG rfl rfl
 show Vc _ _ [(0, ⟨0, 0, .c Z52 a0⟩)] _
 have hb : List.length a0.2.2.1 ≤ bigLen := hwf.1.2.2.1.1
 refine Vc.seq (Vc.region hG rfl (by trivial) (Vc.seq (Vc.region hG rfl (by trivial) ?_)))
 refine Vc.seq (Vc.seq (Vc.region hG rfl (by trivial) ?_))
 refine Vc.cond rfl (fun h0 => ?_) (fun h0 => ?_)
 · have g0 : rdBad0 a0 = true := h0
   refine Vc.seq (Vc.region hG rfl (by trivial) (Vc.ret ?_))
   refine ⟨?_, trivial⟩
   exact irBad0 g0
 · have g0 : rdBad0 a0 = false := h0
   have hL := rdLens g0
   refine Vc.skip (Vc.seq (Vc.region hG rfl (by trivial) (Vc.seq ?_)))
   refine Vc.seq (Vc.region hG rfl (by trivial) (Vc.block ?_))
   refine Vc.loopF [(4, true, .pair (.pure (.int .i64)) (.pair (.own (.pure (.str))) Z0)), (40, false, .pure (.int .i64))] [0, 1, 3, 33, 38, 39] (fun v => irInv a0 v.1 v.2.1) (fun v => ((List.length a0.2.2.1 : Int) - v.2.1).toNat) rfl ?_ ?_
   · exact irStart
   rintro ⟨d, (i : Int), _⟩ hI
   have hI : irInv a0 d i := hI
   refine Vc.seq (Vc.region hG rfl (by trivial) (Vc.seq ?_))
   refine Vc.cond rfl (fun h1 => ?_) (fun h1 => ?_)
   · have hl : i < (List.length a0.2.2.1 : Int) := of_decide_eq_true h1
     have ri := irRange hI hl
     have rp : inRange i (List.length a0.2.2.2.1) := ⟨ri.1, by have := ri.2; omega⟩
     have rs : inRange i (List.length a0.2.2.2.2.1) := ⟨ri.1, by have := ri.2; omega⟩
     have rg : inRange i (List.length a0.2.2.2.2.2) := ⟨ri.1, by have := ri.2; omega⟩
     have hA := irLen hI hl hL.1
     refine Vc.skip (Vc.seq (Vc.block (Vc.seq ?_)))
     refine Vc.region hG rfl ?_ ?_
     · exact ri
     refine Vc.seq (Vc.region hG rfl (by trivial) ?_)
     refine Vc.cond rfl (fun h2 => ?_) (fun h2 => ?_)
     · have g2 : rdS a0 i.toNat = true := h2
       refine Vc.seq (Vc.seq ?_)
       refine Vc.region hG rfl ?_ ?_
       · exact rg
       refine Vc.cond rfl (fun h3 => ?_) (fun h3 => ?_)
       · have n3 : ¬ rowP a0 i.toNat := fun q => by have q2 := (rowY g2).2 q; have q3 : decide (((rdDg a0 i.toNat).length : Int) > 0) = true := h3; rw [q2] at q3; cases q3
         refine Vc.seq (Vc.region hG rfl (by trivial) (Vc.ret ?_))
         refine ⟨?_, trivial⟩
         exact irBad hI hl n3
       · have st := irY hI hl hb g2 ((rowY g2).1 h3)
         refine Vc.skip (Vc.seq ?_)
         refine Vc.regionD mixed hG rfl (by kernel_rfl) ?_ ?_
         · exact ⟨rp, hA.1⟩
         refine Vc.regionD mixed hG rfl (by kernel_rfl) ?_ ?_
         · exact ⟨rs, hA.2⟩
         refine Vc.region hG rfl (by trivial) ?_
         refine ⟨rfl, ?_⟩
         exact st
     · have g2 : rdS a0 i.toNat = false := h2
       refine Vc.seq ?_
       refine Vc.regionD mixed hG rfl (by kernel_rfl) ?_ ?_
       · repeat' (first | exact trivial | exact ri | exact rp | exact rs | exact rg | refine And.intro ?_ ?_ | intro _)
       refine Vc.cond rfl (fun h4 => ?_) (fun h4 => ?_)
       · have n4 : ¬ rowP a0 i.toNat := fun q => by have q2 := (rowN g2).2 q; have q3 : pick2 (pick2 (rdPt a0 i.toNat != []) true (rdSl a0 i.toNat != 0)) true (((rdDg a0 i.toNat).length : Int) != (List.length a0.2.1 : Int)) = true := h4; rw [q2] at q3; cases q3
         refine Vc.seq (Vc.region hG rfl (by trivial) (Vc.ret ?_))
         refine ⟨?_, trivial⟩
         exact irBad hI hl n4
       · have st := irN hI hl hb g2 ((rowN g2).1 h4)
         refine Vc.skip (Vc.region hG rfl (by trivial) ?_)
         refine ⟨rfl, ?_⟩
         exact st
   · have hl : ¬ i < (List.length a0.2.2.1 : Int) := of_decide_eq_false h1
     refine Vc.exit (Vc.seq ?_)
     refine Vc.region hG rfl ?_ ?_
     · repeat' (first | exact trivial | refine And.intro ?_ ?_ | intro _)
     refine Vc.ret ?_
     refine ⟨?_, trivial⟩
     exact irEnd g0 hI hl
noncomputable def F196 : Fun := ⟨[.pair (.int .i64) Y46], [.pure (.int .i64)], fun _ => True, fun x => (cshF x.1, ())⟩
theorem F196_ok : Meets Tryz.prog 196 F196 := by
 refine meets_of_vc (C := mkC 18 [2] [0,1,2,3,5,7,8,9,10,13] []) (mkC_ok _ _ _ _) (fnOf_ok _) Tryz.func196 rfl rfl rfl (by decide) rfl ?_
 rintro ⟨a0, _⟩ hwf hpre ⟨P, C, B, X, w0, M0, pv⟩ hG rfl rfl
 show Vc _ _ [(0, ⟨0, 0, .c Z52 a0⟩)] _
 have hb : List.length a0.2.2.1 ≤ bigLen := hwf.1.2.2.1.1
 refine Vc.seq (Vc.region hG rfl (by trivial) (Vc.seq (Vc.region hG rfl (by trivial) ?_)))
 refine Vc.seq (Vc.seq (Vc.region hG rfl (by trivial) (Vc.block ?_)))
 refine Vc.loopF [(3, false, .pure (.int .i64)), (9, false, .pure (.int .i64))] [0, 1, 2, 7, 8] (fun v => foInv cshG 0 a0.2.2.1 v.1 v.2.1) (fun v => ((List.length a0.2.2.1 : Int) - v.2.1).toNat) rfl ?_ ?_
 · exact foStart
 rintro ⟨(n : Int), (i : Int), _⟩ hI
 have hI : foInv cshG 0 a0.2.2.1 n i := hI
 refine Vc.seq (Vc.region hG rfl (by trivial) (Vc.seq ?_))
 refine Vc.cond rfl (fun h0 => ?_) (fun h0 => ?_)
 · have hl : i < (List.length a0.2.2.1 : Int) := of_decide_eq_true h0
   refine Vc.skip (Vc.seq (Vc.block (Vc.seq ?_)))
   refine Vc.region hG rfl ?_ ?_
   · exact foRange hI hl
   refine Vc.seq (Vc.region hG rfl (by trivial) ?_)
   refine Vc.cond rfl (fun h1 => ?_) (fun h1 => ?_)
   · have st := foStepE (d := dflt .bool) hI hl hb (cshY (n := n) h1)
     refine Vc.region hG rfl (by trivial) (Vc.region hG rfl (by trivial) ?_)
     refine ⟨rfl, ?_⟩
     exact st
   · have st := foStepE (d := dflt .bool) hI hl hb (cshN (n := n) h1)
     refine Vc.skip (Vc.region hG rfl (by trivial) ?_)
     refine ⟨rfl, ?_⟩
     exact st
 · have hl : ¬ i < (List.length a0.2.2.1 : Int) := of_decide_eq_false h0
   refine Vc.exit (Vc.seq (Vc.region hG rfl (by trivial) (Vc.ret ?_)))
   refine ⟨?_, trivial⟩
   exact foEnd hI hl
noncomputable def F264 : Fun := ⟨[.slice (.int .u8)], [.own (.pure (.int .i64))], fun x => (fun (l : List Int) => l.length ≤ 40) x.1, fun x => (bytesF x.1, ())⟩
theorem F264_ok : Meets Tryz.prog 264 F264 := by
 refine meets_of_vc (C := mkC 19 [2] [0,2,3,5,6,7,8,9] []) (mkC_ok _ _ _ _) (fnOf_ok _) Tryz.func264 rfl rfl rfl (by decide) rfl ?_
 rintro ⟨a0, _⟩ hwf hpre ⟨P, C, B, X, w0, M0, pv⟩ hG rfl rfl
 show Vc _ _ [(0, ⟨0, 0, .c (.pure (.slice (.int .u8))) a0⟩)] _
 have hp : List.length a0 ≤ 40 := hpre
 have hb : List.length a0 ≤ bigLen := hwf.1.1
 refine Vc.seq (Vc.region hG rfl (by trivial) (Vc.seq (Vc.region hG rfl (by trivial) ?_)))
 refine Vc.seq (Vc.seq (Vc.region hG rfl (by trivial) (Vc.block ?_)))
 refine Vc.loopF [(3, false, .own (.pure (.int .i64))), (8, false, .pure (.int .i64))] [0, 2, 6, 7] (fun v => gsInv (byteG a0) [] a0 v.1 v.2.1) (fun v => ((List.length a0 : Int) - v.2.1).toNat) rfl ?_ ?_
 · exact gsStart
 rintro ⟨acc, (i : Int), _⟩ hI
 have hI : gsInv (byteG a0) [] a0 acc i := hI
 have hA : List.length acc ≤ 40 := gsLen (c := 1) (m := 40) hI (fun _ => Nat.le_refl _) hp (by simp)
 refine Vc.seq (Vc.region hG rfl (by trivial) (Vc.seq ?_))
 refine Vc.cond rfl (fun h0 => ?_) (fun h0 => ?_)
 · have hl : i < (List.length a0 : Int) := of_decide_eq_true h0
   refine Vc.skip (Vc.seq (Vc.block (Vc.seq ?_)))
   refine Vc.region hG rfl ?_ ?_
   · exact gsRange hI hl
   refine Vc.region hG rfl ?_ ?_
   · exact (show List.length acc + 1 ≤ maxApp from by unfold maxApp; omega)
   refine Vc.region hG rfl (by trivial) ?_
   refine ⟨rfl, ?_⟩
   exact gsStep hI hl hb rfl
 · have hl : ¬ i < (List.length a0 : Int) := of_decide_eq_false h0
   refine Vc.exit (Vc.seq (Vc.region hG rfl (by trivial) (Vc.ret ?_)))
   refine ⟨?_, trivial⟩
   exact gsEnd hI hl
noncomputable def F304 : Fun := ⟨[.int .i64, .int .i64], [.pure (.int .i64)], fun _ => True, fun x => (modF x.1 x.2.1, ())⟩
theorem F304_ok : Meets Tryz.prog 304 F304 := by
 refine meets_of_vc (C := mkC 15 [4] [0,1,4,7] [⟨147, _, F147_ok⟩]) (mkC_ok _ _ _ _) (fnOf_ok _) Tryz.func304 rfl rfl rfl (by decide) rfl ?_
 rintro ⟨(a0 : Int), (a1 : Int), _⟩ hwf hpre ⟨P, C, B, X, w0, M0, pv⟩ hG rfl rfl
 show Vc _ _ [(0, ⟨0, 0, .c (.pure (.int .i64)) a0⟩), (1, ⟨0, 0, .c (.pure (.int .i64)) a1⟩)] _
 refine Vc.seq (Vc.region hG rfl (by trivial) (Vc.seq (Vc.seq ?_)))
 refine Vc.region hG rfl (by trivial) ?_
 refine Vc.cond rfl (fun h0 => ?_) (fun h0 => ?_)
 · have g0 : (!(inRangeF a1 1 1000000000000)) = true := h0
   refine Vc.seq (Vc.region hG rfl (by trivial) (Vc.ret ?_))
   refine ⟨?_, trivial⟩
   show (0 : Int) = modF a0 a1
   unfold modF
   rw [if_neg (by simpa using g0)]
 · have g0 : (!(inRangeF a1 1 1000000000000)) = false := h0
   refine Vc.skip (Vc.seq ?_)
   refine Vc.region hG rfl ?_ ?_
   · exact ⟨inR_pos h0, inR_pos h0⟩
   refine Vc.ret ?_
   refine ⟨?_, trivial⟩
   show _ = modF a0 a1
   unfold modF
   rw [if_pos (by simpa using g0)]
noncomputable def F265 : Fun := ⟨[.slice (.int .i64)], [.pure (.int .i64)], fun _ => True, fun x => (hashF x.1, ())⟩
theorem F265_ok : Meets Tryz.prog 265 F265 := by
 refine meets_of_vc (C := mkC 21 [2] [0,2,3,5,6,7,8,9] [⟨304, _, F304_ok⟩]) (mkC_ok _ _ _ _) (fnOf_ok _) Tryz.func265 rfl rfl rfl (by decide) rfl ?_
 rintro ⟨a0, _⟩ hwf hpre ⟨P, C, B, X, w0, M0, pv⟩ hG rfl rfl
 show Vc _ _ [(0, ⟨0, 0, .c Z2 a0⟩)] _
 have hb : List.length a0 ≤ bigLen := hwf.1.1
 refine Vc.seq (Vc.region hG rfl (by trivial) (Vc.seq (Vc.region hG rfl (by trivial) ?_)))
 refine Vc.seq (Vc.seq (Vc.region hG rfl (by trivial) (Vc.block ?_)))
 refine Vc.loopF [(3, false, .pure (.int .i64)), (8, false, .pure (.int .i64))] [0, 2, 6, 7] (fun v => foInv (hstep) (11) a0 v.1 v.2.1) (fun v => ((List.length a0 : Int) - v.2.1).toNat) rfl ?_ ?_
 · exact foStart
 rintro ⟨acc, (i : Int), _⟩ hI
 have hI : foInv (hstep) (11) a0 acc i := hI
 refine Vc.seq (Vc.region hG rfl (by trivial) (Vc.seq ?_))
 refine Vc.cond rfl (fun h0 => ?_) (fun h0 => ?_)
 · have hl : i < (List.length a0 : Int) := of_decide_eq_true h0
   refine Vc.skip (Vc.seq (Vc.block (Vc.seq ?_)))
   refine Vc.region hG rfl ?_ ?_
   · exact foRange hI hl
   refine Vc.region hG rfl ?_ ?_
   · exact ⟨trivial, (show (2147483647 : Int) ≠ 0 by decide)⟩
   refine Vc.region hG rfl (by trivial) ?_
   refine ⟨rfl, ?_⟩
   exact foStep hI hl hb
 · have hl : ¬ i < (List.length a0 : Int) := of_decide_eq_false h0
   refine Vc.exit (Vc.seq (Vc.region hG rfl (by trivial) (Vc.ret ?_)))
   refine ⟨?_, trivial⟩
   exact foEnd hI hl
noncomputable def F182 : Fun := ⟨[.int .i64, .slice (.int .i64)], [.pure (.int .i64)], fun x => (fun (_ : Int) (l : List Int) => smallL l) x.1 x.2.1, fun x => (digestF x.1 x.2.1, ())⟩
theorem F182_ok : Meets Tryz.prog 182 F182 := by
 refine meets_of_vc (C := mkC 10 [4] [0,1,4] [⟨265, _, F265_ok⟩]) (mkC_ok _ _ _ _) (fnOf_ok _) Tryz.func182 rfl rfl rfl (by decide) rfl ?_
 rintro ⟨(a0 : Int), a1, _⟩ hwf hpre ⟨P, C, B, X, w0, M0, pv⟩ hG rfl rfl
 show Vc _ _ [(0, ⟨0, 0, .c (.pure (.int .i64)) a0⟩), (1, ⟨0, 0, .c Z2 a1⟩)] _
 have hp : List.length a1 ≤ 1000000000 := hpre
 refine Vc.seq (Vc.region hG rfl (by trivial) (Vc.seq ?_))
 refine Vc.region hG rfl ?_ ?_
 · refine ⟨?_, trivial⟩
   show 2 + List.length a1 ≤ maxApp
   unfold maxApp; omega
 refine Vc.ret ?_
 refine ⟨?_, trivial⟩
 exact (digest_eq a0 a1).symm
noncomputable def F181 : Fun := ⟨[.int .i64, .str, .int .i64], [.pure (.int .i64)], fun x => (fun (_ : Int) (s : List UInt8) (_ : Int) => s.length ≤ 40) x.1 x.2.1 x.2.2.1, fun x => (partF x.1 x.2.1 x.2.2.1, ())⟩
theorem F181_ok : Meets Tryz.prog 181 F181 := by
 refine meets_of_vc (C := mkC 15 [6] [0,1,2,6] [⟨264, _, F264_ok⟩, ⟨182, _, F182_ok⟩]) (mkC_ok _ _ _ _) (fnOf_ok _) Tryz.func181 rfl rfl rfl (by decide) rfl ?_
 rintro ⟨(a0 : Int), a1, (a2 : Int), _⟩ hwf hpre ⟨P, C, B, X, w0, M0, pv⟩ hG rfl rfl
 show Vc _ _ [(0, ⟨0, 0, .c (.pure (.int .i64)) a0⟩), (1, ⟨0, 0, .c (.pure (.str)) a1⟩), (2, ⟨0, 0, .c (.pure (.int .i64)) a2⟩)] _
 have hp : List.length a1 ≤ 40 := hpre
 have hq : List.length (bytesF (bytesOf a1)) = List.length a1 := bytesLen a1
 have hq2 : List.length (bytesOf a1) = List.length a1 := List.length_map _
 refine Vc.seq (Vc.region hG rfl (by trivial) (Vc.seq ?_))
 refine Vc.region hG rfl ?_ ?_
 · exact ⟨(show List.length a1 ≤ maxNew from by unfold maxNew; omega), (show List.length (bytesOf a1) ≤ 40 from by omega), (show 1 + List.length (bytesF (bytesOf a1)) ≤ maxApp from by unfold maxApp; omega), (show List.length ([a2] ++ bytesF (bytesOf a1)) ≤ 1000000000 from by rw [List.length_append, hq]; simp; omega)⟩
 refine Vc.ret ?_
 refine ⟨?_, trivial⟩
 exact congrArg (fun l => digestF a0 ([a2] ++ l)) (bytesEq a1)
noncomputable def F113 : Fun := ⟨[.int .i64, .pair (.int .i64) Y46], [.pure (.int .i64)], fun _ => True, fun x => (redDigF x.1 x.2.1, ())⟩
set_option maxHeartbeats 2000000 in
theorem F113_ok : Meets Tryz.prog 113 F113 := by
 refine meets_of_vc (C := mkC 70 [4] [0,1,3,4,5,6,7,8,27,32,33,34,35,39] [⟨194, _, F194_ok⟩, ⟨195, _, F195_ok⟩, ⟨196, _, F196_ok⟩, ⟨181, _, F181_ok⟩, ⟨182, _, F182_ok⟩]) (mkC_ok _ _ _ _) (fnOf_ok _) Tryz.func113 rfl rfl rfl (by decide) rfl ?_
 rintro ⟨(a0 : Int), a1, _⟩ hwf hpre ⟨P, C, B, X, w0, M0, pv⟩ hG rfl rfl
 show Vc _ _ [(0, ⟨0, 0, .c (.pure (.int .i64)) a0⟩), (1, ⟨0, 0, .c Z52 a1⟩)] _
 have hb : List.length a1.2.2.1 ≤ bigLen := hwf.2.1.2.2.1.1
 have hbm : List.length a1.2.1 ≤ bigLen := hwf.2.1.2.1.1
 refine Vc.seq (Vc.region hG rfl (by trivial) (Vc.seq (Vc.region hG rfl (by trivial) ?_)))
 refine Vc.seq (Vc.seq ?_)
 refine Vc.regionD mixed hG rfl (by kernel_rfl) ?_ ?_
 · repeat' (first | exact trivial | refine And.intro ?_ ?_ | intro _)
 refine Vc.cond rfl (fun h0 => ?_) (fun h0 => ?_)
 · have g0 : rgTest a0 a1 = true := h0
   refine Vc.seq (Vc.region hG rfl (by trivial) (Vc.ret ?_))
   refine ⟨?_, trivial⟩
   exact rgBadI g0 hb
 · have g0 : rgTest a0 a1 = false := h0
   have hR : isRedF a1 = true := rgOk g0
   have hL := rdLens (isRed_iff.1 hR).1
   refine Vc.skip (Vc.seq (Vc.region hG rfl (by trivial) (Vc.seq ?_)))
   refine Vc.seq (Vc.region hG rfl (by trivial) (Vc.block ?_))
   refine Vc.loopF [(6, false, .own (.pure (.int .i64))), (34, false, .pure (.int .i64))] [0, 1, 3, 4, 5, 27, 32, 33] (fun v => rgInv a0 a1 v.1 v.2.1) (fun v => ((List.length a1.2.2.1 : Int) - v.2.1).toNat) rfl ?_ ?_
   · exact rgStart
   rintro ⟨acc, (i : Int), _⟩ hI
   have hI : rgInv a0 a1 acc i := hI
   refine Vc.seq (Vc.region hG rfl (by trivial) (Vc.seq ?_))
   refine Vc.cond rfl (fun h1 => ?_) (fun h1 => ?_)
   · have hl : i < (List.length a1.2.2.1 : Int) := of_decide_eq_true h1
     have ri := rgRange hI hl
     have rp : inRange i (List.length a1.2.2.2.1) := ⟨ri.1, by have := ri.2; omega⟩
     have rs : inRange i (List.length a1.2.2.2.2.1) := ⟨ri.1, by have := ri.2; omega⟩
     have rg : inRange i (List.length a1.2.2.2.2.2) := ⟨ri.1, by have := ri.2; omega⟩
     have hA := rgLen hI hl hL.1
     have hk : i.toNat < List.length a1.2.2.1 := by have := ri.1; have := ri.2; omega
     refine Vc.skip (Vc.seq (Vc.block (Vc.seq ?_)))
     refine Vc.region hG rfl ?_ ?_
     · exact ri
     refine Vc.seq (Vc.region hG rfl (by trivial) ?_)
     refine Vc.cond rfl (fun h2 => ?_) (fun h2 => ?_)
     · have g2 : rdS a1 i.toNat = true := h2
       have st := rgStep hI hl hb (rgY g2) (fun _ => g2)
       refine Vc.regionD mixed hG rfl (by kernel_rfl) ?_ ?_
       · exact ⟨rp, rs, red40 hR hk g2, hA⟩
       refine Vc.region hG rfl (by trivial) ?_
       refine ⟨rfl, ?_⟩
       exact st
     · have g2 : rdS a1 i.toNat = false := h2
       have nj := rgNeg g0 hb hk g2
       have ej := idxPos nj
       have gj : redIdx a0 a1 ≠ List.length a1.2.1 := fun q => nj (idxNeg.2 q)
       have st := rgStep hI hl hb (rgN (a := (findI (fun y => y == a0) a1.2.1)) g2 ej) (fun q => absurd q gj)
       refine Vc.region hG rfl ?_ ?_
       · exact ⟨rg, rgIdx hR hI hl g2 (Int.not_lt.1 nj) ej gj, hA⟩
       refine Vc.region hG rfl (by trivial) ?_
       refine ⟨rfl, ?_⟩
       exact st
   · have hl : ¬ i < (List.length a1.2.2.1 : Int) := of_decide_eq_false h1
     refine Vc.exit (Vc.seq ?_)
     refine Vc.region hG rfl ?_ ?_
     · exact rgSmall hI hL.1
     refine Vc.ret ?_
     refine ⟨?_, trivial⟩
     exact rgEnd hI hl hR
noncomputable def F193 : Fun := ⟨[.pair Y23 Y62, .pair (.int .i64) Y46], [.own (.pure (.int .i64))], fun x => (fun (s : Strand) (_ : Red) => List.length s.2 ≤ 2000000) x.1 x.2.1, fun x => (redDigsF x.1 x.2.1, ())⟩
theorem F193_ok : Meets Tryz.prog 193 F193 := by
 refine meets_of_vc (C := mkC 24 [4] [0,1,2,3,4,5,7,9,10,11,12] [⟨113, _, F113_ok⟩]) (mkC_ok _ _ _ _) (fnOf_ok _) Tryz.func193 rfl rfl rfl (by decide) rfl ?_
 rintro ⟨a0, a1, _⟩ hwf hpre ⟨P, C, B, X, w0, M0, pv⟩ hG rfl rfl
 show Vc _ _ [(0, ⟨0, 0, .c Z68 a0⟩), (1, ⟨0, 0, .c Z52 a1⟩)] _
 have hs : List.length a0.2 ≤ 2000000 := hpre
 have hb : List.length a0.2 ≤ bigLen := hwf.1.2.1
 refine Vc.seq (Vc.region hG rfl (by trivial) (Vc.seq (Vc.region hG rfl (by trivial) ?_)))
 refine Vc.seq (Vc.seq (Vc.region hG rfl (by trivial) (Vc.block ?_)))
 refine Vc.loopF [(5, false, .own (.pure (.int .i64))), (11, false, .pure (.int .i64))] [0, 1, 2, 3, 4, 9, 10] (fun v => pkInv (rdgF a1) a0.2 v.1 v.2.1) (fun v => ((List.length a0.2 : Int) - v.2.1).toNat) rfl ?_ ?_
 · exact pkStart
 rintro ⟨acc, (i : Int), _⟩ hI
 have hI : pkInv (rdgF a1) a0.2 acc i := hI
 refine Vc.seq (Vc.region hG rfl (by trivial) (Vc.seq ?_))
 refine Vc.cond rfl (fun h0 => ?_) (fun h0 => ?_)
 · have hl : i < (List.length a0.2 : Int) := of_decide_eq_true h0
   refine Vc.skip (Vc.seq (Vc.block (Vc.seq ?_)))
   refine Vc.region hG rfl ?_ ?_
   · exact pkRange hI hl
   refine Vc.region hG rfl ?_ ?_
   · exact ⟨trivial, pkLen2 hI hs⟩
   refine Vc.region hG rfl (by trivial) ?_
   refine ⟨rfl, ?_⟩
   exact pkYes (d := dflt Y59) hI hl hb rfl
 · have hl : ¬ i < (List.length a0.2 : Int) := of_decide_eq_false h0
   refine Vc.exit (Vc.seq (Vc.region hG rfl (by trivial) (Vc.ret ?_)))
   refine ⟨?_, trivial⟩
   exact pkEnd hI hl
noncomputable def F112 : Fun := ⟨[.pair Y69 Y38, .pair (.int .i64) Y46], [.own Z0], fun x => (fun (e : Evidence) (_ : Red) => Sm big20 Y69 e.1) x.1 x.2.1, fun x => (allRedF x.1 x.2.1, ())⟩
theorem F112_ok : Meets Tryz.prog 112 F112 := by
 refine meets_of_vc (C := mkC 23 [4] [0,1,2,3,4,5,7,9,10,11,12] [⟨193, _, F193_ok⟩]) (mkC_ok _ _ _ _) (fnOf_ok _) Tryz.func112 rfl rfl rfl (by decide) rfl ?_
 rintro ⟨a0, a1, _⟩ hwf hpre ⟨P, C, B, X, w0, M0, pv⟩ hG rfl rfl
 show Vc _ _ [(0, ⟨0, 0, .c Z74 a0⟩), (1, ⟨0, 0, .c Z52 a1⟩)] _
 have hS : Sm big20 Y69 a0.1 := hpre
 have hs : List.length a0.1 ≤ 1048576 := hS.1
 have hb : List.length a0.1 ≤ bigLen := hwf.1.1.1
 refine Vc.seq (Vc.region hG rfl (by trivial) (Vc.seq (Vc.region hG rfl (by trivial) ?_)))
 refine Vc.seq (Vc.seq (Vc.region hG rfl (by trivial) (Vc.block ?_)))
 refine Vc.loopF [(5, false, .own Z0), (11, false, .pure (.int .i64))] [0, 1, 2, 3, 4, 9, 10] (fun v => pkInv (arF a1) a0.1 v.1 v.2.1) (fun v => ((List.length a0.1 : Int) - v.2.1).toNat) rfl ?_ ?_
 · exact pkStart
 rintro ⟨acc, (i : Int), _⟩ hI
 have hI : pkInv (arF a1) a0.1 acc i := hI
 refine Vc.seq (Vc.region hG rfl (by trivial) (Vc.seq ?_))
 refine Vc.cond rfl (fun h0 => ?_) (fun h0 => ?_)
 · have hl : i < (List.length a0.1 : Int) := of_decide_eq_true h0
   have r1 := pkRange hI hl
   have hE : List.length (List.getD a0.1 i.toNat (dflt Y66)).2 ≤ 2000000 := Nat.le_trans (hS.2 _ (getD_mem r1 _)).2.1 (by decide)
   refine Vc.skip (Vc.seq (Vc.block (Vc.seq ?_)))
   refine Vc.region hG rfl ?_ ?_
   · exact pkRange hI hl
   refine Vc.region hG rfl ?_ ?_
   · exact ⟨hE, pkLen hI hs⟩
   refine Vc.region hG rfl (by trivial) ?_
   refine ⟨rfl, ?_⟩
   exact pkYes (d := dflt Y66) hI hl hb rfl
 · have hl : ¬ i < (List.length a0.1 : Int) := of_decide_eq_false h0
   refine Vc.exit (Vc.seq (Vc.region hG rfl (by trivial) (Vc.ret ?_)))
   refine ⟨?_, trivial⟩
   exact pkEnd hI hl
noncomputable def F148 : Fun := ⟨[.int .i64], [.pure (.bool)], fun _ => True, fun x => (isTimeF x.1, ())⟩
theorem F148_ok : Meets Tryz.prog 148 F148 := by
 refine meets_of_vc (C := mkC 5 [2] [0,2] [⟨147, _, F147_ok⟩]) (mkC_ok _ _ _ _) (fnOf_ok _) Tryz.func148 rfl rfl rfl (by decide) rfl ?_
 rintro ⟨(a0 : Int), _⟩ hwf hpre ⟨P, C, B, X, w0, M0, pv⟩ hG rfl rfl
 show Vc _ _ [(0, ⟨0, 0, .c (.pure (.int .i64)) a0⟩)] _
 refine Vc.seq (Vc.region hG rfl (by trivial) (Vc.seq (Vc.region hG rfl (by trivial) ?_)))
 refine Vc.ret ?_
 refine ⟨?_, trivial⟩
 all_goals exact rfl
noncomputable def F293 : Fun := ⟨[.int .i64], [.pure (.bool)], fun _ => True, fun x => (validKeyF x.1, ())⟩
theorem F293_ok : Meets Tryz.prog 293 F293 := by
 refine meets_of_vc (C := mkC 5 [2] [0,2] [⟨147, _, F147_ok⟩]) (mkC_ok _ _ _ _) (fnOf_ok _) Tryz.func293 rfl rfl rfl (by decide) rfl ?_
 rintro ⟨(a0 : Int), _⟩ hwf hpre ⟨P, C, B, X, w0, M0, pv⟩ hG rfl rfl
 show Vc _ _ [(0, ⟨0, 0, .c (.pure (.int .i64)) a0⟩)] _
 refine Vc.seq (Vc.region hG rfl (by trivial) (Vc.seq (Vc.region hG rfl (by trivial) ?_)))
 refine Vc.ret ?_
 refine ⟨?_, trivial⟩
 all_goals exact rfl
noncomputable def F235 : Fun := ⟨[.pair (.int .i64) Y24], [.pure (.bool)], fun _ => True, fun x => (isKeyF x.1, ())⟩
theorem F235_ok : Meets Tryz.prog 235 F235 := by
 refine meets_of_vc (C := mkC 26 [2] [0,1,2] [⟨147, _, F147_ok⟩, ⟨148, _, F148_ok⟩, ⟨293, _, F293_ok⟩]) (mkC_ok _ _ _ _) (fnOf_ok _) Tryz.func235 rfl rfl rfl (by decide) rfl ?_
 rintro ⟨a0, _⟩ hwf hpre ⟨P, C, B, X, w0, M0, pv⟩ hG rfl rfl
 show Vc _ _ [(0, ⟨0, 0, .c Z33 a0⟩)] _
 refine Vc.seq (Vc.region hG rfl (by trivial) (Vc.seq ?_))
 refine Vc.region hG rfl ?_ ?_
 · repeat' (first | exact trivial | refine And.intro ?_ ?_ | intro _)
 refine Vc.ret ?_
 refine ⟨?_, trivial⟩
 all_goals exact rfl
noncomputable def F144 : Fun := ⟨[.slice Y32], [.pure (.bool)], fun _ => True, fun x => (areKeysF x.1, ())⟩
theorem F144_ok : Meets Tryz.prog 144 F144 := by
 refine meets_of_vc (C := mkC 34 [2] [0,2,3,4,5,6,7,8,29] [⟨235, _, F235_ok⟩]) (mkC_ok _ _ _ _) (fnOf_ok _) Tryz.func144 rfl rfl rfl (by decide) rfl ?_
 rintro ⟨a0, _⟩ hwf hpre ⟨P, C, B, X, w0, M0, pv⟩ hG rfl rfl
 show Vc _ _ [(0, ⟨0, 0, .c Z37 a0⟩)] _
 have hb : List.length a0 ≤ bigLen := hwf.1.1
 refine Vc.seq (Vc.region hG rfl (by trivial) (Vc.seq (Vc.seq ?_)))
 refine Vc.region hG rfl (by trivial) (Vc.block ?_)
 refine Vc.loopF [(7, false, .pure (.int .i64))] [0, 5, 6] (fun v => kInv (areG isKeyF (fun k => k.1) (dflt (TKey)) a0) a0 v.1) (fun v => ((List.length a0 : Int) - v.1).toNat) rfl ?_ ?_
 · exact kStart
 rintro ⟨(i : Int), _⟩ hI
 have hI : kInv (areG isKeyF (fun k => k.1) (dflt (TKey)) a0) a0 i := hI
 refine Vc.seq (Vc.region hG rfl (by trivial) (Vc.seq ?_))
 refine Vc.cond rfl (fun h0 => ?_) (fun h0 => ?_)
 · have hl : i < (List.length a0 : Int) := of_decide_eq_true h0
   refine Vc.skip (Vc.seq (Vc.block (Vc.seq ?_)))
   refine Vc.region hG rfl ?_ ?_
   · exact kRange hI hl
   refine Vc.seq ?_
   refine Vc.regionD mixed hG rfl (by kernel_rfl) ?_ ?_
   · repeat' (first | exact trivial | exact kRange hI hl | (intro _ h2; exact prevIdx (kRange hI hl) (of_decide_eq_true h2) hb) | (intro h2; exact prevIdx (kRange hI hl) (of_decide_eq_true h2) hb) | refine And.intro ?_ ?_ | intro _)
   refine Vc.cond rfl (fun h1 => ?_) (fun h1 => ?_)
   · have g1 : areT isKeyF (fun k => k.1) (dflt (TKey)) a0 i = true := h1
     refine Vc.seq (Vc.region hG rfl (by trivial) (Vc.ret ?_))
     refine ⟨?_, trivial⟩
     exact areBad (m := 12) hI hl hb g1
   · have g1 : areT isKeyF (fun k => k.1) (dflt (TKey)) a0 i = false := h1
     refine Vc.skip (Vc.region hG rfl (by trivial) ?_)
     refine ⟨rfl, ?_⟩
     exact areStep hI hl hb g1
 · have hl : ¬ i < (List.length a0 : Int) := of_decide_eq_false h0
   refine Vc.exit (Vc.seq (Vc.region hG rfl (by trivial) (Vc.ret ?_)))
   refine ⟨?_, trivial⟩
   exact areEnd (m := 12) hI hl
noncomputable def F145 : Fun := ⟨[.slice Y15], [.pure (.bool)], fun _ => True, fun x => (areAuthsF x.1, ())⟩
theorem F145_ok : Meets Tryz.prog 145 F145 := by
 refine meets_of_vc (C := mkC 47 [2] [0,2,3,4,5,6,7,8,42] [⟨147, _, F147_ok⟩]) (mkC_ok _ _ _ _) (fnOf_ok _) Tryz.func145 rfl rfl rfl (by decide) rfl ?_
 rintro ⟨a0, _⟩ hwf hpre ⟨P, C, B, X, w0, M0, pv⟩ hG rfl rfl
 show Vc _ _ [(0, ⟨0, 0, .c Z21 a0⟩)] _
 have hb : List.length a0 ≤ bigLen := hwf.1.1
 refine Vc.seq (Vc.region hG rfl (by trivial) (Vc.seq (Vc.seq ?_)))
 refine Vc.region hG rfl (by trivial) (Vc.block ?_)
 refine Vc.loopF [(7, false, .pure (.int .i64))] [0, 5, 6] (fun v => kInv (areG isAuthF (fun k => k.1) (dflt (TAuth)) a0) a0 v.1) (fun v => ((List.length a0 : Int) - v.1).toNat) rfl ?_ ?_
 · exact kStart
 rintro ⟨(i : Int), _⟩ hI
 have hI : kInv (areG isAuthF (fun k => k.1) (dflt (TAuth)) a0) a0 i := hI
 refine Vc.seq (Vc.region hG rfl (by trivial) (Vc.seq ?_))
 refine Vc.cond rfl (fun h0 => ?_) (fun h0 => ?_)
 · have hl : i < (List.length a0 : Int) := of_decide_eq_true h0
   refine Vc.skip (Vc.seq (Vc.block (Vc.seq ?_)))
   refine Vc.region hG rfl ?_ ?_
   · exact kRange hI hl
   refine Vc.seq ?_
   refine Vc.regionD mixed hG rfl (by kernel_rfl) ?_ ?_
   · repeat' (first | exact trivial | exact kRange hI hl | (intro _ h2; exact prevIdx (kRange hI hl) (of_decide_eq_true h2) hb) | (intro h2; exact prevIdx (kRange hI hl) (of_decide_eq_true h2) hb) | refine And.intro ?_ ?_ | intro _)
   refine Vc.cond rfl (fun h1 => ?_) (fun h1 => ?_)
   · have g1 : areT isAuthF (fun k => k.1) (dflt (TAuth)) a0 i = true := (nor3 _ _ _ _).symm.trans h1
     refine Vc.seq (Vc.region hG rfl (by trivial) (Vc.ret ?_))
     refine ⟨?_, trivial⟩
     exact areBad (m := 6) hI hl hb g1
   · have g1 : areT isAuthF (fun k => k.1) (dflt (TAuth)) a0 i = false := (nor3 _ _ _ _).symm.trans h1
     refine Vc.skip (Vc.region hG rfl (by trivial) ?_)
     refine ⟨rfl, ?_⟩
     exact areStep hI hl hb g1
 · have hl : ¬ i < (List.length a0 : Int) := of_decide_eq_false h0
   refine Vc.exit (Vc.seq (Vc.region hG rfl (by trivial) (Vc.ret ?_)))
   refine ⟨?_, trivial⟩
   exact areEnd (m := 6) hI hl
noncomputable def F236 : Fun := ⟨[.pair (.int .i64) Y15], [.pure (.bool)], fun _ => True, fun x => (isMethodF x.1, ())⟩
theorem F236_ok : Meets Tryz.prog 236 F236 := by
 refine meets_of_vc (C := mkC 35 [2] [0,1,2] [⟨147, _, F147_ok⟩, ⟨148, _, F148_ok⟩]) (mkC_ok _ _ _ _) (fnOf_ok _) Tryz.func236 rfl rfl rfl (by decide) rfl ?_
 rintro ⟨a0, _⟩ hwf hpre ⟨P, C, B, X, w0, M0, pv⟩ hG rfl rfl
 show Vc _ _ [(0, ⟨0, 0, .c Z26 a0⟩)] _
 refine Vc.seq (Vc.region hG rfl (by trivial) (Vc.seq ?_))
 refine Vc.region hG rfl ?_ ?_
 · repeat' (first | exact trivial | refine And.intro ?_ ?_ | intro _)
 refine Vc.ret ?_
 refine ⟨?_, trivial⟩
 all_goals exact rfl
noncomputable def F146 : Fun := ⟨[.slice Y24], [.pure (.bool)], fun _ => True, fun x => (areMethodsF x.1, ())⟩
theorem F146_ok : Meets Tryz.prog 146 F146 := by
 refine meets_of_vc (C := mkC 34 [2] [0,2,3,4,5,6,7,8,29] [⟨236, _, F236_ok⟩]) (mkC_ok _ _ _ _) (fnOf_ok _) Tryz.func146 rfl rfl rfl (by decide) rfl ?_
 rintro ⟨a0, _⟩ hwf hpre ⟨P, C, B, X, w0, M0, pv⟩ hG rfl rfl
 show Vc _ _ [(0, ⟨0, 0, .c Z30 a0⟩)] _
 have hb : List.length a0 ≤ bigLen := hwf.1.1
 refine Vc.seq (Vc.region hG rfl (by trivial) (Vc.seq (Vc.seq ?_)))
 refine Vc.region hG rfl (by trivial) (Vc.block ?_)
 refine Vc.loopF [(7, false, .pure (.int .i64))] [0, 5, 6] (fun v => kInv (areG isMethodF (fun k => k.1) (dflt (TMethod)) a0) a0 v.1) (fun v => ((List.length a0 : Int) - v.1).toNat) rfl ?_ ?_
 · exact kStart
 rintro ⟨(i : Int), _⟩ hI
 have hI : kInv (areG isMethodF (fun k => k.1) (dflt (TMethod)) a0) a0 i := hI
 refine Vc.seq (Vc.region hG rfl (by trivial) (Vc.seq ?_))
 refine Vc.cond rfl (fun h0 => ?_) (fun h0 => ?_)
 · have hl : i < (List.length a0 : Int) := of_decide_eq_true h0
   refine Vc.skip (Vc.seq (Vc.block (Vc.seq ?_)))
   refine Vc.region hG rfl ?_ ?_
   · exact kRange hI hl
   refine Vc.seq ?_
   refine Vc.regionD mixed hG rfl (by kernel_rfl) ?_ ?_
   · repeat' (first | exact trivial | exact kRange hI hl | (intro _ h2; exact prevIdx (kRange hI hl) (of_decide_eq_true h2) hb) | (intro h2; exact prevIdx (kRange hI hl) (of_decide_eq_true h2) hb) | refine And.intro ?_ ?_ | intro _)
   refine Vc.cond rfl (fun h1 => ?_) (fun h1 => ?_)
   · have g1 : areT isMethodF (fun k => k.1) (dflt (TMethod)) a0 i = true := h1
     refine Vc.seq (Vc.region hG rfl (by trivial) (Vc.ret ?_))
     refine ⟨?_, trivial⟩
     exact areBad (m := 8) hI hl hb g1
   · have g1 : areT isMethodF (fun k => k.1) (dflt (TMethod)) a0 i = false := h1
     refine Vc.skip (Vc.region hG rfl (by trivial) ?_)
     refine ⟨rfl, ?_⟩
     exact areStep hI hl hb g1
 · have hl : ¬ i < (List.length a0 : Int) := of_decide_eq_false h0
   refine Vc.exit (Vc.seq (Vc.region hG rfl (by trivial) (Vc.ret ?_)))
   refine ⟨?_, trivial⟩
   exact areEnd (m := 8) hI hl
noncomputable def F70 : Fun := ⟨[.pair Y34 Y58], [.pure (.bool)], fun _ => True, fun x => (isFrameF x.1, ())⟩
theorem F70_ok : Meets Tryz.prog 70 F70 := by
 refine meets_of_vc (C := mkC 26 [2] [0,1,2] [⟨144, _, F144_ok⟩, ⟨145, _, F145_ok⟩, ⟨146, _, F146_ok⟩, ⟨147, _, F147_ok⟩, ⟨148, _, F148_ok⟩]) (mkC_ok _ _ _ _) (fnOf_ok _) Tryz.func70 rfl rfl rfl (by decide) rfl ?_
 rintro ⟨a0, _⟩ hwf hpre ⟨P, C, B, X, w0, M0, pv⟩ hG rfl rfl
 show Vc _ _ [(0, ⟨0, 0, .c Z70 a0⟩)] _
 refine Vc.seq (Vc.region hG rfl (by trivial) (Vc.seq ?_))
 refine Vc.region hG rfl ?_ ?_
 · repeat' (first | exact trivial | refine And.intro ?_ ?_ | intro _)
 refine Vc.ret ?_
 refine ⟨?_, trivial⟩
 all_goals exact rfl
noncomputable def F71 : Fun := ⟨[.int .i64], [.pure Y24], fun _ => True, fun x => ((fun (r : Int) => ((3, r, (0, 0)) : Verdict)) x.1, ())⟩
theorem F71_ok : Meets Tryz.prog 71 F71 := by
 refine meets_of_vc (C := mkC 5 [2] [0,2] []) (mkC_ok _ _ _ _) (fnOf_ok _) Tryz.func71 rfl rfl rfl (by decide) rfl ?_
 rintro ⟨(a0 : Int), _⟩ hwf hpre ⟨P, C, B, X, w0, M0, pv⟩ hG rfl rfl
 show Vc _ _ [(0, ⟨0, 0, .c (.pure (.int .i64)) a0⟩)] _
 refine Vc.seq (Vc.region hG rfl (by trivial) (Vc.seq (Vc.region hG rfl (by trivial) ?_)))
 refine Vc.ret ?_
 refine ⟨?_, trivial⟩
 all_goals exact rfl
noncomputable def F72 : Fun := ⟨[.pair (.int .i64) Y49], [.pure (.bool)], fun _ => True, fun x => (isSigF x.1, ())⟩
theorem F72_ok : Meets Tryz.prog 72 F72 := by
 refine meets_of_vc (C := mkC 41 [2] [0,1,2] [⟨147, _, F147_ok⟩]) (mkC_ok _ _ _ _) (fnOf_ok _) Tryz.func72 rfl rfl rfl (by decide) rfl ?_
 rintro ⟨a0, _⟩ hwf hpre ⟨P, C, B, X, w0, M0, pv⟩ hG rfl rfl
 show Vc _ _ [(0, ⟨0, 0, .c Z55 a0⟩)] _
 refine Vc.seq (Vc.region hG rfl (by trivial) (Vc.seq ?_))
 refine Vc.region hG rfl ?_ ?_
 · repeat' (first | exact trivial | refine And.intro ?_ ?_ | intro _)
 refine Vc.ret ?_
 refine ⟨?_, trivial⟩
 all_goals exact rfl
noncomputable def F73 : Fun := ⟨[.int .i64], [.pure Y24], fun _ => True, fun x => ((fun (r : Int) => ((2, r, (0, 0)) : Verdict)) x.1, ())⟩
theorem F73_ok : Meets Tryz.prog 73 F73 := by
 refine meets_of_vc (C := mkC 5 [2] [0,2] []) (mkC_ok _ _ _ _) (fnOf_ok _) Tryz.func73 rfl rfl rfl (by decide) rfl ?_
 rintro ⟨(a0 : Int), _⟩ hwf hpre ⟨P, C, B, X, w0, M0, pv⟩ hG rfl rfl
 show Vc _ _ [(0, ⟨0, 0, .c (.pure (.int .i64)) a0⟩)] _
 refine Vc.seq (Vc.region hG rfl (by trivial) (Vc.seq (Vc.region hG rfl (by trivial) ?_)))
 refine Vc.ret ?_
 refine ⟨?_, trivial⟩
 all_goals exact rfl
noncomputable def F74 : Fun := ⟨[.slice Y32, .int .i64], [.pure (.int .i64)], fun _ => True, fun x => ((fun a0 a1 => findI (fun x => x.1 == a1) a0) x.1 x.2.1, ())⟩
theorem F74_ok : Meets Tryz.prog 74 F74 := by
 refine meets_of_vc (C := mkC 20 [4] [0,1,4,5,6,7,8,9,10,17] []) (mkC_ok _ _ _ _) (fnOf_ok _) Tryz.func74 rfl rfl rfl (by decide) rfl ?_
 rintro ⟨a0, (a1 : Int), _⟩ hwf hpre ⟨P, C, B, X, w0, M0, pv⟩ hG rfl rfl
 show Vc _ _ [(0, ⟨0, 0, .c Z37 a0⟩), (1, ⟨0, 0, .c (.pure (.int .i64)) a1⟩)] _
 have hb : List.length a0 ≤ bigLen := hwf.1.1
 refine Vc.seq (Vc.region hG rfl (by trivial) (Vc.seq (Vc.seq ?_)))
 refine Vc.region hG rfl (by trivial) (Vc.block ?_)
 refine Vc.loopF [(9, false, .pure (.int .i64))] [0, 1, 7, 8] (fun v => fInv (fun x => x.1 == a1) a0 v.1) (fun v => ((List.length a0 : Int) - v.1).toNat) rfl ?_ ?_
 · exact fStart
 rintro ⟨(i : Int), _⟩ hI
 have hI : fInv (fun x => x.1 == a1) a0 i := hI
 refine Vc.seq (Vc.region hG rfl (by trivial) (Vc.seq ?_))
 refine Vc.cond rfl (fun h0 => ?_) (fun h0 => ?_)
 · have hl : i < (List.length a0 : Int) := of_decide_eq_true h0
   refine Vc.skip (Vc.seq (Vc.block (Vc.seq ?_)))
   refine Vc.region hG rfl ?_ ?_
   · exact fRange hI hl
   refine Vc.seq (Vc.region hG rfl (by trivial) ?_)
   refine Vc.cond rfl (fun h1 => ?_) (fun h1 => ?_)
   · have g1 : (fun x => x.1 == a1) (List.getD a0 i.toNat (dflt Y32)) = true := h1
     refine Vc.seq (Vc.region hG rfl (by trivial) (Vc.ret ?_))
     refine ⟨?_, trivial⟩
     exact fHit hI hl g1
   · have g1 : (fun x => x.1 == a1) (List.getD a0 i.toNat (dflt Y32)) = false := h1
     refine Vc.skip (Vc.region hG rfl (by trivial) ?_)
     refine ⟨rfl, ?_⟩
     exact fStep hI hl hb g1
 · have hl : ¬ i < (List.length a0 : Int) := of_decide_eq_false h0
   refine Vc.exit (Vc.seq (Vc.region hG rfl (by trivial) (Vc.ret ?_)))
   refine ⟨?_, trivial⟩
   exact fEnd hI hl
noncomputable def F150 : Fun := ⟨[.pair (.int .i64) Y49], [.own (.pure (.int .i64))], fun _ => True, fun x => (sigIntsF x.1, ())⟩
theorem F150_ok : Meets Tryz.prog 150 F150 := by
 refine meets_of_vc (C := mkC 20 [2] [0,1,2] []) (mkC_ok _ _ _ _) (fnOf_ok _) Tryz.func150 rfl rfl rfl (by decide) rfl ?_
 rintro ⟨a0, _⟩ hwf hpre ⟨P, C, B, X, w0, M0, pv⟩ hG rfl rfl
 show Vc _ _ [(0, ⟨0, 0, .c Z55 a0⟩)] _
 refine Vc.seq (Vc.region hG rfl (by trivial) (Vc.seq (Vc.region hG rfl (by trivial) ?_)))
 refine Vc.ret ?_
 refine ⟨?_, trivial⟩
 all_goals exact rfl
noncomputable def F314 : Fun := ⟨[.int .i64, .slice (.int .i64)], [.pure (.int .i64)], fun x => (fun (_ : Int) (l : List Int) => l.length ≤ 1000000001) x.1 x.2.1, fun x => (keyedF x.1 x.2.1, ())⟩
theorem F314_ok : Meets Tryz.prog 314 F314 := by
 refine meets_of_vc (C := mkC 13 [4] [0,1,4] [⟨265, _, F265_ok⟩]) (mkC_ok _ _ _ _) (fnOf_ok _) Tryz.func314 rfl rfl rfl (by decide) rfl ?_
 rintro ⟨(a0 : Int), a1, _⟩ hwf hpre ⟨P, C, B, X, w0, M0, pv⟩ hG rfl rfl
 show Vc _ _ [(0, ⟨0, 0, .c (.pure (.int .i64)) a0⟩), (1, ⟨0, 0, .c Z2 a1⟩)] _
 have hp : List.length a1 ≤ 1000000001 := hpre
 refine Vc.seq (Vc.region hG rfl (by trivial) (Vc.seq ?_))
 refine Vc.region hG rfl ?_ ?_
 · refine ⟨?_, ?_, trivial⟩
   · show 1 + List.length a1 ≤ maxApp
     unfold maxApp; omega
   · show (List.length a1 + 1) + 1 ≤ maxApp
     unfold maxApp; omega
 refine Vc.ret ?_
 refine ⟨?_, trivial⟩
 all_goals exact rfl
noncomputable def F294 : Fun := ⟨[.pair (.int .i64) Y24, .slice (.int .i64)], [.pure (.int .i64)], fun x => (fun (_ : Key) (l : List Int) => smallL l) x.1 x.2.1, fun x => (markWithF x.1 x.2.1, ())⟩
theorem F294_ok : Meets Tryz.prog 294 F294 := by
 refine meets_of_vc (C := mkC 13 [4] [0,1,2,4] [⟨314, _, F314_ok⟩]) (mkC_ok _ _ _ _) (fnOf_ok _) Tryz.func294 rfl rfl rfl (by decide) rfl ?_
 rintro ⟨a0, a1, _⟩ hwf hpre ⟨P, C, B, X, w0, M0, pv⟩ hG rfl rfl
 show Vc _ _ [(0, ⟨0, 0, .c Z33 a0⟩), (1, ⟨0, 0, .c Z2 a1⟩)] _
 have hp : List.length a1 ≤ 1000000000 := hpre
 refine Vc.seq (Vc.region hG rfl (by trivial) (Vc.seq ?_))
 refine Vc.regionD mixed hG rfl (by kernel_rfl) ?_ ?_
 · refine ⟨?_, ?_⟩
   · show 1 + List.length a1 ≤ maxApp
     unfold maxApp; omega
   · show List.length a1 + 1 ≤ 1000000001
     omega
 refine Vc.ret ?_
 refine ⟨?_, trivial⟩
 all_goals exact rfl
noncomputable def F237 : Fun := ⟨[.slice Y32, .int .i64, .slice (.int .i64)], [.pure (.int .i64), .pure (.bool)], fun x => (fun (_ : List Key) (_ : Int) (l : List Int) => smallL l) x.1 x.2.1 x.2.2.1, fun x => ((markByF x.1 x.2.1 x.2.2.1).1, (markByF x.1 x.2.1 x.2.2.1).2, ())⟩
theorem F237_ok : Meets Tryz.prog 237 F237 := by
 refine meets_of_vc (C := mkC 20 [6, 7] [0,1,2,6,7,8,13] [⟨74, _, F74_ok⟩, ⟨294, _, F294_ok⟩]) (mkC_ok _ _ _ _) (fnOf_ok _) Tryz.func237 rfl rfl rfl (by decide) rfl ?_
 rintro ⟨a0, (a1 : Int), a2, _⟩ hwf hpre ⟨P, C, B, X, w0, M0, pv⟩ hG rfl rfl
 show Vc _ _ [(0, ⟨0, 0, .c Z37 a0⟩), (1, ⟨0, 0, .c (.pure (.int .i64)) a1⟩), (2, ⟨0, 0, .c Z2 a2⟩)] _
 have hp : smallL a2 := hpre
 refine Vc.seq (Vc.region hG rfl (by trivial) (Vc.seq (Vc.region hG rfl (by trivial) ?_)))
 refine Vc.seq (Vc.seq (Vc.region hG rfl (by trivial) ?_))
 refine Vc.cond rfl (fun h0 => ?_) (fun h0 => ?_)
 · have g0 : keyI a0 a1 < 0 := of_decide_eq_true h0
   refine Vc.seq (Vc.region hG rfl (by trivial) (Vc.ret ?_))
   have e := markBy_no (l := a2) g0
   refine ⟨?_, ?_, trivial⟩
   · exact (congrArg Prod.fst e).symm
   · exact (congrArg Prod.snd e).symm
 · have g0 : ¬ keyI a0 a1 < 0 := of_decide_eq_false h0
   refine Vc.skip (Vc.seq ?_)
   refine Vc.region hG rfl ?_ ?_
   · exact ⟨findRange g0, hp⟩
   refine Vc.ret ?_
   have e := markBy_yes (l := a2) g0
   refine ⟨?_, ?_, trivial⟩
   · exact (congrArg Prod.fst e).symm
   · exact (congrArg Prod.snd e).symm
noncomputable def F149 : Fun := ⟨[.slice Y32, .int .i64, .slice (.int .i64), .int .i64], [.pure (.bool)], fun x => (fun (_ : List Key) (_ : Int) (l : List Int) (_ : Int) => smallL l) x.1 x.2.1 x.2.2.1 x.2.2.2.1, fun x => (checkMarkF x.1 x.2.1 x.2.2.1 x.2.2.2.1, ())⟩
theorem F149_ok : Meets Tryz.prog 149 F149 := by
 refine meets_of_vc (C := mkC 24 [8] [0,1,2,3,8,9,10] [⟨237, _, F237_ok⟩]) (mkC_ok _ _ _ _) (fnOf_ok _) Tryz.func149 rfl rfl rfl (by decide) rfl ?_
 rintro ⟨a0, (a1 : Int), a2, (a3 : Int), _⟩ hwf hpre ⟨P, C, B, X, w0, M0, pv⟩ hG rfl rfl
 show Vc _ _ [(0, ⟨0, 0, .c Z37 a0⟩), (1, ⟨0, 0, .c (.pure (.int .i64)) a1⟩), (2, ⟨0, 0, .c Z2 a2⟩), (3, ⟨0, 0, .c (.pure (.int .i64)) a3⟩)] _
 have hp : smallL a2 := hpre
 refine Vc.seq (Vc.region hG rfl (by trivial) (Vc.seq ?_))
 refine Vc.region hG rfl ?_ ?_
 · exact hp
 refine Vc.seq (Vc.region hG rfl (by trivial) (Vc.ret ?_))
 refine ⟨?_, trivial⟩
 exact checkMark_by a0 a1 a2 a3
noncomputable def F75 : Fun := ⟨[.slice Y32, .pair (.int .i64) Y49], [.pure (.bool)], fun _ => True, fun x => (checkSigF x.1 x.2.1, ())⟩
theorem F75_ok : Meets Tryz.prog 75 F75 := by
 refine meets_of_vc (C := mkC 17 [4] [0,1,3,4] [⟨72, _, F72_ok⟩, ⟨150, _, F150_ok⟩, ⟨149, _, F149_ok⟩]) (mkC_ok _ _ _ _) (fnOf_ok _) Tryz.func75 rfl rfl rfl (by decide) rfl ?_
 rintro ⟨a0, a1, _⟩ hwf hpre ⟨P, C, B, X, w0, M0, pv⟩ hG rfl rfl
 show Vc _ _ [(0, ⟨0, 0, .c Z37 a0⟩), (1, ⟨0, 0, .c Z55 a1⟩)] _
 refine Vc.seq (Vc.region hG rfl (by trivial) (Vc.seq ?_))
 refine Vc.regionD mixed hG rfl (by kernel_rfl) ?_ ?_
 · repeat' (first | exact trivial | exact smallLit (n := 9) rfl (by decide) | refine And.intro ?_ ?_ | intro _)
 refine Vc.ret ?_
 refine ⟨?_, trivial⟩
 all_goals exact rfl
noncomputable def F77 : Fun := ⟨[.pair (.int .i64) Y49], [.pair (.pure (.int .i64)) Z16], fun _ => True, fun x => (signPieceF x.1, ())⟩
theorem F77_ok : Meets Tryz.prog 77 F77 := by
 refine meets_of_vc (C := mkC 10 [2] [0,1,2] [⟨150, _, F150_ok⟩]) (mkC_ok _ _ _ _) (fnOf_ok _) Tryz.func77 rfl rfl rfl (by decide) rfl ?_
 rintro ⟨a0, _⟩ hwf hpre ⟨P, C, B, X, w0, M0, pv⟩ hG rfl rfl
 show Vc _ _ [(0, ⟨0, 0, .c Z55 a0⟩)] _
 refine Vc.seq (Vc.region hG rfl (by trivial) (Vc.seq (Vc.regionD mixed hG rfl (by kernel_rfl) (by trivial) ?_)))
 refine Vc.ret ?_
 refine ⟨?_, trivial⟩
 all_goals exact rfl
noncomputable def F297 : Fun := ⟨[.slice (.int .i64), .slice (.int .i64)], [.pure (.bool)], fun _ => True, fun x => (eqC x.1 x.2.1, ())⟩
theorem F297_ok : Meets Tryz.prog 297 F297 := by
 refine meets_of_vc (C := mkC 26 [4] [0,1,4,5,10,12,13,14,24] []) (mkC_ok _ _ _ _) (fnOf_ok _) Tryz.func297 rfl rfl rfl (by decide) rfl ?_
 rintro ⟨a0, a1, _⟩ hwf hpre ⟨P, C, B, X, w0, M0, pv⟩ hG rfl rfl
 show Vc _ _ [(0, ⟨0, 0, .c Z2 a0⟩), (1, ⟨0, 0, .c Z2 a1⟩)] _
 have hb0 : List.length a0 ≤ bigLen := hwf.1.1
 refine Vc.seq (Vc.region hG rfl (by trivial) (Vc.seq (Vc.seq ?_)))
 refine Vc.region hG rfl (by trivial) ?_
 refine Vc.cond rfl (fun h0 => ?_) (fun h0 => ?_)
 · refine Vc.seq (Vc.region hG rfl (by trivial) (Vc.ret ?_))
   refine ⟨?_, trivial⟩
   refine eqC_no (fun e => ?_)
   have e : a0 = a1 := e
   have g : ((List.length a0 : Int) != (List.length a1 : Int)) = true := h0
   subst e
   exact bself g
 · have g0 : ((List.length a0 : Int) != (List.length a1 : Int)) = false := h0
   have f0_0 : List.length a0 = List.length a1 := (lenEq g0)
   refine Vc.skip (Vc.seq (Vc.seq (Vc.region hG rfl (by trivial) ?_)))
   refine Vc.block ?_
   refine Vc.loopF [(13, false, .pure (.int .i64))] [0, 1, 10, 12] (fun v => eqInv a0 a1 v.1) (fun v => ((List.length a0 : Int) - v.1).toNat) rfl ?_ ?_
   · exact eqStart f0_0
   rintro ⟨(i0 : Int), _⟩ hI0
   have hI0 : eqInv a0 a1 i0 := hI0
   refine Vc.seq (Vc.region hG rfl (by trivial) (Vc.seq ?_))
   refine Vc.cond rfl (fun h1 => ?_) (fun h1 => ?_)
   · have hl0 : i0 < (List.length a0 : Int) := of_decide_eq_true h1
     refine Vc.skip (Vc.seq (Vc.block (Vc.seq ?_)))
     refine Vc.region hG rfl (by trivial) (Vc.seq ?_)
     refine Vc.regionD mixed hG rfl (by kernel_rfl) ?_ ?_
     · exact ⟨(eqRange hI0 hl0).1, (eqRange hI0 hl0).2⟩
     refine Vc.cond rfl (fun h2 => ?_) (fun h2 => ?_)
     · refine Vc.seq (Vc.region hG rfl (by trivial) (Vc.ret ?_))
       refine ⟨?_, trivial⟩
       refine eqC_no (fun e => ?_)
       have e : a0 = a1 := e
       have g : ((List.getD a0 i0.toNat (dflt (.int .i64))) != (List.getD a1 i0.toNat (dflt (.int .i64)))) = true := h2
       subst e
       exact bself g
     · have g2 : ((List.getD a0 i0.toNat (dflt (.int .i64))) != (List.getD a1 i0.toNat (dflt (.int .i64)))) = false := h2
       have f2_0 : (List.getD a0 i0.toNat (dflt (.int .i64))) = (List.getD a1 i0.toNat (dflt (.int .i64))) := (bneI g2)
       have s0 : (List.getD a0 i0.toNat (dflt (.int .i64))) = (List.getD a1 i0.toNat (dflt (.int .i64))) := f2_0
       refine Vc.skip (Vc.region hG rfl (by trivial) ?_)
       refine ⟨rfl, ?_⟩
       exact ⟨eqStep (d := dflt (.int .i64)) hI0 hl0 hb0 s0, (upStep hI0.1 hl0 hb0).2.2⟩
   · have hl0 : ¬ i0 < (List.length a0 : Int) := of_decide_eq_false h1
     have e0 : a0 = a1 := eqEnd hI0 hl0
     refine Vc.exit (Vc.seq (Vc.region hG rfl (by trivial) (Vc.ret ?_)))
     refine ⟨?_, trivial⟩
     exact eqC_yes e0
noncomputable def F240 : Fun := ⟨[.pair (.int .i64) Y9, .pair (.int .i64) Y9], [.pure (.bool)], fun _ => True, fun x => (eqC x.1 x.2.1, ())⟩
theorem F240_ok : Meets Tryz.prog 240 F240 := by
 refine meets_of_vc (C := mkC 24 [4] [0,1,2,3,4] [⟨297, _, F297_ok⟩]) (mkC_ok _ _ _ _) (fnOf_ok _) Tryz.func240 rfl rfl rfl (by decide) rfl ?_
 rintro ⟨a0, a1, _⟩ hwf hpre ⟨P, C, B, X, w0, M0, pv⟩ hG rfl rfl
 show Vc _ _ [(0, ⟨0, 0, .c Z22 a0⟩), (1, ⟨0, 0, .c Z22 a1⟩)] _
 refine Vc.seq (Vc.region hG rfl (by trivial) (Vc.seq ?_))
 refine Vc.region hG rfl ?_ ?_
 · repeat' (first | exact trivial | refine And.intro ?_ ?_ | intro _)
 refine Vc.ret ?_
 refine ⟨?_, trivial⟩
 refine eqC_by (fun e => ?_) (fun e => ?_)
 · have e : (pick2 (pick2 (a0.1 == a1.1) (a0.2.2 == a1.2.2) false) (eqC a0.2.1 a1.2.1) false) = true := e
   have r_0 : a0.1 = a1.1 := (beqI2 (andT (andT e).1).1)
   have r_1 : a0.2.2 = a1.2.2 := (beqI2 (andT (andT e).1).2)
   have r_2 : a0.2.1 = a1.2.1 := (eqC_iff.1 (andT e).2)
   exact (Prod.ext r_0 (Prod.ext r_2 r_1))
 · have e : a0 = a1 := e
   subst e
   exact (yesAnd (yesAnd beqSelf beqSelf) (eqC_self _))
noncomputable def F238 : Fun := ⟨[.pair Y23 Y62, .pair (.int .i64) Y9], [.pure (.int .i64)], fun _ => True, fun x => ((fun a0 a1 => findI (fun x => eqC x a1) a0.1) x.1 x.2.1, ())⟩
theorem F238_ok : Meets Tryz.prog 238 F238 := by
 refine meets_of_vc (C := mkC 20 [4] [0,1,2,3,4,5,6,8,9,10,11,17] [⟨240, _, F240_ok⟩]) (mkC_ok _ _ _ _) (fnOf_ok _) Tryz.func238 rfl rfl rfl (by decide) rfl ?_
 rintro ⟨a0, a1, _⟩ hwf hpre ⟨P, C, B, X, w0, M0, pv⟩ hG rfl rfl
 show Vc _ _ [(0, ⟨0, 0, .c Z68 a0⟩), (1, ⟨0, 0, .c Z22 a1⟩)] _
 have hb : List.length a0.1 ≤ bigLen := hwf.1.1.1
 refine Vc.seq (Vc.region hG rfl (by trivial) (Vc.seq (Vc.seq ?_)))
 refine Vc.region hG rfl (by trivial) (Vc.block ?_)
 refine Vc.loopF [(10, false, .pure (.int .i64))] [0, 1, 2, 3, 8, 9] (fun v => fInv (fun x => eqC x a1) a0.1 v.1) (fun v => ((List.length a0.1 : Int) - v.1).toNat) rfl ?_ ?_
 · exact fStart
 rintro ⟨(i : Int), _⟩ hI
 have hI : fInv (fun x => eqC x a1) a0.1 i := hI
 refine Vc.seq (Vc.region hG rfl (by trivial) (Vc.seq ?_))
 refine Vc.cond rfl (fun h0 => ?_) (fun h0 => ?_)
 · have hl : i < (List.length a0.1 : Int) := of_decide_eq_true h0
   refine Vc.skip (Vc.seq (Vc.block (Vc.seq ?_)))
   refine Vc.region hG rfl ?_ ?_
   · exact fRange hI hl
   refine Vc.seq (Vc.region hG rfl (by trivial) ?_)
   refine Vc.cond rfl (fun h1 => ?_) (fun h1 => ?_)
   · have g1 : (fun x => eqC x a1) (List.getD a0.1 i.toNat (dflt Y20)) = true := h1
     refine Vc.seq (Vc.region hG rfl (by trivial) (Vc.ret ?_))
     refine ⟨?_, trivial⟩
     exact fHit hI hl g1
   · have g1 : (fun x => eqC x a1) (List.getD a0.1 i.toNat (dflt Y20)) = false := h1
     refine Vc.skip (Vc.region hG rfl (by trivial) ?_)
     refine ⟨rfl, ?_⟩
     exact fStep hI hl hb g1
 · have hl : ¬ i < (List.length a0.1 : Int) := of_decide_eq_false h0
   refine Vc.exit (Vc.seq (Vc.region hG rfl (by trivial) (Vc.ret ?_)))
   refine ⟨?_, trivial⟩
   exact fEnd hI hl
noncomputable def F250 : Fun := ⟨[.slice Y15, .int .i64], [.pure (.int .i64)], fun _ => True, fun x => ((fun a0 a1 => findI (fun x => x.1 == a1) a0) x.1 x.2.1, ())⟩
theorem F250_ok : Meets Tryz.prog 250 F250 := by
 refine meets_of_vc (C := mkC 20 [4] [0,1,4,5,6,7,8,9,10,17] []) (mkC_ok _ _ _ _) (fnOf_ok _) Tryz.func250 rfl rfl rfl (by decide) rfl ?_
 rintro ⟨a0, (a1 : Int), _⟩ hwf hpre ⟨P, C, B, X, w0, M0, pv⟩ hG rfl rfl
 show Vc _ _ [(0, ⟨0, 0, .c Z21 a0⟩), (1, ⟨0, 0, .c (.pure (.int .i64)) a1⟩)] _
 have hb : List.length a0 ≤ bigLen := hwf.1.1
 refine Vc.seq (Vc.region hG rfl (by trivial) (Vc.seq (Vc.seq ?_)))
 refine Vc.region hG rfl (by trivial) (Vc.block ?_)
 refine Vc.loopF [(9, false, .pure (.int .i64))] [0, 1, 7, 8] (fun v => fInv (fun x => x.1 == a1) a0 v.1) (fun v => ((List.length a0 : Int) - v.1).toNat) rfl ?_ ?_
 · exact fStart
 rintro ⟨(i : Int), _⟩ hI
 have hI : fInv (fun x => x.1 == a1) a0 i := hI
 refine Vc.seq (Vc.region hG rfl (by trivial) (Vc.seq ?_))
 refine Vc.cond rfl (fun h0 => ?_) (fun h0 => ?_)
 · have hl : i < (List.length a0 : Int) := of_decide_eq_true h0
   refine Vc.skip (Vc.seq (Vc.block (Vc.seq ?_)))
   refine Vc.region hG rfl ?_ ?_
   · exact fRange hI hl
   refine Vc.seq (Vc.region hG rfl (by trivial) ?_)
   refine Vc.cond rfl (fun h1 => ?_) (fun h1 => ?_)
   · have g1 : (fun x => x.1 == a1) (List.getD a0 i.toNat (dflt Y15)) = true := h1
     refine Vc.seq (Vc.region hG rfl (by trivial) (Vc.ret ?_))
     refine ⟨?_, trivial⟩
     exact fHit hI hl g1
   · have g1 : (fun x => x.1 == a1) (List.getD a0 i.toNat (dflt Y15)) = false := h1
     refine Vc.skip (Vc.region hG rfl (by trivial) ?_)
     refine ⟨rfl, ?_⟩
     exact fStep hI hl hb g1
 · have hl : ¬ i < (List.length a0 : Int) := of_decide_eq_false h0
   refine Vc.exit (Vc.seq (Vc.region hG rfl (by trivial) (Vc.ret ?_)))
   refine ⟨?_, trivial⟩
   exact fEnd hI hl
noncomputable def F168 : Fun := ⟨[.pair (.int .i64) (.int .i64)], [.pure (.bool)], fun _ => True, fun x => (isSpanF x.1, ())⟩
theorem F168_ok : Meets Tryz.prog 168 F168 := by
 refine meets_of_vc (C := mkC 18 [2] [0,1,2] [⟨148, _, F148_ok⟩]) (mkC_ok _ _ _ _) (fnOf_ok _) Tryz.func168 rfl rfl rfl (by decide) rfl ?_
 rintro ⟨a0, _⟩ hwf hpre ⟨P, C, B, X, w0, M0, pv⟩ hG rfl rfl
 show Vc _ _ [(0, ⟨0, 0, .c Z8 a0⟩)] _
 refine Vc.seq (Vc.region hG rfl (by trivial) (Vc.seq ?_))
 refine Vc.region hG rfl ?_ ?_
 · repeat' (first | exact trivial | refine And.intro ?_ ?_ | intro _)
 refine Vc.ret ?_
 refine ⟨?_, trivial⟩
 all_goals exact rfl
noncomputable def F256 : Fun := ⟨[.int .i64, .int .i64], [.pure Y4, .pure (.bool)], fun _ => True, fun x => ((makeSpanF x.1 x.2.1).1, (makeSpanF x.1 x.2.1).2, ())⟩
theorem F256_ok : Meets Tryz.prog 256 F256 := by
 refine meets_of_vc (C := mkC 22 [4, 5] [0,1,4,5,6,19] [⟨168, _, F168_ok⟩]) (mkC_ok _ _ _ _) (fnOf_ok _) Tryz.func256 rfl rfl rfl (by decide) rfl ?_
 rintro ⟨(a0 : Int), (a1 : Int), _⟩ hwf hpre ⟨P, C, B, X, w0, M0, pv⟩ hG rfl rfl
 show Vc _ _ [(0, ⟨0, 0, .c (.pure (.int .i64)) a0⟩), (1, ⟨0, 0, .c (.pure (.int .i64)) a1⟩)] _
 refine Vc.seq (Vc.region hG rfl (by trivial) (Vc.seq (Vc.region hG rfl (by trivial) ?_)))
 refine Vc.seq (Vc.seq ?_)
 refine Vc.region hG rfl ?_ ?_
 · repeat' (first | exact trivial | refine And.intro ?_ ?_ | intro _)
 refine Vc.cond rfl (fun h0 => ?_) (fun h0 => ?_)
 · refine Vc.seq (Vc.region hG rfl (by trivial) (Vc.ret ?_))
   have e := mkSpI0 h0
   refine ⟨?_, ?_, trivial⟩
   · exact (congrArg Prod.fst e).symm
   · exact (congrArg Prod.snd e).symm
 · refine Vc.skip (Vc.seq (Vc.region hG rfl (by trivial) (Vc.ret ?_)))
   have e := mkSpI1 h0
   refine ⟨?_, ?_, trivial⟩
   · exact (congrArg Prod.fst e).symm
   · exact (congrArg Prod.snd e).symm
noncomputable def F251 : Fun := ⟨[.slice Y15, .pair (.int .i64) Y24], [.pure Y4, .pure (.bool)], fun _ => True, fun x => ((stampSpanF x.1 x.2.1).1, (stampSpanF x.1 x.2.1).2, ())⟩
theorem F251_ok : Meets Tryz.prog 251 F251 := by
 refine meets_of_vc (C := mkC 47 [4, 5] [0,1,3,4,5,6,26] [⟨250, _, F250_ok⟩, ⟨148, _, F148_ok⟩, ⟨256, _, F256_ok⟩]) (mkC_ok _ _ _ _) (fnOf_ok _) Tryz.func251 rfl rfl rfl (by decide) rfl ?_
 rintro ⟨a0, a1, _⟩ hwf hpre ⟨P, C, B, X, w0, M0, pv⟩ hG rfl rfl
 show Vc _ _ [(0, ⟨0, 0, .c Z21 a0⟩), (1, ⟨0, 0, .c Z33 a1⟩)] _
 refine Vc.seq (Vc.region hG rfl (by trivial) (Vc.seq (Vc.region hG rfl (by trivial) ?_)))
 refine Vc.seq (Vc.seq ?_)
 refine Vc.region hG rfl ?_ ?_
 · exact ⟨fun h => findRange (of_decide_eq_false h), fun _ => trivial⟩
 refine Vc.cond rfl (fun h0 => ?_) (fun h0 => ?_)
 · have g0 : ssBad a0 a1 = true := h0
   refine Vc.seq (Vc.region hG rfl (by trivial) (Vc.ret ?_))
   have e := ss0 g0
   refine ⟨?_, ?_, trivial⟩
   · exact (congrArg Prod.fst e).symm
   · exact (congrArg Prod.snd e).symm
 · have g0 : ssBad a0 a1 = false := h0
   refine Vc.skip (Vc.seq ?_)
   refine Vc.regionD mixed hG rfl (by kernel_rfl) ?_ ?_
   · exact ⟨ssIdx g0, ssIdx g0, trivial⟩
   refine Vc.ret ?_
   have e := ss1 g0
   refine ⟨?_, ?_, trivial⟩
   · exact (congrArg Prod.fst e).symm
   · exact (congrArg Prod.snd e).symm
noncomputable def F319 : Fun := ⟨[.slice Y4, .int .i64], [.pure (.int .i64)], fun _ => True, fun x => (countAtF x.1 x.2.1, ())⟩
theorem F319_ok : Meets Tryz.prog 319 F319 := by
 refine meets_of_vc (C := mkC 28 [4] [0,1,4,5,7,8,9,10,11,23] [⟨168, _, F168_ok⟩, ⟨147, _, F147_ok⟩]) (mkC_ok _ _ _ _) (fnOf_ok _) Tryz.func319 rfl rfl rfl (by decide) rfl ?_
 rintro ⟨a0, (a1 : Int), _⟩ hwf hpre ⟨P, C, B, X, w0, M0, pv⟩ hG rfl rfl
 show Vc _ _ [(0, ⟨0, 0, .c Z14 a0⟩), (1, ⟨0, 0, .c (.pure (.int .i64)) a1⟩)] _
 have hb : List.length a0 ≤ bigLen := hwf.1.1
 refine Vc.seq (Vc.region hG rfl (by trivial) (Vc.seq (Vc.region hG rfl (by trivial) ?_)))
 refine Vc.seq (Vc.seq (Vc.region hG rfl (by trivial) (Vc.block ?_)))
 refine Vc.loopF [(5, false, .pure (.int .i64)), (10, false, .pure (.int .i64))] [0, 1, 4, 8, 9] (fun v => foInv (cntStep a1) 0 a0 v.1 v.2.1) (fun v => ((List.length a0 : Int) - v.2.1).toNat) rfl ?_ ?_
 · exact foStart
 rintro ⟨(acc : Int), (i : Int), _⟩ hI
 have hI : foInv (cntStep a1) 0 a0 acc i := hI
 refine Vc.seq (Vc.region hG rfl (by trivial) (Vc.seq ?_))
 refine Vc.cond rfl (fun h0 => ?_) (fun h0 => ?_)
 · have hl : i < (List.length a0 : Int) := of_decide_eq_true h0
   refine Vc.skip (Vc.seq (Vc.block (Vc.seq ?_)))
   refine Vc.region hG rfl ?_ ?_
   · exact foRange hI hl
   refine Vc.seq ?_
   refine Vc.region hG rfl ?_ ?_
   · repeat' (first | exact trivial | refine And.intro ?_ ?_ | intro _)
   refine Vc.cond rfl (fun h1 => ?_) (fun h1 => ?_)
   · have g1 : inSp a1 (List.getD a0 i.toNat (dflt Y4)) = true := h1
     have st := foStepE (d := dflt Y4) hI hl hb (cntY (n := acc) g1).symm
     refine Vc.region hG rfl (by trivial) (Vc.region hG rfl (by trivial) ?_)
     refine ⟨rfl, ?_⟩
     exact st
   · have g1 : inSp a1 (List.getD a0 i.toNat (dflt Y4)) = false := h1
     have st := foStepE (d := dflt Y4) hI hl hb (cntN (n := acc) g1).symm
     refine Vc.skip (Vc.region hG rfl (by trivial) ?_)
     refine ⟨rfl, ?_⟩
     exact st
 · have hl : ¬ i < (List.length a0 : Int) := of_decide_eq_false h0
   refine Vc.exit (Vc.seq (Vc.region hG rfl (by trivial) (Vc.ret ?_)))
   refine ⟨?_, trivial⟩
   exact foEnd hI hl
noncomputable def F298 : Fun := ⟨[.slice Y4, .int .i64, .int .i64], [.pure (.bool)], fun _ => True, fun x => (supF x.1 x.2.1 x.2.2.1, ())⟩
theorem F298_ok : Meets Tryz.prog 298 F298 := by
 refine meets_of_vc (C := mkC 22 [6] [0,1,2,6] [⟨147, _, F147_ok⟩, ⟨319, _, F319_ok⟩]) (mkC_ok _ _ _ _) (fnOf_ok _) Tryz.func298 rfl rfl rfl (by decide) rfl ?_
 rintro ⟨a0, (a1 : Int), (a2 : Int), _⟩ hwf hpre ⟨P, C, B, X, w0, M0, pv⟩ hG rfl rfl
 show Vc _ _ [(0, ⟨0, 0, .c Z14 a0⟩), (1, ⟨0, 0, .c (.pure (.int .i64)) a1⟩), (2, ⟨0, 0, .c (.pure (.int .i64)) a2⟩)] _
 refine Vc.seq (Vc.region hG rfl (by trivial) (Vc.seq ?_))
 refine Vc.region hG rfl ?_ ?_
 · repeat' (first | exact trivial | refine And.intro ?_ ?_ | intro _)
 refine Vc.ret ?_
 refine ⟨?_, trivial⟩
 all_goals exact rfl
noncomputable def F252 : Fun := ⟨[.slice Y4, .int .i64], [.pure Y4, .pure (.bool)], fun _ => True, fun x => ((agreedF x.1 x.2.1).1, (agreedF x.1 x.2.1).2, ())⟩
theorem F252_ok : Meets Tryz.prog 252 F252 := by
 refine meets_of_vc (C := mkC 25 [4, 5] [0,1,4,5,6,7,8,10,16,18] [⟨298, _, F298_ok⟩]) (mkC_ok _ _ _ _) (fnOf_ok _) Tryz.func252 rfl rfl rfl (by decide) rfl ?_
 rintro ⟨a0, (a1 : Int), _⟩ hwf hpre ⟨P, C, B, X, w0, M0, pv⟩ hG rfl rfl
 show Vc _ _ [(0, ⟨0, 0, .c Z14 a0⟩), (1, ⟨0, 0, .c (.pure (.int .i64)) a1⟩)] _
 have hb : List.length a0 ≤ bigLen := hwf.1.1
 refine Vc.seq (Vc.region hG rfl (by trivial) (Vc.seq (Vc.region hG rfl (by trivial) ?_)))
 refine Vc.seq (Vc.region hG rfl (by trivial) (Vc.seq (Vc.seq ?_)))
 refine Vc.region hG rfl (by trivial) (Vc.block ?_)
 refine Vc.loopF [(6, true, .pure Y4), (7, false, .pure (.bool)), (8, false, .pure (.int .i64))] [0, 1, 4, 5] (fun v => agInv a0 a1 v.1 v.2.1 v.2.2.1) (fun v => ((10001 : Int) - v.2.2.1).toNat) rfl ?_ ?_
 · exact agStart
 rintro ⟨s, fd, (t : Int), _⟩ hI
 have hI : agInv a0 a1 s fd t := hI
 refine Vc.seq (Vc.seq (Vc.region hG rfl (by trivial) ?_))
 refine Vc.cond rfl (fun h0 => ?_) (fun h0 => ?_)
 · have hl : t ≤ 10000 := of_decide_eq_true h0
   refine Vc.skip (Vc.seq (Vc.block (Vc.seq ?_)))
   refine Vc.region hG rfl (by trivial) ?_
   refine Vc.cond rfl (fun h1 => ?_) (fun h1 => ?_)
   · have g1 : supF a0 t a1 = true := h1
     refine Vc.seq (Vc.seq (Vc.region hG rfl (by trivial) ?_))
     refine Vc.cond rfl (fun h2 => ?_) (fun h2 => ?_)
     · have g2 : fd = false := by simpa using h2
       have st := agStep hI hl (s' := (t, t)) (found' := true) (by rw [if_pos g1, if_neg (by rw [g2]; decide)])
       refine Vc.region hG rfl (by trivial) (Vc.seq (Vc.region hG rfl (by trivial) (Vc.region hG rfl (by trivial) ?_)))
       refine Vc.region hG rfl (by trivial) ?_
       refine ⟨rfl, ?_⟩
       exact st
     · have g2 : fd = true := by simpa using h2
       have st := agStep hI hl (s' := (s.1, t)) (found' := true) (by rw [if_pos g1, if_pos g2])
       refine Vc.skip (Vc.seq (Vc.region hG rfl (by trivial) (Vc.region hG rfl (by trivial) ?_)))
       refine Vc.region hG rfl (by trivial) ?_
       refine ⟨rfl, ?_⟩
       exact st
   · have g1 : supF a0 t a1 = false := h1
     have st := agStep hI hl (s' := s) (found' := fd) (by rw [if_neg (by rw [g1]; decide)])
     refine Vc.skip (Vc.region hG rfl (by trivial) ?_)
     refine ⟨rfl, ?_⟩
     exact st
 · have hl : ¬ t ≤ 10000 := of_decide_eq_false h0
   refine Vc.exit (Vc.seq (Vc.region hG rfl (by trivial) (Vc.ret ?_)))
   have e := agEnd hI hl
   refine ⟨?_, ?_, trivial⟩
   · exact congrArg (fun (q : Span × Bool) => q.1) e
   · exact congrArg (fun (q : Span × Bool) => q.2) e
noncomputable def F163 : Fun := ⟨[.slice Y15, .slice Y32, .int .i64], [.pure Y4, .pure (.bool)], fun x => (fun (_ : List Authority) (a1 : List Stamp) (_ : Int) => List.length a1 ≤ 1048576) x.1 x.2.1 x.2.2.1, fun x => (((fun a0 a1 a2 => rsF a0 a1 a2) x.1 x.2.1 x.2.2.1).1, ((fun a0 a1 a2 => rsF a0 a1 a2) x.1 x.2.1 x.2.2.1).2, ())⟩
theorem F163_ok : Meets Tryz.prog 163 F163 := by
 refine meets_of_vc (C := mkC 38 [6, 7] [0,1,2,6,7,8,10,11,12,13,14,15,16,26] [⟨251, _, F251_ok⟩, ⟨252, _, F252_ok⟩]) (mkC_ok _ _ _ _) (fnOf_ok _) Tryz.func163 rfl rfl rfl (by decide) rfl ?_
 rintro ⟨a0, a1, (a2 : Int), _⟩ hwf hpre ⟨P, C, B, X, w0, M0, pv⟩ hG rfl rfl
 show Vc _ _ [(0, ⟨0, 0, .c Z21 a0⟩), (1, ⟨0, 0, .c Z37 a1⟩), (2, ⟨0, 0, .c (.pure (.int .i64)) a2⟩)] _
 have hs : List.length a1 ≤ 1048576 := hpre
 have hb : List.length a1 ≤ bigLen := by unfold bigLen; omega
 refine Vc.seq (Vc.region hG rfl (by trivial) (Vc.seq (Vc.region hG rfl (by trivial) ?_)))
 refine Vc.seq (Vc.seq (Vc.region hG rfl (by trivial) (Vc.block ?_)))
 refine Vc.loopF [(6, true, .pure Y4), (8, false, .own Z8), (15, false, .pure (.int .i64))] [0, 1, 2, 13, 14] (fun v => rsInv a0 a1 v.2.1 v.2.2.1) (fun v => ((List.length a1 : Int) - v.2.2.1).toNat) rfl ?_ ?_
 · exact rsStart
 rintro ⟨r6, acc, (i : Int), _⟩ hI
 have hI : rsInv a0 a1 acc i := hI
 have hA : List.length acc ≤ 1048576 := Nat.le_trans (rsLen hI) hs
 refine Vc.seq (Vc.region hG rfl (by trivial) (Vc.seq ?_))
 refine Vc.cond rfl (fun h0 => ?_) (fun h0 => ?_)
 · have hl : i < (List.length a1 : Int) := of_decide_eq_true h0
   refine Vc.skip (Vc.seq (Vc.block (Vc.seq ?_)))
   refine Vc.region hG rfl ?_ ?_
   · exact rsRange hI hl
   refine Vc.seq (Vc.region hG rfl (by trivial) (Vc.seq (Vc.seq ?_)))
   refine Vc.region hG rfl (by trivial) ?_
   refine Vc.cond rfl (fun h1 => ?_) (fun h1 => ?_)
   · have g1 : ¬ rsP a0 (List.getD a1 i.toNat (dflt TStamp)) := fun q => nself q h1
     refine Vc.seq (Vc.region hG rfl (by trivial) (Vc.ret ?_))
     have e := rsBad (d := dflt TStamp) (liars := a2) hI hl g1
     refine ⟨?_, ?_, trivial⟩
     · exact congrArg (fun (q : Span × Bool) => q.1) e
     · exact congrArg (fun (q : Span × Bool) => q.2) e
   · have g1 : rsP a0 (List.getD a1 i.toNat (dflt TStamp)) := notF h1
     refine Vc.skip ?_
     refine Vc.region hG rfl ?_ ?_
     · show List.length acc + 1 ≤ maxApp
       unfold maxApp; omega
     refine Vc.region hG rfl (by trivial) ?_
     refine ⟨rfl, ?_⟩
     exact rsStep (d := dflt TStamp) hI hl hb g1
 · have hl : ¬ i < (List.length a1 : Int) := of_decide_eq_false h0
   refine Vc.exit (Vc.seq (Vc.region hG rfl (by trivial) (Vc.ret ?_)))
   have e := rsEnd (liars := a2) hI hl
   refine ⟨?_, ?_, trivial⟩
   · exact congrArg (fun (q : Span × Bool) => q.1) e
   · exact congrArg (fun (q : Span × Bool) => q.2) e
noncomputable def F318 : Fun := ⟨[.slice Y15, .pair (.int .i64) Y56, .int .i64], [.pure Y4, .pure (.bool)], fun x => (fun (_ : List Authority) (a1 : Renewal) (_ : Int) => List.length a1.2.2.2.2 ≤ 1048576) x.1 x.2.1 x.2.2.1, fun x => (((fun a0 a1 a2 => rsF a0 a1.2.2.2.2 a2) x.1 x.2.1 x.2.2.1).1, ((fun a0 a1 a2 => rsF a0 a1.2.2.2.2 a2) x.1 x.2.1 x.2.2.1).2, ())⟩
theorem F318_ok : Meets Tryz.prog 318 F318 := by
 refine meets_of_vc (C := mkC 15 [6, 7] [0,1,2,4,6,7] [⟨163, _, F163_ok⟩]) (mkC_ok _ _ _ _) (fnOf_ok _) Tryz.func318 rfl rfl rfl (by decide) rfl ?_
 rintro ⟨a0, a1, (a2 : Int), _⟩ hwf hpre ⟨P, C, B, X, w0, M0, pv⟩ hG rfl rfl
 show Vc _ _ [(0, ⟨0, 0, .c Z21 a0⟩), (1, ⟨0, 0, .c Z60 a1⟩), (2, ⟨0, 0, .c (.pure (.int .i64)) a2⟩)] _
 have hs : List.length a1.2.2.2.2 ≤ 1048576 := hpre
 refine Vc.seq (Vc.region hG rfl (by trivial) (Vc.seq ?_))
 refine Vc.region hG rfl ?_ ?_
 · exact hs
 refine Vc.ret ?_
 refine ⟨?_, ?_, trivial⟩
 all_goals exact rfl
noncomputable def F296 : Fun := ⟨[.pair Y34 Y58, .pair (.int .i64) Y56], [.pure Y4, .pure (.bool)], fun x => (fun (_ : Frame) (r : Renewal) => List.length r.2.2.2.2 ≤ 1048576) x.1 x.2.1, fun x => ((spanOfF x.1 x.2.1).1, (spanOfF x.1 x.2.1).2, ())⟩
theorem F296_ok : Meets Tryz.prog 296 F296 := by
 refine meets_of_vc (C := mkC 14 [4, 5] [0,1,2,3,4,5] [⟨318, _, F318_ok⟩]) (mkC_ok _ _ _ _) (fnOf_ok _) Tryz.func296 rfl rfl rfl (by decide) rfl ?_
 rintro ⟨a0, a1, _⟩ hwf hpre ⟨P, C, B, X, w0, M0, pv⟩ hG rfl rfl
 show Vc _ _ [(0, ⟨0, 0, .c Z70 a0⟩), (1, ⟨0, 0, .c Z60 a1⟩)] _
 have hs : List.length a1.2.2.2.2 ≤ 1048576 := hpre
 refine Vc.seq (Vc.region hG rfl (by trivial) (Vc.seq ?_))
 refine Vc.region hG rfl ?_ ?_
 · exact hs
 refine Vc.ret ?_
 refine ⟨?_, ?_, trivial⟩
 all_goals exact rfl
noncomputable def F249 : Fun := ⟨[.pair (.int .i64) Y24], [.own (.pure (.int .i64))], fun _ => True, fun x => (stampIntsF x.1, ())⟩
theorem F249_ok : Meets Tryz.prog 249 F249 := by
 refine meets_of_vc (C := mkC 12 [2] [0,1,2] []) (mkC_ok _ _ _ _) (fnOf_ok _) Tryz.func249 rfl rfl rfl (by decide) rfl ?_
 rintro ⟨a0, _⟩ hwf hpre ⟨P, C, B, X, w0, M0, pv⟩ hG rfl rfl
 show Vc _ _ [(0, ⟨0, 0, .c Z33 a0⟩)] _
 refine Vc.seq (Vc.region hG rfl (by trivial) (Vc.seq (Vc.region hG rfl (by trivial) ?_)))
 refine Vc.ret ?_
 refine ⟨?_, trivial⟩
 all_goals exact rfl
noncomputable def F327 : Fun := ⟨[.int .i64, .pair (.int .i64) Y56], [.pure (.int .i64)], fun x => (fun (_ : Int) (r : Renewal) => Sm big20 TRen r) x.1 x.2.1, fun x => (renDigF x.1 x.2.1, ())⟩
theorem F327_ok : Meets Tryz.prog 327 F327 := by
 refine meets_of_vc (C := mkC 59 [4] [0,1,3,4,5,7,8,10,19,20,21,22,26,41,42,43,44] [⟨249, _, F249_ok⟩, ⟨182, _, F182_ok⟩]) (mkC_ok _ _ _ _) (fnOf_ok _) Tryz.func327 rfl rfl rfl (by decide) rfl ?_
 rintro ⟨(a0 : Int), a1, _⟩ hwf hpre ⟨P, C, B, X, w0, M0, pv⟩ hG rfl rfl
 show Vc _ _ [(0, ⟨0, 0, .c (.pure (.int .i64)) a0⟩), (1, ⟨0, 0, .c Z60 a1⟩)] _
 have hp : Sm big20 TRen a1 := hpre
 have h3 : List.length a1.2.2.2.1 ≤ 1048576 := hp.2.2.2.1.1
 have h4 : List.length a1.2.2.2.2 ≤ 1048576 := hp.2.2.2.2.1
 have hb0 : List.length a1.2.2.2.1 ≤ bigLen := hwf.2.1.2.2.2.1.1
 have hb1 : List.length a1.2.2.2.2 ≤ bigLen := hwf.2.1.2.2.2.2.1
 refine Vc.seq (Vc.region hG rfl (by trivial) (Vc.seq (Vc.region hG rfl (by trivial) ?_)))
 refine Vc.seq (Vc.seq (Vc.region hG rfl (by trivial) (Vc.block ?_)))
 refine Vc.loopF [(5, false, .own (.pure (.int .i64))), (21, false, .pure (.int .i64))] [0, 1, 3, 4, 10, 19, 20, 41, 42, 43, 44] (fun v => gsInv (stepG a1) [4, a1.1, a1.2.1, a1.2.2.1] a1.2.2.2.1 v.1 v.2.1) (fun v => ((List.length a1.2.2.2.1 : Int) - v.2.1).toNat) rfl ?_ ?_
 · exact gsStart
 rintro ⟨acc, (i : Int), _⟩ hI0
 have hI0 : gsInv (stepG a1) [4, a1.1, a1.2.1, a1.2.2.1] a1.2.2.2.1 acc i := hI0
 have hA : List.length acc ≤ 2097156 := gsLen (c := 2) (m := 1048576) hI0 (fun _ => Nat.le_refl _) h3 (by simp)
 refine Vc.seq (Vc.region hG rfl (by trivial) (Vc.seq ?_))
 refine Vc.cond rfl (fun h0 => ?_) (fun h0 => ?_)
 · have hl0 : i < (List.length a1.2.2.2.1 : Int) := of_decide_eq_true h0
   refine Vc.skip (Vc.seq (Vc.block (Vc.seq ?_)))
   refine Vc.region hG rfl ?_ ?_
   · exact gsRange hI0 hl0
   refine Vc.seq (Vc.region hG rfl (by trivial) (Vc.seq (Vc.seq ?_)))
   refine Vc.region hG rfl (by trivial) ?_
   refine Vc.cond rfl (fun h1 => ?_) (fun h1 => ?_)
   · have g1 : (List.getD a1.2.2.2.1 i.toNat (dflt TStep)).2 = true := h1
     refine Vc.region hG rfl (by trivial) ?_
     refine Vc.region hG rfl ?_ ?_
     · exact (show List.length acc + 2 ≤ maxApp from by unfold maxApp; omega)
     refine Vc.region hG rfl (by trivial) ?_
     refine ⟨rfl, ?_⟩
     first | exact gsStep hI0 hl0 hb0 (stepYesI g1) | exact gsStep hI0 hl0 hb0 (stepNoI g1)
   · have g1 : (List.getD a1.2.2.2.1 i.toNat (dflt TStep)).2 = false := h1
     refine Vc.skip ?_
     refine Vc.region hG rfl ?_ ?_
     · exact (show List.length acc + 2 ≤ maxApp from by unfold maxApp; omega)
     refine Vc.region hG rfl (by trivial) ?_
     refine ⟨rfl, ?_⟩
     first | exact gsStep hI0 hl0 hb0 (stepYesI g1) | exact gsStep hI0 hl0 hb0 (stepNoI g1)
 · have hl0 : ¬ i < (List.length a1.2.2.2.1 : Int) := of_decide_eq_false h0
   refine Vc.exit (Vc.seq ?_)
   refine Vc.region hG rfl ?_ ?_
   · exact (show List.length acc + 1 ≤ maxApp from by unfold maxApp; omega)
   refine Vc.seq (Vc.seq (Vc.region hG rfl (by trivial) (Vc.block ?_)))
   refine Vc.loopF [(5, false, .own (.pure (.int .i64))), (43, false, .pure (.int .i64))] [0, 1, 3, 4, 7, 8, 19, 20, 21, 22, 26, 41, 42] (fun v => gsInv (stmpG a1) (renMid a1) a1.2.2.2.2 v.1 v.2.1) (fun v => ((List.length a1.2.2.2.2 : Int) - v.2.1).toNat) rfl ?_ ?_
   · exact gsStart2 (renMidEq hI0 hl0)
   rintro ⟨acc2, (i : Int), _⟩ hI1
   have hI1 : gsInv (stmpG a1) (renMid a1) a1.2.2.2.2 acc2 i := hI1
   have hA2 : List.length acc2 ≤ 8388613 := gsLen (c := 6) (m := 1048576) hI1 (fun _ => Nat.le_refl _) h4 (by have := midLen h3; omega)
   refine Vc.seq (Vc.region hG rfl (by trivial) (Vc.seq ?_))
   refine Vc.cond rfl (fun h2 => ?_) (fun h2 => ?_)
   · have hl1 : i < (List.length a1.2.2.2.2 : Int) := of_decide_eq_true h2
     refine Vc.skip (Vc.seq (Vc.block (Vc.seq ?_)))
     refine Vc.region hG rfl ?_ ?_
     · exact gsRange hI1 hl1
     refine Vc.regionD mixed hG rfl (by kernel_rfl) ?_ ?_
     · exact ⟨trivial, (show List.length acc2 + 5 ≤ maxApp from by unfold maxApp; omega), (by show List.length (acc2 ++ stampIntsF (List.getD a1.2.2.2.2 i.toNat (dflt TStamp))) + 1 ≤ maxApp; rw [List.length_append]; show List.length acc2 + 5 + 1 ≤ maxApp; unfold maxApp; omega)⟩
     refine Vc.region hG rfl (by trivial) ?_
     refine ⟨rfl, ?_⟩
     exact gsStep hI1 hl1 hb1 stmpEq
   · have hl1 : ¬ i < (List.length a1.2.2.2.2 : Int) := of_decide_eq_false h2
     refine Vc.exit (Vc.seq ?_)
     refine Vc.region hG rfl ?_ ?_
     · exact (show List.length acc2 ≤ 1000000000 from by omega)
     refine Vc.ret ?_
     refine ⟨?_, trivial⟩
     have e := congrArg (digestF a0) (gsEnd hI1 hl1)
     exact e
end Fw
