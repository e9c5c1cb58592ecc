/- Walks of functions of the program: what each computes. Conditions: those that each contract names. -/
import Derived.Test.YtcfpjofohnaolaaGreatW41T
import Derived.Test.YtcfpjofohnaolaaGreatW41s0
namespace Fw
open Go Go.Proofs
set_option linter.unusedSimpArgs false
set_option maxRecDepth 100000
noncomputable def F119 : Fun := ⟨[.pair (.int .i64) Y9], [.pure (.bool)], fun _ => True, fun x => (docF x.1, ())⟩
theorem F119_ok : Meets Tryz.prog 119 F119 := by
 refine meets_of_vc (C := mkC 51 [2] [0,1,2,3,4,9,18,23,32] [⟨98, _, F98_ok⟩]) (mkC_ok _ _ _ _) (fnOf_ok _) Tryz.func119 rfl rfl rfl (by decide) rfl ?_
 rintro ⟨a0, _⟩ hwf hpre ⟨P, C, B, X, w0, M0, pv⟩ hG rfl rfl
 show Vc _ _ [(0, ⟨0, 0, .c Z22 a0⟩)] _
 have hb0 : List.length a0.2.1 ≤ bigLen := hwf.1.2.1.1
 have hb1 : List.length a0.2.2 ≤ bigLen := hwf.1.2.2.1
 refine Vc.seq (Vc.region hG rfl (by trivial) (Vc.seq (Vc.seq ?_)))
 refine Vc.region hG rfl (by trivial) (Vc.block ?_)
 refine Vc.loopF [(3, false, .pure (.int .i64))] [0, 1, 4, 23, 32] (fun v => kInv (fun k => (List.length (List.getD a0.2.1 k (dflt .str)) : Int) ≤ 40) a0.2.1 v.1) (fun v => ((List.length a0.2.1 : Int) - v.1).toNat) rfl ?_ ?_
 · exact kStart
 rintro ⟨(i : Int), _⟩ hI0
 have hI0 : kInv (fun k => (List.length (List.getD a0.2.1 k (dflt .str)) : Int) ≤ 40) a0.2.1 i := hI0
 refine Vc.seq (Vc.seq (Vc.region hG rfl (by trivial) ?_))
 refine Vc.cond rfl (fun h0 => ?_) (fun h0 => ?_)
 · have hl0 : i < (List.length a0.2.1 : Int) := of_decide_eq_true h0
   refine Vc.skip (Vc.seq (Vc.block (Vc.seq ?_)))
   refine Vc.region hG rfl ?_ ?_
   · exact kRange hI0 hl0
   refine Vc.cond rfl (fun h1 => ?_) (fun h1 => ?_)
   · have g1 : (List.length (List.getD a0.2.1 i.toNat (dflt .str)) : Int) > 40 := of_decide_eq_true h1
     refine Vc.seq (Vc.region hG rfl (by trivial) (Vc.ret ?_))
     refine ⟨?_, trivial⟩
     refine boolC_no (P := docP a0) (fun h => ?_)
     have q := h.2.2.2.1 i.toNat (kLt hI0 hl0)
     exact absurd q (Int.not_le.2 g1)
   · have g1 : ¬ (List.length (List.getD a0.2.1 i.toNat (dflt .str)) : Int) > 40 := of_decide_eq_false h1
     refine Vc.skip (Vc.region hG rfl (by trivial) ?_)
     refine ⟨rfl, ?_⟩
     exact kStep hI0 hl0 hb0 (show (List.length (List.getD a0.2.1 i.toNat (dflt .str)) : Int) ≤ 40 from Int.not_lt.1 g1)
 · have hl0 : ¬ i < (List.length a0.2.1 : Int) := of_decide_eq_false h0
   refine Vc.exit (Vc.seq (Vc.seq (Vc.region hG rfl (by trivial) ?_)))
   refine Vc.block ?_
   refine Vc.loopF [(4, false, .pure (.int .i64))] [0, 1, 3, 9, 18] (fun v => kInv (fun k => inRangeF (List.getD a0.2.2 k (dflt (.int .i64))) 1 1000000000000 = true) a0.2.2 v.1) (fun v => ((List.length a0.2.2 : Int) - v.1).toNat) rfl ?_ ?_
   · exact kStart
   rintro ⟨(i : Int), _⟩ hI1
   have hI1 : kInv (fun k => inRangeF (List.getD a0.2.2 k (dflt (.int .i64))) 1 1000000000000 = true) a0.2.2 i := hI1
   refine Vc.seq (Vc.seq (Vc.region hG rfl (by trivial) ?_))
   refine Vc.cond rfl (fun h2 => ?_) (fun h2 => ?_)
   · have hl1 : i < (List.length a0.2.2 : Int) := of_decide_eq_true h2
     refine Vc.skip (Vc.seq (Vc.block (Vc.seq ?_)))
     refine Vc.region hG rfl ?_ ?_
     · exact ⟨kRange hI1 hl1, trivial⟩
     refine Vc.cond rfl (fun h3 => ?_) (fun h3 => ?_)
     · have g3 : (!(inRangeF (List.getD a0.2.2 i.toNat (dflt (.int .i64))) 1 1000000000000)) = true := h3
       refine Vc.seq (Vc.region hG rfl (by trivial) (Vc.ret ?_))
       refine ⟨?_, trivial⟩
       refine boolC_no (P := docP a0) (fun h => ?_)
       exact nself (h.2.2.2.2 i.toNat (kLt hI1 hl1)) g3
     · have g3 : (!(inRangeF (List.getD a0.2.2 i.toNat (dflt (.int .i64))) 1 1000000000000)) = false := h3
       refine Vc.skip (Vc.region hG rfl (by trivial) ?_)
       refine ⟨rfl, ?_⟩
       exact kStep hI1 hl1 hb1 (notF g3)
   · have hl1 : ¬ i < (List.length a0.2.2 : Int) := of_decide_eq_false h2
     refine Vc.exit (Vc.seq ?_)
     refine Vc.region hG rfl ?_ ?_
     · repeat' (first | exact trivial | refine And.intro ?_ ?_ | intro _)
     refine Vc.ret ?_
     refine ⟨?_, trivial⟩
     refine boolC_by (P := docP a0) (fun e => ?_) (fun h => ?_)
     · exact ⟨(andT (andT e).1).1, (andT (andT e).1).2, lenBeqI (andT e).2, kEnd hI0 hl0, kEnd hI1 hl1⟩
     · exact yesAnd (yesAnd h.1 h.2.1) (lenBeq h.2.2.1)
noncomputable def F161 : Fun := ⟨[.int .i64], [.pure (.bool)], fun _ => True, fun x => (validKeyF x.1, ())⟩
theorem F161_ok : Meets Tryz.prog 161 F161 := by
 refine meets_of_vc (C := mkC 5 [2] [0,2] [⟨98, _, F98_ok⟩]) (mkC_ok _ _ _ _) (fnOf_ok _) Tryz.func161 rfl rfl rfl (by decide) rfl ?_
 rintro ⟨(a0 : Int), _⟩ hwf hpre ⟨P, C, B, X, w0, M0, pv⟩ hG rfl rfl
 show Vc _ _ [(0, ⟨0, 0, .c (.pure (.int .i64)) a0⟩)] _
 refine Vc.seq (Vc.region hG rfl (by trivial) (Vc.seq (Vc.region hG rfl (by trivial) ?_)))
 refine Vc.ret ?_
 refine ⟨?_, trivial⟩
 all_goals exact rfl
noncomputable def F154 : Fun := ⟨[.int .i64, .slice (.str), .int .i64], [.pair (.pure (.int .i64)) Z12, .pure (.bool)], fun x => (fun (_ : Int) (l : List (List UInt8)) (_ : Int) => List.length l ≤ big20) x.1 x.2.1 x.2.2.1, fun x => ((makeDocF x.1 x.2.1 x.2.2.1).1, (makeDocF x.1 x.2.1 x.2.2.1).2, ())⟩
theorem F154_ok : Meets Tryz.prog 154 F154 := by
 refine meets_of_vc (C := mkC 42 [6, 7] [0,1,2,6,7,8,9,18,39] [⟨115, _, F115_ok⟩, ⟨160, _, F160_ok⟩, ⟨119, _, F119_ok⟩, ⟨161, _, F161_ok⟩]) (mkC_ok _ _ _ _) (fnOf_ok _) Tryz.func154 rfl rfl rfl (by decide) rfl ?_
 rintro ⟨(a0 : Int), a1, (a2 : Int), _⟩ hwf hpre ⟨P, C, B, X, w0, M0, pv⟩ hG rfl rfl
 show Vc _ _ [(0, ⟨0, 0, .c (.pure (.int .i64)) a0⟩), (1, ⟨0, 0, .c (.pure (.slice (.str))) a1⟩), (2, ⟨0, 0, .c (.pure (.int .i64)) a2⟩)] _
 have hs : List.length a1 ≤ big20 := hpre
 refine Vc.seq (Vc.region hG rfl (by trivial) (Vc.seq ?_))
 refine Vc.region hG rfl ?_ ?_
 · exact appOk hs
 refine Vc.seq (Vc.seq (Vc.region hG rfl (by trivial) (Vc.block ?_)))
 refine Vc.loopF [(8, true, .pair (.pure (.int .i64)) Z12), (9, false, .pure (.int .i64))] [0, 1, 2, 6, 7, 39] (fun v => mdInv a0 a1 a2 v.1 v.2.1) (fun v => ((List.length a1 : Int) - v.2.1).toNat) rfl ?_ ?_
 · exact mdStart
 rintro ⟨d, (i : Int), _⟩ hI
 have hI : mdInv a0 a1 a2 d i := hI
 refine Vc.seq (Vc.seq (Vc.region hG rfl (by trivial) ?_))
 refine Vc.cond rfl (fun h0 => ?_) (fun h0 => ?_)
 · have hl : i < (List.length a1 : Int) := of_decide_eq_true h0
   refine Vc.skip (Vc.seq (Vc.block ?_))
   refine Vc.regionD mixed hG rfl (by kernel_rfl) ?_ ?_
   · repeat' (first | exact trivial | exact (Nat.le_of_ble_eq_true rfl : (2 : Nat) ≤ 1000000001) | exact mdLen hI hs | refine And.intro ?_ ?_ | intro _)
   refine Vc.region hG rfl (by trivial) ?_
   refine ⟨rfl, ?_⟩
   exact mdStep hI hl hs rfl
 · have hl : ¬ i < (List.length a1 : Int) := of_decide_eq_false h0
   refine Vc.exit (Vc.seq (Vc.seq ?_))
   refine Vc.region hG rfl ?_ ?_
   · repeat' (first | exact trivial | refine And.intro ?_ ?_ | intro _)
   refine Vc.cond rfl (fun h1 => ?_) (fun h1 => ?_)
   · refine Vc.seq (Vc.region hG rfl (by trivial) (Vc.ret ?_))
     have e := md0 hI hl h1
     refine ⟨?_, ?_, trivial⟩
     · exact (congrArg Prod.fst e).symm
     · exact (congrArg Prod.snd e).symm
   · refine Vc.skip (Vc.seq (Vc.region hG rfl (by trivial) (Vc.ret ?_)))
     have e := md1 hI hl h1
     refine ⟨?_, ?_, trivial⟩
     · exact (congrArg Prod.fst e).symm
     · exact (congrArg Prod.snd e).symm
noncomputable def P139 : PFun := ⟨.pure Y13, [], [.pair (.pure (.int .i64)) Z12], fun x xs => curOk x, fun x xs => (docD x).2, fun x xs => ((docD x).1, ())⟩
theorem P139_ok : MeetsP Tryz.prog 139 P139 := by
 refine meetsP_of_vc (C := mkCP 28 [2] [0,2,3,4,5,12] [⟨154, _, F154_ok⟩] [] [] [⟨38, _, P38_ok⟩, ⟨153, _, P153_ok⟩] [0]) (mkCP_ok _ _ _ _ _ _ _ _) (fnOf_ok _) Tryz.func139 rfl rfl rfl (by decide) rfl rfl rfl ?_ rfl
 rintro c ⟨_⟩ hwc hwf hpre ⟨P, C, B, X, w0, M0, pv⟩ hG rfl rfl
 show Vc _ _ [(0, ⟨0, 0, .c (.ref Z17) c⟩)] _
 refine Vc.seq (Vc.region hG rfl (by trivial) (Vc.seq (Vc.region hG rfl (by trivial) ?_)))
 refine Vc.seq (Vc.seq ?_)
 refine Vc.region hG rfl ?_ ?_
 · exact hpre
 refine Vc.block ?_
 refine Vc.loopF [(0, true, .pure Y13), (3, false, .own (.pure (.str))), (4, false, .pure (.int .i64))] [2, 5] (fun v => dnInv partS ((belowF c 3).2, []) (IntKind.i64.wrap (1 + (belowF c 3).1)) (v.1, v.2.1) v.2.2.1) (fun v => (v.2.2.1 : Int).toNat) rfl ?_ ?_
 · exact dnStart ⟨(bel3n c).1, (bel3n c).2.1⟩
 rintro ⟨c2, acc, (i : Int), _⟩ hI
 have hI : dnInv partS ((belowF c 3).2, []) (IntKind.i64.wrap (1 + (belowF c 3).1)) (c2, acc) i := hI
 obtain ⟨k, hk, hc2, hlen, _⟩ := dnP partP ⟨below_ok hpre, rfl, by simp⟩ partS_P hI
 have hlen : List.length acc = k := hlen
 have hc2 : curOk c2 := hc2
 have hn := (bel3n c).2.1
 refine Vc.seq (Vc.seq (Vc.region hG rfl (by trivial) ?_))
 refine Vc.cond rfl (fun h0 => ?_) (fun h0 => ?_)
 · have hl : i > 0 := of_decide_eq_true h0
   refine Vc.skip (Vc.seq (Vc.block ?_))
   refine Vc.region hG rfl ?_ ?_
   · exact ⟨hc2, dnApp hlen hk hn⟩
   refine Vc.region hG rfl (by trivial) ?_
   refine ⟨rfl, ?_⟩
   exact dnStep hI hl
 · have hl : ¬ i > 0 := of_decide_eq_false h0
   have hE := dnEnd hI hl
   refine Vc.exit (Vc.seq ?_)
   refine Vc.region hG rfl ?_ ?_
   · repeat' (first | exact trivial | exact hc2 | exact dnBig hlen hk hn | refine And.intro ?_ ?_ | intro _)
   refine Vc.seq (Vc.region hG rfl (by trivial) (Vc.ret ?_))
   have e := docD_leaf hE
   refine ⟨⟨?_, trivial⟩, ?_, trivial⟩
   · exact (congrArg Prod.snd e).symm
   · exact (congrArg Prod.fst e).symm
noncomputable def F42 : Fun := ⟨[], [.own Z28], fun _ => True, fun x => (keysT , ())⟩
theorem F42_ok : Meets Tryz.prog 42 F42 := by
 refine meets_of_vc (C := mkC 12 [0] [0] []) (mkC_ok _ _ _ _) (fnOf_ok _) Tryz.func42 rfl rfl rfl (by decide) rfl ?_
 rintro ⟨_⟩ hwf hpre ⟨P, C, B, X, w0, M0, pv⟩ hG rfl rfl
 show Vc _ _ [] _
 refine Vc.seq (Vc.region hG rfl (by trivial) (Vc.seq (Vc.region hG rfl (by trivial) ?_)))
 refine Vc.ret ?_
 refine ⟨?_, trivial⟩
 all_goals exact rfl
noncomputable def F114 : Fun := ⟨[.int .i64, .slice (.int .i64)], [.pure (.int .i64)], fun x => (fun (_ : Int) (l : List Int) => smallL l) x.1 x.2.1, fun x => (digestF x.1 x.2.1, ())⟩
theorem F114_ok : Meets Tryz.prog 114 F114 := by
 refine meets_of_vc (C := mkC 10 [4] [0,1,4] [⟨135, _, F135_ok⟩]) (mkC_ok _ _ _ _) (fnOf_ok _) Tryz.func114 rfl rfl rfl (by decide) rfl ?_
 rintro ⟨(a0 : Int), a1, _⟩ hwf hpre ⟨P, C, B, X, w0, M0, pv⟩ hG rfl rfl
 show Vc _ _ [(0, ⟨0, 0, .c (.pure (.int .i64)) a0⟩), (1, ⟨0, 0, .c Z3 a1⟩)] _
 have hp : List.length a1 ≤ 1000000000 := hpre
 refine Vc.seq (Vc.region hG rfl (by trivial) (Vc.seq ?_))
 refine Vc.region hG rfl ?_ ?_
 · refine ⟨?_, trivial⟩
   show 2 + List.length a1 ≤ maxApp
   unfold maxApp; omega
 refine Vc.ret ?_
 refine ⟨?_, trivial⟩
 exact (digest_eq a0 a1).symm
noncomputable def F134 : Fun := ⟨[.int .i64, .str, .int .i64], [.pure (.int .i64)], fun x => (fun (_ : Int) (s : List UInt8) (_ : Int) => s.length ≤ 40) x.1 x.2.1 x.2.2.1, fun x => (partF x.1 x.2.1 x.2.2.1, ())⟩
theorem F134_ok : Meets Tryz.prog 134 F134 := by
 refine meets_of_vc (C := mkC 27 [6] [0,1,2,6,7,8,14] [⟨114, _, F114_ok⟩]) (mkC_ok _ _ _ _) (fnOf_ok _) Tryz.func134 rfl rfl rfl (by decide) rfl ?_
 rintro ⟨(a0 : Int), a1, (a2 : Int), _⟩ hwf hpre ⟨P, C, B, X, w0, M0, pv⟩ hG rfl rfl
 show Vc _ _ [(0, ⟨0, 0, .c (.pure (.int .i64)) a0⟩), (1, ⟨0, 0, .c (.pure (.str)) a1⟩), (2, ⟨0, 0, .c (.pure (.int .i64)) a2⟩)] _
 have hp : List.length a1 ≤ 40 := hpre
 have hb : List.length a1 ≤ bigLen := hwf.2.1
 refine Vc.seq (Vc.region hG rfl (by trivial) (Vc.seq (Vc.region hG rfl (by trivial) ?_)))
 refine Vc.seq (Vc.seq (Vc.region hG rfl (by trivial) (Vc.block ?_)))
 refine Vc.loopF [(7, false, .own (.pure (.int .i64))), (8, false, .pure (.int .i64))] [0, 1, 2, 6] (fun v => gsInv (partG a1) [a2] a1 v.1 v.2.1) (fun v => ((List.length a1 : Int) - v.2.1).toNat) rfl ?_ ?_
 · exact gsStart
 rintro ⟨acc, (i : Int), _⟩ hI
 have hI : gsInv (partG a1) [a2] a1 acc i := hI
 have hA : List.length acc ≤ 41 := gsLen (c := 1) (m := 40) hI (fun _ => Nat.le_refl _) hp (by simp)
 refine Vc.seq (Vc.seq (Vc.region hG rfl (by trivial) ?_))
 refine Vc.cond rfl (fun h0 => ?_) (fun h0 => ?_)
 · have hl : i < (List.length a1 : Int) := of_decide_eq_true h0
   refine Vc.skip (Vc.seq (Vc.block ?_))
   refine Vc.region hG rfl ?_ ?_
   · exact ⟨gsRange hI hl, (show List.length acc + 1 ≤ maxApp from by unfold maxApp; omega)⟩
   refine Vc.region hG rfl (by trivial) ?_
   refine ⟨rfl, ?_⟩
   exact gsStep hI hl hb rfl
 · have hl : ¬ i < (List.length a1 : Int) := of_decide_eq_false h0
   refine Vc.exit (Vc.seq ?_)
   refine Vc.region hG rfl ?_ ?_
   · exact (show List.length acc ≤ 1000000000 from by omega)
   refine Vc.ret ?_
   refine ⟨?_, trivial⟩
   exact congrArg (digestF a0) (gsEnd hI hl)
end Fw
