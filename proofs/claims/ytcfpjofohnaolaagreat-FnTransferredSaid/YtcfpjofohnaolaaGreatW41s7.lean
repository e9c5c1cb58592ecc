/- Walks of functions of the program: what each computes. Conditions: those that each contract names. -/
import Derived.Test.YtcfpjofohnaolaaGreatW41T
import Derived.Test.YtcfpjofohnaolaaGreatW41s0
import Derived.Test.YtcfpjofohnaolaaGreatW41s1
import Derived.Test.YtcfpjofohnaolaaGreatW41s6
namespace Fw
open Go Go.Proofs
set_option linter.unusedSimpArgs false
set_option maxRecDepth 100000
noncomputable def F100 : Fun := ⟨[.pair Y20 Y47, .slice (.int .i64), .int .i64], [.pure (.int .i64)], fun x => (fun (s : Strand) (_ : List Int) (_ : Int) => Sm big20 (.slice TPiece) s.1 ∧ ∀ r ∈ s.2, Sm big20 TRen r) x.1 x.2.1 x.2.2.1, fun x => (leafAtF x.1 x.2.1 x.2.2.1, ())⟩
theorem F100_ok : Meets Tryz.prog 100 F100 := by
 refine meets_of_vc (C := mkC 69 [6] [0,1,2,3,6,7,8,36,44] [⟨98, _, F98_ok⟩, ⟨113, _, F113_ok⟩, ⟨117, _, F117_ok⟩]) (mkC_ok _ _ _ _) (fnOf_ok _) Tryz.func100 rfl rfl rfl (by decide) rfl ?_
 rintro ⟨a0, a1, (a2 : Int), _⟩ hwf hpre ⟨P, C, B, X, w0, M0, pv⟩ hG rfl rfl
 show Vc _ _ [(0, ⟨0, 0, .c Z51 a0⟩), (1, ⟨0, 0, .c Z3 a1⟩), (2, ⟨0, 0, .c (.pure (.int .i64)) a2⟩)] _
 have hP : Sm big20 (.slice TPiece) a0.1 := hpre.1
 have hR : ∀ r ∈ a0.2, Sm big20 TRen r := hpre.2
 have hb : List.length a0.2 ≤ bigLen := hwf.1.2.1
 refine Vc.seq (Vc.region hG rfl (by trivial) (Vc.seq (Vc.seq ?_)))
 refine Vc.regionD mixed hG rfl (by kernel_rfl) ?_ ?_
 · exact ⟨trivial, fun h => laIdx (orF h).1 hb, fun _ => trivial⟩
 refine Vc.cond rfl (fun h0 => ?_) (fun h0 => ?_)
 · have g0 : leafAtBad a0 a1 a2 = true := h0
   refine Vc.seq (Vc.region hG rfl (by trivial) (Vc.ret ?_))
   refine ⟨?_, trivial⟩
   exact la0 g0
 · have g0 : leafAtBad a0 a1 a2 = false := h0
   have k1 := laIdx (orF (orF g0).1).1 hb
   have k2 : (List.length a1 : Int) = (List.length a0.2 : Int) := bneI (orF (orF g0).1).2
   have k3 := rg (orF g0).2
   have k4 : inRange a2 (List.length a1) := ⟨k1.1, by have := k1.2; omega⟩
   refine Vc.skip (Vc.seq ?_)
   refine Vc.region hG rfl ?_ ?_
   · exact k1
   refine Vc.seq (Vc.region hG rfl (by trivial) (Vc.seq (Vc.seq ?_)))
   refine Vc.region hG rfl (by trivial) ?_
   refine Vc.cond rfl (fun h1 => ?_) (fun h1 => ?_)
   · have g1 : a2 > 0 := of_decide_eq_true h1
     refine Vc.region hG rfl ?_ ?_
     · exact ⟨prevIdx k1 g1 hb, hR _ (getD_mem (prevIdx k1 g1 hb) (dflt TRen))⟩
     refine Vc.seq ?_
     refine Vc.regionD mixed hG rfl (by kernel_rfl) ?_ ?_
     · exact ⟨k4, k1, Int.le_refl _, k3.1, k3.2, subL_sm hP⟩
     refine Vc.ret ?_
     refine ⟨?_, trivial⟩
     exact la1 g0 g1
   · have g1 : ¬ a2 > 0 := of_decide_eq_false h1
     refine Vc.skip (Vc.seq ?_)
     refine Vc.regionD mixed hG rfl (by kernel_rfl) ?_ ?_
     · exact ⟨k4, k1, Int.le_refl _, k3.1, k3.2, subL_sm hP⟩
     refine Vc.ret ?_
     refine ⟨?_, trivial⟩
     exact la2 g0 g1
noncomputable def P132 : PFun := ⟨.pure Y13, [.int .i64], [.own (.pure (.int .i64))], fun x xs => (fun c (m : Int) => curOk c ∧ 0 < m ∧ m ≤ 1000) x xs.1, fun x xs => (leavesD x xs.1).2, fun x xs => ((leavesD x xs.1).1, ())⟩
theorem P132_ok : MeetsP Tryz.prog 132 P132 := by
 refine meetsP_of_vc (C := mkCP 21 [4] [0,1,4,5,6,12] [] [] [] [⟨38, _, P38_ok⟩] [0]) (mkCP_ok _ _ _ _ _ _ _ _) (fnOf_ok _) Tryz.func132 rfl rfl rfl (by decide) rfl rfl rfl ?_ rfl
 rintro c ⟨(a1 : Int), _⟩ hwc hwf hpre ⟨P, C, B, X, w0, M0, pv⟩ hG rfl rfl
 show Vc _ _ [(0, ⟨0, 0, .c (.ref Z17) c⟩), (1, ⟨0, 0, .c (.pure (.int .i64)) a1⟩)] _
 refine Vc.seq (Vc.region hG rfl (by trivial) (Vc.seq (Vc.region hG rfl (by trivial) ?_)))
 refine Vc.seq (Vc.seq ?_)
 refine Vc.region hG rfl ?_ ?_
 · exact hpre.1
 refine Vc.block ?_
 refine Vc.loopF [(0, true, .pure Y13), (5, false, .own (.pure (.int .i64))), (6, false, .pure (.int .i64))] [1, 4] (fun v => dnInv leafS ((belowF c a1).2, []) (belowF c a1).1 (v.1, v.2.1) v.2.2.1) (fun v => (v.2.2.1 : Int).toNat) rfl ?_ ?_
 · exact dnStart (belN hpre.2.1 (Int.le_trans hpre.2.2 (by decide)))
 rintro ⟨c2, acc, (i : Int), _⟩ hI
 have hI : dnInv leafS ((belowF c a1).2, []) (belowF c a1).1 (c2, acc) i := hI
 obtain ⟨k, hk, hc2, hlen⟩ := dnP leafP ⟨below_ok hpre.1, rfl⟩ leafS_P hI
 have hlen : List.length acc = k := hlen
 have hc2 : curOk c2 := hc2
 have hn := (belN (c := c) hpre.2.1 (Int.le_trans hpre.2.2 (by decide))).2
 refine Vc.seq (Vc.seq (Vc.region hG rfl (by trivial) ?_))
 refine Vc.cond rfl (fun h0 => ?_) (fun h0 => ?_)
 · have hl : i > 0 := of_decide_eq_true h0
   refine Vc.skip (Vc.seq (Vc.block ?_))
   refine Vc.region hG rfl ?_ ?_
   · exact ⟨hc2, dnApp hlen hk hn⟩
   refine Vc.region hG rfl (by trivial) ?_
   refine ⟨rfl, ?_⟩
   exact dnStep hI hl
 · have hl : ¬ i > 0 := of_decide_eq_false h0
   have hE := dnEnd hI hl
   refine Vc.exit (Vc.seq (Vc.region hG rfl (by trivial) (Vc.ret ?_)))
   have e := leaves_leaf hE
   refine ⟨⟨?_, trivial⟩, ?_, trivial⟩
   · exact (congrArg Prod.snd e).symm
   · exact (congrArg Prod.fst e).symm
noncomputable def F116 : Fun := ⟨[.int .i64, .int .i64, .int .i64], [.pure (.int .i64)], fun _ => True, fun x => (pairDF x.1 x.2.1 x.2.2.1, ())⟩
theorem F116_ok : Meets Tryz.prog 116 F116 := by
 refine meets_of_vc (C := mkC 12 [6] [0,1,2,6] [⟨114, _, F114_ok⟩]) (mkC_ok _ _ _ _) (fnOf_ok _) Tryz.func116 rfl rfl rfl (by decide) rfl ?_
 rintro ⟨(a0 : Int), (a1 : Int), (a2 : Int), _⟩ hwf hpre ⟨P, C, B, X, w0, M0, pv⟩ hG rfl rfl
 show Vc _ _ [(0, ⟨0, 0, .c (.pure (.int .i64)) a0⟩), (1, ⟨0, 0, .c (.pure (.int .i64)) a1⟩), (2, ⟨0, 0, .c (.pure (.int .i64)) a2⟩)] _
 refine Vc.seq (Vc.region hG rfl (by trivial) (Vc.seq ?_))
 refine Vc.region hG rfl ?_ ?_
 · exact smallLit (n := 3) rfl (by decide)
 refine Vc.ret ?_
 refine ⟨?_, trivial⟩
 all_goals exact rfl
noncomputable def F99 : Fun := ⟨[.int .i64, .slice (.int .i64)], [.own (.pure (.int .i64))], fun x => (fun (_ : Int) (l : List Int) => List.length l ≤ 1048576) x.1 x.2.1, fun x => (upF x.1 x.2.1, ())⟩
theorem F99_ok : Meets Tryz.prog 99 F99 := by
 refine meets_of_vc (C := mkC 41 [4] [0,1,4,5,6,11,18] [⟨116, _, F116_ok⟩]) (mkC_ok _ _ _ _) (fnOf_ok _) Tryz.func99 rfl rfl rfl (by decide) rfl ?_
 rintro ⟨(a0 : Int), a1, _⟩ hwf hpre ⟨P, C, B, X, w0, M0, pv⟩ hG rfl rfl
 show Vc _ _ [(0, ⟨0, 0, .c (.pure (.int .i64)) a0⟩), (1, ⟨0, 0, .c Z3 a1⟩)] _
 have hs : List.length a1 ≤ 1048576 := hpre
 refine Vc.seq (Vc.region hG rfl (by trivial) (Vc.seq (Vc.region hG rfl (by trivial) ?_)))
 refine Vc.seq (Vc.seq (Vc.region hG rfl (by trivial) (Vc.block ?_)))
 refine Vc.loopF [(5, false, .own (.pure (.int .i64))), (6, false, .pure (.int .i64))] [0, 1, 4] (fun v => liInv a0 a1 v.1 v.2.1) (fun v => ((List.length a1 : Int) - v.2.1).toNat) rfl ?_ ?_
 · exact liStart
 rintro ⟨out, (i : Int), _⟩ hI
 have hI : liInv a0 a1 out i := hI
 refine Vc.seq (Vc.seq (Vc.region hG rfl (by trivial) ?_))
 refine Vc.cond rfl (fun h0 => ?_) (fun h0 => ?_)
 · have hl : i < (List.length a1 : Int) := of_decide_eq_true h0
   refine Vc.skip (Vc.seq (Vc.block (Vc.seq ?_)))
   refine Vc.region hG rfl (by trivial) ?_
   refine Vc.cond rfl (fun h1 => ?_) (fun h1 => ?_)
   · have g1 : IntKind.i64.wrap (i + 1) < (List.length a1 : Int) := of_decide_eq_true h1
     refine Vc.regionD mixed hG rfl (by kernel_rfl) ?_ ?_
     · exact ⟨liRange hI hl, liRange1 hI g1 hs hl, trivial, liLen hI hs hl⟩
     refine Vc.region hG rfl (by trivial) ?_
     refine ⟨rfl, ?_⟩
     first
       | exact li2 hI hl hs g1
       | exact li1 hI hl hs g1
   · have g1 : ¬ IntKind.i64.wrap (i + 1) < (List.length a1 : Int) := of_decide_eq_false h1
     refine Vc.region hG rfl ?_ ?_
     · exact ⟨liRange hI hl, liLen hI hs hl⟩
     refine Vc.region hG rfl (by trivial) ?_
     refine ⟨rfl, ?_⟩
     first
       | exact li2 hI hl hs g1
       | exact li1 hI hl hs g1
 · have hl : ¬ i < (List.length a1 : Int) := of_decide_eq_false h0
   refine Vc.exit (Vc.seq (Vc.region hG rfl (by trivial) (Vc.ret ?_)))
   refine ⟨?_, trivial⟩
   exact liEnd hI hl
noncomputable def F71 : Fun := ⟨[.int .i64, .slice (.int .i64)], [.pure (.int .i64)], fun _ => True, fun x => (treeF x.1 x.2.1, ())⟩
theorem F71_ok : Meets Tryz.prog 71 F71 := by
 refine meets_of_vc (C := mkC 22 [4] [0,1,4,5,9,15] [⟨98, _, F98_ok⟩, ⟨99, _, F99_ok⟩]) (mkC_ok _ _ _ _) (fnOf_ok _) Tryz.func71 rfl rfl rfl (by decide) rfl ?_
 rintro ⟨(a0 : Int), a1, _⟩ hwf hpre ⟨P, C, B, X, w0, M0, pv⟩ hG rfl rfl
 show Vc _ _ [(0, ⟨0, 0, .c (.pure (.int .i64)) a0⟩), (1, ⟨0, 0, .c Z3 a1⟩)] _
 refine Vc.seq (Vc.region hG rfl (by trivial) (Vc.seq (Vc.seq ?_)))
 refine Vc.region hG rfl (by trivial) ?_
 refine Vc.cond rfl (fun h0 => ?_) (fun h0 => ?_)
 · have g0 : (!(inRangeF (List.length a1 : Int) 1 16)) = true := h0
   refine Vc.seq (Vc.region hG rfl (by trivial) (Vc.ret ?_))
   refine ⟨?_, trivial⟩
   exact tree0 g0
 · have g0 : (!(inRangeF (List.length a1 : Int) 1 16)) = false := h0
   have gr := rg g0
   refine Vc.skip (Vc.seq ?_)
   refine Vc.region hG rfl ?_ ?_
   · show 0 + List.length a1 ≤ maxApp
     unfold maxApp
     omega
   refine Vc.seq (Vc.block ?_)
   refine Vc.loopF [(5, false, .own (.pure (.int .i64)))] [0, 1, 4, 9] (fun v => trInv a0 a1 v.1) (fun v => List.length v.1) rfl ?_ ?_
   · exact trStart gr
   rintro ⟨l, _⟩ hI
   have hI : trInv a0 a1 l := hI
   refine Vc.seq (Vc.seq (Vc.region hG rfl (by trivial) ?_))
   refine Vc.cond rfl (fun h1 => ?_) (fun h1 => ?_)
   · have g1 : (List.length l : Int) > 1 := of_decide_eq_true h1
     refine Vc.skip (Vc.block ?_)
     refine Vc.region hG rfl ?_ ?_
     · exact trSmall hI
     refine ⟨rfl, ?_⟩
     exact trStep hI g1
   · have g1 : ¬ (List.length l : Int) > 1 := of_decide_eq_false h1
     refine Vc.exit (Vc.seq ?_)
     refine Vc.region hG rfl ?_ ?_
     · exact trIdx hI
     refine Vc.ret ?_
     refine ⟨?_, trivial⟩
     exact trEnd hI g1 g0
end Fw
