/- Walks of functions of the program: what each computes. Conditions: those that each contract names. -/
import Derived.Test.YtcfpjofohnaolaaGreatW41T
import Derived.Test.YtcfpjofohnaolaaGreatW41s0
import Derived.Test.YtcfpjofohnaolaaGreatW41s1
import Derived.Test.YtcfpjofohnaolaaGreatW41s2
import Derived.Test.YtcfpjofohnaolaaGreatW41s3
import Derived.Test.YtcfpjofohnaolaaGreatW41s5
import Derived.Test.YtcfpjofohnaolaaGreatW41s9
namespace Fw
open Go Go.Proofs
set_option linter.unusedSimpArgs false
set_option maxRecDepth 100000
noncomputable def P79 : PFun := ⟨.pure Y13, [], [.pure Y50, .pure Y16, .pure Y40], fun x xs => curOk x, fun x xs => (strandD x).2, fun x xs => ((strandD x).1.1, (strandD x).1.2.1, (strandD x).1.2.2, ())⟩
theorem P79_ok : MeetsP Tryz.prog 79 P79 := by
 refine meetsP_of_vc (C := mkCP 41 [2, 3, 4] [0,2,3,4,5,6,7,8,9,22] [] [] [] [⟨105, _, P105_ok⟩, ⟨80, _, P80_ok⟩, ⟨38, _, P38_ok⟩, ⟨106, _, P106_ok⟩] [0]) (mkCP_ok _ _ _ _ _ _ _ _) (fnOf_ok _) Tryz.func79 rfl rfl rfl (by decide) rfl rfl rfl ?_ rfl
 rintro c ⟨_⟩ hwc hwf hpre ⟨P, C, B, X, w0, M0, pv⟩ hG rfl rfl
 show Vc _ _ [(0, ⟨0, 0, .c (.ref Z17) c⟩)] _
 have hg := signed_P hpre
 refine Vc.seq (Vc.region hG rfl (by trivial) (Vc.seq (Vc.regionT hG rfl (by trivial) ?_)))
 refine Vc.seq ?_
 refine Vc.region hG rfl ?_ ?_
 · exact ⟨hg.2, Nat.succ_pos _⟩
 refine Vc.seq (Vc.seq ?_)
 refine Vc.region hG rfl ?_ ?_
 · exact int_ok hg.2
 refine Vc.block ?_
 refine Vc.frz 5 rfl ?_
 refine Vc.frz 6 rfl ?_
 refine Vc.loopF [(0, true, .pure Y13), (5, true, .pure Y50), (8, false, .pure (.int .i64)), (9, false, .pure (.int .i64))] [2, 3, 4, 6, 7] (fun v => dnInv (drawS (signedD c).1.2.1) ((dr2 c).2, (signedD c).1.1, (dr1 c).1) (dr2 c).1 (v.1, v.2.1, v.2.2.1) v.2.2.2.1) (fun v => (v.2.2.2.1 : Int).toNat) rfl ?_ ?_
 · exact dnStart (dr2_n c)
 rintro ⟨c2, s, (t : Int), (i : Int), _⟩ hI
 have hI : dnInv (drawS (signedD c).1.2.1) ((dr2 c).2, (signedD c).1.1, (dr1 c).1) (dr2 c).1 (c2, s, t) i := hI
 obtain ⟨k, hk, hc2, hs2⟩ := dnP drP ⟨dr2_ok hpre, hg.1⟩ (drawS_P _) hI
 have hs2 : Sm big20 TStrand s := hs2
 have hc2 : curOk c2 := hc2
 have hr := fun m t => renew_P (c := (belowF c2 4).2) (d := (signedD c).1.2.1) (m := m) (t := t) (below_ok hc2) hs2
 refine Vc.seq (Vc.seq (Vc.region hG rfl (by trivial) ?_))
 refine Vc.cond rfl (fun h0 => ?_) (fun h0 => ?_)
 · have hl : i > 0 := of_decide_eq_true h0
   refine Vc.skip (Vc.seq (Vc.block (Vc.seq ?_)))
   refine Vc.regionD mixed hG rfl (by kernel_rfl) ?_ ?_
   · repeat' (first | exact trivial | exact hc2 | exact below_ok hc2 | exact hs2 | refine And.intro ?_ ?_ | intro _)
   refine Vc.region hG rfl ?_ ?_
   · exact ⟨(hr _ _).2, Nat.succ_pos _⟩
   refine Vc.region hG rfl (by trivial) ?_
   refine ⟨rfl, ?_⟩
   exact dnStep hI hl
 · have hl : ¬ i > 0 := of_decide_eq_false h0
   have hE := dnEnd hI hl
   refine Vc.exit (Vc.seq (Vc.regionD mixed hG rfl (by kernel_rfl) (by trivial) (Vc.ret ?_)))
   have e := strandD_leaf hE
   refine ⟨⟨?_, trivial⟩, ?_, ?_, ?_, trivial⟩
   · exact (congrArg Prod.snd e).symm
   · exact (congrArg (fun r => r.1.1) e).symm
   · exact (congrArg (fun r => r.1.2.1) e).symm
   · exact (congrArg (fun r => r.1.2.2) e).symm
noncomputable def P53 : PFun := ⟨.pure Y13, [], [.pure Y57], fun x xs => curOk x, fun x xs => (itemD x).2, fun x xs => ((itemD x).1, ())⟩
theorem P53_ok : MeetsP Tryz.prog 53 P53 := by
 refine meetsP_of_vc (C := mkCP 22 [2] [0,2,3,4,5] [] [] [] [⟨79, _, P79_ok⟩, ⟨38, _, P38_ok⟩, ⟨80, _, P80_ok⟩] [0]) (mkCP_ok _ _ _ _ _ _ _ _) (fnOf_ok _) Tryz.func53 rfl rfl rfl (by decide) rfl rfl rfl ?_ rfl
 rintro c ⟨_⟩ hwc hwf hpre ⟨P, C, B, X, w0, M0, pv⟩ hG rfl rfl
 show Vc _ _ [(0, ⟨0, 0, .c (.ref Z17) c⟩)] _
 refine Vc.seq (Vc.region hG rfl (by trivial) (Vc.seq ?_))
 refine Vc.regionT hG rfl ?_ ?_
 · repeat' (first | exact trivial | exact hpre | exact strandD_ok hpre | exact below_ok (strandD_ok hpre) | exact Nat.succ_pos _ | refine And.intro ?_ ?_ | intro _)
 refine Vc.seq ?_
 refine Vc.regionD mixed hG rfl (by kernel_rfl) ?_ ?_
 · repeat' (first | exact trivial | exact hpre | exact strandD_ok hpre | exact below_ok (strandD_ok hpre) | exact Nat.succ_pos _ | refine And.intro ?_ ?_ | intro _)
 refine Vc.ret ?_
 have e := item_eq c
 refine ⟨⟨?_, trivial⟩, ?_, trivial⟩
 · exact (congrArg Prod.snd e).symm
 · exact (congrArg Prod.fst e).symm
noncomputable def F104 : Fun := ⟨[.pair (.int .i64) Y56], [.pure (.bool)], fun _ => True, fun x => (itemF x.1, ())⟩
theorem F104_ok : Meets Tryz.prog 104 F104 := by
 refine meets_of_vc (C := mkC 32 [2] [0,1,2] [⟨98, _, F98_ok⟩, ⟨94, _, F94_ok⟩, ⟨119, _, F119_ok⟩, ⟨120, _, F120_ok⟩, ⟨122, _, F122_ok⟩, ⟨121, _, F121_ok⟩]) (mkC_ok _ _ _ _) (fnOf_ok _) Tryz.func104 rfl rfl rfl (by decide) rfl ?_
 rintro ⟨a0, _⟩ hwf hpre ⟨P, C, B, X, w0, M0, pv⟩ hG rfl rfl
 show Vc _ _ [(0, ⟨0, 0, .c Z58 a0⟩)] _
 refine Vc.seq (Vc.region hG rfl (by trivial) (Vc.seq ?_))
 refine Vc.regionD mixed hG rfl (by kernel_rfl) ?_ ?_
 · exact ⟨trivial, fun _ => trivial, fun _ => trivial, fun _ => trivial, fun h => strand0 h, fun _ => trivial, fun _ => trivial⟩
 refine Vc.ret ?_
 refine ⟨?_, trivial⟩
 all_goals exact rfl
noncomputable def F77 : Fun := ⟨[.pair (.int .i64) Y59], [.pure (.bool)], fun _ => True, fun x => (archF x.1, ())⟩
theorem F77_ok : Meets Tryz.prog 77 F77 := by
 refine meets_of_vc (C := mkC 47 [2] [0,1,2,3,8,37] [⟨104, _, F104_ok⟩, ⟨98, _, F98_ok⟩]) (mkC_ok _ _ _ _) (fnOf_ok _) Tryz.func77 rfl rfl rfl (by decide) rfl ?_
 rintro ⟨a0, _⟩ hwf hpre ⟨P, C, B, X, w0, M0, pv⟩ hG rfl rfl
 show Vc _ _ [(0, ⟨0, 0, .c Z62 a0⟩)] _
 have hb0 : List.length a0.2 ≤ bigLen := hwf.1.2.1
 refine Vc.seq (Vc.region hG rfl (by trivial) (Vc.seq (Vc.seq ?_)))
 refine Vc.region hG rfl (by trivial) (Vc.block ?_)
 refine Vc.loopF [(3, false, .pure (.int .i64))] [0, 1] (fun v => kInv (fun k => goodP a0 k) a0.2 v.1) (fun v => ((List.length a0.2 : Int) - v.1).toNat) rfl ?_ ?_
 · exact kStart
 rintro ⟨(i : Int), _⟩ hI0
 have hI0 : kInv (fun k => goodP a0 k) a0.2 i := hI0
 refine Vc.seq (Vc.seq (Vc.region hG rfl (by trivial) ?_))
 refine Vc.cond rfl (fun h0 => ?_) (fun h0 => ?_)
 · have hl0 : i < (List.length a0.2 : Int) := of_decide_eq_true h0
   refine Vc.skip (Vc.seq (Vc.block (Vc.seq ?_)))
   refine Vc.regionD mixed hG rfl (by kernel_rfl) ?_ ?_
   · exact ⟨kRange hI0 hl0, trivial, fun h2 => backRange hI0 hl0 hb0 (of_decide_eq_true h2), fun _ => kRange hI0 hl0⟩
   refine Vc.cond rfl (fun h1 => ?_) (fun h1 => ?_)
   · have g1 : badF a0 i = true := h1
     refine Vc.seq (Vc.region hG rfl (by trivial) (Vc.ret ?_))
     refine ⟨?_, trivial⟩
     refine boolC_no (fun h => ?_)
     have q := (goodIff hI0 hb0).2 (h.1 i.toNat (kLt hI0 hl0))
     rw [g1] at q; cases q
   · have g1 : badF a0 i = false := h1
     have s0 : goodP a0 i.toNat := (goodIff hI0 hb0).1 g1
     refine Vc.skip (Vc.region hG rfl (by trivial) ?_)
     refine ⟨rfl, ?_⟩
     exact kStep hI0 hl0 hb0 s0
 · have hl0 : ¬ i < (List.length a0.2 : Int) := of_decide_eq_false h0
   refine Vc.exit (Vc.seq ?_)
   refine Vc.region hG rfl ?_ ?_
   · repeat' (first | exact trivial | refine And.intro ?_ ?_ | intro _)
   refine Vc.ret ?_
   refine ⟨?_, trivial⟩
   refine boolC_by (fun e => ?_) (fun h => ?_)
   · exact ⟨kEnd hI0 hl0, (andT e).1, of_decide_eq_true (andT e).2⟩
   · exact yesAnd h.2.1 (decide_eq_true h.2.2)
noncomputable def F66 : Fun := ⟨[.pair (.int .i64) Y59, .int .i64], [.pure (.int .i64)], fun _ => True, fun x => ((fun a0 a1 => findI (fun x => x.1 == a1) a0.2) x.1 x.2.1, ())⟩
theorem F66_ok : Meets Tryz.prog 66 F66 := by
 refine meets_of_vc (C := mkC 22 [4] [0,1,2,4,5,10,20] []) (mkC_ok _ _ _ _) (fnOf_ok _) Tryz.func66 rfl rfl rfl (by decide) rfl ?_
 rintro ⟨a0, (a1 : Int), _⟩ hwf hpre ⟨P, C, B, X, w0, M0, pv⟩ hG rfl rfl
 show Vc _ _ [(0, ⟨0, 0, .c Z62 a0⟩), (1, ⟨0, 0, .c (.pure (.int .i64)) a1⟩)] _
 have hb : List.length a0.2 ≤ bigLen := hwf.1.2.1
 refine Vc.seq (Vc.region hG rfl (by trivial) (Vc.seq (Vc.seq ?_)))
 refine Vc.region hG rfl (by trivial) (Vc.block ?_)
 refine Vc.loopF [(5, false, .pure (.int .i64))] [0, 1, 2] (fun v => fInv (fun x => x.1 == a1) a0.2 v.1) (fun v => ((List.length a0.2 : Int) - v.1).toNat) rfl ?_ ?_
 · exact fStart
 rintro ⟨(i : Int), _⟩ hI
 have hI : fInv (fun x => x.1 == a1) a0.2 i := hI
 refine Vc.seq (Vc.seq (Vc.region hG rfl (by trivial) ?_))
 refine Vc.cond rfl (fun h0 => ?_) (fun h0 => ?_)
 · have hl : i < (List.length a0.2 : Int) := of_decide_eq_true h0
   refine Vc.skip (Vc.seq (Vc.block (Vc.seq ?_)))
   refine Vc.region hG rfl ?_ ?_
   · exact fRange hI hl
   refine Vc.cond rfl (fun h1 => ?_) (fun h1 => ?_)
   · have g1 : (fun x => x.1 == a1) (List.getD a0.2 i.toNat (dflt Y57)) = true := h1
     refine Vc.seq (Vc.region hG rfl (by trivial) (Vc.ret ?_))
     refine ⟨?_, trivial⟩
     exact fHit hI hl g1
   · have g1 : (fun x => x.1 == a1) (List.getD a0.2 i.toNat (dflt Y57)) = false := h1
     refine Vc.skip (Vc.region hG rfl (by trivial) ?_)
     refine ⟨rfl, ?_⟩
     exact fStep hI hl hb g1
 · have hl : ¬ i < (List.length a0.2 : Int) := of_decide_eq_false h0
   refine Vc.exit (Vc.seq (Vc.region hG rfl (by trivial) (Vc.ret ?_)))
   refine ⟨?_, trivial⟩
   exact fEnd hI hl
noncomputable def F90 : Fun := ⟨[.pair (.int .i64) Y9], [.pair (.pure (.int .i64)) Z12], fun x => Sm big20 Y16 x.1, fun x => (id x.1, ())⟩
theorem F90_ok : Meets Tryz.prog 90 F90 := by
 refine meets_of_vc (C := mkC 14 [2] [0,1,2] []) (mkC_ok _ _ _ _) (fnOf_ok _) Tryz.func90 rfl rfl rfl (by decide) rfl ?_
 rintro ⟨a0, _⟩ hwf hpre ⟨P, C, B, X, w0, M0, pv⟩ hG rfl rfl
 show Vc _ _ [(0, ⟨0, 0, .c Z22 a0⟩)] _
 have hp1 : List.length a0.2.1 ≤ big20 := hpre.2.1.1
 have hp2 : List.length a0.2.2 ≤ big20 := hpre.2.2.1
 refine Vc.seq (Vc.region hG rfl (by trivial) (Vc.seq ?_))
 refine Vc.regionD mixed hG rfl (by kernel_rfl) ?_ ?_
 · exact ⟨appOk hp1, appOk hp2⟩
 refine Vc.ret ?_
 refine ⟨?_, trivial⟩
 all_goals exact rfl
noncomputable def F67 : Fun := ⟨[.pair (.int .i64) Y56], [.pair (.pure (.int .i64)) Z66], fun x => Sm big20 Y57 x.1, fun x => (id x.1, ())⟩
theorem F67_ok : Meets Tryz.prog 67 F67 := by
 refine meets_of_vc (C := mkC 12 [2] [0,1,2] [⟨90, _, F90_ok⟩, ⟨91, _, F91_ok⟩]) (mkC_ok _ _ _ _) (fnOf_ok _) Tryz.func67 rfl rfl rfl (by decide) rfl ?_
 rintro ⟨a0, _⟩ hwf hpre ⟨P, C, B, X, w0, M0, pv⟩ hG rfl rfl
 show Vc _ _ [(0, ⟨0, 0, .c Z58 a0⟩)] _
 have hp1 : Sm big20 Y16 a0.2.2.1 := hpre.2.2.1
 have hp2 : Sm big20 Y50 a0.2.2.2.2 := hpre.2.2.2.2
 refine Vc.seq (Vc.region hG rfl (by trivial) (Vc.seq ?_))
 refine Vc.region hG rfl ?_ ?_
 · exact hp1
 refine Vc.seq ?_
 refine Vc.region hG rfl ?_ ?_
 · exact hp2
 refine Vc.seq (Vc.region hG rfl (by trivial) (Vc.ret ?_))
 refine ⟨?_, trivial⟩
 all_goals exact rfl
noncomputable def F78 : Fun := ⟨[.pair (.int .i64) Y59], [.pair (.pure (.int .i64)) Z68], fun x => Sm big20 Y60 x.1, fun x => (id x.1, ())⟩
theorem F78_ok : Meets Tryz.prog 78 F78 := by
 refine meets_of_vc (C := mkC 27 [2] [0,1,2,3,4,12] [⟨67, _, F67_ok⟩]) (mkC_ok _ _ _ _) (fnOf_ok _) Tryz.func78 rfl rfl rfl (by decide) rfl ?_
 rintro ⟨a0, _⟩ hwf hpre ⟨P, C, B, X, w0, M0, pv⟩ hG rfl rfl
 show Vc _ _ [(0, ⟨0, 0, .c Z62 a0⟩)] _
 have hp : _ ∧ _ := hpre.2
 have hb : List.length a0.2 ≤ bigLen := hwf.1.2.1
 refine Vc.seq (Vc.region hG rfl (by trivial) (Vc.seq (Vc.region hG rfl (by trivial) ?_)))
 refine Vc.seq (Vc.seq (Vc.region hG rfl (by trivial) (Vc.block ?_)))
 refine Vc.loopF [(3, true, .pair (.pure (.int .i64)) Z68), (4, false, .pure (.int .i64))] [0, 1, 2] (fun v => v.1.1 = a0.1 ∧ cpInv a0.2 v.1.2 v.2.1) (fun v => ((List.length a0.2 : Int) - v.2.1).toNat) rfl ?_ ?_
 · exact ⟨rfl, cpStart⟩
 rintro ⟨acc, (i : Int), _⟩ hI
 have hI : acc.1 = a0.1 ∧ cpInv a0.2 acc.2 i := hI
 refine Vc.seq (Vc.seq (Vc.region hG rfl (by trivial) ?_))
 refine Vc.cond rfl (fun h0 => ?_) (fun h0 => ?_)
 · have hl : i < (List.length a0.2 : Int) := of_decide_eq_true h0
   have hE : Sm big20 Y57 (List.getD a0.2 i.toNat (dflt Y57)) := hp.2 _ (upElem hI.2.1 hl)
   refine Vc.skip (Vc.seq (Vc.block ?_))
   refine Vc.regionD mixed hG rfl (by kernel_rfl) ?_ ?_
   · exact ⟨cpRange hI.2 hl, hE, cpLen hI.2 hl hp.1⟩
   refine Vc.region hG rfl (by trivial) ?_
   refine ⟨rfl, ?_⟩
   have e := cpStep (d := dflt Y57) hI.2 hl hb rfl
   exact ⟨⟨hI.1, e.1⟩, e.2⟩
 · have hl : ¬ i < (List.length a0.2 : Int) := of_decide_eq_false h0
   refine Vc.exit (Vc.seq (Vc.region hG rfl (by trivial) (Vc.ret ?_)))
   refine ⟨?_, trivial⟩
   exact Prod.ext hI.1 (cpEnd hI.2 hl)
end Fw
