/- Walks of functions of the program: what each computes. Conditions: those that each contract names. -/
import Derived.Test.YtoccddagjnebbaaGreatW8T
import Derived.Test.YtoccddagjnebbaaGreatW8i0
import Derived.Test.YtoccddagjnebbaaGreatW8i1
import Derived.Test.YtoccddagjnebbaaGreatW8i2
import Derived.Test.YtoccddagjnebbaaGreatW8i3
namespace Fw
open Go Go.Proofs
set_option linter.unusedSimpArgs false
set_option maxRecDepth 100000
noncomputable def F166 : Fun := ⟨[.pair (.int .i64) Y38, .slice Y32], [.own Z8], fun _ => True, fun x => (badSpansF x.1 x.2.1, ())⟩
theorem F166_ok : Meets Tryz.prog 166 F166 := by
 refine mV (C := mkCK 32 [4] [0,1,2,4,5,6,10,18] [⟨257, _, F257_ok⟩, ⟨253, _, F253_ok⟩] [] [] [⟨255, _, K255_ok⟩] []) (mkCK_ok _ _ _ _ _ _ _ _) (fnOf_ok _) Tryz.func166 rfl rfl rfl (by decide) rfl ?_
 rintro ⟨a0, a1, _⟩ hwf hpre ⟨P, C, B, X, w0, M0, pv⟩ hG rfl rfl
 show Vc _ _ [(0, ⟨0, 0, .c Z46 a0⟩), (1, ⟨0, 0, .c Z36 a1⟩)] _
 refine Vq (Vr hG rfl (by trivial) (Vq (Vr hG rfl (by trivial) ?_)))
 refine Vq (Vr hG rfl (by trivial) (Vq (Vq ?_)))
 refine Vr hG rfl (by trivial) ?_
 refine Vk rfl (fun h0 => ?_) (fun h0 => ?_)
 · refine Vr hG rfl ?_ ?_
   · exact Nat.zero_le _
   refine Vq (Vq (Vr hG rfl (by trivial) ?_))
   refine Vk rfl (fun h1 => ?_) (fun h1 => ?_)
   · refine Vr hG rfl ?_ ?_
     · first
         | exact bp1
         | exact Nat.zero_le _
     refine Vq ?_
     refine Vr hG rfl ?_ ?_
     · exact ⟨trivial, (by first | exact bp2 | exact bp1 | exact Nat.zero_le _)⟩
     refine Vq ?_
     refine Vr hG rfl ?_ ?_
     · exact (Nat.le_trans (by first | exact bp3 | exact bp2 | exact bp1) (show 1000 ≤ 2000000000 by decide))
     refine Vt ?_
     refine ⟨?_, trivial⟩
     exact bdYY h0 h1
   · refine Vs (Vq ?_)
     refine Vr hG rfl ?_ ?_
     · exact ⟨trivial, (by first | exact bp2 | exact bp1 | exact Nat.zero_le _)⟩
     refine Vq ?_
     refine Vr hG rfl ?_ ?_
     · exact (Nat.le_trans (by first | exact bp3 | exact bp2 | exact bp1) (show 1000 ≤ 2000000000 by decide))
     refine Vt ?_
     refine ⟨?_, trivial⟩
     exact bdYN h0 h1
 · refine Vs (Vq (Vq (Vr hG rfl (by trivial) ?_)))
   refine Vk rfl (fun h2 => ?_) (fun h2 => ?_)
   · refine Vr hG rfl ?_ ?_
     · first
         | exact bp1
         | exact Nat.zero_le _
     refine Vq ?_
     refine Vr hG rfl ?_ ?_
     · exact ⟨trivial, (by first | exact bp2 | exact bp1 | exact Nat.zero_le _)⟩
     refine Vq ?_
     refine Vr hG rfl ?_ ?_
     · exact (Nat.le_trans (by first | exact bp3 | exact bp2 | exact bp1) (show 1000 ≤ 2000000000 by decide))
     refine Vt ?_
     refine ⟨?_, trivial⟩
     exact bdNY h0 h2
   · refine Vs (Vq ?_)
     refine Vr hG rfl ?_ ?_
     · exact ⟨trivial, (by first | exact bp2 | exact bp1 | exact Nat.zero_le _)⟩
     refine Vq ?_
     refine Vr hG rfl ?_ ?_
     · exact (Nat.le_trans (by first | exact bp3 | exact bp2 | exact bp1) (show 1000 ≤ 2000000000 by decide))
     refine Vt ?_
     refine ⟨?_, trivial⟩
     exact bdNN h0 h2
noncomputable def F254 : Fun := ⟨[.pair (.int .i64) (.int .i64), .pair (.int .i64) (.int .i64)], [.pure (.bool)], fun _ => True, fun x => (isInsideF x.1 x.2.1, ())⟩
theorem F254_ok : Meets Tryz.prog 254 F254 := by
 refine mV (C := mkC 25 [4] [0,1,2,3,4] [⟨168, _, F168_ok⟩]) (mkC_ok _ _ _ _) (fnOf_ok _) Tryz.func254 rfl rfl rfl (by decide) rfl ?_
 rintro ⟨a0, a1, _⟩ hwf hpre ⟨P, C, B, X, w0, M0, pv⟩ hG rfl rfl
 show Vc _ _ [(0, ⟨0, 0, .c Z8 a0⟩), (1, ⟨0, 0, .c Z8 a1⟩)] _
 refine Vq (Vr hG rfl (by trivial) (Vq ?_))
 refine Vr hG rfl ?_ ?_
 · repeat' (first | exact trivial | refine And.intro ?_ ?_ | intro _)
 refine Vt ?_
 refine ⟨?_, trivial⟩
 all_goals exact rfl
noncomputable def F165 : Fun := ⟨[.slice Y4, .pair (.int .i64) (.int .i64)], [.pure (.bool)], fun x => (fun (l : List Span) (_ : Span) => List.length l ≤ 2000000000) x.1 x.2.1, fun x => (coversF x.1 x.2.1, ())⟩
theorem F165_ok : Meets Tryz.prog 165 F165 := by
 refine mV (C := mkC 18 [4] [0,1,3,4,6,8,9,10,11,16] [⟨253, _, F253_ok⟩, ⟨254, _, F254_ok⟩]) (mkC_ok _ _ _ _) (fnOf_ok _) Tryz.func165 rfl rfl rfl (by decide) rfl ?_
 rintro ⟨a0, a1, _⟩ hwf hpre ⟨P, C, B, X, w0, M0, pv⟩ hG rfl rfl
 show Vc _ _ [(0, ⟨0, 0, .c Z14 a0⟩), (1, ⟨0, 0, .c Z8 a1⟩)] _
 have hs : List.length a0 ≤ 2000000000 := hpre
 have hb : List.length a0 ≤ bigLen := hwf.1.1
 have hbj : List.length (joinF a0) ≤ bigLen := Nat.le_trans (joinLen a0) hb
 refine Vq (Vr hG rfl (by trivial) (Vq (Vq ?_)))
 refine Vr hG rfl ?_ ?_
 · exact hs
 refine Vb ?_
 refine Vc.loopF [(10, false, .pure (.int .i64))] [0, 1, 3, 8, 9] (fun v => fInv (fun x => isInsideF a1 x) (joinF a0) v.1) (fun v => ((List.length (joinF a0) : Int) - v.1).toNat) rfl ?_ ?_
 · exact fStart
 rintro ⟨(i : Int), _⟩ hI
 have hI : fInv (fun x => isInsideF a1 x) (joinF a0) i := hI
 refine Vq (Vr hG rfl (by trivial) (Vq ?_))
 refine Vk rfl (fun h0 => ?_) (fun h0 => ?_)
 · have hl : i < (List.length (joinF a0) : Int) := of_decide_eq_true h0
   refine Vs (Vq (Vb (Vq ?_)))
   refine Vr hG rfl ?_ ?_
   · exact fRange hI hl
   refine Vq (Vr hG rfl (by trivial) ?_)
   refine Vk rfl (fun h1 => ?_) (fun h1 => ?_)
   · have g1 : isInsideF a1 (List.getD (joinF a0) i.toNat (dflt Y4)) = true := h1
     refine Vq (Vr hG rfl (by trivial) (Vt ?_))
     refine ⟨?_, trivial⟩
     exact cvHit rfl hI hl g1
   · have g1 : (fun x => isInsideF a1 x) (List.getD (joinF a0) i.toNat (dflt Y4)) = false := h1
     refine Vs (Vr hG rfl (by trivial) ?_)
     refine ⟨rfl, ?_⟩
     exact fStep hI hl hbj g1
 · have hl : ¬ i < (List.length (joinF a0) : Int) := of_decide_eq_false h0
   refine Vx (Vq (Vr hG rfl (by trivial) (Vt ?_)))
   refine ⟨?_, trivial⟩
   exact cvEnd rfl hI hl
noncomputable def F84 : Fun := ⟨[.pair (.int .i64) Y38, .slice Y32, .pair (.int .i64) (.int .i64)], [.pure (.bool)], fun _ => True, fun x => ((fun c l s => coversF (badSpansF c l) s) x.1 x.2.1 x.2.2.1, ())⟩
theorem F84_ok : Meets Tryz.prog 84 F84 := by
 refine mV (C := mkC 12 [6] [0,1,2,3,5,6] [⟨166, _, F166_ok⟩, ⟨165, _, F165_ok⟩]) (mkC_ok _ _ _ _) (fnOf_ok _) Tryz.func84 rfl rfl rfl (by decide) rfl ?_
 rintro ⟨a0, a1, a2, _⟩ hwf hpre ⟨P, C, B, X, w0, M0, pv⟩ hG rfl rfl
 show Vc _ _ [(0, ⟨0, 0, .c Z46 a0⟩), (1, ⟨0, 0, .c Z36 a1⟩), (2, ⟨0, 0, .c Z8 a2⟩)] _
 refine Vq (Vr hG rfl (by trivial) (Vq ?_))
 refine VrD mixed hG rfl (by kernel_rfl) ?_ ?_
 · exact ⟨trivial, Nat.le_trans (badLen a0 a1) (by decide)⟩
 refine Vt ?_
 refine ⟨?_, trivial⟩
 all_goals exact rfl
noncomputable def F260 : Fun := ⟨[.slice Y32, .int .i64], [.pure (.int .i64)], fun _ => True, fun x => (goodUntilF x.1 x.2.1, ())⟩
theorem F260_ok : Meets Tryz.prog 260 F260 := by
 refine mV (C := mkC 20 [4] [0,1,4,5,7,16] [⟨299, _, F299_ok⟩]) (mkC_ok _ _ _ _) (fnOf_ok _) Tryz.func260 rfl rfl rfl (by decide) rfl ?_
 rintro ⟨a0, (a1 : Int), _⟩ hwf hpre ⟨P, C, B, X, w0, M0, pv⟩ hG rfl rfl
 show Vc _ _ [(0, ⟨0, 0, .c Z36 a0⟩), (1, ⟨0, 0, .c (.pure (.int .i64)) a1⟩)] _
 refine Vq (Vr hG rfl (by trivial) (Vq (Vr hG rfl (by trivial) ?_)))
 refine Vq (Vq (Vr hG rfl (by trivial) ?_))
 refine Vk rfl (fun h0 => ?_) (fun h0 => ?_)
 · refine Vq (Vr hG rfl (by trivial) (Vt ?_))
   refine ⟨?_, trivial⟩
   exact guA rfl h0
 · refine Vs (Vq (Vr hG rfl (by trivial) (Vt ?_)))
   refine ⟨?_, trivial⟩
   exact guB rfl rfl h0
noncomputable def F300 : Fun := ⟨[.pair (.int .i64) (.int .i64), .pair (.int .i64) (.int .i64)], [.pure Y4, .pure (.bool)], fun _ => True, fun x => ((meetF x.1 x.2.1).1, (meetF x.1 x.2.1).2, ())⟩
theorem F300_ok : Meets Tryz.prog 300 F300 := by
 refine mV (C := mkC 33 [4, 5] [0,1,2,3,4,5,6,30] [⟨168, _, F168_ok⟩]) (mkC_ok _ _ _ _) (fnOf_ok _) Tryz.func300 rfl rfl rfl (by decide) rfl ?_
 rintro ⟨a0, a1, _⟩ hwf hpre ⟨P, C, B, X, w0, M0, pv⟩ hG rfl rfl
 show Vc _ _ [(0, ⟨0, 0, .c Z8 a0⟩), (1, ⟨0, 0, .c Z8 a1⟩)] _
 refine Vq (Vr hG rfl (by trivial) (Vq (Vr hG rfl (by trivial) ?_)))
 refine Vq (Vq ?_)
 refine Vr hG rfl ?_ ?_
 · repeat' (first | exact trivial | refine And.intro ?_ ?_ | intro _)
 refine Vk rfl (fun h0 => ?_) (fun h0 => ?_)
 · refine Vq (Vr hG rfl (by trivial) (Vt ?_))
   have e := meI0 h0
   refine ⟨?_, ?_, trivial⟩
   · exact (congrArg Prod.fst e).symm
   · exact (congrArg Prod.snd e).symm
 · refine Vs (Vq (Vr hG rfl (by trivial) (Vt ?_)))
   have e := meI1 h0
   refine ⟨?_, ?_, trivial⟩
   · exact (congrArg Prod.fst e).symm
   · exact (congrArg Prod.snd e).symm
noncomputable def F258 : Fun := ⟨[.slice Y4, .slice Y4], [.own Z8], fun x => (fun (a b : List Span) => List.length a ≤ 1000 ∧ List.length b ≤ 1000) x.1 x.2.1, fun x => (meetAllF x.1 x.2.1, ())⟩
theorem F258_ok : Meets Tryz.prog 258 F258 := by
 refine mV (C := mkC 39 [4] [0,1,4,5,7,9,10,11,12,13,14,15,18,19,20,21,30] [⟨300, _, F300_ok⟩, ⟨253, _, F253_ok⟩]) (mkC_ok _ _ _ _) (fnOf_ok _) Tryz.func258 rfl rfl rfl (by decide) rfl ?_
 rintro ⟨a0, a1, _⟩ hwf hpre ⟨P, C, B, X, w0, M0, pv⟩ hG rfl rfl
 show Vc _ _ [(0, ⟨0, 0, .c Z14 a0⟩), (1, ⟨0, 0, .c Z14 a1⟩)] _
 have hp1 : List.length a0 ≤ 1000 := hpre.1
 have hp2 : List.length a1 ≤ 1000 := hpre.2
 have hb : List.length a0 ≤ bigLen := hwf.1.1
 have hb1 : List.length a1 ≤ bigLen := hwf.2.1.1
 refine Vq (Vr hG rfl (by trivial) (Vq (Vr hG rfl (by trivial) ?_)))
 refine Vq (Vq (Vr hG rfl (by trivial) (Vb ?_)))
 refine Vc.loopF [(5, false, .own Z8), (14, false, .pure (.int .i64))] [0, 1, 4, 12, 13] (fun v => foInv (meR a1) [] a0 v.1 v.2.1) (fun v => ((List.length a0 : Int) - v.2.1).toNat) rfl ?_ ?_
 · exact foStart
 rintro ⟨acc, (i : Int), _⟩ hI
 have hI : foInv (meR a1) [] a0 acc i := hI
 have hA : List.length acc ≤ 1000000 := meLenI hI hp1 hp2
 refine Vq (Vr hG rfl (by trivial) (Vq ?_))
 refine Vk rfl (fun h0 => ?_) (fun h0 => ?_)
 · have hl : i < (List.length a0 : Int) := of_decide_eq_true h0
   refine Vs (Vq (Vb (Vq ?_)))
   refine Vr hG rfl ?_ ?_
   · exact foRange hI hl
   refine Vq (Vr hG rfl (by trivial) (Vb ?_))
   refine Vc.loopF [(5, false, .own Z8), (20, false, .pure (.int .i64))] [0, 1, 4, 7, 12, 13, 14, 15, 18, 19] (fun v => foInv (meG (List.getD a0 i.toNat (dflt Y4))) acc a1 v.1 v.2.1) (fun v => ((List.length a1 : Int) - v.2.1).toNat) rfl ?_ ?_
   · exact foStart
   rintro ⟨ac2, (k : Int), _⟩ hK
   have hK : foInv (meG (List.getD a0 i.toNat (dflt Y4))) acc a1 ac2 k := hK
   have hA2 : List.length ac2 ≤ 2000000 := meLenJ hK hA hp2
   refine Vq (Vr hG rfl (by trivial) (Vq ?_))
   refine Vk rfl (fun h1 => ?_) (fun h1 => ?_)
   · have hm : k < (List.length a1 : Int) := of_decide_eq_true h1
     refine Vs (Vq (Vb (Vq ?_)))
     refine Vr hG rfl ?_ ?_
     · exact foRange hK hm
     refine Vq (Vr hG rfl (by trivial) (Vq (Vr hG rfl (by trivial) ?_)))
     refine Vk rfl (fun h2 => ?_) (fun h2 => ?_)
     · have g2 : (meetF (List.getD a0 i.toNat (dflt Y4)) (List.getD a1 k.toNat (dflt Y4))).2 = true := h2
       have st := foStepE (d := dflt Y4) hK hm hb1 (meY g2)
       refine Vr hG rfl ?_ ?_
       · exact meApp hA2
       refine Vr hG rfl (by trivial) ?_
       refine ⟨rfl, ?_⟩
       exact st
     · have g2 : (meetF (List.getD a0 i.toNat (dflt Y4)) (List.getD a1 k.toNat (dflt Y4))).2 = false := h2
       have st := foStepE (d := dflt Y4) hK hm hb1 (meN (acc := ac2) g2)
       refine Vs (Vr hG rfl (by trivial) ?_)
       refine ⟨rfl, ?_⟩
       exact st
   · have hm : ¬ k < (List.length a1 : Int) := of_decide_eq_false h1
     refine Vx (Vr hG rfl (by trivial) ?_)
     refine ⟨rfl, ?_⟩
     exact foStepE (d := dflt Y4) hI hl hb (foEnd hK hm)
 · have hl : ¬ i < (List.length a0 : Int) := of_decide_eq_false h0
   refine Vx (Vq ?_)
   refine Vr hG rfl ?_ ?_
   · exact meBig hp1 hp2 (foEnd hI hl)
   refine Vt ?_
   refine ⟨?_, trivial⟩
   exact congrArg joinF (foEnd hI hl)
noncomputable def F167 : Fun := ⟨[.pair (.int .i64) Y38, .slice Y32], [.own Z8], fun _ => True, fun x => (goodSpansF x.1 x.2.1, ())⟩
theorem F167_ok : Meets Tryz.prog 167 F167 := by
 refine mV (C := mkC 15 [4] [0,1,2,4] [⟨259, _, F259_ok⟩, ⟨260, _, F260_ok⟩, ⟨258, _, F258_ok⟩]) (mkC_ok _ _ _ _) (fnOf_ok _) Tryz.func167 rfl rfl rfl (by decide) rfl ?_
 rintro ⟨a0, a1, _⟩ hwf hpre ⟨P, C, B, X, w0, M0, pv⟩ hG rfl rfl
 show Vc _ _ [(0, ⟨0, 0, .c Z46 a0⟩), (1, ⟨0, 0, .c Z36 a1⟩)] _
 refine Vq (Vr hG rfl (by trivial) (Vq ?_))
 refine VrD mixed hG rfl (by kernel_rfl) ?_ ?_
 · exact ⟨trivial, trivial, one1, one1⟩
 refine Vt ?_
 refine ⟨?_, trivial⟩
 all_goals exact rfl
noncomputable def F85 : Fun := ⟨[.pair (.int .i64) Y38, .slice Y32, .pair (.int .i64) (.int .i64)], [.pure (.bool)], fun _ => True, fun x => ((fun c l s => coversF (goodSpansF c l) s) x.1 x.2.1 x.2.2.1, ())⟩
theorem F85_ok : Meets Tryz.prog 85 F85 := by
 refine mV (C := mkC 12 [6] [0,1,2,3,5,6] [⟨167, _, F167_ok⟩, ⟨165, _, F165_ok⟩]) (mkC_ok _ _ _ _) (fnOf_ok _) Tryz.func85 rfl rfl rfl (by decide) rfl ?_
 rintro ⟨a0, a1, a2, _⟩ hwf hpre ⟨P, C, B, X, w0, M0, pv⟩ hG rfl rfl
 show Vc _ _ [(0, ⟨0, 0, .c Z46 a0⟩), (1, ⟨0, 0, .c Z36 a1⟩), (2, ⟨0, 0, .c Z8 a2⟩)] _
 refine Vq (Vr hG rfl (by trivial) (Vq ?_))
 refine VrD mixed hG rfl (by kernel_rfl) ?_ ?_
 · exact ⟨trivial, Nat.le_trans (goodLen a0 a1) (by decide)⟩
 refine Vt ?_
 refine ⟨?_, trivial⟩
 all_goals exact rfl
noncomputable def F87 : Fun := ⟨[.slice Y19], [.own Z41], fun x => (fun a0 => List.length a0 ≤ 2000000000) x.1, fun x => (mandatesF x.1, ())⟩
theorem F87_ok : Meets Tryz.prog 87 F87 := by
 refine mV (C := mkC 26 [2] [0,2,3,5,6,7,8,9,10,11,19] [⟨170, _, F170_ok⟩]) (mkC_ok _ _ _ _) (fnOf_ok _) Tryz.func87 rfl rfl rfl (by decide) rfl ?_
 rintro ⟨a0, _⟩ hwf hpre ⟨P, C, B, X, w0, M0, pv⟩ hG rfl rfl
 show Vc _ _ [(0, ⟨0, 0, .c Z26 a0⟩)] _
 have hb : List.length a0 ≤ bigLen := hwf.1.1
 have hs : List.length a0 ≤ 2000000000 := hpre
 refine Vq (Vr hG rfl (by trivial) (Vq (Vr hG rfl (by trivial) ?_)))
 refine Vq (Vq (Vr hG rfl (by trivial) (Vb ?_)))
 refine Vc.loopF [(3, false, .own Z41), (10, false, .pure (.int .i64))] [0, 2, 8, 9] (fun v => pkInv (pieceMandF) a0 v.1 v.2.1) (fun v => ((List.length a0 : Int) - v.2.1).toNat) rfl ?_ ?_
 · exact pkStart
 rintro ⟨acc, (i : Int), _⟩ hI
 have hI : pkInv (pieceMandF) a0 acc i := hI
 refine Vq (Vr hG rfl (by trivial) (Vq ?_))
 refine Vk rfl (fun h0 => ?_) (fun h0 => ?_)
 · have hl : i < (List.length a0 : Int) := of_decide_eq_true h0
   refine Vs (Vq (Vb (Vq ?_)))
   refine Vr hG rfl ?_ ?_
   · exact pkRange hI hl
   refine Vq (Vr hG rfl (by trivial) (Vq (Vr hG rfl (by trivial) ?_)))
   refine Vk rfl (fun h1 => ?_) (fun h1 => ?_)
   · have g1 : ((pieceMandF) (List.getD a0 i.toNat (dflt Y19))).2 = true := h1
     refine Vr hG rfl ?_ ?_
     · exact pkLenW hI hs
     refine Vr hG rfl (by trivial) ?_
     refine ⟨rfl, ?_⟩
     first
       | exact pkYes (d := dflt Y19) hI hl hb g1
       | exact pkNo (d := dflt Y19) hI hl hb g1
   · have g1 : ((pieceMandF) (List.getD a0 i.toNat (dflt Y19))).2 = false := h1
     refine Vs (Vr hG rfl (by trivial) ?_)
     refine ⟨rfl, ?_⟩
     first
       | exact pkYes (d := dflt Y19) hI hl hb g1
       | exact pkNo (d := dflt Y19) hI hl hb g1
 · have hl : ¬ i < (List.length a0 : Int) := of_decide_eq_false h0
   refine Vx (Vq (Vr hG rfl (by trivial) (Vt ?_)))
   refine ⟨?_, trivial⟩
   exact pkEnd hI hl
noncomputable def F301 : Fun := ⟨[.pair (.int .i64) Y32], [.pure (.bool)], fun _ => True, fun x => (isMandF x.1, ())⟩
theorem F301_ok : Meets Tryz.prog 301 F301 := by
 refine mV (C := mkC 24 [2] [0,1,2] [⟨147, _, F147_ok⟩, ⟨168, _, F168_ok⟩]) (mkC_ok _ _ _ _) (fnOf_ok _) Tryz.func301 rfl rfl rfl (by decide) rfl ?_
 rintro ⟨a0, _⟩ hwf hpre ⟨P, C, B, X, w0, M0, pv⟩ hG rfl rfl
 show Vc _ _ [(0, ⟨0, 0, .c Z41 a0⟩)] _
 refine Vq (Vr hG rfl (by trivial) (Vq ?_))
 refine Vr hG rfl ?_ ?_
 · repeat' (first | exact trivial | refine And.intro ?_ ?_ | intro _)
 refine Vt ?_
 refine ⟨?_, trivial⟩
 all_goals exact rfl
noncomputable def F302 : Fun := ⟨[.pair (.int .i64) Y32], [.own (.pure (.int .i64))], fun _ => True, fun x => (mandIntsF x.1, ())⟩
theorem F302_ok : Meets Tryz.prog 302 F302 := by
 refine mV (C := mkC 14 [2] [0,1,2] []) (mkC_ok _ _ _ _) (fnOf_ok _) Tryz.func302 rfl rfl rfl (by decide) rfl ?_
 rintro ⟨a0, _⟩ hwf hpre ⟨P, C, B, X, w0, M0, pv⟩ hG rfl rfl
 show Vc _ _ [(0, ⟨0, 0, .c Z41 a0⟩)] _
 refine Vq (Vr hG rfl (by trivial) (Vq (Vr hG rfl (by trivial) ?_)))
 refine Vt ?_
 refine ⟨?_, trivial⟩
 all_goals exact rfl
noncomputable def F261 : Fun := ⟨[.slice Y32, .pair (.int .i64) Y32], [.pure (.bool)], fun _ => True, fun x => (checkMandF x.1 x.2.1, ())⟩
theorem F261_ok : Meets Tryz.prog 261 F261 := by
 refine mV (C := mkC 26 [4] [0,1,3,4] [⟨301, _, F301_ok⟩, ⟨247, _, F247_ok⟩, ⟨302, _, F302_ok⟩, ⟨149, _, F149_ok⟩]) (mkC_ok _ _ _ _) (fnOf_ok _) Tryz.func261 rfl rfl rfl (by decide) rfl ?_
 rintro ⟨a0, a1, _⟩ hwf hpre ⟨P, C, B, X, w0, M0, pv⟩ hG rfl rfl
 show Vc _ _ [(0, ⟨0, 0, .c Z36 a0⟩), (1, ⟨0, 0, .c Z41 a1⟩)] _
 refine Vq (Vr hG rfl (by trivial) (Vq ?_))
 refine VrD mixed hG rfl (by kernel_rfl) ?_ ?_
 · repeat' (first | exact trivial | exact smallLit (n := 6) rfl (by decide) | refine And.intro ?_ ?_ | intro _)
 refine Vt ?_
 refine ⟨?_, trivial⟩
 all_goals exact rfl
noncomputable def F169 : Fun := ⟨[.slice Y32, .slice Y38, .int .i64, .int .i64], [.own Z8], fun x => (fun (_ : List Key) (l : List Mandate) (_ _ : Int) => List.length l ≤ 2000000000) x.1 x.2.1 x.2.2.1 x.2.2.2.1, fun x => (mandSpansF x.1 x.2.1 x.2.2.1 x.2.2.2.1, ())⟩
theorem F169_ok : Meets Tryz.prog 169 F169 := by
 refine mV (C := mkC 44 [8] [0,1,2,3,8,9,11,12,13,14,15,32] [⟨261, _, F261_ok⟩, ⟨253, _, F253_ok⟩]) (mkC_ok _ _ _ _) (fnOf_ok _) Tryz.func169 rfl rfl rfl (by decide) rfl ?_
 rintro ⟨a0, a1, (a2 : Int), (a3 : Int), _⟩ hwf hpre ⟨P, C, B, X, w0, M0, pv⟩ hG rfl rfl
 show Vc _ _ [(0, ⟨0, 0, .c Z36 a0⟩), (1, ⟨0, 0, .c Z44 a1⟩), (2, ⟨0, 0, .c (.pure (.int .i64)) a2⟩), (3, ⟨0, 0, .c (.pure (.int .i64)) a3⟩)] _
 have hs : List.length a1 ≤ 2000000000 := hpre
 have hb : List.length a1 ≤ bigLen := hwf.2.1.1
 refine Vq (Vr hG rfl (by trivial) (Vq (Vr hG rfl (by trivial) ?_)))
 refine Vq (Vq (Vr hG rfl (by trivial) (Vb ?_)))
 refine Vc.loopF [(9, false, .own Z8), (14, false, .pure (.int .i64))] [0, 1, 2, 3, 8, 12, 13] (fun v => pkInv (mdF a0 a2 a3) a1 v.1 v.2.1) (fun v => ((List.length a1 : Int) - v.2.1).toNat) rfl ?_ ?_
 · exact pkStart
 rintro ⟨acc, (i : Int), _⟩ hI
 have hI : pkInv (mdF a0 a2 a3) a1 acc i := hI
 refine Vq (Vr hG rfl (by trivial) (Vq ?_))
 refine Vk rfl (fun h0 => ?_) (fun h0 => ?_)
 · have hl : i < (List.length a1 : Int) := of_decide_eq_true h0
   refine Vs (Vq (Vb (Vq ?_)))
   refine Vr hG rfl ?_ ?_
   · exact pkRange hI hl
   refine Vq ?_
   refine Vr hG rfl ?_ ?_
   · repeat' (first | exact trivial | refine And.intro ?_ ?_ | intro _)
   refine Vk rfl (fun h1 => ?_) (fun h1 => ?_)
   · have g1 : ((mdF a0 a2 a3) (List.getD a1 i.toNat (dflt Y38))).2 = true := h1
     have st := pkYes (d := dflt Y38) hI hl hb g1
     refine Vr hG rfl ?_ ?_
     · exact pkLenW hI hs
     refine Vr hG rfl (by trivial) ?_
     refine ⟨rfl, ?_⟩
     exact st
   · have g1 : ((mdF a0 a2 a3) (List.getD a1 i.toNat (dflt Y38))).2 = false := h1
     have st := pkNo (d := dflt Y38) hI hl hb g1
     refine Vs (Vr hG rfl (by trivial) ?_)
     refine ⟨rfl, ?_⟩
     exact st
 · have hl : ¬ i < (List.length a1 : Int) := of_decide_eq_false h0
   refine Vx (Vq ?_)
   refine Vr hG rfl ?_ ?_
   · exact pkBigW hs (pkEnd hI hl)
   refine Vt ?_
   refine ⟨?_, trivial⟩
   exact congrArg joinF (pkEnd hI hl)
noncomputable def F86 : Fun := ⟨[.slice Y32, .slice Y38, .int .i64, .int .i64, .pair (.int .i64) (.int .i64)], [.pure (.bool)], fun x => (fun (_ : List Key) (l : List Mandate) (_ _ : Int) (_ : Span) => List.length l ≤ 2000000000) x.1 x.2.1 x.2.2.1 x.2.2.2.1 x.2.2.2.2.1, fun x => (maySignF x.1 x.2.1 x.2.2.1 x.2.2.2.1 x.2.2.2.2.1, ())⟩
theorem F86_ok : Meets Tryz.prog 86 F86 := by
 refine mV (C := mkC 26 [10] [0,1,2,3,4,9,10] [⟨168, _, F168_ok⟩, ⟨169, _, F169_ok⟩, ⟨165, _, F165_ok⟩]) (mkC_ok _ _ _ _) (fnOf_ok _) Tryz.func86 rfl rfl rfl (by decide) rfl ?_
 rintro ⟨a0, a1, (a2 : Int), (a3 : Int), a4, _⟩ hwf hpre ⟨P, C, B, X, w0, M0, pv⟩ hG rfl rfl
 show Vc _ _ [(0, ⟨0, 0, .c Z36 a0⟩), (1, ⟨0, 0, .c Z44 a1⟩), (2, ⟨0, 0, .c (.pure (.int .i64)) a2⟩), (3, ⟨0, 0, .c (.pure (.int .i64)) a3⟩), (4, ⟨0, 0, .c Z8 a4⟩)] _
 have hs : List.length a1 ≤ 2000000000 := hpre
 refine Vq (Vr hG rfl (by trivial) (Vq ?_))
 refine VrD mixed hG rfl (by kernel_rfl) ?_ ?_
 · exact ⟨fun _ => trivial, fun _ => hs, fun _ => mandSpLen hs⟩
 refine Vt ?_
 refine ⟨?_, trivial⟩
 exact mayI
noncomputable def F18 : Fun := ⟨[.pair Y34 Y55, .pair Y66 Y37, .slice (.slice (.int .i64)), .int .i64, .pair (.int .i64) Y48], [.pure Y24], fun x => (fun (_ : Frame) (e : Evidence) (_ : List (List Int)) (_ : Int) (_ : Sig) => Sm big20 Y71 e ∧ ((cellsC Y66 e.1 : Nat) : Int) ≤ 2000000000) x.1 x.2.1 x.2.2.1 x.2.2.2.1 x.2.2.2.2.1, fun x => (judgeF x.1 x.2.1 x.2.2.1 x.2.2.2.1 x.2.2.2.2.1, ())⟩
set_option maxHeartbeats 2000000 in
theorem F18_ok : Meets Tryz.prog 18 F18 := by
 refine mV (C := mkC 138 [10] [0,1,2,3,4,5,6,9,10,11,12,13,14,15,16,17,18,23,28,32,38,46,73,87,96,105,113,122] [⟨70, _, F70_ok⟩, ⟨71, _, F71_ok⟩, ⟨72, _, F72_ok⟩, ⟨73, _, F73_ok⟩, ⟨74, _, F74_ok⟩, ⟨75, _, F75_ok⟩, ⟨77, _, F77_ok⟩, ⟨76, _, F76_ok⟩, ⟨78, _, F78_ok⟩, ⟨79, _, F79_ok⟩, ⟨80, _, F80_ok⟩, ⟨81, _, F81_ok⟩, ⟨82, _, F82_ok⟩, ⟨83, _, F83_ok⟩, ⟨84, _, F84_ok⟩, ⟨85, _, F85_ok⟩, ⟨87, _, F87_ok⟩, ⟨86, _, F86_ok⟩]) (mkC_ok _ _ _ _) (fnOf_ok _) Tryz.func18 rfl rfl rfl (by decide) rfl ?_
 rintro ⟨a0, a1, a2, (a3 : Int), a4, _⟩ hwf hpre ⟨P, C, B, X, w0, M0, pv⟩ hG rfl rfl
 show Vc _ _ [(0, ⟨0, 0, .c Z67 a0⟩), (1, ⟨0, 0, .c Z72 a1⟩), (2, ⟨0, 0, .c Z7 a2⟩), (3, ⟨0, 0, .c (.pure (.int .i64)) a3⟩), (4, ⟨0, 0, .c Z52 a4⟩)] _
 have hS : Sm big20 Y66 a1.1 := hpre.1.1
 have hT : Sm big20 (.slice (.slice TStamp)) a1.2 := hpre.1.2
 have hc : ((cellsC Y66 a1.1 : Nat) : Int) ≤ 2000000000 := hpre.2
 refine Vq (Vr hG rfl (by trivial) (Vq (Vb ?_)))
 refine Vq (Vr hG rfl (by trivial) ?_)
 refine Vk rfl (fun h0 => ?_) (fun h0 => ?_)
 · refine Vq (Vr hG rfl (by trivial) (Vt ?_))
   refine ⟨?_, trivial⟩
   exact juD (fo1 h0) (by decide)
 · refine Vq (Vr hG rfl (by trivial) ?_)
   refine Vk rfl (fun h1 => ?_) (fun h1 => ?_)
   · refine Vq (Vr hG rfl (by trivial) (Vt ?_))
     refine ⟨?_, trivial⟩
     exact juD (fo2' h0 h1) (by decide)
   · refine Vq (Vr hG rfl (by trivial) ?_)
     refine Vk rfl (fun h2 => ?_) (fun h2 => ?_)
     · refine Vq (Vr hG rfl (by trivial) (Vt ?_))
       refine ⟨?_, trivial⟩
       exact juD (fo3' h0 h1 h2) (by decide)
     · refine Vq (Vr hG rfl (by trivial) ?_)
       refine Vk rfl (fun h3 => ?_) (fun h3 => ?_)
       · refine Vq (Vr hG rfl (by trivial) (Vt ?_))
         refine ⟨?_, trivial⟩
         exact juD (fo4 h0 h1 h2 h3) (by decide)
       · refine Vq (Vr hG rfl (by trivial) ?_)
         refine Vk rfl (fun h4 => ?_) (fun h4 => ?_)
         · refine Vq (Vr hG rfl (by trivial) (Vt ?_))
           refine ⟨?_, trivial⟩
           exact juD (fo5 h0 h1 h2 h3 h4) (by decide)
         · refine Vq (Vr hG rfl (by trivial) ?_)
           refine Vk rfl (fun h5 => ?_) (fun h5 => ?_)
           · refine Vq (Vr hG rfl (by trivial) (Vt ?_))
             refine ⟨?_, trivial⟩
             exact juD (fo6 h0 h1 h2 h3 h4 h5) (by decide)
           · refine Vs (Vq ?_)
             refine VrD mixed hG rfl (by kernel_rfl) ?_ ?_
             · exact ⟨trivial, hS⟩
             refine Vq (Vq ?_)
             refine Vr hG rfl ?_ ?_
             · repeat' (first | exact trivial | refine And.intro ?_ ?_ | intro _)
             refine Vk rfl (fun h6 => ?_) (fun h6 => ?_)
             · refine Vq (Vr hG rfl (by trivial) (Vt ?_))
               refine ⟨?_, trivial⟩
               exact (boA h6).trans (juB (fo7 h0 h1 h2 h3 h4 h5).symm)
             · refine Vs (Vq ?_)
               refine Vr hG rfl ?_ ?_
               · exact ⟨hS, hc⟩
               refine Vq (Vr hG rfl (by trivial) (Vq (Vq ?_)))
               refine Vr hG rfl (by trivial) ?_
               refine Vk rfl (fun h7 => ?_) (fun h7 => ?_)
               · refine Vq (Vr hG rfl (by trivial) (Vt ?_))
                 refine ⟨?_, trivial⟩
                 exact ((ceA h7).trans (boB h6)).trans (juB (fo7 h0 h1 h2 h3 h4 h5).symm)
               · refine Vs (Vq ?_)
                 refine Vr hG rfl ?_ ?_
                 · exact hT
                 refine Vq (Vq (Vr hG rfl (by trivial) ?_))
                 refine Vk rfl (fun h8 => ?_) (fun h8 => ?_)
                 · refine Vq (Vr hG rfl (by trivial) (Vt ?_))
                   refine ⟨?_, trivial⟩
                   exact ((ceB h7 h8).trans (boB h6)).trans (juB (fo7 h0 h1 h2 h3 h4 h5).symm)
                 · refine Vs (Vq (Vr hG rfl (by trivial) (Vq ?_)))
                   refine Vr hG rfl ?_ ?_
                   · exact usPieceLen hc
                   refine Vq (Vb (Vq (Vr hG rfl (by trivial) ?_)))
                   refine Vk rfl (fun h9 => ?_) (fun h9 => ?_)
                   · refine Vr hG rfl (by trivial) (Vq (Vr hG rfl (by trivial) (Vt ?_)))
                     refine ⟨?_, trivial⟩
                     exact (((enA h9).trans (ceC h7 h8)).trans (boB h6)).trans (juB (fo7 h0 h1 h2 h3 h4 h5).symm)
                   · refine Vq (Vr hG rfl (by trivial) ?_)
                     refine Vk rfl (fun h10 => ?_) (fun h10 => ?_)
                     · refine Vr hG rfl (by trivial) (Vq (Vr hG rfl (by trivial) (Vt ?_)))
                       refine ⟨?_, trivial⟩
                       exact (((enB h9 h10).trans (ceC h7 h8)).trans (boB h6)).trans (juB (fo7 h0 h1 h2 h3 h4 h5).symm)
                     · refine Vq ?_
                       refine VrD mixed hG rfl (by kernel_rfl) ?_ ?_
                       · exact ⟨usPieceLen hc, mandW (usPieceLen hc)⟩
                       refine Vk rfl (fun h11 => ?_) (fun h11 => ?_)
                       · refine Vr hG rfl (by trivial) (Vq (Vr hG rfl (by trivial) (Vt ?_)))
                         refine ⟨?_, trivial⟩
                         exact (((enC h9 h10 h11).trans (ceC h7 h8)).trans (boB h6)).trans (juB (fo7 h0 h1 h2 h3 h4 h5).symm)
                       · refine Vs (Vq (Vr hG rfl (by trivial) (Vt ?_)))
                         refine ⟨?_, trivial⟩
                         exact (((enD h9 h10 h11).trans (ceC h7 h8)).trans (boB h6)).trans (juB (fo7 h0 h1 h2 h3 h4 h5).symm)
noncomputable def F26 : Fun := ⟨[.pair Y34 Y55, .pair Y66 Y37, .pair (.int .i64) Y13, .pair (.int .i64) Y48], [.pure Y24], fun x => (fun (_ : Frame) (e : Evidence) (_ : Doc) (_ : Sig) => Sm big20 Y71 e ∧ ((cellsC Y66 e.1 : Nat) : Int) ≤ 2000000000) x.1 x.2.1 x.2.2.1 x.2.2.2.1, fun x => (judgeDocF x.1 x.2.1 x.2.2.1 x.2.2.2.1, ())⟩
theorem F26_ok : Meets Tryz.prog 26 F26 := by
 refine mV (C := mkC 20 [8] [0,1,2,3,4,5,6,7,8] [⟨99, _, F99_ok⟩, ⟨100, _, F100_ok⟩, ⟨18, _, F18_ok⟩]) (mkC_ok _ _ _ _) (fnOf_ok _) Tryz.func26 rfl rfl rfl (by decide) rfl ?_
 rintro ⟨a0, a1, a2, a3, _⟩ hwf hpre ⟨P, C, B, X, w0, M0, pv⟩ hG rfl rfl
 show Vc _ _ [(0, ⟨0, 0, .c Z67 a0⟩), (1, ⟨0, 0, .c Z72 a1⟩), (2, ⟨0, 0, .c Z25 a2⟩), (3, ⟨0, 0, .c Z52 a3⟩)] _
 have hS : Sm big20 Y66 a1.1 := hpre.1.1
 have hT : Sm big20 (.slice (.slice TStamp)) a1.2 := hpre.1.2
 have hc : ((cellsC Y66 a1.1 : Nat) : Int) ≤ 2000000000 := hpre.2
 refine Vq (Vr hG rfl (by trivial) (Vq ?_))
 refine VrD mixed hG rfl (by kernel_rfl) ?_ ?_
 · exact ⟨hS, trivial, hpre⟩
 refine Vt ?_
 refine ⟨?_, trivial⟩
 all_goals exact rfl
noncomputable def F39 : Fun := ⟨[.pair Y34 Y55, .pair Y66 Y37, .pair Y66 Y37, .pair (.int .i64) Y13, .pair (.int .i64) Y48], [.pure Y24], fun x => (fun (_ : Frame) (a b : Evidence) (_ : Doc) (_ : Sig) => Sm big20 Y71 a ∧ Sm big20 Y71 b ∧ Sm big20 Y71 (joinEvF a b) ∧ ((cellsC Y66 (joinEvF a b).1 : Nat) : Int) ≤ 2000000000) x.1 x.2.1 x.2.2.1 x.2.2.2.1 x.2.2.2.2.1, fun x => (judgeBothF x.1 x.2.1 x.2.2.1 x.2.2.2.1 x.2.2.2.2.1, ())⟩
theorem F39_ok : Meets Tryz.prog 39 F39 := by
 refine mV (C := mkC 18 [10] [0,1,2,3,4,5,6,7,8,9,10] [⟨116, _, F116_ok⟩, ⟨26, _, F26_ok⟩]) (mkC_ok _ _ _ _) (fnOf_ok _) Tryz.func39 rfl rfl rfl (by decide) rfl ?_
 rintro ⟨a0, a1, a2, a3, a4, _⟩ hwf hpre ⟨P, C, B, X, w0, M0, pv⟩ hG rfl rfl
 show Vc _ _ [(0, ⟨0, 0, .c Z67 a0⟩), (1, ⟨0, 0, .c Z72 a1⟩), (2, ⟨0, 0, .c Z72 a2⟩), (3, ⟨0, 0, .c Z25 a3⟩), (4, ⟨0, 0, .c Z52 a4⟩)] _
 have hp := hpre
 refine Vq (Vr hG rfl (by trivial) (Vq ?_))
 refine VrD mixed hG rfl (by kernel_rfl) ?_ ?_
 · exact ⟨⟨hp.1, hp.2.1⟩, hp.2.2⟩
 refine Vt ?_
 refine ⟨?_, trivial⟩
 all_goals exact rfl
noncomputable def F41 : Fun := ⟨[.pair Y34 Y55, .pair Y66 Y37, .pair Y66 Y37, .pair (.int .i64) Y13, .pair (.int .i64) Y48], [.pure (.int .i64)], fun x => (fun (_ : Frame) (a b : Evidence) (_ : Doc) (_ : Sig) => ((cellsC Y66 a.1 : Nat) : Int) ≤ 2000000000 ∧ ((cellsC Y66 b.1 : Nat) : Int) ≤ 2000000000 ∧ Sm big20 Y71 a ∧ Sm big20 Y71 b ∧ Sm big20 Y71 (joinEvF a b) ∧ ((cellsC Y66 (joinEvF a b).1 : Nat) : Int) ≤ 2000000000) x.1 x.2.1 x.2.2.1 x.2.2.2.1 x.2.2.2.2.1, fun x => (enoughF x.1 x.2.1 x.2.2.1 x.2.2.2.1 x.2.2.2.2.1, ())⟩
theorem F41_ok : Meets Tryz.prog 41 F41 := by
 refine mV (C := mkC 43 [10] [0,1,2,3,4,5,6,7,8,9,10,11,12,21,29,39] [⟨39, _, F39_ok⟩, ⟨26, _, F26_ok⟩]) (mkC_ok _ _ _ _) (fnOf_ok _) Tryz.func41 rfl rfl rfl (by decide) rfl ?_
 rintro ⟨a0, a1, a2, a3, a4, _⟩ hwf hpre ⟨P, C, B, X, w0, M0, pv⟩ hG rfl rfl
 show Vc _ _ [(0, ⟨0, 0, .c Z67 a0⟩), (1, ⟨0, 0, .c Z72 a1⟩), (2, ⟨0, 0, .c Z72 a2⟩), (3, ⟨0, 0, .c Z25 a3⟩), (4, ⟨0, 0, .c Z52 a4⟩)] _
 have hp := hpre
 refine Vq (Vr hG rfl (by trivial) (Vq ?_))
 refine Vr hG rfl ?_ ?_
 · exact hp.2.2
 refine Vq (Vq (Vr hG rfl (by trivial) ?_))
 refine Vk rfl (fun h0 => ?_) (fun h0 => ?_)
 · refine Vq (Vr hG rfl (by trivial) (Vt ?_))
   refine ⟨?_, trivial⟩
   exact eno0 h0
 · refine Vs (Vq (Vr hG rfl (by trivial) (Vq ?_)))
   refine Vq ?_
   refine Vr hG rfl ?_ ?_
   · exact ⟨hp.2.2.1, hp.1⟩
   refine Vk rfl (fun h1 => ?_) (fun h1 => ?_)
   · refine Vr hG rfl (by trivial) (Vq (Vq ?_))
     refine Vr hG rfl ?_ ?_
     · exact ⟨hp.2.2.2.1, hp.2.1⟩
     refine Vk rfl (fun h2 => ?_) (fun h2 => ?_)
     · refine Vr hG rfl (by trivial) (Vq (Vr hG rfl (by trivial) (Vt ?_)))
       refine ⟨?_, trivial⟩
       exact enoYY h0 h1 h2
     · refine Vs (Vq (Vr hG rfl (by trivial) (Vt ?_)))
       refine ⟨?_, trivial⟩
       exact enoYN h0 h1 h2
   · refine Vs (Vq (Vq ?_))
     refine Vr hG rfl ?_ ?_
     · exact ⟨hp.2.2.2.1, hp.2.1⟩
     refine Vk rfl (fun h3 => ?_) (fun h3 => ?_)
     · refine Vr hG rfl (by trivial) (Vq (Vr hG rfl (by trivial) (Vt ?_)))
       refine ⟨?_, trivial⟩
       exact enoNY h0 h1 h3
     · refine Vs (Vq (Vr hG rfl (by trivial) (Vt ?_)))
       refine ⟨?_, trivial⟩
       exact enoNN h0 h1 h3
end Fw
