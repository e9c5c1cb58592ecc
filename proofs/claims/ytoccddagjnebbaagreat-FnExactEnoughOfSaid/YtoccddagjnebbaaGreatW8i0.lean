/- Walks of functions of the program: what each computes. Conditions: those that each contract names. -/
import Derived.Test.YtoccddagjnebbaaGreatW8T
namespace Fw
open Go Go.Proofs
set_option linter.unusedSimpArgs false
set_option maxRecDepth 100000
noncomputable def F244 : Fun := ⟨[.slice (.int .i64)], [.own (.pure (.int .i64))], fun x => (fun l => List.length l ≤ 4000000) x.1, fun x => (id x.1, ())⟩
theorem F244_ok : Meets Tryz.prog 244 F244 := by
 refine mV (C := mkC 6 [2] [0,2] []) (mkC_ok _ _ _ _) (fnOf_ok _) Tryz.func244 rfl rfl rfl (by decide) rfl ?_
 rintro ⟨a0, _⟩ hwf hpre ⟨P, C, B, X, w0, M0, pv⟩ hG rfl rfl
 show Vc _ _ [(0, ⟨0, 0, .c Z2 a0⟩)] _
 have hp : List.length a0 ≤ 4000000 := hpre
 refine Vq (Vr hG rfl (by trivial) (Vq ?_))
 refine Vr hG rfl ?_ ?_
 · exact appMore hp
 refine Vt ?_
 refine ⟨?_, trivial⟩
 all_goals exact rfl
noncomputable def F156 : Fun := ⟨[.pair (.int .i64) Y9], [.pair (.pure (.int .i64)) Z16], fun x => Sm big20 Y19 x.1, fun x => (id x.1, ())⟩
theorem F156_ok : Meets Tryz.prog 156 F156 := by
 refine mV (C := mkC 8 [2] [0,1,2] [⟨244, _, F244_ok⟩]) (mkC_ok _ _ _ _) (fnOf_ok _) Tryz.func156 rfl rfl rfl (by decide) rfl ?_
 rintro ⟨a0, _⟩ hwf hpre ⟨P, C, B, X, w0, M0, pv⟩ hG rfl rfl
 show Vc _ _ [(0, ⟨0, 0, .c Z22 a0⟩)] _
 have hp : List.length a0.2.1 ≤ 4000000 := Nat.le_trans hpre.2.1.1 (by decide)
 refine Vq (Vr hG rfl (by trivial) (Vq ?_))
 refine Vr hG rfl ?_ ?_
 · exact hp
 refine Vq (Vr hG rfl (by trivial) (Vt ?_))
 refine ⟨?_, trivial⟩
 all_goals exact rfl
noncomputable def F272 : Fun := ⟨[.slice Y19], [.own Z29], fun x => Sm big20 Y23 x.1, fun x => (id x.1, ())⟩
theorem F272_ok : Meets Tryz.prog 272 F272 := by
 refine mV (C := mkC 19 [2] [0,2,3,5,6,7,8,9] [⟨156, _, F156_ok⟩]) (mkC_ok _ _ _ _) (fnOf_ok _) Tryz.func272 rfl rfl rfl (by decide) rfl ?_
 rintro ⟨a0, _⟩ hwf hpre ⟨P, C, B, X, w0, M0, pv⟩ hG rfl rfl
 show Vc _ _ [(0, ⟨0, 0, .c Z26 a0⟩)] _
 have hp : _ ∧ _ := hpre
 have hb : List.length a0 ≤ bigLen := hwf.1.1
 refine Vq (Vr hG rfl (by trivial) (Vq (Vr hG rfl (by trivial) ?_)))
 refine Vq (Vq (Vr hG rfl (by trivial) (Vb ?_)))
 refine Vc.loopF [(3, false, .own Z29), (8, false, .pure (.int .i64))] [0, 2, 6, 7] (fun v => cpInv a0 v.1 v.2.1) (fun v => ((List.length a0 : Int) - v.2.1).toNat) rfl ?_ ?_
 · exact cpStart
 rintro ⟨acc, (i : Int), _⟩ hI
 have hI : cpInv a0 acc i := hI
 refine Vq (Vr hG rfl (by trivial) (Vq ?_))
 refine Vk rfl (fun h0 => ?_) (fun h0 => ?_)
 · have hl : i < (List.length a0 : Int) := of_decide_eq_true h0
   have hE : Sm big20 Y19 (List.getD a0 i.toNat (dflt Y19)) := hp.2 _ (upElem hI.1 hl)
   refine Vs (Vq (Vb (Vq ?_)))
   refine Vr hG rfl ?_ ?_
   · exact cpRange hI hl
   refine Vr hG rfl ?_ ?_
   · exact ⟨hE, cpLen hI hl hp.1⟩
   refine Vr hG rfl (by trivial) ?_
   refine ⟨rfl, ?_⟩
   exact cpStep (d := dflt Y19) hI hl hb rfl
 · have hl : ¬ i < (List.length a0 : Int) := of_decide_eq_false h0
   refine Vx (Vq (Vr hG rfl (by trivial) (Vt ?_)))
   refine ⟨?_, trivial⟩
   exact cpEnd hI hl
noncomputable def F203 : Fun := ⟨[.slice Y32], [.own Z33], fun x => (fun l => List.length l ≤ 4000000) x.1, fun x => (id x.1, ())⟩
theorem F203_ok : Meets Tryz.prog 203 F203 := by
 refine mV (C := mkC 6 [2] [0,2] []) (mkC_ok _ _ _ _) (fnOf_ok _) Tryz.func203 rfl rfl rfl (by decide) rfl ?_
 rintro ⟨a0, _⟩ hwf hpre ⟨P, C, B, X, w0, M0, pv⟩ hG rfl rfl
 show Vc _ _ [(0, ⟨0, 0, .c Z36 a0⟩)] _
 have hp : List.length a0 ≤ 4000000 := hpre
 refine Vq (Vr hG rfl (by trivial) (Vq ?_))
 refine Vr hG rfl ?_ ?_
 · exact appMore hp
 refine Vt ?_
 refine ⟨?_, trivial⟩
 all_goals exact rfl
noncomputable def F273 : Fun := ⟨[.pair (.int .i64) Y53], [.pair (.pure (.int .i64)) Z58], fun x => Sm big20 Y56 x.1, fun x => (id x.1, ())⟩
theorem F273_ok : Meets Tryz.prog 273 F273 := by
 refine mV (C := mkC 13 [2] [0,1,2] [⟨203, _, F203_ok⟩]) (mkC_ok _ _ _ _) (fnOf_ok _) Tryz.func273 rfl rfl rfl (by decide) rfl ?_
 rintro ⟨a0, _⟩ hwf hpre ⟨P, C, B, X, w0, M0, pv⟩ hG rfl rfl
 show Vc _ _ [(0, ⟨0, 0, .c Z57 a0⟩)] _
 have hp1 : List.length a0.2.2.2.1 ≤ big20 := hpre.2.2.2.1.1
 have hp2 : List.length a0.2.2.2.2 ≤ 4000000 := Nat.le_trans hpre.2.2.2.2.1 (by decide)
 refine Vq (Vr hG rfl (by trivial) (Vq ?_))
 refine Vr hG rfl ?_ ?_
 · exact appOk hp1
 refine Vq ?_
 refine Vr hG rfl ?_ ?_
 · exact hp2
 refine Vq (Vr hG rfl (by trivial) (Vt ?_))
 refine ⟨?_, trivial⟩
 all_goals exact rfl
noncomputable def F188 : Fun := ⟨[.pair Y23 Y59], [.pair Z31 Z62], fun x => Sm big20 Y63 x.1, fun x => (id x.1, ())⟩
theorem F188_ok : Meets Tryz.prog 188 F188 := by
 refine mV (C := mkC 26 [2] [0,1,2,3,5,11,12,13,14] [⟨272, _, F272_ok⟩, ⟨273, _, F273_ok⟩]) (mkC_ok _ _ _ _) (fnOf_ok _) Tryz.func188 rfl rfl rfl (by decide) rfl ?_
 rintro ⟨a0, _⟩ hwf hpre ⟨P, C, B, X, w0, M0, pv⟩ hG rfl rfl
 show Vc _ _ [(0, ⟨0, 0, .c Z65 a0⟩)] _
 have hp0 : Sm big20 Y23 a0.1 := hpre.1
 have hp : _ ∧ _ := hpre.2
 have hb : List.length a0.2 ≤ bigLen := hwf.1.2.1
 refine Vq (Vr hG rfl (by trivial) (Vq ?_))
 refine Vr hG rfl ?_ ?_
 · exact hp0
 refine Vq (Vq (Vr hG rfl (by trivial) (Vb ?_)))
 refine Vc.loopF [(3, true, .pair Z31 Z62), (13, false, .pure (.int .i64))] [0, 1, 2, 11, 12] (fun v => v.1.1 = a0.1 ∧ cpInv a0.2 v.1.2 v.2.1) (fun v => ((List.length a0.2 : Int) - v.2.1).toNat) rfl ?_ ?_
 · exact ⟨rfl, cpStart⟩
 rintro ⟨acc, (i : Int), _⟩ hI
 have hI : acc.1 = a0.1 ∧ cpInv a0.2 acc.2 i := hI
 refine Vq (Vr hG rfl (by trivial) (Vq ?_))
 refine Vk rfl (fun h0 => ?_) (fun h0 => ?_)
 · have hl : i < (List.length a0.2 : Int) := of_decide_eq_true h0
   have hE : Sm big20 Y56 (List.getD a0.2 i.toNat (dflt Y56)) := hp.2 _ (upElem hI.2.1 hl)
   refine Vs (Vq (Vb (Vq ?_)))
   refine Vr hG rfl ?_ ?_
   · exact cpRange hI.2 hl
   refine VrD mixed hG rfl (by kernel_rfl) ?_ ?_
   · exact ⟨hE, cpLen hI.2 hl hp.1⟩
   refine Vr hG rfl (by trivial) ?_
   refine ⟨rfl, ?_⟩
   have e := cpStep (d := dflt Y56) hI.2 hl hb rfl
   exact ⟨⟨hI.1, e.1⟩, e.2⟩
 · have hl : ¬ i < (List.length a0.2 : Int) := of_decide_eq_false h0
   refine Vx (Vq (Vr hG rfl (by trivial) (Vt ?_)))
   refine ⟨?_, trivial⟩
   exact Prod.ext hI.1 (cpEnd hI.2 hl)
noncomputable def F200 : Fun := ⟨[.pair Y66 Y37], [.pair Z70 Z39], fun x => Sm big20 Y71 x.1, fun x => (id x.1, ())⟩
theorem F200_ok : Meets Tryz.prog 200 F200 := by
 refine mV (C := mkC 39 [2] [0,1,2,3,5,7,9,10,11,12,24,25,26,27] [⟨188, _, F188_ok⟩, ⟨203, _, F203_ok⟩]) (mkC_ok _ _ _ _) (fnOf_ok _) Tryz.func200 rfl rfl rfl (by decide) rfl ?_
 rintro ⟨a0, _⟩ hwf hpre ⟨P, C, B, X, w0, M0, pv⟩ hG rfl rfl
 show Vc _ _ [(0, ⟨0, 0, .c Z72 a0⟩)] _
 have hS : List.length a0.1 ≤ big20 ∧ ∀ x ∈ a0.1, Sm big20 Y63 x := hpre.1
 have hT : List.length a0.2 ≤ big20 ∧ ∀ x ∈ a0.2, Sm big20 (.slice TStamp) x := hpre.2
 have hb : List.length a0.1 ≤ bigLen := hwf.1.1.1
 have hb2 : List.length a0.2 ≤ bigLen := hwf.1.2.1
 refine Vq (Vr hG rfl (by trivial) (Vq (Vr hG rfl (by trivial) ?_)))
 refine Vq (Vq (Vr hG rfl (by trivial) (Vb ?_)))
 refine Vc.loopF [(3, true, .pair Z70 Z39), (11, false, .pure (.int .i64))] [0, 1, 2, 7, 9, 10, 24, 25, 26, 27] (fun v => v.1.2 = [] ∧ cpInv a0.1 v.1.1 v.2.1) (fun v => ((List.length a0.1 : Int) - v.2.1).toNat) rfl ?_ ?_
 · exact ⟨rfl, cpStart⟩
 rintro ⟨ev, (i : Int), _⟩ hI
 have hI : ev.2 = [] ∧ cpInv a0.1 ev.1 i := hI
 refine Vq (Vr hG rfl (by trivial) (Vq ?_))
 refine Vk rfl (fun h0 => ?_) (fun h0 => ?_)
 · have hl : i < (List.length a0.1 : Int) := of_decide_eq_true h0
   have r1 := cpRange hI.2 hl
   have hE := hS.2 _ (getD_mem r1 (dflt Y63))
   have hA := cpLen hI.2 hl hS.1
   refine Vs (Vq (Vb (Vq ?_)))
   refine Vr hG rfl ?_ ?_
   · exact r1
   refine VrD mixed hG rfl (by kernel_rfl) ?_ ?_
   · exact ⟨hE, hA⟩
   refine Vr hG rfl (by trivial) ?_
   refine ⟨rfl, ?_⟩
   have e := cpStep (d := dflt Y63) hI.2 hl hb rfl
   exact ⟨⟨hI.1, e.1⟩, e.2⟩
 · have hl : ¬ i < (List.length a0.1 : Int) := of_decide_eq_false h0
   have eI := cpEnd hI.2 hl
   refine Vx (Vq (Vq (Vr hG rfl (by trivial) ?_)))
   refine Vb ?_
   refine Vc.loopF [(3, true, .pair Z70 Z39), (26, false, .pure (.int .i64))] [0, 1, 2, 5, 9, 10, 11, 12, 24, 25] (fun v => v.1.1 = a0.1 ∧ cpInv a0.2 v.1.2 v.2.1) (fun v => ((List.length a0.2 : Int) - v.2.1).toNat) rfl ?_ ?_
   · exact ⟨eI, by rw [hI.1]; exact cpStart⟩
   rintro ⟨ev2, (j : Int), _⟩ hJ
   have hJ : ev2.1 = a0.1 ∧ cpInv a0.2 ev2.2 j := hJ
   refine Vq (Vr hG rfl (by trivial) (Vq ?_))
   refine Vk rfl (fun h1 => ?_) (fun h1 => ?_)
   · have hj : j < (List.length a0.2 : Int) := of_decide_eq_true h1
     have r2 := cpRange hJ.2 hj
     have hF : List.length (List.getD a0.2 j.toNat (dflt (.slice TStamp))) ≤ big20 := (hT.2 _ (getD_mem r2 (dflt (.slice TStamp)))).1
     have hF4 : List.length (List.getD a0.2 j.toNat (dflt (.slice TStamp))) ≤ 4000000 := Nat.le_trans hF (by decide)
     have hA2 := cpLen hJ.2 hj hT.1
     refine Vs (Vq (Vb (Vq ?_)))
     refine Vr hG rfl ?_ ?_
     · exact r2
     refine VrD mixed hG rfl (by kernel_rfl) ?_ ?_
     · exact ⟨hF4, hA2⟩
     refine Vr hG rfl (by trivial) ?_
     refine ⟨rfl, ?_⟩
     have e := cpStep (d := dflt (.slice TStamp)) hJ.2 hj hb2 rfl
     exact ⟨⟨hJ.1, e.1⟩, e.2⟩
   · have hj : ¬ j < (List.length a0.2 : Int) := of_decide_eq_false h1
     refine Vx (Vq (Vr hG rfl (by trivial) (Vt ?_)))
     refine ⟨?_, trivial⟩
     exact Prod.ext hJ.1 (cpEnd hJ.2 hj)
noncomputable def F297 : Fun := ⟨[.slice (.int .i64), .slice (.int .i64)], [.pure (.bool)], fun _ => True, fun x => (eqC x.1 x.2.1, ())⟩
theorem F297_ok : Meets Tryz.prog 297 F297 := by
 refine mV (C := mkC 26 [4] [0,1,4,5,10,12,13,14,24] []) (mkC_ok _ _ _ _) (fnOf_ok _) Tryz.func297 rfl rfl rfl (by decide) rfl ?_
 rintro ⟨a0, a1, _⟩ hwf hpre ⟨P, C, B, X, w0, M0, pv⟩ hG rfl rfl
 show Vc _ _ [(0, ⟨0, 0, .c Z2 a0⟩), (1, ⟨0, 0, .c Z2 a1⟩)] _
 have hb0 : List.length a0 ≤ bigLen := hwf.1.1
 refine Vq (Vr hG rfl (by trivial) (Vq (Vq ?_)))
 refine Vr hG rfl (by trivial) ?_
 refine Vk rfl (fun h0 => ?_) (fun h0 => ?_)
 · refine Vq (Vr hG rfl (by trivial) (Vt ?_))
   refine ⟨?_, trivial⟩
   refine eqC_no (fun e => ?_)
   have e : a0 = a1 := e
   have g : ((List.length a0 : Int) != (List.length a1 : Int)) = true := h0
   subst e
   exact bself g
 · have g0 : ((List.length a0 : Int) != (List.length a1 : Int)) = false := h0
   have f0_0 : List.length a0 = List.length a1 := (lenEq g0)
   refine Vs (Vq (Vq (Vr hG rfl (by trivial) ?_)))
   refine Vb ?_
   refine Vc.loopF [(13, false, .pure (.int .i64))] [0, 1, 10, 12] (fun v => eqInv a0 a1 v.1) (fun v => ((List.length a0 : Int) - v.1).toNat) rfl ?_ ?_
   · exact eqStart f0_0
   rintro ⟨(i0 : Int), _⟩ hI0
   have hI0 : eqInv a0 a1 i0 := hI0
   refine Vq (Vr hG rfl (by trivial) (Vq ?_))
   refine Vk rfl (fun h1 => ?_) (fun h1 => ?_)
   · have hl0 : i0 < (List.length a0 : Int) := of_decide_eq_true h1
     refine Vs (Vq (Vb (Vq ?_)))
     refine Vr hG rfl (by trivial) (Vq ?_)
     refine VrD mixed hG rfl (by kernel_rfl) ?_ ?_
     · exact ⟨(eqRange hI0 hl0).1, (eqRange hI0 hl0).2⟩
     refine Vk rfl (fun h2 => ?_) (fun h2 => ?_)
     · refine Vq (Vr hG rfl (by trivial) (Vt ?_))
       refine ⟨?_, trivial⟩
       refine eqC_no (fun e => ?_)
       have e : a0 = a1 := e
       have g : ((List.getD a0 i0.toNat (dflt (.int .i64))) != (List.getD a1 i0.toNat (dflt (.int .i64)))) = true := h2
       subst e
       exact bself g
     · have g2 : ((List.getD a0 i0.toNat (dflt (.int .i64))) != (List.getD a1 i0.toNat (dflt (.int .i64)))) = false := h2
       have f2_0 : (List.getD a0 i0.toNat (dflt (.int .i64))) = (List.getD a1 i0.toNat (dflt (.int .i64))) := (bneI g2)
       have s0 : (List.getD a0 i0.toNat (dflt (.int .i64))) = (List.getD a1 i0.toNat (dflt (.int .i64))) := f2_0
       refine Vs (Vr hG rfl (by trivial) ?_)
       refine ⟨rfl, ?_⟩
       exact ⟨eqStep (d := dflt (.int .i64)) hI0 hl0 hb0 s0, (upStep hI0.1 hl0 hb0).2.2⟩
   · have hl0 : ¬ i0 < (List.length a0 : Int) := of_decide_eq_false h1
     have e0 : a0 = a1 := eqEnd hI0 hl0
     refine Vx (Vq (Vr hG rfl (by trivial) (Vt ?_)))
     refine ⟨?_, trivial⟩
     exact eqC_yes e0
noncomputable def F240 : Fun := ⟨[.pair (.int .i64) Y9, .pair (.int .i64) Y9], [.pure (.bool)], fun _ => True, fun x => (eqC x.1 x.2.1, ())⟩
theorem F240_ok : Meets Tryz.prog 240 F240 := by
 refine mV (C := mkC 24 [4] [0,1,2,3,4] [⟨297, _, F297_ok⟩]) (mkC_ok _ _ _ _) (fnOf_ok _) Tryz.func240 rfl rfl rfl (by decide) rfl ?_
 rintro ⟨a0, a1, _⟩ hwf hpre ⟨P, C, B, X, w0, M0, pv⟩ hG rfl rfl
 show Vc _ _ [(0, ⟨0, 0, .c Z22 a0⟩), (1, ⟨0, 0, .c Z22 a1⟩)] _
 refine Vq (Vr hG rfl (by trivial) (Vq ?_))
 refine Vr hG rfl ?_ ?_
 · repeat' (first | exact trivial | refine And.intro ?_ ?_ | intro _)
 refine Vt ?_
 refine ⟨?_, trivial⟩
 refine eqC_by (fun e => ?_) (fun e => ?_)
 · have e : (pick2 (pick2 (a0.1 == a1.1) (a0.2.2 == a1.2.2) false) (eqC a0.2.1 a1.2.1) false) = true := e
   have r_0 : a0.1 = a1.1 := (beqI2 (andT (andT e).1).1)
   have r_1 : a0.2.2 = a1.2.2 := (beqI2 (andT (andT e).1).2)
   have r_2 : a0.2.1 = a1.2.1 := (eqC_iff.1 (andT e).2)
   exact (Prod.ext r_0 (Prod.ext r_2 r_1))
 · have e : a0 = a1 := e
   subst e
   exact (yesAnd (yesAnd beqSelf beqSelf) (eqC_self _))
noncomputable def F277 : Fun := ⟨[.slice Y19, .slice Y19], [.pure (.bool)], fun _ => True, fun x => (eqC x.1 x.2.1, ())⟩
theorem F277_ok : Meets Tryz.prog 277 F277 := by
 refine mV (C := mkC 27 [4] [0,1,4,5,10,12,13,14,25] [⟨240, _, F240_ok⟩]) (mkC_ok _ _ _ _) (fnOf_ok _) Tryz.func277 rfl rfl rfl (by decide) rfl ?_
 rintro ⟨a0, a1, _⟩ hwf hpre ⟨P, C, B, X, w0, M0, pv⟩ hG rfl rfl
 show Vc _ _ [(0, ⟨0, 0, .c Z26 a0⟩), (1, ⟨0, 0, .c Z26 a1⟩)] _
 have hb0 : List.length a0 ≤ bigLen := hwf.1.1
 refine Vq (Vr hG rfl (by trivial) (Vq (Vq ?_)))
 refine Vr hG rfl (by trivial) ?_
 refine Vk rfl (fun h0 => ?_) (fun h0 => ?_)
 · refine Vq (Vr hG rfl (by trivial) (Vt ?_))
   refine ⟨?_, trivial⟩
   refine eqC_no (fun e => ?_)
   have e : a0 = a1 := e
   have g : ((List.length a0 : Int) != (List.length a1 : Int)) = true := h0
   subst e
   exact bself g
 · have g0 : ((List.length a0 : Int) != (List.length a1 : Int)) = false := h0
   have f0_0 : List.length a0 = List.length a1 := (lenEq g0)
   refine Vs (Vq (Vq (Vr hG rfl (by trivial) ?_)))
   refine Vb ?_
   refine Vc.loopF [(13, false, .pure (.int .i64))] [0, 1, 10, 12] (fun v => eqInv a0 a1 v.1) (fun v => ((List.length a0 : Int) - v.1).toNat) rfl ?_ ?_
   · exact eqStart f0_0
   rintro ⟨(i0 : Int), _⟩ hI0
   have hI0 : eqInv a0 a1 i0 := hI0
   refine Vq (Vr hG rfl (by trivial) (Vq ?_))
   refine Vk rfl (fun h1 => ?_) (fun h1 => ?_)
   · have hl0 : i0 < (List.length a0 : Int) := of_decide_eq_true h1
     refine Vs (Vq (Vb (Vq ?_)))
     refine Vr hG rfl (by trivial) (Vq ?_)
     refine VrD mixed hG rfl (by kernel_rfl) ?_ ?_
     · exact ⟨(eqRange hI0 hl0).1, (eqRange hI0 hl0).2, trivial⟩
     refine Vk rfl (fun h2 => ?_) (fun h2 => ?_)
     · refine Vq (Vr hG rfl (by trivial) (Vt ?_))
       refine ⟨?_, trivial⟩
       refine eqC_no (fun e => ?_)
       have e : a0 = a1 := e
       have g : (!(eqC (List.getD a0 i0.toNat (dflt Y19)) (List.getD a1 i0.toNat (dflt Y19)))) = true := h2
       subst e
       exact (nself (eqC_self _)) g
     · have g2 : (!(eqC (List.getD a0 i0.toNat (dflt Y19)) (List.getD a1 i0.toNat (dflt Y19)))) = false := h2
       have f2_0 : (List.getD a0 i0.toNat (dflt Y19)) = (List.getD a1 i0.toNat (dflt Y19)) := (eqC_iff.1 (notF g2))
       have s0 : (List.getD a0 i0.toNat (dflt Y19)) = (List.getD a1 i0.toNat (dflt Y19)) := f2_0
       refine Vs (Vr hG rfl (by trivial) ?_)
       refine ⟨rfl, ?_⟩
       exact ⟨eqStep (d := dflt Y19) hI0 hl0 hb0 s0, (upStep hI0.1 hl0 hb0).2.2⟩
   · have hl0 : ¬ i0 < (List.length a0 : Int) := of_decide_eq_false h1
     have e0 : a0 = a1 := eqEnd hI0 hl0
     refine Vx (Vq (Vr hG rfl (by trivial) (Vt ?_)))
     refine ⟨?_, trivial⟩
     exact eqC_yes e0
noncomputable def F202 : Fun := ⟨[.slice Y32, .slice Y32], [.pure (.bool)], fun _ => True, fun x => (eqC x.1 x.2.1, ())⟩
theorem F202_ok : Meets Tryz.prog 202 F202 := by
 refine mV (C := mkC 26 [4] [0,1,4,5,10,12,13,14,24] []) (mkC_ok _ _ _ _) (fnOf_ok _) Tryz.func202 rfl rfl rfl (by decide) rfl ?_
 rintro ⟨a0, a1, _⟩ hwf hpre ⟨P, C, B, X, w0, M0, pv⟩ hG rfl rfl
 show Vc _ _ [(0, ⟨0, 0, .c Z36 a0⟩), (1, ⟨0, 0, .c Z36 a1⟩)] _
 have hb0 : List.length a0 ≤ bigLen := hwf.1.1
 refine Vq (Vr hG rfl (by trivial) (Vq (Vq ?_)))
 refine Vr hG rfl (by trivial) ?_
 refine Vk rfl (fun h0 => ?_) (fun h0 => ?_)
 · refine Vq (Vr hG rfl (by trivial) (Vt ?_))
   refine ⟨?_, trivial⟩
   refine eqC_no (fun e => ?_)
   have e : a0 = a1 := e
   have g : ((List.length a0 : Int) != (List.length a1 : Int)) = true := h0
   subst e
   exact bself g
 · have g0 : ((List.length a0 : Int) != (List.length a1 : Int)) = false := h0
   have f0_0 : List.length a0 = List.length a1 := (lenEq g0)
   refine Vs (Vq (Vq (Vr hG rfl (by trivial) ?_)))
   refine Vb ?_
   refine Vc.loopF [(13, false, .pure (.int .i64))] [0, 1, 10, 12] (fun v => eqInv a0 a1 v.1) (fun v => ((List.length a0 : Int) - v.1).toNat) rfl ?_ ?_
   · exact eqStart f0_0
   rintro ⟨(i0 : Int), _⟩ hI0
   have hI0 : eqInv a0 a1 i0 := hI0
   refine Vq (Vr hG rfl (by trivial) (Vq ?_))
   refine Vk rfl (fun h1 => ?_) (fun h1 => ?_)
   · have hl0 : i0 < (List.length a0 : Int) := of_decide_eq_true h1
     refine Vs (Vq (Vb (Vq ?_)))
     refine Vr hG rfl (by trivial) (Vq ?_)
     refine VrD mixed hG rfl (by kernel_rfl) ?_ ?_
     · exact ⟨(eqRange hI0 hl0).1, (eqRange hI0 hl0).2⟩
     refine Vk rfl (fun h2 => ?_) (fun h2 => ?_)
     · refine Vq (Vr hG rfl (by trivial) (Vt ?_))
       refine ⟨?_, trivial⟩
       refine eqC_no (fun e => ?_)
       have e : a0 = a1 := e
       have g : (!(El.eq Y32 (List.getD a0 i0.toNat (dflt Y32)) (List.getD a1 i0.toNat (dflt Y32)))) = true := h2
       subst e
       exact (eself rfl) g
     · have g2 : (!(El.eq Y32 (List.getD a0 i0.toNat (dflt Y32)) (List.getD a1 i0.toNat (dflt Y32)))) = false := h2
       have f2_0 : (List.getD a0 i0.toNat (dflt Y32)) = (List.getD a1 i0.toNat (dflt Y32)) := (notE g2 rfl)
       have s0 : (List.getD a0 i0.toNat (dflt Y32)) = (List.getD a1 i0.toNat (dflt Y32)) := f2_0
       refine Vs (Vr hG rfl (by trivial) ?_)
       refine ⟨rfl, ?_⟩
       exact ⟨eqStep (d := dflt Y32) hI0 hl0 hb0 s0, (upStep hI0.1 hl0 hb0).2.2⟩
   · have hl0 : ¬ i0 < (List.length a0 : Int) := of_decide_eq_false h1
     have e0 : a0 = a1 := eqEnd hI0 hl0
     refine Vx (Vq (Vr hG rfl (by trivial) (Vt ?_)))
     refine ⟨?_, trivial⟩
     exact eqC_yes e0
noncomputable def F278 : Fun := ⟨[.pair (.int .i64) Y53, .pair (.int .i64) Y53], [.pure (.bool)], fun _ => True, fun x => (eqC x.1 x.2.1, ())⟩
theorem F278_ok : Meets Tryz.prog 278 F278 := by
 refine mV (C := mkC 57 [4] [0,1,2,3,4,5,33,36,37,38,50] [⟨202, _, F202_ok⟩]) (mkC_ok _ _ _ _) (fnOf_ok _) Tryz.func278 rfl rfl rfl (by decide) rfl ?_
 rintro ⟨a0, a1, _⟩ hwf hpre ⟨P, C, B, X, w0, M0, pv⟩ hG rfl rfl
 show Vc _ _ [(0, ⟨0, 0, .c Z57 a0⟩), (1, ⟨0, 0, .c Z57 a1⟩)] _
 have hb0 : List.length a0.2.2.2.1 ≤ bigLen := hwf.1.2.2.2.1.1
 refine Vq (Vr hG rfl (by trivial) (Vq (Vq ?_)))
 refine Vr hG rfl (by trivial) ?_
 refine Vk rfl (fun h0 => ?_) (fun h0 => ?_)
 · refine Vq (Vr hG rfl (by trivial) (Vt ?_))
   refine ⟨?_, trivial⟩
   refine eqC_no (fun e => ?_)
   have e : a0 = a1 := e
   have g : (pick2 (pick2 (pick2 (a0.1 != a1.1) true (a0.2.1 != a1.2.1)) true (a0.2.2.1 != a1.2.2.1)) true ((List.length a0.2.2.2.1 : Int) != (List.length a1.2.2.2.1 : Int))) = true := h0
   subst e
   exact (noOr (noOr (noOr bself bself) bself) bself) g
 · have g0 : (pick2 (pick2 (pick2 (a0.1 != a1.1) true (a0.2.1 != a1.2.1)) true (a0.2.2.1 != a1.2.2.1)) true ((List.length a0.2.2.2.1 : Int) != (List.length a1.2.2.2.1 : Int))) = false := h0
   have f0_0 : a0.1 = a1.1 := (bneI (orF (orF (orF g0).1).1).1)
   have f0_1 : a0.2.1 = a1.2.1 := (bneI (orF (orF (orF g0).1).1).2)
   have f0_2 : a0.2.2.1 = a1.2.2.1 := (bneI (orF (orF g0).1).2)
   have f0_3 : List.length a0.2.2.2.1 = List.length a1.2.2.2.1 := (lenEq (orF g0).2)
   refine Vs (Vq (Vq (Vr hG rfl (by trivial) ?_)))
   refine Vb ?_
   refine Vc.loopF [(37, false, .pure (.int .i64))] [0, 1, 2, 3, 33, 36] (fun v => eqInv a0.2.2.2.1 a1.2.2.2.1 v.1) (fun v => ((List.length a0.2.2.2.1 : Int) - v.1).toNat) rfl ?_ ?_
   · exact eqStart f0_3
   rintro ⟨(i0 : Int), _⟩ hI0
   have hI0 : eqInv a0.2.2.2.1 a1.2.2.2.1 i0 := hI0
   refine Vq (Vr hG rfl (by trivial) (Vq ?_))
   refine Vk rfl (fun h1 => ?_) (fun h1 => ?_)
   · have hl0 : i0 < (List.length a0.2.2.2.1 : Int) := of_decide_eq_true h1
     refine Vs (Vq (Vb (Vq ?_)))
     refine Vr hG rfl (by trivial) (Vq ?_)
     refine VrD mixed hG rfl (by kernel_rfl) ?_ ?_
     · exact ⟨(eqRange hI0 hl0).1, (eqRange hI0 hl0).2⟩
     refine Vk rfl (fun h2 => ?_) (fun h2 => ?_)
     · refine Vq (Vr hG rfl (by trivial) (Vt ?_))
       refine ⟨?_, trivial⟩
       refine eqC_no (fun e => ?_)
       have e : a0 = a1 := e
       have g : (!(El.eq Y1 (List.getD a0.2.2.2.1 i0.toNat (dflt Y1)) (List.getD a1.2.2.2.1 i0.toNat (dflt Y1)))) = true := h2
       subst e
       exact (eself rfl) g
     · have g2 : (!(El.eq Y1 (List.getD a0.2.2.2.1 i0.toNat (dflt Y1)) (List.getD a1.2.2.2.1 i0.toNat (dflt Y1)))) = false := h2
       have f2_0 : (List.getD a0.2.2.2.1 i0.toNat (dflt Y1)) = (List.getD a1.2.2.2.1 i0.toNat (dflt Y1)) := (notE g2 rfl)
       have s0 : (List.getD a0.2.2.2.1 i0.toNat (dflt Y1)) = (List.getD a1.2.2.2.1 i0.toNat (dflt Y1)) := f2_0
       refine Vs (Vr hG rfl (by trivial) ?_)
       refine ⟨rfl, ?_⟩
       exact ⟨eqStep (d := dflt Y1) hI0 hl0 hb0 s0, (upStep hI0.1 hl0 hb0).2.2⟩
   · have hl0 : ¬ i0 < (List.length a0.2.2.2.1 : Int) := of_decide_eq_false h1
     have e0 : a0.2.2.2.1 = a1.2.2.2.1 := eqEnd hI0 hl0
     refine Vx (Vq ?_)
     refine Vr hG rfl ?_ ?_
     · repeat' (first | exact trivial | refine And.intro ?_ ?_ | intro _)
     refine Vt ?_
     refine ⟨?_, trivial⟩
     refine eqC_by (fun e => ?_) (fun e => ?_)
     · have e : (eqC a0.2.2.2.2 a1.2.2.2.2) = true := e
       have r_0 : a0.2.2.2.2 = a1.2.2.2.2 := (eqC_iff.1 e)
       exact (Prod.ext f0_0 (Prod.ext f0_1 (Prod.ext f0_2 (Prod.ext e0 r_0))))
     · have e : a0 = a1 := e
       subst e
       exact (eqC_self _)
noncomputable def F201 : Fun := ⟨[.pair Y23 Y59, .pair Y23 Y59], [.pure (.bool)], fun _ => True, fun x => (eqC x.1 x.2.1, ())⟩
theorem F201_ok : Meets Tryz.prog 201 F201 := by
 refine mV (C := mkC 40 [4] [0,1,2,3,4,5,20,23,24,25,38] [⟨277, _, F277_ok⟩, ⟨278, _, F278_ok⟩]) (mkC_ok _ _ _ _) (fnOf_ok _) Tryz.func201 rfl rfl rfl (by decide) rfl ?_
 rintro ⟨a0, a1, _⟩ hwf hpre ⟨P, C, B, X, w0, M0, pv⟩ hG rfl rfl
 show Vc _ _ [(0, ⟨0, 0, .c Z65 a0⟩), (1, ⟨0, 0, .c Z65 a1⟩)] _
 have hb0 : List.length a0.2 ≤ bigLen := hwf.1.2.1
 refine Vq (Vr hG rfl (by trivial) (Vq (Vq ?_)))
 refine Vr hG rfl ?_ ?_
 · repeat' (first | exact trivial | refine And.intro ?_ ?_ | intro _)
 refine Vk rfl (fun h0 => ?_) (fun h0 => ?_)
 · refine Vq (Vr hG rfl (by trivial) (Vt ?_))
   refine ⟨?_, trivial⟩
   refine eqC_no (fun e => ?_)
   have e : a0 = a1 := e
   have g : (pick2 (!(eqC a0.1 a1.1)) true ((List.length a0.2 : Int) != (List.length a1.2 : Int))) = true := h0
   subst e
   exact (noOr (nself (eqC_self _)) bself) g
 · have g0 : (pick2 (!(eqC a0.1 a1.1)) true ((List.length a0.2 : Int) != (List.length a1.2 : Int))) = false := h0
   have f0_0 : a0.1 = a1.1 := (eqC_iff.1 (notF (orF g0).1))
   have f0_1 : List.length a0.2 = List.length a1.2 := (lenEq (orF g0).2)
   refine Vs (Vq (Vq (Vr hG rfl (by trivial) ?_)))
   refine Vb ?_
   refine Vc.loopF [(24, false, .pure (.int .i64))] [0, 1, 2, 3, 20, 23] (fun v => eqInv a0.2 a1.2 v.1) (fun v => ((List.length a0.2 : Int) - v.1).toNat) rfl ?_ ?_
   · exact eqStart f0_1
   rintro ⟨(i0 : Int), _⟩ hI0
   have hI0 : eqInv a0.2 a1.2 i0 := hI0
   refine Vq (Vr hG rfl (by trivial) (Vq ?_))
   refine Vk rfl (fun h1 => ?_) (fun h1 => ?_)
   · have hl0 : i0 < (List.length a0.2 : Int) := of_decide_eq_true h1
     refine Vs (Vq (Vb (Vq ?_)))
     refine Vr hG rfl (by trivial) (Vq ?_)
     refine VrD mixed hG rfl (by kernel_rfl) ?_ ?_
     · exact ⟨(eqRange hI0 hl0).1, (eqRange hI0 hl0).2, trivial⟩
     refine Vk rfl (fun h2 => ?_) (fun h2 => ?_)
     · refine Vq (Vr hG rfl (by trivial) (Vt ?_))
       refine ⟨?_, trivial⟩
       refine eqC_no (fun e => ?_)
       have e : a0 = a1 := e
       have g : (!(eqC (List.getD a0.2 i0.toNat (dflt Y56)) (List.getD a1.2 i0.toNat (dflt Y56)))) = true := h2
       subst e
       exact (nself (eqC_self _)) g
     · have g2 : (!(eqC (List.getD a0.2 i0.toNat (dflt Y56)) (List.getD a1.2 i0.toNat (dflt Y56)))) = false := h2
       have f2_0 : (List.getD a0.2 i0.toNat (dflt Y56)) = (List.getD a1.2 i0.toNat (dflt Y56)) := (eqC_iff.1 (notF g2))
       have s0 : (List.getD a0.2 i0.toNat (dflt Y56)) = (List.getD a1.2 i0.toNat (dflt Y56)) := f2_0
       refine Vs (Vr hG rfl (by trivial) ?_)
       refine ⟨rfl, ?_⟩
       exact ⟨eqStep (d := dflt Y56) hI0 hl0 hb0 s0, (upStep hI0.1 hl0 hb0).2.2⟩
   · have hl0 : ¬ i0 < (List.length a0.2 : Int) := of_decide_eq_false h1
     have e0 : a0.2 = a1.2 := eqEnd hI0 hl0
     refine Vx (Vq (Vr hG rfl (by trivial) (Vt ?_)))
     refine ⟨?_, trivial⟩
     exact eqC_yes (Prod.ext f0_0 e0)
noncomputable def F116 : Fun := ⟨[.pair Y66 Y37, .pair Y66 Y37], [.pair Z70 Z39], fun x => (fun (a b : Evidence) => Sm big20 Y71 a ∧ Sm big20 Y71 b) x.1 x.2.1, fun x => (joinEvF x.1 x.2.1, ())⟩
set_option maxHeartbeats 4000000 in
theorem F116_ok : Meets Tryz.prog 116 F116 := by
 refine mV (C := mkC 81 [4] [0,1,2,3,4,5,7,8,10,12,13,15,19,20,21,22,26,27,28,29,40,50,51,52,53,57,58,59,60,71] [⟨200, _, F200_ok⟩, ⟨201, _, F201_ok⟩, ⟨188, _, F188_ok⟩, ⟨202, _, F202_ok⟩, ⟨203, _, F203_ok⟩]) (mkC_ok _ _ _ _) (fnOf_ok _) Tryz.func116 rfl rfl rfl (by decide) rfl ?_
 rintro ⟨a0, a1, _⟩ hwf hpre ⟨P, C, B, X, w0, M0, pv⟩ hG rfl rfl
 show Vc _ _ [(0, ⟨0, 0, .c Z72 a0⟩), (1, ⟨0, 0, .c Z72 a1⟩)] _
 have ha := hpre.1
 have hz := hpre.2
 have hS : List.length a1.1 ≤ 1048576 ∧ ∀ x ∈ a1.1, Sm big20 Y63 x := hpre.2.1
 have hT : List.length a1.2 ≤ 1048576 ∧ ∀ x ∈ a1.2, Sm big20 (.slice TStamp) x := hpre.2.2
 have hA1 : List.length a0.1 ≤ 1048576 := hpre.1.1.1
 have hA2 : List.length a0.2 ≤ 1048576 := hpre.1.2.1
 have hb : List.length a1.1 ≤ bigLen := hwf.2.1.1.1
 have hb2 : List.length a1.2 ≤ bigLen := hwf.2.1.2.1
 refine Vq (Vr hG rfl (by trivial) (Vq ?_))
 refine Vr hG rfl ?_ ?_
 · exact ha
 refine Vq (Vq (Vr hG rfl (by trivial) (Vb ?_)))
 refine Vc.loopF [(5, true, .pair Z70 Z39), (21, false, .pure (.int .i64))] [0, 1, 2, 3, 4, 12, 13, 15, 19, 20, 50, 51, 52, 53, 57, 58, 59, 60, 71] (fun v => v.1.2 = a0.2 ∧ foInv (newG eqC) a0.1 a1.1 v.1.1 v.2.1) (fun v => ((List.length a1.1 : Int) - v.2.1).toNat) rfl ?_ ?_
 · exact ⟨rfl, foStart⟩
 rintro ⟨ev, (i : Int), _⟩ hI
 have hI : ev.2 = a0.2 ∧ foInv (newG eqC) a0.1 a1.1 ev.1 i := hI
 refine Vq (Vr hG rfl (by trivial) (Vq ?_))
 refine Vk rfl (fun h0 => ?_) (fun h0 => ?_)
 · have hl : i < (List.length a1.1 : Int) := of_decide_eq_true h0
   have r1 := foRange hI.2 hl
   have hE := hS.2 _ (getD_mem r1 (dflt Y63))
   have hL := newLenI hI.2 hA1 hS.1
   refine Vs (Vq (Vb (Vq ?_)))
   refine Vr hG rfl ?_ ?_
   · exact r1
   refine Vq (Vr hG rfl (by trivial) (Vq (Vq ?_)))
   refine Vr hG rfl (by trivial) (Vb ?_)
   refine Vc.loopF [(8, false, .pure (.bool)), (28, false, .pure (.int .i64))] [0, 1, 2, 3, 4, 5, 7, 12, 13, 15, 19, 20, 21, 22, 26, 27, 40, 50, 51, 52, 53, 57, 58, 59, 60, 71] (fun v => exInv (fun (x : Strand) => eqC x (List.getD a1.1 i.toNat (dflt Y63))) ev.1 v.1 v.2.1) (fun v => ((List.length ev.1 : Int) - v.2.1).toNat) rfl ?_ ?_
   · exact exStart
   rintro ⟨b, (k : Int), _⟩ hK
   have hK : exInv (fun (x : Strand) => eqC x (List.getD a1.1 i.toNat (dflt Y63))) ev.1 b k := hK
   refine Vq (Vr hG rfl (by trivial) (Vq ?_))
   refine Vk rfl (fun h1 => ?_) (fun h1 => ?_)
   · have hm : k < (List.length ev.1 : Int) := of_decide_eq_true h1
     have rk := exRange hK hm
     refine Vs (Vq (Vb (Vq ?_)))
     refine VrB hG rfl ?_ ?_
     · exact rk
     refine Vr hG rfl ?_ ?_
     · repeat' (first | exact trivial | refine And.intro ?_ ?_ | intro _)
     refine Vr hG rfl (by trivial) ?_
     refine ⟨rfl, ?_⟩
     exact exStep (d := dflt Y63) hK hm (newBig hL) rfl
   · have hm : ¬ k < (List.length ev.1 : Int) := of_decide_eq_false h1
     have hX := exEnd hK hm
     refine Vx (Vq (Vr hG rfl (by trivial) ?_))
     refine Vk rfl (fun h2 => ?_) (fun h2 => ?_)
     · have st := foStepE (d := dflt Y63) hI.2 hl hb (newY (q := eqC) hX h2)
       refine VrD mixed hG rfl (by kernel_rfl) ?_ ?_
       · exact ⟨hE, newApW hL⟩
       refine Vr hG rfl (by trivial) ?_
       refine ⟨rfl, ?_⟩
       exact ⟨⟨hI.1, st.1⟩, st.2⟩
     · have st := foStepE (d := dflt Y63) hI.2 hl hb (newN (q := eqC) hX h2)
       refine Vs (Vr hG rfl (by trivial) ?_)
       refine ⟨rfl, ?_⟩
       exact ⟨⟨hI.1, st.1⟩, st.2⟩
 · have hl : ¬ i < (List.length a1.1 : Int) := of_decide_eq_false h0
   have eI := foEnd hI.2 hl
   refine Vx (Vq (Vq (Vr hG rfl (by trivial) ?_)))
   refine Vb ?_
   refine Vc.loopF [(5, true, .pair Z70 Z39), (52, false, .pure (.int .i64))] [0, 1, 2, 3, 4, 7, 8, 10, 19, 20, 21, 22, 26, 27, 28, 29, 40, 50, 51] (fun v => v.1.1 = List.foldl (newG eqC) a0.1 a1.1 ∧ foInv (newG eqC) a0.2 a1.2 v.1.2 v.2.1) (fun v => ((List.length a1.2 : Int) - v.2.1).toNat) rfl ?_ ?_
   · exact ⟨eI, by rw [hI.1]; exact foStart⟩
   rintro ⟨ev2, (j : Int), _⟩ hJ
   have hJ : ev2.1 = List.foldl (newG eqC) a0.1 a1.1 ∧ foInv (newG eqC) a0.2 a1.2 ev2.2 j := hJ
   refine Vq (Vr hG rfl (by trivial) (Vq ?_))
   refine Vk rfl (fun h3 => ?_) (fun h3 => ?_)
   · have hj : j < (List.length a1.2 : Int) := of_decide_eq_true h3
     have r2 := foRange hJ.2 hj
     have hF : List.length (List.getD a1.2 j.toNat (dflt (.slice TStamp))) ≤ big20 := (hT.2 _ (getD_mem r2 (dflt (.slice TStamp)))).1
     have hF4 : List.length (List.getD a1.2 j.toNat (dflt (.slice TStamp))) ≤ 4000000 := Nat.le_trans hF (by decide)
     have hL2 := newLenI hJ.2 hA2 hT.1
     refine Vs (Vq (Vb (Vq ?_)))
     refine Vr hG rfl ?_ ?_
     · exact r2
     refine Vq (Vr hG rfl (by trivial) (Vq (Vq ?_)))
     refine Vr hG rfl (by trivial) (Vb ?_)
     refine Vc.loopF [(13, false, .pure (.bool)), (59, false, .pure (.int .i64))] [0, 1, 2, 3, 4, 5, 7, 8, 10, 12, 19, 20, 21, 22, 26, 27, 28, 29, 40, 50, 51, 52, 53, 57, 58, 71] (fun v => exInv (fun (x : List Stamp) => eqC x (List.getD a1.2 j.toNat (dflt (.slice TStamp)))) ev2.2 v.1 v.2.1) (fun v => ((List.length ev2.2 : Int) - v.2.1).toNat) rfl ?_ ?_
     · exact exStart
     rintro ⟨b2, (n : Int), _⟩ hN
     have hN : exInv (fun (x : List Stamp) => eqC x (List.getD a1.2 j.toNat (dflt (.slice TStamp)))) ev2.2 b2 n := hN
     refine Vq (Vr hG rfl (by trivial) (Vq ?_))
     refine Vk rfl (fun h4 => ?_) (fun h4 => ?_)
     · have hn : n < (List.length ev2.2 : Int) := of_decide_eq_true h4
       have rn := exRange hN hn
       refine Vs (Vq (Vb (Vq ?_)))
       refine Vr hG rfl ?_ ?_
       · exact rn
       refine Vr hG rfl ?_ ?_
       · repeat' (first | exact trivial | refine And.intro ?_ ?_ | intro _)
       refine Vr hG rfl (by trivial) ?_
       refine ⟨rfl, ?_⟩
       exact exStep (d := dflt (.slice TStamp)) hN hn (newBig hL2) rfl
     · have hn : ¬ n < (List.length ev2.2 : Int) := of_decide_eq_false h4
       have hY := exEnd hN hn
       refine Vx (Vq (Vr hG rfl (by trivial) ?_))
       refine Vk rfl (fun h5 => ?_) (fun h5 => ?_)
       · have st := foStepE (d := dflt (.slice TStamp)) hJ.2 hj hb2 (newY (q := eqC) hY h5)
         refine VrD mixed hG rfl (by kernel_rfl) ?_ ?_
         · exact ⟨hF4, newApW hL2⟩
         refine Vr hG rfl (by trivial) ?_
         refine ⟨rfl, ?_⟩
         exact ⟨⟨hJ.1, st.1⟩, st.2⟩
       · have st := foStepE (d := dflt (.slice TStamp)) hJ.2 hj hb2 (newN (q := eqC) hY h5)
         refine Vs (Vr hG rfl (by trivial) ?_)
         refine ⟨rfl, ?_⟩
         exact ⟨⟨hJ.1, st.1⟩, st.2⟩
   · have hj : ¬ j < (List.length a1.2 : Int) := of_decide_eq_false h3
     refine Vx (Vq (Vr hG rfl (by trivial) (Vt ?_)))
     refine ⟨?_, trivial⟩
     exact Prod.ext hJ.1 (foEnd hJ.2 hj)
noncomputable def F147 : Fun := ⟨[.int .i64, .int .i64, .int .i64], [.pure (.bool)], fun _ => True, fun x => (inRangeF x.1 x.2.1 x.2.2.1, ())⟩
theorem F147_ok : Meets Tryz.prog 147 F147 := by
 refine mV (C := mkC 15 [6] [0,1,2,6] []) (mkC_ok _ _ _ _) (fnOf_ok _) Tryz.func147 rfl rfl rfl (by decide) rfl ?_
 rintro ⟨(a0 : Int), (a1 : Int), (a2 : Int), _⟩ hwf hpre ⟨P, C, B, X, w0, M0, pv⟩ hG rfl rfl
 show Vc _ _ [(0, ⟨0, 0, .c (.pure (.int .i64)) a0⟩), (1, ⟨0, 0, .c (.pure (.int .i64)) a1⟩), (2, ⟨0, 0, .c (.pure (.int .i64)) a2⟩)] _
 refine Vq (Vr hG rfl (by trivial) (Vq (Vr hG rfl (by trivial) ?_)))
 refine Vt ?_
 refine ⟨?_, trivial⟩
 all_goals exact rfl
noncomputable def F180 : Fun := ⟨[.pair (.int .i64) Y13], [.pure (.bool)], fun _ => True, fun x => (docF x.1, ())⟩
theorem F180_ok : Meets Tryz.prog 180 F180 := by
 refine mV (C := mkC 46 [2] [0,1,2,3,4,24,26,27,28,29,44] [⟨147, _, F147_ok⟩]) (mkC_ok _ _ _ _) (fnOf_ok _) Tryz.func180 rfl rfl rfl (by decide) rfl ?_
 rintro ⟨a0, _⟩ hwf hpre ⟨P, C, B, X, w0, M0, pv⟩ hG rfl rfl
 show Vc _ _ [(0, ⟨0, 0, .c Z25 a0⟩)] _
 have hb0 : List.length a0.2.1 ≤ bigLen := hwf.1.2.1.1
 refine Vq (Vr hG rfl (by trivial) (Vq (Vq ?_)))
 refine Vr hG rfl ?_ ?_
 · repeat' (first | exact trivial | refine And.intro ?_ ?_ | intro _)
 refine Vk rfl (fun h0 => ?_) (fun h0 => ?_)
 · have g0 : pick2 (pick2 (!(inRangeF a0.1 0 999)) true (!(inRangeF (List.length a0.2.1 : Int) 1 6))) true ((List.length a0.2.2 : Int) != (List.length a0.2.1 : Int)) = true := h0
   refine Vq (Vr hG rfl (by trivial) (Vt ?_))
   refine ⟨?_, trivial⟩
   refine boolC_no (P := docP a0) (fun h => ?_)
   exact noOr (noOr (nself h.1) (nself h.2.1)) (lenNe h.2.2.1) g0
 · have g0 : pick2 (pick2 (!(inRangeF a0.1 0 999)) true (!(inRangeF (List.length a0.2.1 : Int) 1 6))) true ((List.length a0.2.2 : Int) != (List.length a0.2.1 : Int)) = false := h0
   have f0 : inRangeF a0.1 0 999 = true ∧ inRangeF (List.length a0.2.1 : Int) 1 6 = true ∧ List.length a0.2.2 = List.length a0.2.1 := ⟨notF (orF (orF g0).1).1, notF (orF (orF g0).1).2, lenEq (orF g0).2⟩
   refine Vs (Vq (Vq (Vr hG rfl (by trivial) ?_)))
   refine Vb ?_
   refine Vc.loopF [(28, false, .pure (.int .i64))] [0, 1, 24, 26, 27] (fun v => kInv (fun k => (List.length (List.getD a0.2.1 k (dflt .str)) : Int) ≤ 40 ∧ inRangeF (List.getD a0.2.2 k (dflt (.int .i64))) 1 1000000000000 = true) a0.2.1 v.1) (fun v => ((List.length a0.2.1 : Int) - v.1).toNat) rfl ?_ ?_
   · exact kStart
   rintro ⟨(i : Int), _⟩ hI0
   have hI0 : kInv (fun k => (List.length (List.getD a0.2.1 k (dflt .str)) : Int) ≤ 40 ∧ inRangeF (List.getD a0.2.2 k (dflt (.int .i64))) 1 1000000000000 = true) a0.2.1 i := hI0
   refine Vq (Vr hG rfl (by trivial) (Vq ?_))
   refine Vk rfl (fun h1 => ?_) (fun h1 => ?_)
   · have hl0 : i < (List.length a0.2.1 : Int) := of_decide_eq_true h1
     refine Vs (Vq (Vb (Vq ?_)))
     refine Vr hG rfl ?_ ?_
     · exact kRange hI0 hl0
     refine Vq ?_
     refine Vr hG rfl ?_ ?_
     · exact ⟨fun _ => (show inRange i (List.length a0.2.2) from by rw [f0.2.2]; exact kRange hI0 hl0), fun _ => trivial⟩
     refine Vk rfl (fun h2 => ?_) (fun h2 => ?_)
     · have g2 : pick2 (decide ((List.length (List.getD a0.2.1 i.toNat (dflt .str)) : Int) > 40)) true (!(inRangeF (List.getD a0.2.2 i.toNat (dflt (.int .i64))) 1 1000000000000)) = true := h2
       refine Vq (Vr hG rfl (by trivial) (Vt ?_))
       refine ⟨?_, trivial⟩
       refine boolC_no (P := docP a0) (fun h => ?_)
       exact noOr (fun q => absurd (h.2.2.2.1 i.toNat (kLt hI0 hl0)) (Int.not_le.2 (of_decide_eq_true q))) (nself (h.2.2.2.2 i.toNat (by rw [h.2.2.1]; exact kLt hI0 hl0))) g2
     · have g2 : pick2 (decide ((List.length (List.getD a0.2.1 i.toNat (dflt .str)) : Int) > 40)) true (!(inRangeF (List.getD a0.2.2 i.toNat (dflt (.int .i64))) 1 1000000000000)) = false := h2
       have s0 : (fun k => (List.length (List.getD a0.2.1 k (dflt .str)) : Int) ≤ 40 ∧ inRangeF (List.getD a0.2.2 k (dflt (.int .i64))) 1 1000000000000 = true) i.toNat := ⟨Int.not_lt.1 (of_decide_eq_false (orF g2).1), notF (orF g2).2⟩
       refine Vs (Vr hG rfl (by trivial) ?_)
       refine ⟨rfl, ?_⟩
       exact kStep hI0 hl0 hb0 s0
   · have hl0 : ¬ i < (List.length a0.2.1 : Int) := of_decide_eq_false h1
     refine Vx (Vq (Vr hG rfl (by trivial) (Vt ?_)))
     refine ⟨?_, trivial⟩
     exact boolC_yes (P := docP a0) ⟨f0.1, f0.2.1, f0.2.2, fun k hk => (kEnd hI0 hl0 k hk).1, fun k hk => (kEnd hI0 hl0 k (by rw [← f0.2.2]; exact hk)).2⟩
noncomputable def F264 : Fun := ⟨[.slice (.int .u8)], [.own (.pure (.int .i64))], fun x => (fun (l : List Int) => l.length ≤ 40) x.1, fun x => (bytesF x.1, ())⟩
theorem F264_ok : Meets Tryz.prog 264 F264 := by
 refine mV (C := mkC 19 [2] [0,2,3,5,6,7,8,9] []) (mkC_ok _ _ _ _) (fnOf_ok _) Tryz.func264 rfl rfl rfl (by decide) rfl ?_
 rintro ⟨a0, _⟩ hwf hpre ⟨P, C, B, X, w0, M0, pv⟩ hG rfl rfl
 show Vc _ _ [(0, ⟨0, 0, .c (.pure (.slice (.int .u8))) a0⟩)] _
 have hp : List.length a0 ≤ 40 := hpre
 have hb : List.length a0 ≤ bigLen := hwf.1.1
 refine Vq (Vr hG rfl (by trivial) (Vq (Vr hG rfl (by trivial) ?_)))
 refine Vq (Vq (Vr hG rfl (by trivial) (Vb ?_)))
 refine Vc.loopF [(3, false, .own (.pure (.int .i64))), (8, false, .pure (.int .i64))] [0, 2, 6, 7] (fun v => gsInv (byteG a0) [] a0 v.1 v.2.1) (fun v => ((List.length a0 : Int) - v.2.1).toNat) rfl ?_ ?_
 · exact gsStart
 rintro ⟨acc, (i : Int), _⟩ hI
 have hI : gsInv (byteG a0) [] a0 acc i := hI
 have hA : List.length acc ≤ 40 := gsLen (c := 1) (m := 40) hI (fun _ => Nat.le_refl _) hp (by simp)
 refine Vq (Vr hG rfl (by trivial) (Vq ?_))
 refine Vk rfl (fun h0 => ?_) (fun h0 => ?_)
 · have hl : i < (List.length a0 : Int) := of_decide_eq_true h0
   refine Vs (Vq (Vb (Vq ?_)))
   refine Vr hG rfl ?_ ?_
   · exact gsRange hI hl
   refine Vr hG rfl ?_ ?_
   · exact (show List.length acc + 1 ≤ maxApp from by unfold maxApp; omega)
   refine Vr hG rfl (by trivial) ?_
   refine ⟨rfl, ?_⟩
   exact gsStep hI hl hb rfl
 · have hl : ¬ i < (List.length a0 : Int) := of_decide_eq_false h0
   refine Vx (Vq (Vr hG rfl (by trivial) (Vt ?_)))
   refine ⟨?_, trivial⟩
   exact gsEnd hI hl
noncomputable def F304 : Fun := ⟨[.int .i64, .int .i64], [.pure (.int .i64)], fun _ => True, fun x => (modF x.1 x.2.1, ())⟩
theorem F304_ok : Meets Tryz.prog 304 F304 := by
 refine mV (C := mkC 15 [4] [0,1,4,7] [⟨147, _, F147_ok⟩]) (mkC_ok _ _ _ _) (fnOf_ok _) Tryz.func304 rfl rfl rfl (by decide) rfl ?_
 rintro ⟨(a0 : Int), (a1 : Int), _⟩ hwf hpre ⟨P, C, B, X, w0, M0, pv⟩ hG rfl rfl
 show Vc _ _ [(0, ⟨0, 0, .c (.pure (.int .i64)) a0⟩), (1, ⟨0, 0, .c (.pure (.int .i64)) a1⟩)] _
 refine Vq (Vr hG rfl (by trivial) (Vq (Vq ?_)))
 refine Vr hG rfl (by trivial) ?_
 refine Vk rfl (fun h0 => ?_) (fun h0 => ?_)
 · have g0 : (!(inRangeF a1 1 1000000000000)) = true := h0
   refine Vq (Vr hG rfl (by trivial) (Vt ?_))
   refine ⟨?_, trivial⟩
   show (0 : Int) = modF a0 a1
   unfold modF
   rw [if_neg (by simpa using g0)]
 · have g0 : (!(inRangeF a1 1 1000000000000)) = false := h0
   refine Vs (Vq ?_)
   refine Vr hG rfl ?_ ?_
   · exact ⟨inR_pos h0, inR_pos h0⟩
   refine Vt ?_
   refine ⟨?_, trivial⟩
   show _ = modF a0 a1
   unfold modF
   rw [if_pos (by simpa using g0)]
noncomputable def F265 : Fun := ⟨[.slice (.int .i64)], [.pure (.int .i64)], fun _ => True, fun x => (hashF x.1, ())⟩
theorem F265_ok : Meets Tryz.prog 265 F265 := by
 refine mV (C := mkC 21 [2] [0,2,3,5,6,7,8,9] [⟨304, _, F304_ok⟩]) (mkC_ok _ _ _ _) (fnOf_ok _) Tryz.func265 rfl rfl rfl (by decide) rfl ?_
 rintro ⟨a0, _⟩ hwf hpre ⟨P, C, B, X, w0, M0, pv⟩ hG rfl rfl
 show Vc _ _ [(0, ⟨0, 0, .c Z2 a0⟩)] _
 have hb : List.length a0 ≤ bigLen := hwf.1.1
 refine Vq (Vr hG rfl (by trivial) (Vq (Vr hG rfl (by trivial) ?_)))
 refine Vq (Vq (Vr hG rfl (by trivial) (Vb ?_)))
 refine Vc.loopF [(3, false, .pure (.int .i64)), (8, false, .pure (.int .i64))] [0, 2, 6, 7] (fun v => foInv (hstep) (11) a0 v.1 v.2.1) (fun v => ((List.length a0 : Int) - v.2.1).toNat) rfl ?_ ?_
 · exact foStart
 rintro ⟨acc, (i : Int), _⟩ hI
 have hI : foInv (hstep) (11) a0 acc i := hI
 refine Vq (Vr hG rfl (by trivial) (Vq ?_))
 refine Vk rfl (fun h0 => ?_) (fun h0 => ?_)
 · have hl : i < (List.length a0 : Int) := of_decide_eq_true h0
   refine Vs (Vq (Vb (Vq ?_)))
   refine Vr hG rfl ?_ ?_
   · exact foRange hI hl
   refine Vr hG rfl ?_ ?_
   · exact ⟨trivial, (show (2147483647 : Int) ≠ 0 by decide)⟩
   refine Vr hG rfl (by trivial) ?_
   refine ⟨rfl, ?_⟩
   exact foStep hI hl hb
 · have hl : ¬ i < (List.length a0 : Int) := of_decide_eq_false h0
   refine Vx (Vq (Vr hG rfl (by trivial) (Vt ?_)))
   refine ⟨?_, trivial⟩
   exact foEnd hI hl
noncomputable def F182 : Fun := ⟨[.int .i64, .slice (.int .i64)], [.pure (.int .i64)], fun x => (fun (_ : Int) (l : List Int) => smallL l) x.1 x.2.1, fun x => (digestF x.1 x.2.1, ())⟩
theorem F182_ok : Meets Tryz.prog 182 F182 := by
 refine mV (C := mkC 10 [4] [0,1,4] [⟨265, _, F265_ok⟩]) (mkC_ok _ _ _ _) (fnOf_ok _) Tryz.func182 rfl rfl rfl (by decide) rfl ?_
 rintro ⟨(a0 : Int), a1, _⟩ hwf hpre ⟨P, C, B, X, w0, M0, pv⟩ hG rfl rfl
 show Vc _ _ [(0, ⟨0, 0, .c (.pure (.int .i64)) a0⟩), (1, ⟨0, 0, .c Z2 a1⟩)] _
 have hp : List.length a1 ≤ 1000000000 := hpre
 refine Vq (Vr hG rfl (by trivial) (Vq ?_))
 refine Vr hG rfl ?_ ?_
 · refine ⟨?_, trivial⟩
   show 2 + List.length a1 ≤ maxApp
   unfold maxApp; omega
 refine Vt ?_
 refine ⟨?_, trivial⟩
 exact (digest_eq a0 a1).symm
noncomputable def F181 : Fun := ⟨[.int .i64, .str, .int .i64], [.pure (.int .i64)], fun x => (fun (_ : Int) (s : List UInt8) (_ : Int) => s.length ≤ 40) x.1 x.2.1 x.2.2.1, fun x => (partF x.1 x.2.1 x.2.2.1, ())⟩
theorem F181_ok : Meets Tryz.prog 181 F181 := by
 refine mV (C := mkC 15 [6] [0,1,2,6] [⟨264, _, F264_ok⟩, ⟨182, _, F182_ok⟩]) (mkC_ok _ _ _ _) (fnOf_ok _) Tryz.func181 rfl rfl rfl (by decide) rfl ?_
 rintro ⟨(a0 : Int), a1, (a2 : Int), _⟩ hwf hpre ⟨P, C, B, X, w0, M0, pv⟩ hG rfl rfl
 show Vc _ _ [(0, ⟨0, 0, .c (.pure (.int .i64)) a0⟩), (1, ⟨0, 0, .c (.pure (.str)) a1⟩), (2, ⟨0, 0, .c (.pure (.int .i64)) a2⟩)] _
 have hp : List.length a1 ≤ 40 := hpre
 have hq : List.length (bytesF (bytesOf a1)) = List.length a1 := bytesLen a1
 have hq2 : List.length (bytesOf a1) = List.length a1 := List.length_map _
 refine Vq (Vr hG rfl (by trivial) (Vq ?_))
 refine Vr hG rfl ?_ ?_
 · exact ⟨(show List.length a1 ≤ maxNew from by unfold maxNew; omega), (show List.length (bytesOf a1) ≤ 40 from by omega), (show 1 + List.length (bytesF (bytesOf a1)) ≤ maxApp from by unfold maxApp; omega), (show List.length ([a2] ++ bytesF (bytesOf a1)) ≤ 1000000000 from by rw [List.length_append, hq]; simp; omega)⟩
 refine Vt ?_
 refine ⟨?_, trivial⟩
 exact congrArg (fun l => digestF a0 ([a2] ++ l)) (bytesEq a1)
noncomputable def F100 : Fun := ⟨[.int .i64, .pair (.int .i64) Y13], [.pure (.int .i64)], fun _ => True, fun x => (docDigF x.1 x.2.1, ())⟩
theorem F100_ok : Meets Tryz.prog 100 F100 := by
 refine mV (C := mkC 37 [4] [0,1,3,4,5,6,7,10,15,16,17,18] [⟨180, _, F180_ok⟩, ⟨181, _, F181_ok⟩, ⟨182, _, F182_ok⟩]) (mkC_ok _ _ _ _) (fnOf_ok _) Tryz.func100 rfl rfl rfl (by decide) rfl ?_
 rintro ⟨(a0 : Int), a1, _⟩ hwf hpre ⟨P, C, B, X, w0, M0, pv⟩ hG rfl rfl
 show Vc _ _ [(0, ⟨0, 0, .c (.pure (.int .i64)) a0⟩), (1, ⟨0, 0, .c Z25 a1⟩)] _
 have hb : List.length a1.2.1 ≤ bigLen := hwf.2.1.2.1.1
 refine Vq (Vr hG rfl (by trivial) (Vq (Vq ?_)))
 refine Vr hG rfl (by trivial) ?_
 refine Vk rfl (fun h0 => ?_) (fun h0 => ?_)
 · have g0 : (!(docF a1)) = true := h0
   refine Vq (Vr hG rfl (by trivial) (Vt ?_))
   refine ⟨?_, trivial⟩
   exact docDig0 g0
 · have g0 : (!(docF a1)) = false := h0
   have hd := docP_of g0
   have h6 : List.length a1.2.1 ≤ 6 := docN hd
   refine Vs (Vq (Vr hG rfl (by trivial) (Vq ?_)))
   refine Vq (Vr hG rfl (by trivial) (Vb ?_))
   refine Vc.loopF [(5, false, .own (.pure (.int .i64))), (17, false, .pure (.int .i64))] [0, 1, 3, 4, 10, 15, 16] (fun v => gsInv (docG a0 a1) [a1.1] a1.2.1 v.1 v.2.1) (fun v => ((List.length a1.2.1 : Int) - v.2.1).toNat) rfl ?_ ?_
   · exact gsStart
   rintro ⟨acc, (i : Int), _⟩ hI
   have hI : gsInv (docG a0 a1) [a1.1] a1.2.1 acc i := hI
   have hA : List.length acc ≤ 7 := gsLen (c := 1) (m := 6) hI (fun _ => Nat.le_refl _) h6 (by simp)
   refine Vq (Vr hG rfl (by trivial) (Vq ?_))
   refine Vk rfl (fun h1 => ?_) (fun h1 => ?_)
   · have hl : i < (List.length a1.2.1 : Int) := of_decide_eq_true h1
     refine Vs (Vq (Vb (Vq ?_)))
     refine Vr hG rfl ?_ ?_
     · exact gsRange hI hl
     refine Vr hG rfl ?_ ?_
     · exact ⟨docX hd hI hl, doc40 hd hI hl, (show List.length acc + 1 ≤ maxApp from by unfold maxApp; omega)⟩
     refine Vr hG rfl (by trivial) ?_
     refine ⟨rfl, ?_⟩
     exact gsStep hI hl hb rfl
   · have hl : ¬ i < (List.length a1.2.1 : Int) := of_decide_eq_false h1
     refine Vx (Vq ?_)
     refine Vr hG rfl ?_ ?_
     · exact (show List.length acc ≤ 1000000000 from by omega)
     refine Vt ?_
     refine ⟨?_, trivial⟩
     have e := docDig1 (id := a0) (d := a1) (acc := acc) (i := i) g0 hI hl
     exact e
noncomputable def F179 : Fun := ⟨[.pair Y23 Y59, .pair (.int .i64) Y13], [.own (.pure (.int .i64))], fun x => (fun (s : Strand) (_ : Doc) => List.length s.2 ≤ 2000000) x.1 x.2.1, fun x => (docDigsF x.1 x.2.1, ())⟩
theorem F179_ok : Meets Tryz.prog 179 F179 := by
 refine mV (C := mkC 24 [4] [0,1,2,3,4,5,7,9,10,11,12] [⟨100, _, F100_ok⟩]) (mkC_ok _ _ _ _) (fnOf_ok _) Tryz.func179 rfl rfl rfl (by decide) rfl ?_
 rintro ⟨a0, a1, _⟩ hwf hpre ⟨P, C, B, X, w0, M0, pv⟩ hG rfl rfl
 show Vc _ _ [(0, ⟨0, 0, .c Z65 a0⟩), (1, ⟨0, 0, .c Z25 a1⟩)] _
 have hs : List.length a0.2 ≤ 2000000 := hpre
 have hb : List.length a0.2 ≤ bigLen := hwf.1.2.1
 refine Vq (Vr hG rfl (by trivial) (Vq (Vr hG rfl (by trivial) ?_)))
 refine Vq (Vq (Vr hG rfl (by trivial) (Vb ?_)))
 refine Vc.loopF [(5, false, .own (.pure (.int .i64))), (11, false, .pure (.int .i64))] [0, 1, 2, 3, 4, 9, 10] (fun v => pkInv (ddF a1) a0.2 v.1 v.2.1) (fun v => ((List.length a0.2 : Int) - v.2.1).toNat) rfl ?_ ?_
 · exact pkStart
 rintro ⟨acc, (i : Int), _⟩ hI
 have hI : pkInv (ddF a1) a0.2 acc i := hI
 refine Vq (Vr hG rfl (by trivial) (Vq ?_))
 refine Vk rfl (fun h0 => ?_) (fun h0 => ?_)
 · have hl : i < (List.length a0.2 : Int) := of_decide_eq_true h0
   refine Vs (Vq (Vb (Vq ?_)))
   refine Vr hG rfl ?_ ?_
   · exact pkRange hI hl
   refine Vr hG rfl ?_ ?_
   · exact ⟨trivial, pkLen2 hI hs⟩
   refine Vr hG rfl (by trivial) ?_
   refine ⟨rfl, ?_⟩
   exact pkYes (d := dflt Y56) hI hl hb rfl
 · have hl : ¬ i < (List.length a0.2 : Int) := of_decide_eq_false h0
   refine Vx (Vq (Vr hG rfl (by trivial) (Vt ?_)))
   refine ⟨?_, trivial⟩
   exact pkEnd hI hl
noncomputable def F99 : Fun := ⟨[.pair Y66 Y37, .pair (.int .i64) Y13], [.own Z0], fun x => (fun (e : Evidence) (_ : Doc) => Sm big20 Y66 e.1) x.1 x.2.1, fun x => (allDigsF x.1 x.2.1, ())⟩
theorem F99_ok : Meets Tryz.prog 99 F99 := by
 refine mV (C := mkC 23 [4] [0,1,2,3,4,5,7,9,10,11,12] [⟨179, _, F179_ok⟩]) (mkC_ok _ _ _ _) (fnOf_ok _) Tryz.func99 rfl rfl rfl (by decide) rfl ?_
 rintro ⟨a0, a1, _⟩ hwf hpre ⟨P, C, B, X, w0, M0, pv⟩ hG rfl rfl
 show Vc _ _ [(0, ⟨0, 0, .c Z72 a0⟩), (1, ⟨0, 0, .c Z25 a1⟩)] _
 have hS : Sm big20 Y66 a0.1 := hpre
 have hs : List.length a0.1 ≤ 1048576 := hS.1
 have hb : List.length a0.1 ≤ bigLen := hwf.1.1.1
 refine Vq (Vr hG rfl (by trivial) (Vq (Vr hG rfl (by trivial) ?_)))
 refine Vq (Vq (Vr hG rfl (by trivial) (Vb ?_)))
 refine Vc.loopF [(5, false, .own Z0), (11, false, .pure (.int .i64))] [0, 1, 2, 3, 4, 9, 10] (fun v => pkInv (adF a1) a0.1 v.1 v.2.1) (fun v => ((List.length a0.1 : Int) - v.2.1).toNat) rfl ?_ ?_
 · exact pkStart
 rintro ⟨acc, (i : Int), _⟩ hI
 have hI : pkInv (adF a1) a0.1 acc i := hI
 refine Vq (Vr hG rfl (by trivial) (Vq ?_))
 refine Vk rfl (fun h0 => ?_) (fun h0 => ?_)
 · have hl : i < (List.length a0.1 : Int) := of_decide_eq_true h0
   have r1 := pkRange hI hl
   have hE : List.length (List.getD a0.1 i.toNat (dflt Y63)).2 ≤ 2000000 := Nat.le_trans (hS.2 _ (getD_mem r1 _)).2.1 (by decide)
   refine Vs (Vq (Vb (Vq ?_)))
   refine Vr hG rfl ?_ ?_
   · exact pkRange hI hl
   refine Vr hG rfl ?_ ?_
   · exact ⟨hE, pkLen hI hs⟩
   refine Vr hG rfl (by trivial) ?_
   refine ⟨rfl, ?_⟩
   exact pkYes (d := dflt Y63) hI hl hb rfl
 · have hl : ¬ i < (List.length a0.1 : Int) := of_decide_eq_false h0
   refine Vx (Vq (Vr hG rfl (by trivial) (Vt ?_)))
   refine ⟨?_, trivial⟩
   exact pkEnd hI hl
noncomputable def F148 : Fun := ⟨[.int .i64], [.pure (.bool)], fun _ => True, fun x => (isTimeF x.1, ())⟩
theorem F148_ok : Meets Tryz.prog 148 F148 := by
 refine mV (C := mkC 5 [2] [0,2] [⟨147, _, F147_ok⟩]) (mkC_ok _ _ _ _) (fnOf_ok _) Tryz.func148 rfl rfl rfl (by decide) rfl ?_
 rintro ⟨(a0 : Int), _⟩ hwf hpre ⟨P, C, B, X, w0, M0, pv⟩ hG rfl rfl
 show Vc _ _ [(0, ⟨0, 0, .c (.pure (.int .i64)) a0⟩)] _
 refine Vq (Vr hG rfl (by trivial) (Vq (Vr hG rfl (by trivial) ?_)))
 refine Vt ?_
 refine ⟨?_, trivial⟩
 all_goals exact rfl
noncomputable def F293 : Fun := ⟨[.int .i64], [.pure (.bool)], fun _ => True, fun x => (validKeyF x.1, ())⟩
theorem F293_ok : Meets Tryz.prog 293 F293 := by
 refine mV (C := mkC 5 [2] [0,2] [⟨147, _, F147_ok⟩]) (mkC_ok _ _ _ _) (fnOf_ok _) Tryz.func293 rfl rfl rfl (by decide) rfl ?_
 rintro ⟨(a0 : Int), _⟩ hwf hpre ⟨P, C, B, X, w0, M0, pv⟩ hG rfl rfl
 show Vc _ _ [(0, ⟨0, 0, .c (.pure (.int .i64)) a0⟩)] _
 refine Vq (Vr hG rfl (by trivial) (Vq (Vr hG rfl (by trivial) ?_)))
 refine Vt ?_
 refine ⟨?_, trivial⟩
 all_goals exact rfl
noncomputable def F235 : Fun := ⟨[.pair (.int .i64) Y24], [.pure (.bool)], fun _ => True, fun x => (isKeyF x.1, ())⟩
theorem F235_ok : Meets Tryz.prog 235 F235 := by
 refine mV (C := mkC 26 [2] [0,1,2] [⟨147, _, F147_ok⟩, ⟨148, _, F148_ok⟩, ⟨293, _, F293_ok⟩]) (mkC_ok _ _ _ _) (fnOf_ok _) Tryz.func235 rfl rfl rfl (by decide) rfl ?_
 rintro ⟨a0, _⟩ hwf hpre ⟨P, C, B, X, w0, M0, pv⟩ hG rfl rfl
 show Vc _ _ [(0, ⟨0, 0, .c Z33 a0⟩)] _
 refine Vq (Vr hG rfl (by trivial) (Vq ?_))
 refine Vr hG rfl ?_ ?_
 · repeat' (first | exact trivial | refine And.intro ?_ ?_ | intro _)
 refine Vt ?_
 refine ⟨?_, trivial⟩
 all_goals exact rfl
noncomputable def F144 : Fun := ⟨[.slice Y32], [.pure (.bool)], fun _ => True, fun x => (areKeysF x.1, ())⟩
theorem F144_ok : Meets Tryz.prog 144 F144 := by
 refine mV (C := mkC 34 [2] [0,2,3,4,5,6,7,8,29] [⟨235, _, F235_ok⟩]) (mkC_ok _ _ _ _) (fnOf_ok _) Tryz.func144 rfl rfl rfl (by decide) rfl ?_
 rintro ⟨a0, _⟩ hwf hpre ⟨P, C, B, X, w0, M0, pv⟩ hG rfl rfl
 show Vc _ _ [(0, ⟨0, 0, .c Z36 a0⟩)] _
 have hb : List.length a0 ≤ bigLen := hwf.1.1
 refine Vq (Vr hG rfl (by trivial) (Vq (Vq ?_)))
 refine Vr hG rfl (by trivial) (Vb ?_)
 refine Vc.loopF [(7, false, .pure (.int .i64))] [0, 5, 6] (fun v => kInv (areG isKeyF (fun k => k.1) (dflt (TKey)) a0) a0 v.1) (fun v => ((List.length a0 : Int) - v.1).toNat) rfl ?_ ?_
 · exact kStart
 rintro ⟨(i : Int), _⟩ hI
 have hI : kInv (areG isKeyF (fun k => k.1) (dflt (TKey)) a0) a0 i := hI
 refine Vq (Vr hG rfl (by trivial) (Vq ?_))
 refine Vk rfl (fun h0 => ?_) (fun h0 => ?_)
 · have hl : i < (List.length a0 : Int) := of_decide_eq_true h0
   refine Vs (Vq (Vb (Vq ?_)))
   refine Vr hG rfl ?_ ?_
   · exact kRange hI hl
   refine Vq ?_
   refine VrD mixed hG rfl (by kernel_rfl) ?_ ?_
   · repeat' (first | exact trivial | exact kRange hI hl | (intro _ h2; exact prevIdx (kRange hI hl) (of_decide_eq_true h2) hb) | (intro h2; exact prevIdx (kRange hI hl) (of_decide_eq_true h2) hb) | refine And.intro ?_ ?_ | intro _)
   refine Vk rfl (fun h1 => ?_) (fun h1 => ?_)
   · have g1 : areT isKeyF (fun k => k.1) (dflt (TKey)) a0 i = true := h1
     refine Vq (Vr hG rfl (by trivial) (Vt ?_))
     refine ⟨?_, trivial⟩
     exact areBad (m := 12) hI hl hb g1
   · have g1 : areT isKeyF (fun k => k.1) (dflt (TKey)) a0 i = false := h1
     refine Vs (Vr hG rfl (by trivial) ?_)
     refine ⟨rfl, ?_⟩
     exact areStep hI hl hb g1
 · have hl : ¬ i < (List.length a0 : Int) := of_decide_eq_false h0
   refine Vx (Vq (Vr hG rfl (by trivial) (Vt ?_)))
   refine ⟨?_, trivial⟩
   exact areEnd (m := 12) hI hl
noncomputable def F145 : Fun := ⟨[.slice Y15], [.pure (.bool)], fun _ => True, fun x => (areAuthsF x.1, ())⟩
theorem F145_ok : Meets Tryz.prog 145 F145 := by
 refine mV (C := mkC 47 [2] [0,2,3,4,5,6,7,8,42] [⟨147, _, F147_ok⟩]) (mkC_ok _ _ _ _) (fnOf_ok _) Tryz.func145 rfl rfl rfl (by decide) rfl ?_
 rintro ⟨a0, _⟩ hwf hpre ⟨P, C, B, X, w0, M0, pv⟩ hG rfl rfl
 show Vc _ _ [(0, ⟨0, 0, .c Z21 a0⟩)] _
 have hb : List.length a0 ≤ bigLen := hwf.1.1
 refine Vq (Vr hG rfl (by trivial) (Vq (Vq ?_)))
 refine Vr hG rfl (by trivial) (Vb ?_)
 refine Vc.loopF [(7, false, .pure (.int .i64))] [0, 5, 6] (fun v => kInv (areG isAuthF (fun k => k.1) (dflt (TAuth)) a0) a0 v.1) (fun v => ((List.length a0 : Int) - v.1).toNat) rfl ?_ ?_
 · exact kStart
 rintro ⟨(i : Int), _⟩ hI
 have hI : kInv (areG isAuthF (fun k => k.1) (dflt (TAuth)) a0) a0 i := hI
 refine Vq (Vr hG rfl (by trivial) (Vq ?_))
 refine Vk rfl (fun h0 => ?_) (fun h0 => ?_)
 · have hl : i < (List.length a0 : Int) := of_decide_eq_true h0
   refine Vs (Vq (Vb (Vq ?_)))
   refine Vr hG rfl ?_ ?_
   · exact kRange hI hl
   refine Vq ?_
   refine VrD mixed hG rfl (by kernel_rfl) ?_ ?_
   · repeat' (first | exact trivial | exact kRange hI hl | (intro _ h2; exact prevIdx (kRange hI hl) (of_decide_eq_true h2) hb) | (intro h2; exact prevIdx (kRange hI hl) (of_decide_eq_true h2) hb) | refine And.intro ?_ ?_ | intro _)
   refine Vk rfl (fun h1 => ?_) (fun h1 => ?_)
   · have g1 : areT isAuthF (fun k => k.1) (dflt (TAuth)) a0 i = true := (nor3 _ _ _ _).symm.trans h1
     refine Vq (Vr hG rfl (by trivial) (Vt ?_))
     refine ⟨?_, trivial⟩
     exact areBad (m := 6) hI hl hb g1
   · have g1 : areT isAuthF (fun k => k.1) (dflt (TAuth)) a0 i = false := (nor3 _ _ _ _).symm.trans h1
     refine Vs (Vr hG rfl (by trivial) ?_)
     refine ⟨rfl, ?_⟩
     exact areStep hI hl hb g1
 · have hl : ¬ i < (List.length a0 : Int) := of_decide_eq_false h0
   refine Vx (Vq (Vr hG rfl (by trivial) (Vt ?_)))
   refine ⟨?_, trivial⟩
   exact areEnd (m := 6) hI hl
noncomputable def F236 : Fun := ⟨[.pair (.int .i64) Y15], [.pure (.bool)], fun _ => True, fun x => (isMethodF x.1, ())⟩
theorem F236_ok : Meets Tryz.prog 236 F236 := by
 refine mV (C := mkC 35 [2] [0,1,2] [⟨147, _, F147_ok⟩, ⟨148, _, F148_ok⟩]) (mkC_ok _ _ _ _) (fnOf_ok _) Tryz.func236 rfl rfl rfl (by decide) rfl ?_
 rintro ⟨a0, _⟩ hwf hpre ⟨P, C, B, X, w0, M0, pv⟩ hG rfl rfl
 show Vc _ _ [(0, ⟨0, 0, .c Z27 a0⟩)] _
 refine Vq (Vr hG rfl (by trivial) (Vq ?_))
 refine Vr hG rfl ?_ ?_
 · repeat' (first | exact trivial | refine And.intro ?_ ?_ | intro _)
 refine Vt ?_
 refine ⟨?_, trivial⟩
 all_goals exact rfl
noncomputable def F146 : Fun := ⟨[.slice Y24], [.pure (.bool)], fun _ => True, fun x => (areMethodsF x.1, ())⟩
theorem F146_ok : Meets Tryz.prog 146 F146 := by
 refine mV (C := mkC 34 [2] [0,2,3,4,5,6,7,8,29] [⟨236, _, F236_ok⟩]) (mkC_ok _ _ _ _) (fnOf_ok _) Tryz.func146 rfl rfl rfl (by decide) rfl ?_
 rintro ⟨a0, _⟩ hwf hpre ⟨P, C, B, X, w0, M0, pv⟩ hG rfl rfl
 show Vc _ _ [(0, ⟨0, 0, .c Z30 a0⟩)] _
 have hb : List.length a0 ≤ bigLen := hwf.1.1
 refine Vq (Vr hG rfl (by trivial) (Vq (Vq ?_)))
 refine Vr hG rfl (by trivial) (Vb ?_)
 refine Vc.loopF [(7, false, .pure (.int .i64))] [0, 5, 6] (fun v => kInv (areG isMethodF (fun k => k.1) (dflt (TMethod)) a0) a0 v.1) (fun v => ((List.length a0 : Int) - v.1).toNat) rfl ?_ ?_
 · exact kStart
 rintro ⟨(i : Int), _⟩ hI
 have hI : kInv (areG isMethodF (fun k => k.1) (dflt (TMethod)) a0) a0 i := hI
 refine Vq (Vr hG rfl (by trivial) (Vq ?_))
 refine Vk rfl (fun h0 => ?_) (fun h0 => ?_)
 · have hl : i < (List.length a0 : Int) := of_decide_eq_true h0
   refine Vs (Vq (Vb (Vq ?_)))
   refine Vr hG rfl ?_ ?_
   · exact kRange hI hl
   refine Vq ?_
   refine VrD mixed hG rfl (by kernel_rfl) ?_ ?_
   · repeat' (first | exact trivial | exact kRange hI hl | (intro _ h2; exact prevIdx (kRange hI hl) (of_decide_eq_true h2) hb) | (intro h2; exact prevIdx (kRange hI hl) (of_decide_eq_true h2) hb) | refine And.intro ?_ ?_ | intro _)
   refine Vk rfl (fun h1 => ?_) (fun h1 => ?_)
   · have g1 : areT isMethodF (fun k => k.1) (dflt (TMethod)) a0 i = true := h1
     refine Vq (Vr hG rfl (by trivial) (Vt ?_))
     refine ⟨?_, trivial⟩
     exact areBad (m := 8) hI hl hb g1
   · have g1 : areT isMethodF (fun k => k.1) (dflt (TMethod)) a0 i = false := h1
     refine Vs (Vr hG rfl (by trivial) ?_)
     refine ⟨rfl, ?_⟩
     exact areStep hI hl hb g1
 · have hl : ¬ i < (List.length a0 : Int) := of_decide_eq_false h0
   refine Vx (Vq (Vr hG rfl (by trivial) (Vt ?_)))
   refine ⟨?_, trivial⟩
   exact areEnd (m := 8) hI hl
noncomputable def F70 : Fun := ⟨[.pair Y34 Y55], [.pure (.bool)], fun _ => True, fun x => (isFrameF x.1, ())⟩
theorem F70_ok : Meets Tryz.prog 70 F70 := by
 refine mV (C := mkC 26 [2] [0,1,2] [⟨144, _, F144_ok⟩, ⟨145, _, F145_ok⟩, ⟨146, _, F146_ok⟩, ⟨147, _, F147_ok⟩, ⟨148, _, F148_ok⟩]) (mkC_ok _ _ _ _) (fnOf_ok _) Tryz.func70 rfl rfl rfl (by decide) rfl ?_
 rintro ⟨a0, _⟩ hwf hpre ⟨P, C, B, X, w0, M0, pv⟩ hG rfl rfl
 show Vc _ _ [(0, ⟨0, 0, .c Z67 a0⟩)] _
 refine Vq (Vr hG rfl (by trivial) (Vq ?_))
 refine Vr hG rfl ?_ ?_
 · repeat' (first | exact trivial | refine And.intro ?_ ?_ | intro _)
 refine Vt ?_
 refine ⟨?_, trivial⟩
 all_goals exact rfl
noncomputable def F71 : Fun := ⟨[.int .i64], [.pure Y24], fun _ => True, fun x => ((fun (r : Int) => ((3, r, (0, 0)) : Verdict)) x.1, ())⟩
theorem F71_ok : Meets Tryz.prog 71 F71 := by
 refine mV (C := mkC 5 [2] [0,2] []) (mkC_ok _ _ _ _) (fnOf_ok _) Tryz.func71 rfl rfl rfl (by decide) rfl ?_
 rintro ⟨(a0 : Int), _⟩ hwf hpre ⟨P, C, B, X, w0, M0, pv⟩ hG rfl rfl
 show Vc _ _ [(0, ⟨0, 0, .c (.pure (.int .i64)) a0⟩)] _
 refine Vq (Vr hG rfl (by trivial) (Vq (Vr hG rfl (by trivial) ?_)))
 refine Vt ?_
 refine ⟨?_, trivial⟩
 all_goals exact rfl
noncomputable def F72 : Fun := ⟨[.pair (.int .i64) Y48], [.pure (.bool)], fun _ => True, fun x => (isSigF x.1, ())⟩
theorem F72_ok : Meets Tryz.prog 72 F72 := by
 refine mV (C := mkC 41 [2] [0,1,2] [⟨147, _, F147_ok⟩]) (mkC_ok _ _ _ _) (fnOf_ok _) Tryz.func72 rfl rfl rfl (by decide) rfl ?_
 rintro ⟨a0, _⟩ hwf hpre ⟨P, C, B, X, w0, M0, pv⟩ hG rfl rfl
 show Vc _ _ [(0, ⟨0, 0, .c Z52 a0⟩)] _
 refine Vq (Vr hG rfl (by trivial) (Vq ?_))
 refine Vr hG rfl ?_ ?_
 · repeat' (first | exact trivial | refine And.intro ?_ ?_ | intro _)
 refine Vt ?_
 refine ⟨?_, trivial⟩
 all_goals exact rfl
noncomputable def F73 : Fun := ⟨[.int .i64], [.pure Y24], fun _ => True, fun x => ((fun (r : Int) => ((2, r, (0, 0)) : Verdict)) x.1, ())⟩
theorem F73_ok : Meets Tryz.prog 73 F73 := by
 refine mV (C := mkC 5 [2] [0,2] []) (mkC_ok _ _ _ _) (fnOf_ok _) Tryz.func73 rfl rfl rfl (by decide) rfl ?_
 rintro ⟨(a0 : Int), _⟩ hwf hpre ⟨P, C, B, X, w0, M0, pv⟩ hG rfl rfl
 show Vc _ _ [(0, ⟨0, 0, .c (.pure (.int .i64)) a0⟩)] _
 refine Vq (Vr hG rfl (by trivial) (Vq (Vr hG rfl (by trivial) ?_)))
 refine Vt ?_
 refine ⟨?_, trivial⟩
 all_goals exact rfl
noncomputable def F74 : Fun := ⟨[.slice Y32, .int .i64], [.pure (.int .i64)], fun _ => True, fun x => ((fun a0 a1 => findI (fun x => x.1 == a1) a0) x.1 x.2.1, ())⟩
theorem F74_ok : Meets Tryz.prog 74 F74 := by
 refine mV (C := mkC 20 [4] [0,1,4,5,6,7,8,9,10,17] []) (mkC_ok _ _ _ _) (fnOf_ok _) Tryz.func74 rfl rfl rfl (by decide) rfl ?_
 rintro ⟨a0, (a1 : Int), _⟩ hwf hpre ⟨P, C, B, X, w0, M0, pv⟩ hG rfl rfl
 show Vc _ _ [(0, ⟨0, 0, .c Z36 a0⟩), (1, ⟨0, 0, .c (.pure (.int .i64)) a1⟩)] _
 have hb : List.length a0 ≤ bigLen := hwf.1.1
 refine Vq (Vr hG rfl (by trivial) (Vq (Vq ?_)))
 refine Vr hG rfl (by trivial) (Vb ?_)
 refine Vc.loopF [(9, false, .pure (.int .i64))] [0, 1, 7, 8] (fun v => fInv (fun x => x.1 == a1) a0 v.1) (fun v => ((List.length a0 : Int) - v.1).toNat) rfl ?_ ?_
 · exact fStart
 rintro ⟨(i : Int), _⟩ hI
 have hI : fInv (fun x => x.1 == a1) a0 i := hI
 refine Vq (Vr hG rfl (by trivial) (Vq ?_))
 refine Vk rfl (fun h0 => ?_) (fun h0 => ?_)
 · have hl : i < (List.length a0 : Int) := of_decide_eq_true h0
   refine Vs (Vq (Vb (Vq ?_)))
   refine Vr hG rfl ?_ ?_
   · exact fRange hI hl
   refine Vq (Vr hG rfl (by trivial) ?_)
   refine Vk rfl (fun h1 => ?_) (fun h1 => ?_)
   · have g1 : (fun x => x.1 == a1) (List.getD a0 i.toNat (dflt Y32)) = true := h1
     refine Vq (Vr hG rfl (by trivial) (Vt ?_))
     refine ⟨?_, trivial⟩
     exact fHit hI hl g1
   · have g1 : (fun x => x.1 == a1) (List.getD a0 i.toNat (dflt Y32)) = false := h1
     refine Vs (Vr hG rfl (by trivial) ?_)
     refine ⟨rfl, ?_⟩
     exact fStep hI hl hb g1
 · have hl : ¬ i < (List.length a0 : Int) := of_decide_eq_false h0
   refine Vx (Vq (Vr hG rfl (by trivial) (Vt ?_)))
   refine ⟨?_, trivial⟩
   exact fEnd hI hl
noncomputable def F150 : Fun := ⟨[.pair (.int .i64) Y48], [.own (.pure (.int .i64))], fun _ => True, fun x => (sigIntsF x.1, ())⟩
theorem F150_ok : Meets Tryz.prog 150 F150 := by
 refine mV (C := mkC 20 [2] [0,1,2] []) (mkC_ok _ _ _ _) (fnOf_ok _) Tryz.func150 rfl rfl rfl (by decide) rfl ?_
 rintro ⟨a0, _⟩ hwf hpre ⟨P, C, B, X, w0, M0, pv⟩ hG rfl rfl
 show Vc _ _ [(0, ⟨0, 0, .c Z52 a0⟩)] _
 refine Vq (Vr hG rfl (by trivial) (Vq (Vr hG rfl (by trivial) ?_)))
 refine Vt ?_
 refine ⟨?_, trivial⟩
 all_goals exact rfl
noncomputable def F314 : Fun := ⟨[.int .i64, .slice (.int .i64)], [.pure (.int .i64)], fun x => (fun (_ : Int) (l : List Int) => l.length ≤ 1000000001) x.1 x.2.1, fun x => (keyedF x.1 x.2.1, ())⟩
theorem F314_ok : Meets Tryz.prog 314 F314 := by
 refine mV (C := mkC 13 [4] [0,1,4] [⟨265, _, F265_ok⟩]) (mkC_ok _ _ _ _) (fnOf_ok _) Tryz.func314 rfl rfl rfl (by decide) rfl ?_
 rintro ⟨(a0 : Int), a1, _⟩ hwf hpre ⟨P, C, B, X, w0, M0, pv⟩ hG rfl rfl
 show Vc _ _ [(0, ⟨0, 0, .c (.pure (.int .i64)) a0⟩), (1, ⟨0, 0, .c Z2 a1⟩)] _
 have hp : List.length a1 ≤ 1000000001 := hpre
 refine Vq (Vr hG rfl (by trivial) (Vq ?_))
 refine Vr hG rfl ?_ ?_
 · refine ⟨?_, ?_, trivial⟩
   · show 1 + List.length a1 ≤ maxApp
     unfold maxApp; omega
   · show (List.length a1 + 1) + 1 ≤ maxApp
     unfold maxApp; omega
 refine Vt ?_
 refine ⟨?_, trivial⟩
 all_goals exact rfl
noncomputable def F294 : Fun := ⟨[.pair (.int .i64) Y24, .slice (.int .i64)], [.pure (.int .i64)], fun x => (fun (_ : Key) (l : List Int) => smallL l) x.1 x.2.1, fun x => (markWithF x.1 x.2.1, ())⟩
theorem F294_ok : Meets Tryz.prog 294 F294 := by
 refine mV (C := mkC 13 [4] [0,1,2,4] [⟨314, _, F314_ok⟩]) (mkC_ok _ _ _ _) (fnOf_ok _) Tryz.func294 rfl rfl rfl (by decide) rfl ?_
 rintro ⟨a0, a1, _⟩ hwf hpre ⟨P, C, B, X, w0, M0, pv⟩ hG rfl rfl
 show Vc _ _ [(0, ⟨0, 0, .c Z33 a0⟩), (1, ⟨0, 0, .c Z2 a1⟩)] _
 have hp : List.length a1 ≤ 1000000000 := hpre
 refine Vq (Vr hG rfl (by trivial) (Vq ?_))
 refine VrD mixed hG rfl (by kernel_rfl) ?_ ?_
 · refine ⟨?_, ?_⟩
   · show 1 + List.length a1 ≤ maxApp
     unfold maxApp; omega
   · show List.length a1 + 1 ≤ 1000000001
     omega
 refine Vt ?_
 refine ⟨?_, trivial⟩
 all_goals exact rfl
noncomputable def F237 : Fun := ⟨[.slice Y32, .int .i64, .slice (.int .i64)], [.pure (.int .i64), .pure (.bool)], fun x => (fun (_ : List Key) (_ : Int) (l : List Int) => smallL l) x.1 x.2.1 x.2.2.1, fun x => ((markByF x.1 x.2.1 x.2.2.1).1, (markByF x.1 x.2.1 x.2.2.1).2, ())⟩
theorem F237_ok : Meets Tryz.prog 237 F237 := by
 refine mV (C := mkC 20 [6, 7] [0,1,2,6,7,8,13] [⟨74, _, F74_ok⟩, ⟨294, _, F294_ok⟩]) (mkC_ok _ _ _ _) (fnOf_ok _) Tryz.func237 rfl rfl rfl (by decide) rfl ?_
 rintro ⟨a0, (a1 : Int), a2, _⟩ hwf hpre ⟨P, C, B, X, w0, M0, pv⟩ hG rfl rfl
 show Vc _ _ [(0, ⟨0, 0, .c Z36 a0⟩), (1, ⟨0, 0, .c (.pure (.int .i64)) a1⟩), (2, ⟨0, 0, .c Z2 a2⟩)] _
 have hp : smallL a2 := hpre
 refine Vq (Vr hG rfl (by trivial) (Vq (Vr hG rfl (by trivial) ?_)))
 refine Vq (Vq (Vr hG rfl (by trivial) ?_))
 refine Vk rfl (fun h0 => ?_) (fun h0 => ?_)
 · have g0 : keyI a0 a1 < 0 := of_decide_eq_true h0
   refine Vq (Vr hG rfl (by trivial) (Vt ?_))
   have e := markBy_no (l := a2) g0
   refine ⟨?_, ?_, trivial⟩
   · exact (congrArg Prod.fst e).symm
   · exact (congrArg Prod.snd e).symm
 · have g0 : ¬ keyI a0 a1 < 0 := of_decide_eq_false h0
   refine Vs (Vq ?_)
   refine Vr hG rfl ?_ ?_
   · exact ⟨findRange g0, hp⟩
   refine Vt ?_
   have e := markBy_yes (l := a2) g0
   refine ⟨?_, ?_, trivial⟩
   · exact (congrArg Prod.fst e).symm
   · exact (congrArg Prod.snd e).symm
noncomputable def F149 : Fun := ⟨[.slice Y32, .int .i64, .slice (.int .i64), .int .i64], [.pure (.bool)], fun x => (fun (_ : List Key) (_ : Int) (l : List Int) (_ : Int) => smallL l) x.1 x.2.1 x.2.2.1 x.2.2.2.1, fun x => (checkMarkF x.1 x.2.1 x.2.2.1 x.2.2.2.1, ())⟩
theorem F149_ok : Meets Tryz.prog 149 F149 := by
 refine mV (C := mkC 24 [8] [0,1,2,3,8,9,10] [⟨237, _, F237_ok⟩]) (mkC_ok _ _ _ _) (fnOf_ok _) Tryz.func149 rfl rfl rfl (by decide) rfl ?_
 rintro ⟨a0, (a1 : Int), a2, (a3 : Int), _⟩ hwf hpre ⟨P, C, B, X, w0, M0, pv⟩ hG rfl rfl
 show Vc _ _ [(0, ⟨0, 0, .c Z36 a0⟩), (1, ⟨0, 0, .c (.pure (.int .i64)) a1⟩), (2, ⟨0, 0, .c Z2 a2⟩), (3, ⟨0, 0, .c (.pure (.int .i64)) a3⟩)] _
 have hp : smallL a2 := hpre
 refine Vq (Vr hG rfl (by trivial) (Vq ?_))
 refine Vr hG rfl ?_ ?_
 · exact hp
 refine Vq (Vr hG rfl (by trivial) (Vt ?_))
 refine ⟨?_, trivial⟩
 exact checkMark_by a0 a1 a2 a3
noncomputable def F75 : Fun := ⟨[.slice Y32, .pair (.int .i64) Y48], [.pure (.bool)], fun _ => True, fun x => (checkSigF x.1 x.2.1, ())⟩
theorem F75_ok : Meets Tryz.prog 75 F75 := by
 refine mV (C := mkC 17 [4] [0,1,3,4] [⟨72, _, F72_ok⟩, ⟨150, _, F150_ok⟩, ⟨149, _, F149_ok⟩]) (mkC_ok _ _ _ _) (fnOf_ok _) Tryz.func75 rfl rfl rfl (by decide) rfl ?_
 rintro ⟨a0, a1, _⟩ hwf hpre ⟨P, C, B, X, w0, M0, pv⟩ hG rfl rfl
 show Vc _ _ [(0, ⟨0, 0, .c Z36 a0⟩), (1, ⟨0, 0, .c Z52 a1⟩)] _
 refine Vq (Vr hG rfl (by trivial) (Vq ?_))
 refine VrD mixed hG rfl (by kernel_rfl) ?_ ?_
 · repeat' (first | exact trivial | exact smallLit (n := 9) rfl (by decide) | refine And.intro ?_ ?_ | intro _)
 refine Vt ?_
 refine ⟨?_, trivial⟩
 all_goals exact rfl
noncomputable def F77 : Fun := ⟨[.pair (.int .i64) Y48], [.pair (.pure (.int .i64)) Z16], fun _ => True, fun x => (signPieceF x.1, ())⟩
theorem F77_ok : Meets Tryz.prog 77 F77 := by
 refine mV (C := mkC 10 [2] [0,1,2] [⟨150, _, F150_ok⟩]) (mkC_ok _ _ _ _) (fnOf_ok _) Tryz.func77 rfl rfl rfl (by decide) rfl ?_
 rintro ⟨a0, _⟩ hwf hpre ⟨P, C, B, X, w0, M0, pv⟩ hG rfl rfl
 show Vc _ _ [(0, ⟨0, 0, .c Z52 a0⟩)] _
 refine Vq (Vr hG rfl (by trivial) (Vq (VrD mixed hG rfl (by kernel_rfl) (by trivial) ?_)))
 refine Vt ?_
 refine ⟨?_, trivial⟩
 all_goals exact rfl
noncomputable def F238 : Fun := ⟨[.pair Y23 Y59, .pair (.int .i64) Y9], [.pure (.int .i64)], fun _ => True, fun x => ((fun a0 a1 => findI (fun x => eqC x a1) a0.1) x.1 x.2.1, ())⟩
theorem F238_ok : Meets Tryz.prog 238 F238 := by
 refine mV (C := mkC 20 [4] [0,1,2,3,4,5,6,8,9,10,11,17] [⟨240, _, F240_ok⟩]) (mkC_ok _ _ _ _) (fnOf_ok _) Tryz.func238 rfl rfl rfl (by decide) rfl ?_
 rintro ⟨a0, a1, _⟩ hwf hpre ⟨P, C, B, X, w0, M0, pv⟩ hG rfl rfl
 show Vc _ _ [(0, ⟨0, 0, .c Z65 a0⟩), (1, ⟨0, 0, .c Z22 a1⟩)] _
 have hb : List.length a0.1 ≤ bigLen := hwf.1.1.1
 refine Vq (Vr hG rfl (by trivial) (Vq (Vq ?_)))
 refine Vr hG rfl (by trivial) (Vb ?_)
 refine Vc.loopF [(10, false, .pure (.int .i64))] [0, 1, 2, 3, 8, 9] (fun v => fInv (fun x => eqC x a1) a0.1 v.1) (fun v => ((List.length a0.1 : Int) - v.1).toNat) rfl ?_ ?_
 · exact fStart
 rintro ⟨(i : Int), _⟩ hI
 have hI : fInv (fun x => eqC x a1) a0.1 i := hI
 refine Vq (Vr hG rfl (by trivial) (Vq ?_))
 refine Vk rfl (fun h0 => ?_) (fun h0 => ?_)
 · have hl : i < (List.length a0.1 : Int) := of_decide_eq_true h0
   refine Vs (Vq (Vb (Vq ?_)))
   refine Vr hG rfl ?_ ?_
   · exact fRange hI hl
   refine Vq (Vr hG rfl (by trivial) ?_)
   refine Vk rfl (fun h1 => ?_) (fun h1 => ?_)
   · have g1 : (fun x => eqC x a1) (List.getD a0.1 i.toNat (dflt Y19)) = true := h1
     refine Vq (Vr hG rfl (by trivial) (Vt ?_))
     refine ⟨?_, trivial⟩
     exact fHit hI hl g1
   · have g1 : (fun x => eqC x a1) (List.getD a0.1 i.toNat (dflt Y19)) = false := h1
     refine Vs (Vr hG rfl (by trivial) ?_)
     refine ⟨rfl, ?_⟩
     exact fStep hI hl hb g1
 · have hl : ¬ i < (List.length a0.1 : Int) := of_decide_eq_false h0
   refine Vx (Vq (Vr hG rfl (by trivial) (Vt ?_)))
   refine ⟨?_, trivial⟩
   exact fEnd hI hl
end Fw
