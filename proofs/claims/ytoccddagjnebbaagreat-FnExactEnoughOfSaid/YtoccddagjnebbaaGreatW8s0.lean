/- Walks of functions of the program: what each computes. Conditions: those that each contract names. -/
import Derived.Test.YtoccddagjnebbaaGreatW8T
namespace Fw
open Go Go.Proofs
set_option linter.unusedSimpArgs false
set_option maxRecDepth 100000
noncomputable def F215 : Fun := ⟨[.pair (.int .i64) Y9], [.pair (.pure (.int .i64)) Z16], fun x => Sm big20 Y19 x.1, fun x => (id x.1, ())⟩
theorem F215_ok : Meets Tryz.prog 215 F215 := by
 refine mV (C := mkC 12 [2] [0,1,2] []) (mkC_ok _ _ _ _) (fnOf_ok _) Tryz.func215 rfl rfl rfl (by decide) rfl ?_
 rintro ⟨a0, _⟩ hwf hpre ⟨P, C, B, X, w0, M0, pv⟩ hG rfl rfl
 show Vc _ _ [(0, ⟨0, 0, .c Z22 a0⟩)] _
 have hp : List.length a0.2.1 ≤ big20 := hpre.2.1.1
 refine Vq (Vr hG rfl (by trivial) (Vq ?_))
 refine VrD mixed hG rfl (by kernel_rfl) ?_ ?_
 · exact appOk hp
 refine Vt ?_
 refine ⟨?_, trivial⟩
 all_goals exact rfl
noncomputable def F268 : Fun := ⟨[.slice Y19], [.own Z29], fun x => Sm big20 Y23 x.1, fun x => (id x.1, ())⟩
theorem F268_ok : Meets Tryz.prog 268 F268 := by
 refine mV (C := mkC 21 [2] [0,2,3,4,9] [⟨215, _, F215_ok⟩]) (mkC_ok _ _ _ _) (fnOf_ok _) Tryz.func268 rfl rfl rfl (by decide) rfl ?_
 rintro ⟨a0, _⟩ hwf hpre ⟨P, C, B, X, w0, M0, pv⟩ hG rfl rfl
 show Vc _ _ [(0, ⟨0, 0, .c Z26 a0⟩)] _
 have hp : _ ∧ _ := hpre
 have hb : List.length a0 ≤ bigLen := hwf.1.1
 refine Vq (Vr hG rfl (by trivial) (Vq (Vr hG rfl (by trivial) ?_)))
 refine Vq (Vq (Vr hG rfl (by trivial) (Vb ?_)))
 refine Vc.loopF [(3, false, .own Z29), (4, false, .pure (.int .i64))] [0, 2] (fun v => cpInv a0 v.1 v.2.1) (fun v => ((List.length a0 : Int) - v.2.1).toNat) rfl ?_ ?_
 · exact cpStart
 rintro ⟨acc, (i : Int), _⟩ hI
 have hI : cpInv a0 acc i := hI
 refine Vq (Vq (Vr hG rfl (by trivial) ?_))
 refine Vk rfl (fun h0 => ?_) (fun h0 => ?_)
 · have hl : i < (List.length a0 : Int) := of_decide_eq_true h0
   have hE : Sm big20 Y19 (List.getD a0 i.toNat (dflt Y19)) := hp.2 _ (upElem hI.1 hl)
   refine Vs (Vq (Vb ?_))
   refine Vr hG rfl ?_ ?_
   · exact ⟨cpRange hI hl, hE, cpLen hI hl hp.1⟩
   refine Vr hG rfl (by trivial) ?_
   refine ⟨rfl, ?_⟩
   exact cpStep (d := dflt Y19) hI hl hb rfl
 · have hl : ¬ i < (List.length a0 : Int) := of_decide_eq_false h0
   refine Vx (Vq (Vr hG rfl (by trivial) (Vt ?_)))
   refine ⟨?_, trivial⟩
   exact cpEnd hI hl
noncomputable def F269 : Fun := ⟨[.pair (.int .i64) Y53], [.pair (.pure (.int .i64)) Z58], fun x => Sm big20 Y56 x.1, fun x => (id x.1, ())⟩
theorem F269_ok : Meets Tryz.prog 269 F269 := by
 refine mV (C := mkC 14 [2] [0,1,2] []) (mkC_ok _ _ _ _) (fnOf_ok _) Tryz.func269 rfl rfl rfl (by decide) rfl ?_
 rintro ⟨a0, _⟩ hwf hpre ⟨P, C, B, X, w0, M0, pv⟩ hG rfl rfl
 show Vc _ _ [(0, ⟨0, 0, .c Z57 a0⟩)] _
 have hp1 : List.length a0.2.2.2.1 ≤ big20 := hpre.2.2.2.1.1
 have hp2 : List.length a0.2.2.2.2 ≤ big20 := hpre.2.2.2.2.1
 refine Vq (Vr hG rfl (by trivial) (Vq ?_))
 refine Vr hG rfl ?_ ?_
 · exact appOk hp1
 refine Vq ?_
 refine Vr hG rfl ?_ ?_
 · exact appOk hp2
 refine Vq (Vr hG rfl (by trivial) (Vt ?_))
 refine ⟨?_, trivial⟩
 all_goals exact rfl
noncomputable def F185 : Fun := ⟨[.pair Y23 Y59], [.pair Z31 Z62], fun x => Sm big20 Y63 x.1, fun x => (id x.1, ())⟩
theorem F185_ok : Meets Tryz.prog 185 F185 := by
 refine mV (C := mkC 28 [2] [0,1,2,3,4,13] [⟨268, _, F268_ok⟩, ⟨269, _, F269_ok⟩]) (mkC_ok _ _ _ _) (fnOf_ok _) Tryz.func185 rfl rfl rfl (by decide) rfl ?_
 rintro ⟨a0, _⟩ hwf hpre ⟨P, C, B, X, w0, M0, pv⟩ hG rfl rfl
 show Vc _ _ [(0, ⟨0, 0, .c Z65 a0⟩)] _
 have hp0 : Sm big20 Y23 a0.1 := hpre.1
 have hp : _ ∧ _ := hpre.2
 have hb : List.length a0.2 ≤ bigLen := hwf.1.2.1
 refine Vq (Vr hG rfl (by trivial) (Vq ?_))
 refine Vr hG rfl ?_ ?_
 · exact hp0
 refine Vq (Vq (Vr hG rfl (by trivial) (Vb ?_)))
 refine Vc.loopF [(3, true, .pair Z31 Z62), (4, false, .pure (.int .i64))] [0, 1, 2] (fun v => v.1.1 = a0.1 ∧ cpInv a0.2 v.1.2 v.2.1) (fun v => ((List.length a0.2 : Int) - v.2.1).toNat) rfl ?_ ?_
 · exact ⟨rfl, cpStart⟩
 rintro ⟨acc, (i : Int), _⟩ hI
 have hI : acc.1 = a0.1 ∧ cpInv a0.2 acc.2 i := hI
 refine Vq (Vq (Vr hG rfl (by trivial) ?_))
 refine Vk rfl (fun h0 => ?_) (fun h0 => ?_)
 · have hl : i < (List.length a0.2 : Int) := of_decide_eq_true h0
   have hE : Sm big20 Y56 (List.getD a0.2 i.toNat (dflt Y56)) := hp.2 _ (upElem hI.2.1 hl)
   refine Vs (Vq (Vb ?_))
   refine VrD mixed hG rfl (by kernel_rfl) ?_ ?_
   · exact ⟨cpRange hI.2 hl, hE, cpLen hI.2 hl hp.1⟩
   refine Vr hG rfl (by trivial) ?_
   refine ⟨rfl, ?_⟩
   have e := cpStep (d := dflt Y56) hI.2 hl hb rfl
   exact ⟨⟨hI.1, e.1⟩, e.2⟩
 · have hl : ¬ i < (List.length a0.2 : Int) := of_decide_eq_false h0
   refine Vx (Vq (Vr hG rfl (by trivial) (Vt ?_)))
   refine ⟨?_, trivial⟩
   exact Prod.ext hI.1 (cpEnd hI.2 hl)
noncomputable def F197 : Fun := ⟨[.pair Y66 Y37], [.pair Z70 Z39], fun x => Sm big20 Y71 x.1, fun x => (id x.1, ())⟩
theorem F197_ok : Meets Tryz.prog 197 F197 := by
 refine mV (C := mkC 45 [2] [0,1,2,3,4,5,11,29] [⟨185, _, F185_ok⟩]) (mkC_ok _ _ _ _) (fnOf_ok _) Tryz.func197 rfl rfl rfl (by decide) rfl ?_
 rintro ⟨a0, _⟩ hwf hpre ⟨P, C, B, X, w0, M0, pv⟩ hG rfl rfl
 show Vc _ _ [(0, ⟨0, 0, .c Z72 a0⟩)] _
 have hS : List.length a0.1 ≤ big20 ∧ ∀ x ∈ a0.1, Sm big20 Y63 x := hpre.1
 have hT : List.length a0.2 ≤ big20 ∧ ∀ x ∈ a0.2, Sm big20 (.slice TStamp) x := hpre.2
 have hb : List.length a0.1 ≤ bigLen := hwf.1.1.1
 have hb2 : List.length a0.2 ≤ bigLen := hwf.1.2.1
 refine Vq (Vr hG rfl (by trivial) (Vq (Vr hG rfl (by trivial) ?_)))
 refine Vq (Vq (Vr hG rfl (by trivial) (Vb ?_)))
 refine Vc.loopF [(3, true, .pair Z70 Z39), (4, false, .pure (.int .i64))] [0, 1, 2, 5, 29] (fun v => v.1.2 = [] ∧ cpInv a0.1 v.1.1 v.2.1) (fun v => ((List.length a0.1 : Int) - v.2.1).toNat) rfl ?_ ?_
 · exact ⟨rfl, cpStart⟩
 rintro ⟨ev, (i : Int), _⟩ hI
 have hI : ev.2 = [] ∧ cpInv a0.1 ev.1 i := hI
 refine Vq (Vq (Vr hG rfl (by trivial) ?_))
 refine Vk rfl (fun h0 => ?_) (fun h0 => ?_)
 · have hl : i < (List.length a0.1 : Int) := of_decide_eq_true h0
   have r1 := cpRange hI.2 hl
   have hE := hS.2 _ (getD_mem r1 (dflt Y63))
   have hA := cpLen hI.2 hl hS.1
   refine Vs (Vq (Vb ?_))
   refine VrD mixed hG rfl (by kernel_rfl) ?_ ?_
   · exact ⟨r1, hE, hA⟩
   refine Vr hG rfl (by trivial) ?_
   refine ⟨rfl, ?_⟩
   have e := cpStep (d := dflt Y63) hI.2 hl hb rfl
   exact ⟨⟨hI.1, e.1⟩, e.2⟩
 · have hl : ¬ i < (List.length a0.1 : Int) := of_decide_eq_false h0
   have eI := cpEnd hI.2 hl
   refine Vx (Vq (Vq (Vr hG rfl (by trivial) ?_)))
   refine Vb ?_
   refine Vc.loopF [(3, true, .pair Z70 Z39), (5, false, .pure (.int .i64))] [0, 1, 2, 4, 11] (fun v => v.1.1 = a0.1 ∧ cpInv a0.2 v.1.2 v.2.1) (fun v => ((List.length a0.2 : Int) - v.2.1).toNat) rfl ?_ ?_
   · exact ⟨eI, by rw [hI.1]; exact cpStart⟩
   rintro ⟨ev2, (j : Int), _⟩ hJ
   have hJ : ev2.1 = a0.1 ∧ cpInv a0.2 ev2.2 j := hJ
   refine Vq (Vq (Vr hG rfl (by trivial) ?_))
   refine Vk rfl (fun h1 => ?_) (fun h1 => ?_)
   · have hj : j < (List.length a0.2 : Int) := of_decide_eq_true h1
     have r2 := cpRange hJ.2 hj
     have hF : List.length (List.getD a0.2 j.toNat (dflt (.slice TStamp))) ≤ big20 := (hT.2 _ (getD_mem r2 (dflt (.slice TStamp)))).1
     have hF4 : List.length (List.getD a0.2 j.toNat (dflt (.slice TStamp))) ≤ 4000000 := Nat.le_trans hF (by decide)
     have hA2 := cpLen hJ.2 hj hT.1
     refine Vs (Vq (Vb ?_))
     refine VrD mixed hG rfl (by kernel_rfl) ?_ ?_
     · exact ⟨r2, appOk hF, hA2⟩
     refine Vr hG rfl (by trivial) ?_
     refine ⟨rfl, ?_⟩
     have e := cpStep (d := dflt (.slice TStamp)) hJ.2 hj hb2 rfl
     exact ⟨⟨hJ.1, e.1⟩, e.2⟩
   · have hj : ¬ j < (List.length a0.2 : Int) := of_decide_eq_false h1
     refine Vx (Vq (Vr hG rfl (by trivial) (Vt ?_)))
     refine ⟨?_, trivial⟩
     exact Prod.ext hJ.1 (cpEnd hJ.2 hj)
noncomputable def F285 : Fun := ⟨[.slice (.int .i64), .slice (.int .i64)], [.pure (.bool)], fun _ => True, fun x => (eqC x.1 x.2.1, ())⟩
theorem F285_ok : Meets Tryz.prog 285 F285 := by
 refine mV (C := mkC 26 [4] [0,1,4,5,10,14,25] []) (mkC_ok _ _ _ _) (fnOf_ok _) Tryz.func285 rfl rfl rfl (by decide) rfl ?_
 rintro ⟨a0, a1, _⟩ hwf hpre ⟨P, C, B, X, w0, M0, pv⟩ hG rfl rfl
 show Vc _ _ [(0, ⟨0, 0, .c Z2 a0⟩), (1, ⟨0, 0, .c Z2 a1⟩)] _
 have hb0 : List.length a0 ≤ bigLen := hwf.1.1
 refine Vq (Vr hG rfl (by trivial) (Vq (Vq ?_)))
 refine Vr hG rfl (by trivial) ?_
 refine Vk rfl (fun h0 => ?_) (fun h0 => ?_)
 · refine Vq (Vr hG rfl (by trivial) (Vt ?_))
   refine ⟨?_, trivial⟩
   refine eqC_no (fun e => ?_)
   have e : a0 = a1 := e
   have g : ((List.length a0 : Int) != (List.length a1 : Int)) = true := h0
   subst e
   exact bself g
 · have g0 : ((List.length a0 : Int) != (List.length a1 : Int)) = false := h0
   have f0_0 : List.length a0 = List.length a1 := (lenEq g0)
   refine Vs (Vq (Vq (Vr hG rfl (by trivial) ?_)))
   refine Vb ?_
   refine Vc.loopF [(5, false, .pure (.int .i64))] [0, 1, 10] (fun v => eqInv a0 a1 v.1) (fun v => ((List.length a0 : Int) - v.1).toNat) rfl ?_ ?_
   · exact eqStart f0_0
   rintro ⟨(i0 : Int), _⟩ hI0
   have hI0 : eqInv a0 a1 i0 := hI0
   refine Vq (Vq (Vr hG rfl (by trivial) ?_))
   refine Vk rfl (fun h1 => ?_) (fun h1 => ?_)
   · have hl0 : i0 < (List.length a0 : Int) := of_decide_eq_true h1
     refine Vs (Vq (Vb (Vq ?_)))
     refine VrD mixed hG rfl (by kernel_rfl) ?_ ?_
     · exact ⟨(eqRange hI0 hl0).1, (eqRange hI0 hl0).2⟩
     refine Vk rfl (fun h2 => ?_) (fun h2 => ?_)
     · refine Vq (Vr hG rfl (by trivial) (Vt ?_))
       refine ⟨?_, trivial⟩
       refine eqC_no (fun e => ?_)
       have e : a0 = a1 := e
       have g : ((List.getD a0 i0.toNat (dflt (.int .i64))) != (List.getD a1 i0.toNat (dflt (.int .i64)))) = true := h2
       subst e
       exact bself g
     · have g2 : ((List.getD a0 i0.toNat (dflt (.int .i64))) != (List.getD a1 i0.toNat (dflt (.int .i64)))) = false := h2
       have f2_0 : (List.getD a0 i0.toNat (dflt (.int .i64))) = (List.getD a1 i0.toNat (dflt (.int .i64))) := (bneI g2)
       have s0 : (List.getD a0 i0.toNat (dflt (.int .i64))) = (List.getD a1 i0.toNat (dflt (.int .i64))) := f2_0
       refine Vs (Vr hG rfl (by trivial) ?_)
       refine ⟨rfl, ?_⟩
       exact ⟨eqStep (d := dflt (.int .i64)) hI0 hl0 hb0 s0, (upStep hI0.1 hl0 hb0).2.2⟩
   · have hl0 : ¬ i0 < (List.length a0 : Int) := of_decide_eq_false h1
     have e0 : a0 = a1 := eqEnd hI0 hl0
     refine Vx (Vq (Vr hG rfl (by trivial) (Vt ?_)))
     refine ⟨?_, trivial⟩
     exact eqC_yes e0
noncomputable def F214 : Fun := ⟨[.pair (.int .i64) Y9, .pair (.int .i64) Y9], [.pure (.bool)], fun _ => True, fun x => (eqC x.1 x.2.1, ())⟩
theorem F214_ok : Meets Tryz.prog 214 F214 := by
 refine mV (C := mkC 24 [4] [0,1,2,3,4] [⟨285, _, F285_ok⟩]) (mkC_ok _ _ _ _) (fnOf_ok _) Tryz.func214 rfl rfl rfl (by decide) rfl ?_
 rintro ⟨a0, a1, _⟩ hwf hpre ⟨P, C, B, X, w0, M0, pv⟩ hG rfl rfl
 show Vc _ _ [(0, ⟨0, 0, .c Z22 a0⟩), (1, ⟨0, 0, .c Z22 a1⟩)] _
 refine Vq (Vr hG rfl (by trivial) (Vq ?_))
 refine Vr hG rfl ?_ ?_
 · repeat' (first | exact trivial | refine And.intro ?_ ?_ | intro _)
 refine Vt ?_
 refine ⟨?_, trivial⟩
 refine eqC_by (fun e => ?_) (fun e => ?_)
 · have e : (pick2 (pick2 (a0.1 == a1.1) (a0.2.2 == a1.2.2) false) (eqC a0.2.1 a1.2.1) false) = true := e
   have r_0 : a0.1 = a1.1 := (beqI2 (andT (andT e).1).1)
   have r_1 : a0.2.2 = a1.2.2 := (beqI2 (andT (andT e).1).2)
   have r_2 : a0.2.1 = a1.2.1 := (eqC_iff.1 (andT e).2)
   exact (Prod.ext r_0 (Prod.ext r_2 r_1))
 · have e : a0 = a1 := e
   subst e
   exact (yesAnd (yesAnd beqSelf beqSelf) (eqC_self _))
noncomputable def F276 : Fun := ⟨[.pair (.int .i64) Y53, .pair (.int .i64) Y53], [.pure (.bool)], fun _ => True, fun x => (eqC x.1 x.2.1, ())⟩
theorem F276_ok : Meets Tryz.prog 276 F276 := by
 refine mV (C := mkC 80 [4] [0,1,2,3,4,5,6,43,48,61,66,79] []) (mkC_ok _ _ _ _) (fnOf_ok _) Tryz.func276 rfl rfl rfl (by decide) rfl ?_
 rintro ⟨a0, a1, _⟩ hwf hpre ⟨P, C, B, X, w0, M0, pv⟩ hG rfl rfl
 show Vc _ _ [(0, ⟨0, 0, .c Z57 a0⟩), (1, ⟨0, 0, .c Z57 a1⟩)] _
 have hb0 : List.length a0.2.2.2.1 ≤ bigLen := hwf.1.2.2.2.1.1
 have hb1 : List.length a0.2.2.2.2 ≤ bigLen := hwf.1.2.2.2.2.1
 refine Vq (Vr hG rfl (by trivial) (Vq (Vq ?_)))
 refine Vr hG rfl (by trivial) ?_
 refine Vk rfl (fun h0 => ?_) (fun h0 => ?_)
 · refine Vq (Vr hG rfl (by trivial) (Vt ?_))
   refine ⟨?_, trivial⟩
   refine eqC_no (fun e => ?_)
   have e : a0 = a1 := e
   have g : (pick2 (pick2 (pick2 (pick2 (a0.1 != a1.1) true (a0.2.1 != a1.2.1)) true (a0.2.2.1 != a1.2.2.1)) true ((List.length a0.2.2.2.1 : Int) != (List.length a1.2.2.2.1 : Int))) true ((List.length a0.2.2.2.2 : Int) != (List.length a1.2.2.2.2 : Int))) = true := h0
   subst e
   exact (noOr (noOr (noOr (noOr bself bself) bself) bself) bself) g
 · have g0 : (pick2 (pick2 (pick2 (pick2 (a0.1 != a1.1) true (a0.2.1 != a1.2.1)) true (a0.2.2.1 != a1.2.2.1)) true ((List.length a0.2.2.2.1 : Int) != (List.length a1.2.2.2.1 : Int))) true ((List.length a0.2.2.2.2 : Int) != (List.length a1.2.2.2.2 : Int))) = false := h0
   have f0_0 : a0.1 = a1.1 := (bneI (orF (orF (orF (orF g0).1).1).1).1)
   have f0_1 : a0.2.1 = a1.2.1 := (bneI (orF (orF (orF (orF g0).1).1).1).2)
   have f0_2 : a0.2.2.1 = a1.2.2.1 := (bneI (orF (orF (orF g0).1).1).2)
   have f0_3 : List.length a0.2.2.2.1 = List.length a1.2.2.2.1 := (lenEq (orF (orF g0).1).2)
   have f0_4 : List.length a0.2.2.2.2 = List.length a1.2.2.2.2 := (lenEq (orF g0).2)
   refine Vs (Vq (Vq (Vr hG rfl (by trivial) ?_)))
   refine Vb ?_
   refine Vc.loopF [(5, false, .pure (.int .i64))] [0, 1, 2, 3, 6, 43, 66, 79] (fun v => eqInv a0.2.2.2.1 a1.2.2.2.1 v.1) (fun v => ((List.length a0.2.2.2.1 : Int) - v.1).toNat) rfl ?_ ?_
   · exact eqStart f0_3
   rintro ⟨(i0 : Int), _⟩ hI0
   have hI0 : eqInv a0.2.2.2.1 a1.2.2.2.1 i0 := hI0
   refine Vq (Vq (Vr hG rfl (by trivial) ?_))
   refine Vk rfl (fun h1 => ?_) (fun h1 => ?_)
   · have hl0 : i0 < (List.length a0.2.2.2.1 : Int) := of_decide_eq_true h1
     refine Vs (Vq (Vb (Vq ?_)))
     refine VrD mixed hG rfl (by kernel_rfl) ?_ ?_
     · exact ⟨(eqRange hI0 hl0).1, (eqRange hI0 hl0).2⟩
     refine Vk rfl (fun h2 => ?_) (fun h2 => ?_)
     · refine Vq (Vr hG rfl (by trivial) (Vt ?_))
       refine ⟨?_, trivial⟩
       refine eqC_no (fun e => ?_)
       have e : a0 = a1 := e
       have g : (!(El.eq Y1 (List.getD a0.2.2.2.1 i0.toNat (dflt Y1)) (List.getD a1.2.2.2.1 i0.toNat (dflt Y1)))) = true := h2
       subst e
       exact (eself rfl) g
     · have g2 : (!(El.eq Y1 (List.getD a0.2.2.2.1 i0.toNat (dflt Y1)) (List.getD a1.2.2.2.1 i0.toNat (dflt Y1)))) = false := h2
       have f2_0 : (List.getD a0.2.2.2.1 i0.toNat (dflt Y1)) = (List.getD a1.2.2.2.1 i0.toNat (dflt Y1)) := (notE g2 rfl)
       have s0 : (List.getD a0.2.2.2.1 i0.toNat (dflt Y1)) = (List.getD a1.2.2.2.1 i0.toNat (dflt Y1)) := f2_0
       refine Vs (Vr hG rfl (by trivial) ?_)
       refine ⟨rfl, ?_⟩
       exact ⟨eqStep (d := dflt Y1) hI0 hl0 hb0 s0, (upStep hI0.1 hl0 hb0).2.2⟩
   · have hl0 : ¬ i0 < (List.length a0.2.2.2.1 : Int) := of_decide_eq_false h1
     have e0 : a0.2.2.2.1 = a1.2.2.2.1 := eqEnd hI0 hl0
     refine Vx (Vq (Vq (Vr hG rfl (by trivial) ?_)))
     refine Vb ?_
     refine Vc.loopF [(6, false, .pure (.int .i64))] [0, 1, 2, 3, 5, 43, 48, 61] (fun v => eqInv a0.2.2.2.2 a1.2.2.2.2 v.1) (fun v => ((List.length a0.2.2.2.2 : Int) - v.1).toNat) rfl ?_ ?_
     · exact eqStart f0_4
     rintro ⟨(i1 : Int), _⟩ hI1
     have hI1 : eqInv a0.2.2.2.2 a1.2.2.2.2 i1 := hI1
     refine Vq (Vq (Vr hG rfl (by trivial) ?_))
     refine Vk rfl (fun h3 => ?_) (fun h3 => ?_)
     · have hl1 : i1 < (List.length a0.2.2.2.2 : Int) := of_decide_eq_true h3
       refine Vs (Vq (Vb (Vq ?_)))
       refine VrD mixed hG rfl (by kernel_rfl) ?_ ?_
       · exact ⟨(eqRange hI1 hl1).1, (eqRange hI1 hl1).2⟩
       refine Vk rfl (fun h4 => ?_) (fun h4 => ?_)
       · refine Vq (Vr hG rfl (by trivial) (Vt ?_))
         refine ⟨?_, trivial⟩
         refine eqC_no (fun e => ?_)
         have e : a0 = a1 := e
         have g : (!(El.eq Y32 (List.getD a0.2.2.2.2 i1.toNat (dflt Y32)) (List.getD a1.2.2.2.2 i1.toNat (dflt Y32)))) = true := h4
         subst e
         exact (eself rfl) g
       · have g4 : (!(El.eq Y32 (List.getD a0.2.2.2.2 i1.toNat (dflt Y32)) (List.getD a1.2.2.2.2 i1.toNat (dflt Y32)))) = false := h4
         have f4_0 : (List.getD a0.2.2.2.2 i1.toNat (dflt Y32)) = (List.getD a1.2.2.2.2 i1.toNat (dflt Y32)) := (notE g4 rfl)
         have s1 : (List.getD a0.2.2.2.2 i1.toNat (dflt Y32)) = (List.getD a1.2.2.2.2 i1.toNat (dflt Y32)) := f4_0
         refine Vs (Vr hG rfl (by trivial) ?_)
         refine ⟨rfl, ?_⟩
         exact ⟨eqStep (d := dflt Y32) hI1 hl1 hb1 s1, (upStep hI1.1 hl1 hb1).2.2⟩
     · have hl1 : ¬ i1 < (List.length a0.2.2.2.2 : Int) := of_decide_eq_false h3
       have e1 : a0.2.2.2.2 = a1.2.2.2.2 := eqEnd hI1 hl1
       refine Vx (Vq (Vr hG rfl (by trivial) (Vt ?_)))
       refine ⟨?_, trivial⟩
       exact eqC_yes (Prod.ext f0_0 (Prod.ext f0_1 (Prod.ext f0_2 (Prod.ext e0 e1))))
noncomputable def F198 : Fun := ⟨[.pair Y23 Y59, .pair Y23 Y59], [.pure (.bool)], fun _ => True, fun x => (eqC x.1 x.2.1, ())⟩
theorem F198_ok : Meets Tryz.prog 198 F198 := by
 refine mV (C := mkC 61 [4] [0,1,2,3,4,5,6,22,27,41,46,60] [⟨214, _, F214_ok⟩, ⟨276, _, F276_ok⟩]) (mkC_ok _ _ _ _) (fnOf_ok _) Tryz.func198 rfl rfl rfl (by decide) rfl ?_
 rintro ⟨a0, a1, _⟩ hwf hpre ⟨P, C, B, X, w0, M0, pv⟩ hG rfl rfl
 show Vc _ _ [(0, ⟨0, 0, .c Z65 a0⟩), (1, ⟨0, 0, .c Z65 a1⟩)] _
 have hb0 : List.length a0.1 ≤ bigLen := hwf.1.1.1
 have hb1 : List.length a0.2 ≤ bigLen := hwf.1.2.1
 refine Vq (Vr hG rfl (by trivial) (Vq (Vq ?_)))
 refine Vr hG rfl (by trivial) ?_
 refine Vk rfl (fun h0 => ?_) (fun h0 => ?_)
 · refine Vq (Vr hG rfl (by trivial) (Vt ?_))
   refine ⟨?_, trivial⟩
   refine eqC_no (fun e => ?_)
   have e : a0 = a1 := e
   have g : (pick2 ((List.length a0.1 : Int) != (List.length a1.1 : Int)) true ((List.length a0.2 : Int) != (List.length a1.2 : Int))) = true := h0
   subst e
   exact (noOr bself bself) g
 · have g0 : (pick2 ((List.length a0.1 : Int) != (List.length a1.1 : Int)) true ((List.length a0.2 : Int) != (List.length a1.2 : Int))) = false := h0
   have f0_0 : List.length a0.1 = List.length a1.1 := (lenEq (orF g0).1)
   have f0_1 : List.length a0.2 = List.length a1.2 := (lenEq (orF g0).2)
   refine Vs (Vq (Vq (Vr hG rfl (by trivial) ?_)))
   refine Vb ?_
   refine Vc.loopF [(5, false, .pure (.int .i64))] [0, 1, 2, 3, 6, 22, 46, 60] (fun v => eqInv a0.1 a1.1 v.1) (fun v => ((List.length a0.1 : Int) - v.1).toNat) rfl ?_ ?_
   · exact eqStart f0_0
   rintro ⟨(i0 : Int), _⟩ hI0
   have hI0 : eqInv a0.1 a1.1 i0 := hI0
   refine Vq (Vq (Vr hG rfl (by trivial) ?_))
   refine Vk rfl (fun h1 => ?_) (fun h1 => ?_)
   · have hl0 : i0 < (List.length a0.1 : Int) := of_decide_eq_true h1
     refine Vs (Vq (Vb (Vq ?_)))
     refine VrD mixed hG rfl (by kernel_rfl) ?_ ?_
     · exact ⟨(eqRange hI0 hl0).1, (eqRange hI0 hl0).2, trivial⟩
     refine Vk rfl (fun h2 => ?_) (fun h2 => ?_)
     · refine Vq (Vr hG rfl (by trivial) (Vt ?_))
       refine ⟨?_, trivial⟩
       refine eqC_no (fun e => ?_)
       have e : a0 = a1 := e
       have g : (!(eqC (List.getD a0.1 i0.toNat (dflt Y19)) (List.getD a1.1 i0.toNat (dflt Y19)))) = true := h2
       subst e
       exact (nself (eqC_self _)) g
     · have g2 : (!(eqC (List.getD a0.1 i0.toNat (dflt Y19)) (List.getD a1.1 i0.toNat (dflt Y19)))) = false := h2
       have f2_0 : (List.getD a0.1 i0.toNat (dflt Y19)) = (List.getD a1.1 i0.toNat (dflt Y19)) := (eqC_iff.1 (notF g2))
       have s0 : (List.getD a0.1 i0.toNat (dflt Y19)) = (List.getD a1.1 i0.toNat (dflt Y19)) := f2_0
       refine Vs (Vr hG rfl (by trivial) ?_)
       refine ⟨rfl, ?_⟩
       exact ⟨eqStep (d := dflt Y19) hI0 hl0 hb0 s0, (upStep hI0.1 hl0 hb0).2.2⟩
   · have hl0 : ¬ i0 < (List.length a0.1 : Int) := of_decide_eq_false h1
     have e0 : a0.1 = a1.1 := eqEnd hI0 hl0
     refine Vx (Vq (Vq (Vr hG rfl (by trivial) ?_)))
     refine Vb ?_
     refine Vc.loopF [(6, false, .pure (.int .i64))] [0, 1, 2, 3, 5, 22, 27, 41] (fun v => eqInv a0.2 a1.2 v.1) (fun v => ((List.length a0.2 : Int) - v.1).toNat) rfl ?_ ?_
     · exact eqStart f0_1
     rintro ⟨(i1 : Int), _⟩ hI1
     have hI1 : eqInv a0.2 a1.2 i1 := hI1
     refine Vq (Vq (Vr hG rfl (by trivial) ?_))
     refine Vk rfl (fun h3 => ?_) (fun h3 => ?_)
     · have hl1 : i1 < (List.length a0.2 : Int) := of_decide_eq_true h3
       refine Vs (Vq (Vb (Vq ?_)))
       refine VrD mixed hG rfl (by kernel_rfl) ?_ ?_
       · exact ⟨(eqRange hI1 hl1).1, (eqRange hI1 hl1).2, trivial⟩
       refine Vk rfl (fun h4 => ?_) (fun h4 => ?_)
       · refine Vq (Vr hG rfl (by trivial) (Vt ?_))
         refine ⟨?_, trivial⟩
         refine eqC_no (fun e => ?_)
         have e : a0 = a1 := e
         have g : (!(eqC (List.getD a0.2 i1.toNat (dflt Y56)) (List.getD a1.2 i1.toNat (dflt Y56)))) = true := h4
         subst e
         exact (nself (eqC_self _)) g
       · have g4 : (!(eqC (List.getD a0.2 i1.toNat (dflt Y56)) (List.getD a1.2 i1.toNat (dflt Y56)))) = false := h4
         have f4_0 : (List.getD a0.2 i1.toNat (dflt Y56)) = (List.getD a1.2 i1.toNat (dflt Y56)) := (eqC_iff.1 (notF g4))
         have s1 : (List.getD a0.2 i1.toNat (dflt Y56)) = (List.getD a1.2 i1.toNat (dflt Y56)) := f4_0
         refine Vs (Vr hG rfl (by trivial) ?_)
         refine ⟨rfl, ?_⟩
         exact ⟨eqStep (d := dflt Y56) hI1 hl1 hb1 s1, (upStep hI1.1 hl1 hb1).2.2⟩
     · have hl1 : ¬ i1 < (List.length a0.2 : Int) := of_decide_eq_false h3
       have e1 : a0.2 = a1.2 := eqEnd hI1 hl1
       refine Vx (Vq (Vr hG rfl (by trivial) (Vt ?_)))
       refine ⟨?_, trivial⟩
       exact eqC_yes (Prod.ext e0 e1)
noncomputable def F199 : Fun := ⟨[.slice Y32, .slice Y32], [.pure (.bool)], fun _ => True, fun x => (eqC x.1 x.2.1, ())⟩
theorem F199_ok : Meets Tryz.prog 199 F199 := by
 refine mV (C := mkC 26 [4] [0,1,4,5,10,14,25] []) (mkC_ok _ _ _ _) (fnOf_ok _) Tryz.func199 rfl rfl rfl (by decide) rfl ?_
 rintro ⟨a0, a1, _⟩ hwf hpre ⟨P, C, B, X, w0, M0, pv⟩ hG rfl rfl
 show Vc _ _ [(0, ⟨0, 0, .c Z36 a0⟩), (1, ⟨0, 0, .c Z36 a1⟩)] _
 have hb : List.length a0 ≤ bigLen := hwf.1.1
 refine Vq (Vr hG rfl (by trivial) (Vq (Vq ?_)))
 refine Vr hG rfl (by trivial) ?_
 refine Vk rfl (fun h0 => ?_) (fun h0 => ?_)
 · have n0 : List.length a0 ≠ List.length a1 := lenNeq h0
   refine Vq (Vr hG rfl (by trivial) (Vt ?_))
   refine ⟨?_, trivial⟩
   exact sameLen n0
 · have e0 : List.length a0 = List.length a1 := lenEq h0
   refine Vs (Vq (Vq (Vr hG rfl (by trivial) ?_)))
   refine Vb ?_
   refine Vc.loopF [(5, false, .pure (.int .i64))] [0, 1, 10] (fun v => sameInv a0 a1 v.1) (fun v => ((List.length a0 : Int) - v.1).toNat) rfl ?_ ?_
   · exact sameStart
   rintro ⟨(i : Int), _⟩ hI
   have hI : sameInv a0 a1 i := hI
   refine Vq (Vq (Vr hG rfl (by trivial) ?_))
   refine Vk rfl (fun h1 => ?_) (fun h1 => ?_)
   · have hl : i < (List.length a0 : Int) := of_decide_eq_true h1
     refine Vs (Vq (Vb (Vq ?_)))
     refine VrD mixed hG rfl (by kernel_rfl) ?_ ?_
     · exact ⟨upRange hI.1 hl, sameRange e0 (upRange hI.1 hl)⟩
     refine Vk rfl (fun h2 => ?_) (fun h2 => ?_)
     · have n2 := stNe h2
       refine Vq (Vr hG rfl (by trivial) (Vt ?_))
       refine ⟨?_, trivial⟩
       exact sameBad hI hl n2
     · have g2 := stEq h2
       refine Vs (Vr hG rfl (by trivial) ?_)
       refine ⟨rfl, ?_⟩
       exact sameStep hI hl hb g2
   · have hl : ¬ i < (List.length a0 : Int) := of_decide_eq_false h1
     refine Vx (Vq (Vr hG rfl (by trivial) (Vt ?_)))
     refine ⟨?_, trivial⟩
     exact sameEnd e0 hI hl
noncomputable def F115 : Fun := ⟨[.pair Y66 Y37, .pair Y66 Y37], [.pair Z70 Z39], fun x => (fun (a b : Evidence) => Sm big20 Y71 a ∧ Sm big20 Y71 b) x.1 x.2.1, fun x => (joinEvF x.1 x.2.1, ())⟩
set_option maxHeartbeats 4000000 in
theorem F115_ok : Meets Tryz.prog 115 F115 := by
 refine mV (C := mkC 98 [4] [0,1,2,3,4,5,6,7,8,9,10,11,18,25,43,59,66,84] [⟨197, _, F197_ok⟩, ⟨198, _, F198_ok⟩, ⟨185, _, F185_ok⟩, ⟨199, _, F199_ok⟩]) (mkC_ok _ _ _ _) (fnOf_ok _) Tryz.func115 rfl rfl rfl (by decide) rfl ?_
 rintro ⟨a0, a1, _⟩ hwf hpre ⟨P, C, B, X, w0, M0, pv⟩ hG rfl rfl
 show Vc _ _ [(0, ⟨0, 0, .c Z72 a0⟩), (1, ⟨0, 0, .c Z72 a1⟩)] _
 have ha := hpre.1
 have hz := hpre.2
 have hS : List.length a1.1 ≤ 1048576 ∧ ∀ x ∈ a1.1, Sm big20 Y63 x := hpre.2.1
 have hT : List.length a1.2 ≤ 1048576 ∧ ∀ x ∈ a1.2, Sm big20 (.slice TStamp) x := hpre.2.2
 have hA1 : List.length a0.1 ≤ 1048576 := hpre.1.1.1
 have hA2 : List.length a0.2 ≤ 1048576 := hpre.1.2.1
 have hb : List.length a1.1 ≤ bigLen := hwf.2.1.1.1
 have hb2 : List.length a1.2 ≤ bigLen := hwf.2.1.2.1
 refine Vq (Vr hG rfl (by trivial) (Vq ?_))
 refine Vr hG rfl ?_ ?_
 · exact ha
 refine Vq (Vq (Vr hG rfl (by trivial) (Vb ?_)))
 refine Vc.loopF [(5, true, .pair Z70 Z39), (6, false, .pure (.int .i64))] [0, 1, 2, 3, 4, 9, 10, 11, 59, 66, 84] (fun v => v.1.2 = a0.2 ∧ foInv (newG eqC) a0.1 a1.1 v.1.1 v.2.1) (fun v => ((List.length a1.1 : Int) - v.2.1).toNat) rfl ?_ ?_
 · exact ⟨rfl, foStart⟩
 rintro ⟨ev, (i : Int), _⟩ hI
 have hI : ev.2 = a0.2 ∧ foInv (newG eqC) a0.1 a1.1 ev.1 i := hI
 refine Vq (Vq (Vr hG rfl (by trivial) ?_))
 refine Vk rfl (fun h0 => ?_) (fun h0 => ?_)
 · have hl : i < (List.length a1.1 : Int) := of_decide_eq_true h0
   have r1 := foRange hI.2 hl
   have hE := hS.2 _ (getD_mem r1 (dflt Y63))
   have hL := newLenI hI.2 hA1 hS.1
   refine Vs (Vq (Vb (Vq ?_)))
   refine Vr hG rfl (by trivial) (Vq (Vq (Vr hG rfl (by trivial) ?_)))
   refine Vb ?_
   refine Vc.loopF [(7, false, .pure (.bool)), (8, false, .pure (.int .i64))] [0, 1, 2, 3, 4, 5, 6, 9, 10, 11, 18, 43, 59, 66, 84] (fun v => exInv (fun (x : Strand) => eqC x (List.getD a1.1 i.toNat (dflt Y63))) ev.1 v.1 v.2.1) (fun v => ((List.length ev.1 : Int) - v.2.1).toNat) rfl ?_ ?_
   · exact exStart
   rintro ⟨b, (k : Int), _⟩ hK
   have hK : exInv (fun (x : Strand) => eqC x (List.getD a1.1 i.toNat (dflt Y63))) ev.1 b k := hK
   refine Vq (Vq (Vr hG rfl (by trivial) ?_))
   refine Vk rfl (fun h1 => ?_) (fun h1 => ?_)
   · have hm : k < (List.length ev.1 : Int) := of_decide_eq_true h1
     have rk := exRange hK hm
     refine Vs (Vq (Vb ?_))
     refine VrD mixed hG rfl (by kernel_rfl) ?_ ?_
     · exact ⟨fun _ => rk, fun _ => r1, fun _ => trivial⟩
     refine Vr hG rfl (by trivial) ?_
     refine ⟨rfl, ?_⟩
     exact exStep (d := dflt Y63) hK hm (newBig hL) rfl
   · have hm : ¬ k < (List.length ev.1 : Int) := of_decide_eq_false h1
     have hX := exEnd hK hm
     refine Vx (Vq (Vr hG rfl (by trivial) ?_))
     refine Vk rfl (fun h2 => ?_) (fun h2 => ?_)
     · have st := foStepE (d := dflt Y63) hI.2 hl hb (newY (q := eqC) hX h2)
       refine VrD mixed hG rfl (by kernel_rfl) ?_ ?_
       · exact ⟨r1, hE, newApW hL⟩
       refine Vr hG rfl (by trivial) ?_
       refine ⟨rfl, ?_⟩
       exact ⟨⟨hI.1, st.1⟩, st.2⟩
     · have st := foStepE (d := dflt Y63) hI.2 hl hb (newN (q := eqC) hX h2)
       refine Vs (Vr hG rfl (by trivial) ?_)
       refine ⟨rfl, ?_⟩
       exact ⟨⟨hI.1, st.1⟩, st.2⟩
 · have hl : ¬ i < (List.length a1.1 : Int) := of_decide_eq_false h0
   have eI := foEnd hI.2 hl
   refine Vx (Vq (Vq (Vr hG rfl (by trivial) ?_)))
   refine Vb ?_
   refine Vc.loopF [(5, true, .pair Z70 Z39), (9, false, .pure (.int .i64))] [0, 1, 2, 3, 4, 6, 7, 8, 18, 25, 43] (fun v => v.1.1 = List.foldl (newG eqC) a0.1 a1.1 ∧ foInv (newG eqC) a0.2 a1.2 v.1.2 v.2.1) (fun v => ((List.length a1.2 : Int) - v.2.1).toNat) rfl ?_ ?_
   · exact ⟨eI, by rw [hI.1]; exact foStart⟩
   rintro ⟨ev2, (j : Int), _⟩ hJ
   have hJ : ev2.1 = List.foldl (newG eqC) a0.1 a1.1 ∧ foInv (newG eqC) a0.2 a1.2 ev2.2 j := hJ
   refine Vq (Vq (Vr hG rfl (by trivial) ?_))
   refine Vk rfl (fun h3 => ?_) (fun h3 => ?_)
   · have hj : j < (List.length a1.2 : Int) := of_decide_eq_true h3
     have r2 := foRange hJ.2 hj
     have hF : List.length (List.getD a1.2 j.toNat (dflt (.slice TStamp))) ≤ big20 := (hT.2 _ (getD_mem r2 (dflt (.slice TStamp)))).1
     have hF4 : List.length (List.getD a1.2 j.toNat (dflt (.slice TStamp))) ≤ 4000000 := Nat.le_trans hF (by decide)
     have hL2 := newLenI hJ.2 hA2 hT.1
     refine Vs (Vq (Vb (Vq ?_)))
     refine Vr hG rfl (by trivial) (Vq (Vq (Vr hG rfl (by trivial) ?_)))
     refine Vb ?_
     refine Vc.loopF [(10, false, .pure (.bool)), (11, false, .pure (.int .i64))] [0, 1, 2, 3, 4, 5, 6, 7, 8, 9, 18, 25, 43, 59, 84] (fun v => exInv (fun (x : List Stamp) => eqC x (List.getD a1.2 j.toNat (dflt (.slice TStamp)))) ev2.2 v.1 v.2.1) (fun v => ((List.length ev2.2 : Int) - v.2.1).toNat) rfl ?_ ?_
     · exact exStart
     rintro ⟨b2, (n : Int), _⟩ hN
     have hN : exInv (fun (x : List Stamp) => eqC x (List.getD a1.2 j.toNat (dflt (.slice TStamp)))) ev2.2 b2 n := hN
     refine Vq (Vq (Vr hG rfl (by trivial) ?_))
     refine Vk rfl (fun h4 => ?_) (fun h4 => ?_)
     · have hn : n < (List.length ev2.2 : Int) := of_decide_eq_true h4
       have rn := exRange hN hn
       refine Vs (Vq (Vb ?_))
       refine VrD mixed hG rfl (by kernel_rfl) ?_ ?_
       · exact ⟨fun _ => rn, fun _ => r2, fun _ => trivial⟩
       refine Vr hG rfl (by trivial) ?_
       refine ⟨rfl, ?_⟩
       exact exStep (d := dflt (.slice TStamp)) hN hn (newBig hL2) rfl
     · have hn : ¬ n < (List.length ev2.2 : Int) := of_decide_eq_false h4
       have hY := exEnd hN hn
       refine Vx (Vq (Vr hG rfl (by trivial) ?_))
       refine Vk rfl (fun h5 => ?_) (fun h5 => ?_)
       · have st := foStepE (d := dflt (.slice TStamp)) hJ.2 hj hb2 (newY (q := eqC) hY h5)
         refine VrD mixed hG rfl (by kernel_rfl) ?_ ?_
         · exact ⟨r2, appOk hF, newApW hL2⟩
         refine Vr hG rfl (by trivial) ?_
         refine ⟨rfl, ?_⟩
         exact ⟨⟨hJ.1, st.1⟩, st.2⟩
       · have st := foStepE (d := dflt (.slice TStamp)) hJ.2 hj hb2 (newN (q := eqC) hY h5)
         refine Vs (Vr hG rfl (by trivial) ?_)
         refine ⟨rfl, ?_⟩
         exact ⟨⟨hJ.1, st.1⟩, st.2⟩
   · have hj : ¬ j < (List.length a1.2 : Int) := of_decide_eq_false h3
     refine Vx (Vq (Vr hG rfl (by trivial) (Vt ?_)))
     refine ⟨?_, trivial⟩
     exact Prod.ext hJ.1 (foEnd hJ.2 hj)
noncomputable def F207 : Fun := ⟨[.int .i64, .int .i64, .int .i64], [.pure (.bool)], fun _ => True, fun x => (inRangeF x.1 x.2.1 x.2.2.1, ())⟩
theorem F207_ok : Meets Tryz.prog 207 F207 := by
 refine mV (C := mkC 15 [6] [0,1,2,6] []) (mkC_ok _ _ _ _) (fnOf_ok _) Tryz.func207 rfl rfl rfl (by decide) rfl ?_
 rintro ⟨(a0 : Int), (a1 : Int), (a2 : Int), _⟩ hwf hpre ⟨P, C, B, X, w0, M0, pv⟩ hG rfl rfl
 show Vc _ _ [(0, ⟨0, 0, .c (.pure (.int .i64)) a0⟩), (1, ⟨0, 0, .c (.pure (.int .i64)) a1⟩), (2, ⟨0, 0, .c (.pure (.int .i64)) a2⟩)] _
 refine Vq (Vr hG rfl (by trivial) (Vq (Vr hG rfl (by trivial) ?_)))
 refine Vt ?_
 refine ⟨?_, trivial⟩
 all_goals exact rfl
noncomputable def F176 : Fun := ⟨[.pair (.int .i64) Y13], [.pure (.bool)], fun _ => True, fun x => (docF x.1, ())⟩
theorem F176_ok : Meets Tryz.prog 176 F176 := by
 refine mV (C := mkC 51 [2] [0,1,2,3,4,9,18,23,32] [⟨207, _, F207_ok⟩]) (mkC_ok _ _ _ _) (fnOf_ok _) Tryz.func176 rfl rfl rfl (by decide) rfl ?_
 rintro ⟨a0, _⟩ hwf hpre ⟨P, C, B, X, w0, M0, pv⟩ hG rfl rfl
 show Vc _ _ [(0, ⟨0, 0, .c Z25 a0⟩)] _
 have hb0 : List.length a0.2.1 ≤ bigLen := hwf.1.2.1.1
 have hb1 : List.length a0.2.2 ≤ bigLen := hwf.1.2.2.1
 refine Vq (Vr hG rfl (by trivial) (Vq (Vq ?_)))
 refine Vr hG rfl (by trivial) (Vb ?_)
 refine Vc.loopF [(3, false, .pure (.int .i64))] [0, 1, 4, 23, 32] (fun v => kInv (fun k => (List.length (List.getD a0.2.1 k (dflt .str)) : Int) ≤ 40) a0.2.1 v.1) (fun v => ((List.length a0.2.1 : Int) - v.1).toNat) rfl ?_ ?_
 · exact kStart
 rintro ⟨(i : Int), _⟩ hI0
 have hI0 : kInv (fun k => (List.length (List.getD a0.2.1 k (dflt .str)) : Int) ≤ 40) a0.2.1 i := hI0
 refine Vq (Vq (Vr hG rfl (by trivial) ?_))
 refine Vk rfl (fun h0 => ?_) (fun h0 => ?_)
 · have hl0 : i < (List.length a0.2.1 : Int) := of_decide_eq_true h0
   refine Vs (Vq (Vb (Vq ?_)))
   refine Vr hG rfl ?_ ?_
   · exact kRange hI0 hl0
   refine Vk rfl (fun h1 => ?_) (fun h1 => ?_)
   · have g1 : (List.length (List.getD a0.2.1 i.toNat (dflt .str)) : Int) > 40 := of_decide_eq_true h1
     refine Vq (Vr hG rfl (by trivial) (Vt ?_))
     refine ⟨?_, trivial⟩
     refine boolC_no (P := docP a0) (fun h => ?_)
     have q := h.2.2.2.1 i.toNat (kLt hI0 hl0)
     exact absurd q (Int.not_le.2 g1)
   · have g1 : ¬ (List.length (List.getD a0.2.1 i.toNat (dflt .str)) : Int) > 40 := of_decide_eq_false h1
     refine Vs (Vr hG rfl (by trivial) ?_)
     refine ⟨rfl, ?_⟩
     exact kStep hI0 hl0 hb0 (show (List.length (List.getD a0.2.1 i.toNat (dflt .str)) : Int) ≤ 40 from Int.not_lt.1 g1)
 · have hl0 : ¬ i < (List.length a0.2.1 : Int) := of_decide_eq_false h0
   refine Vx (Vq (Vq (Vr hG rfl (by trivial) ?_)))
   refine Vb ?_
   refine Vc.loopF [(4, false, .pure (.int .i64))] [0, 1, 3, 9, 18] (fun v => kInv (fun k => inRangeF (List.getD a0.2.2 k (dflt (.int .i64))) 1 1000000000000 = true) a0.2.2 v.1) (fun v => ((List.length a0.2.2 : Int) - v.1).toNat) rfl ?_ ?_
   · exact kStart
   rintro ⟨(i : Int), _⟩ hI1
   have hI1 : kInv (fun k => inRangeF (List.getD a0.2.2 k (dflt (.int .i64))) 1 1000000000000 = true) a0.2.2 i := hI1
   refine Vq (Vq (Vr hG rfl (by trivial) ?_))
   refine Vk rfl (fun h2 => ?_) (fun h2 => ?_)
   · have hl1 : i < (List.length a0.2.2 : Int) := of_decide_eq_true h2
     refine Vs (Vq (Vb (Vq ?_)))
     refine Vr hG rfl ?_ ?_
     · exact ⟨kRange hI1 hl1, trivial⟩
     refine Vk rfl (fun h3 => ?_) (fun h3 => ?_)
     · have g3 : (!(inRangeF (List.getD a0.2.2 i.toNat (dflt (.int .i64))) 1 1000000000000)) = true := h3
       refine Vq (Vr hG rfl (by trivial) (Vt ?_))
       refine ⟨?_, trivial⟩
       refine boolC_no (P := docP a0) (fun h => ?_)
       exact nself (h.2.2.2.2 i.toNat (kLt hI1 hl1)) g3
     · have g3 : (!(inRangeF (List.getD a0.2.2 i.toNat (dflt (.int .i64))) 1 1000000000000)) = false := h3
       refine Vs (Vr hG rfl (by trivial) ?_)
       refine ⟨rfl, ?_⟩
       exact kStep hI1 hl1 hb1 (notF g3)
   · have hl1 : ¬ i < (List.length a0.2.2 : Int) := of_decide_eq_false h2
     refine Vx (Vq ?_)
     refine Vr hG rfl ?_ ?_
     · repeat' (first | exact trivial | refine And.intro ?_ ?_ | intro _)
     refine Vt ?_
     refine ⟨?_, trivial⟩
     refine boolC_by (P := docP a0) (fun e => ?_) (fun h => ?_)
     · exact ⟨(andT (andT e).1).1, (andT (andT e).1).2, lenBeqI (andT e).2, kEnd hI0 hl0, kEnd hI1 hl1⟩
     · exact yesAnd (yesAnd h.1 h.2.1) (lenBeq h.2.2.1)
noncomputable def F303 : Fun := ⟨[.int .i64, .int .i64], [.pure (.int .i64)], fun _ => True, fun x => (modF x.1 x.2.1, ())⟩
theorem F303_ok : Meets Tryz.prog 303 F303 := by
 refine mV (C := mkC 15 [4] [0,1,4,7] [⟨207, _, F207_ok⟩]) (mkC_ok _ _ _ _) (fnOf_ok _) Tryz.func303 rfl rfl rfl (by decide) rfl ?_
 rintro ⟨(a0 : Int), (a1 : Int), _⟩ hwf hpre ⟨P, C, B, X, w0, M0, pv⟩ hG rfl rfl
 show Vc _ _ [(0, ⟨0, 0, .c (.pure (.int .i64)) a0⟩), (1, ⟨0, 0, .c (.pure (.int .i64)) a1⟩)] _
 refine Vq (Vr hG rfl (by trivial) (Vq (Vq ?_)))
 refine Vr hG rfl (by trivial) ?_
 refine Vk rfl (fun h0 => ?_) (fun h0 => ?_)
 · have g0 : (!(inRangeF a1 1 1000000000000)) = true := h0
   refine Vq (Vr hG rfl (by trivial) (Vt ?_))
   refine ⟨?_, trivial⟩
   show (0 : Int) = modF a0 a1
   unfold modF
   rw [if_neg (by simpa using g0)]
 · have g0 : (!(inRangeF a1 1 1000000000000)) = false := h0
   refine Vs (Vq ?_)
   refine Vr hG rfl ?_ ?_
   · exact ⟨inR_pos h0, inR_pos h0⟩
   refine Vt ?_
   refine ⟨?_, trivial⟩
   show _ = modF a0 a1
   unfold modF
   rw [if_pos (by simpa using g0)]
noncomputable def F263 : Fun := ⟨[.slice (.int .i64)], [.pure (.int .i64)], fun _ => True, fun x => (hashF x.1, ())⟩
theorem F263_ok : Meets Tryz.prog 263 F263 := by
 refine mV (C := mkC 22 [2] [0,2,3,4,8] [⟨303, _, F303_ok⟩]) (mkC_ok _ _ _ _) (fnOf_ok _) Tryz.func263 rfl rfl rfl (by decide) rfl ?_
 rintro ⟨a0, _⟩ hwf hpre ⟨P, C, B, X, w0, M0, pv⟩ hG rfl rfl
 show Vc _ _ [(0, ⟨0, 0, .c Z2 a0⟩)] _
 have hb : List.length a0 ≤ bigLen := hwf.1.1
 refine Vq (Vr hG rfl (by trivial) (Vq (Vr hG rfl (by trivial) ?_)))
 refine Vq (Vq (Vr hG rfl (by trivial) (Vb ?_)))
 refine Vc.loopF [(3, false, .pure (.int .i64)), (4, false, .pure (.int .i64))] [0, 2] (fun v => foInv (hstep) (11) a0 v.1 v.2.1) (fun v => ((List.length a0 : Int) - v.2.1).toNat) rfl ?_ ?_
 · exact foStart
 rintro ⟨acc, (i : Int), _⟩ hI
 have hI : foInv (hstep) (11) a0 acc i := hI
 refine Vq (Vq (Vr hG rfl (by trivial) ?_))
 refine Vk rfl (fun h0 => ?_) (fun h0 => ?_)
 · have hl : i < (List.length a0 : Int) := of_decide_eq_true h0
   refine Vs (Vq (Vb ?_))
   refine Vr hG rfl ?_ ?_
   · exact ⟨foRange hI hl, trivial, (show (2147483647 : Int) ≠ 0 by decide)⟩
   refine Vr hG rfl (by trivial) ?_
   refine ⟨rfl, ?_⟩
   exact foStep hI hl hb
 · have hl : ¬ i < (List.length a0 : Int) := of_decide_eq_false h0
   refine Vx (Vq (Vr hG rfl (by trivial) (Vt ?_)))
   refine ⟨?_, trivial⟩
   exact foEnd hI hl
noncomputable def F178 : Fun := ⟨[.int .i64, .slice (.int .i64)], [.pure (.int .i64)], fun x => (fun (_ : Int) (l : List Int) => smallL l) x.1 x.2.1, fun x => (digestF x.1 x.2.1, ())⟩
theorem F178_ok : Meets Tryz.prog 178 F178 := by
 refine mV (C := mkC 10 [4] [0,1,4] [⟨263, _, F263_ok⟩]) (mkC_ok _ _ _ _) (fnOf_ok _) Tryz.func178 rfl rfl rfl (by decide) rfl ?_
 rintro ⟨(a0 : Int), a1, _⟩ hwf hpre ⟨P, C, B, X, w0, M0, pv⟩ hG rfl rfl
 show Vc _ _ [(0, ⟨0, 0, .c (.pure (.int .i64)) a0⟩), (1, ⟨0, 0, .c Z2 a1⟩)] _
 have hp : List.length a1 ≤ 1000000000 := hpre
 refine Vq (Vr hG rfl (by trivial) (Vq ?_))
 refine Vr hG rfl ?_ ?_
 · refine ⟨?_, trivial⟩
   show 2 + List.length a1 ≤ maxApp
   unfold maxApp; omega
 refine Vt ?_
 refine ⟨?_, trivial⟩
 exact (digest_eq a0 a1).symm
noncomputable def F177 : Fun := ⟨[.int .i64, .str, .int .i64], [.pure (.int .i64)], fun x => (fun (_ : Int) (s : List UInt8) (_ : Int) => s.length ≤ 40) x.1 x.2.1 x.2.2.1, fun x => (partF x.1 x.2.1 x.2.2.1, ())⟩
theorem F177_ok : Meets Tryz.prog 177 F177 := by
 refine mV (C := mkC 27 [6] [0,1,2,6,7,8,14] [⟨178, _, F178_ok⟩]) (mkC_ok _ _ _ _) (fnOf_ok _) Tryz.func177 rfl rfl rfl (by decide) rfl ?_
 rintro ⟨(a0 : Int), a1, (a2 : Int), _⟩ hwf hpre ⟨P, C, B, X, w0, M0, pv⟩ hG rfl rfl
 show Vc _ _ [(0, ⟨0, 0, .c (.pure (.int .i64)) a0⟩), (1, ⟨0, 0, .c (.pure (.str)) a1⟩), (2, ⟨0, 0, .c (.pure (.int .i64)) a2⟩)] _
 have hp : List.length a1 ≤ 40 := hpre
 have hb : List.length a1 ≤ bigLen := hwf.2.1
 refine Vq (Vr hG rfl (by trivial) (Vq (Vr hG rfl (by trivial) ?_)))
 refine Vq (Vq (Vr hG rfl (by trivial) (Vb ?_)))
 refine Vc.loopF [(7, false, .own (.pure (.int .i64))), (8, false, .pure (.int .i64))] [0, 1, 2, 6] (fun v => gsInv (partG a1) [a2] a1 v.1 v.2.1) (fun v => ((List.length a1 : Int) - v.2.1).toNat) rfl ?_ ?_
 · exact gsStart
 rintro ⟨acc, (i : Int), _⟩ hI
 have hI : gsInv (partG a1) [a2] a1 acc i := hI
 have hA : List.length acc ≤ 41 := gsLen (c := 1) (m := 40) hI (fun _ => Nat.le_refl _) hp (by simp)
 refine Vq (Vq (Vr hG rfl (by trivial) ?_))
 refine Vk rfl (fun h0 => ?_) (fun h0 => ?_)
 · have hl : i < (List.length a1 : Int) := of_decide_eq_true h0
   refine Vs (Vq (Vb ?_))
   refine Vr hG rfl ?_ ?_
   · exact ⟨gsRange hI hl, (show List.length acc + 1 ≤ maxApp from by unfold maxApp; omega)⟩
   refine Vr hG rfl (by trivial) ?_
   refine ⟨rfl, ?_⟩
   exact gsStep hI hl hb rfl
 · have hl : ¬ i < (List.length a1 : Int) := of_decide_eq_false h0
   refine Vx (Vq ?_)
   refine Vr hG rfl ?_ ?_
   · exact (show List.length acc ≤ 1000000000 from by omega)
   refine Vt ?_
   refine ⟨?_, trivial⟩
   exact congrArg (digestF a0) (gsEnd hI hl)
noncomputable def F97 : Fun := ⟨[.int .i64, .pair (.int .i64) Y13], [.pure (.int .i64)], fun _ => True, fun x => (docDigF x.1 x.2.1, ())⟩
theorem F97_ok : Meets Tryz.prog 97 F97 := by
 refine mV (C := mkC 38 [4] [0,1,3,4,5,6,9,17] [⟨176, _, F176_ok⟩, ⟨177, _, F177_ok⟩, ⟨178, _, F178_ok⟩]) (mkC_ok _ _ _ _) (fnOf_ok _) Tryz.func97 rfl rfl rfl (by decide) rfl ?_
 rintro ⟨(a0 : Int), a1, _⟩ hwf hpre ⟨P, C, B, X, w0, M0, pv⟩ hG rfl rfl
 show Vc _ _ [(0, ⟨0, 0, .c (.pure (.int .i64)) a0⟩), (1, ⟨0, 0, .c Z25 a1⟩)] _
 have hb : List.length a1.2.1 ≤ bigLen := hwf.2.1.2.1.1
 refine Vq (Vr hG rfl (by trivial) (Vq (Vq ?_)))
 refine Vr hG rfl (by trivial) ?_
 refine Vk rfl (fun h0 => ?_) (fun h0 => ?_)
 · have g0 : (!(docF a1)) = true := h0
   refine Vq (Vr hG rfl (by trivial) (Vt ?_))
   refine ⟨?_, trivial⟩
   exact docDig0 g0
 · have g0 : (!(docF a1)) = false := h0
   have hd := docP_of g0
   have h6 : List.length a1.2.1 ≤ 6 := docN hd
   refine Vs (Vq (Vr hG rfl (by trivial) (Vq ?_)))
   refine Vq (Vr hG rfl (by trivial) (Vb ?_))
   refine Vc.loopF [(5, false, .own (.pure (.int .i64))), (6, false, .pure (.int .i64))] [0, 1, 3, 4, 9] (fun v => gsInv (docG a0 a1) [a1.1] a1.2.1 v.1 v.2.1) (fun v => ((List.length a1.2.1 : Int) - v.2.1).toNat) rfl ?_ ?_
   · exact gsStart
   rintro ⟨acc, (i : Int), _⟩ hI
   have hI : gsInv (docG a0 a1) [a1.1] a1.2.1 acc i := hI
   have hA : List.length acc ≤ 7 := gsLen (c := 1) (m := 6) hI (fun _ => Nat.le_refl _) h6 (by simp)
   refine Vq (Vq (Vr hG rfl (by trivial) ?_))
   refine Vk rfl (fun h1 => ?_) (fun h1 => ?_)
   · have hl : i < (List.length a1.2.1 : Int) := of_decide_eq_true h1
     refine Vs (Vq (Vb ?_))
     refine VrD mixed hG rfl (by kernel_rfl) ?_ ?_
     · exact ⟨gsRange hI hl, docX hd hI hl, doc40 hd hI hl, (show List.length acc + 1 ≤ maxApp from by unfold maxApp; omega)⟩
     refine Vr hG rfl (by trivial) ?_
     refine ⟨rfl, ?_⟩
     exact gsStep hI hl hb rfl
   · have hl : ¬ i < (List.length a1.2.1 : Int) := of_decide_eq_false h1
     refine Vx (Vq ?_)
     refine Vr hG rfl ?_ ?_
     · exact (show List.length acc ≤ 1000000000 from by omega)
     refine Vt ?_
     refine ⟨?_, trivial⟩
     have e := docDig1 (id := a0) (d := a1) (acc := acc) (i := i) g0 hI hl
     exact e
noncomputable def F175 : Fun := ⟨[.pair Y23 Y59, .pair (.int .i64) Y13], [.own (.pure (.int .i64))], fun x => (fun (s : Strand) (_ : Doc) => List.length s.2 ≤ 2000000) x.1 x.2.1, fun x => (docDigsF x.1 x.2.1, ())⟩
theorem F175_ok : Meets Tryz.prog 175 F175 := by
 refine mV (C := mkC 27 [4] [0,1,2,3,4,5,6,12] [⟨97, _, F97_ok⟩]) (mkC_ok _ _ _ _) (fnOf_ok _) Tryz.func175 rfl rfl rfl (by decide) rfl ?_
 rintro ⟨a0, a1, _⟩ hwf hpre ⟨P, C, B, X, w0, M0, pv⟩ hG rfl rfl
 show Vc _ _ [(0, ⟨0, 0, .c Z65 a0⟩), (1, ⟨0, 0, .c Z25 a1⟩)] _
 have hs : List.length a0.2 ≤ 2000000 := hpre
 have hb : List.length a0.2 ≤ bigLen := hwf.1.2.1
 refine Vq (Vr hG rfl (by trivial) (Vq (Vr hG rfl (by trivial) ?_)))
 refine Vq (Vq (Vr hG rfl (by trivial) (Vb ?_)))
 refine Vc.loopF [(5, false, .own (.pure (.int .i64))), (6, false, .pure (.int .i64))] [0, 1, 2, 3, 4] (fun v => pkInv (ddF a1) a0.2 v.1 v.2.1) (fun v => ((List.length a0.2 : Int) - v.2.1).toNat) rfl ?_ ?_
 · exact pkStart
 rintro ⟨acc, (i : Int), _⟩ hI
 have hI : pkInv (ddF a1) a0.2 acc i := hI
 refine Vq (Vq (Vr hG rfl (by trivial) ?_))
 refine Vk rfl (fun h0 => ?_) (fun h0 => ?_)
 · have hl : i < (List.length a0.2 : Int) := of_decide_eq_true h0
   refine Vs (Vq (Vb ?_))
   refine VrD mixed hG rfl (by kernel_rfl) ?_ ?_
   · exact ⟨pkRange hI hl, trivial, pkLen2 hI hs⟩
   refine Vr hG rfl (by trivial) ?_
   refine ⟨rfl, ?_⟩
   exact pkYes (d := dflt Y56) hI hl hb rfl
 · have hl : ¬ i < (List.length a0.2 : Int) := of_decide_eq_false h0
   refine Vx (Vq (Vr hG rfl (by trivial) (Vt ?_)))
   refine ⟨?_, trivial⟩
   exact pkEnd hI hl
noncomputable def F96 : Fun := ⟨[.pair Y66 Y37, .pair (.int .i64) Y13], [.own Z0], fun x => (fun (e : Evidence) (_ : Doc) => Sm big20 Y66 e.1) x.1 x.2.1, fun x => (allDigsF x.1 x.2.1, ())⟩
theorem F96_ok : Meets Tryz.prog 96 F96 := by
 refine mV (C := mkC 26 [4] [0,1,2,3,4,5,6,12] [⟨175, _, F175_ok⟩]) (mkC_ok _ _ _ _) (fnOf_ok _) Tryz.func96 rfl rfl rfl (by decide) rfl ?_
 rintro ⟨a0, a1, _⟩ hwf hpre ⟨P, C, B, X, w0, M0, pv⟩ hG rfl rfl
 show Vc _ _ [(0, ⟨0, 0, .c Z72 a0⟩), (1, ⟨0, 0, .c Z25 a1⟩)] _
 have hS : Sm big20 Y66 a0.1 := hpre
 have hs : List.length a0.1 ≤ 1048576 := hS.1
 have hb : List.length a0.1 ≤ bigLen := hwf.1.1.1
 refine Vq (Vr hG rfl (by trivial) (Vq (Vr hG rfl (by trivial) ?_)))
 refine Vq (Vq (Vr hG rfl (by trivial) (Vb ?_)))
 refine Vc.loopF [(5, false, .own Z0), (6, false, .pure (.int .i64))] [0, 1, 2, 3, 4] (fun v => pkInv (adF a1) a0.1 v.1 v.2.1) (fun v => ((List.length a0.1 : Int) - v.2.1).toNat) rfl ?_ ?_
 · exact pkStart
 rintro ⟨acc, (i : Int), _⟩ hI
 have hI : pkInv (adF a1) a0.1 acc i := hI
 refine Vq (Vq (Vr hG rfl (by trivial) ?_))
 refine Vk rfl (fun h0 => ?_) (fun h0 => ?_)
 · have hl : i < (List.length a0.1 : Int) := of_decide_eq_true h0
   have r1 := pkRange hI hl
   have hE : List.length (List.getD a0.1 i.toNat (dflt Y63)).2 ≤ 2000000 := Nat.le_trans (hS.2 _ (getD_mem r1 _)).2.1 (by decide)
   refine Vs (Vq (Vb ?_))
   refine VrD mixed hG rfl (by kernel_rfl) ?_ ?_
   · exact ⟨r1, hE, pkLen hI hs⟩
   refine Vr hG rfl (by trivial) ?_
   refine ⟨rfl, ?_⟩
   exact pkYes (d := dflt Y63) hI hl hb rfl
 · have hl : ¬ i < (List.length a0.1 : Int) := of_decide_eq_false h0
   refine Vx (Vq (Vr hG rfl (by trivial) (Vt ?_)))
   refine ⟨?_, trivial⟩
   exact pkEnd hI hl
noncomputable def F208 : Fun := ⟨[.int .i64], [.pure (.bool)], fun _ => True, fun x => (isTimeF x.1, ())⟩
theorem F208_ok : Meets Tryz.prog 208 F208 := by
 refine mV (C := mkC 5 [2] [0,2] [⟨207, _, F207_ok⟩]) (mkC_ok _ _ _ _) (fnOf_ok _) Tryz.func208 rfl rfl rfl (by decide) rfl ?_
 rintro ⟨(a0 : Int), _⟩ hwf hpre ⟨P, C, B, X, w0, M0, pv⟩ hG rfl rfl
 show Vc _ _ [(0, ⟨0, 0, .c (.pure (.int .i64)) a0⟩)] _
 refine Vq (Vr hG rfl (by trivial) (Vq (Vr hG rfl (by trivial) ?_)))
 refine Vt ?_
 refine ⟨?_, trivial⟩
 all_goals exact rfl
noncomputable def F308 : Fun := ⟨[.int .i64], [.pure (.bool)], fun _ => True, fun x => (validKeyF x.1, ())⟩
theorem F308_ok : Meets Tryz.prog 308 F308 := by
 refine mV (C := mkC 5 [2] [0,2] [⟨207, _, F207_ok⟩]) (mkC_ok _ _ _ _) (fnOf_ok _) Tryz.func308 rfl rfl rfl (by decide) rfl ?_
 rintro ⟨(a0 : Int), _⟩ hwf hpre ⟨P, C, B, X, w0, M0, pv⟩ hG rfl rfl
 show Vc _ _ [(0, ⟨0, 0, .c (.pure (.int .i64)) a0⟩)] _
 refine Vq (Vr hG rfl (by trivial) (Vq (Vr hG rfl (by trivial) ?_)))
 refine Vt ?_
 refine ⟨?_, trivial⟩
 all_goals exact rfl
noncomputable def F279 : Fun := ⟨[.pair (.int .i64) Y24], [.pure (.bool)], fun _ => True, fun x => (isKeyF x.1, ())⟩
theorem F279_ok : Meets Tryz.prog 279 F279 := by
 refine mV (C := mkC 26 [2] [0,1,2] [⟨207, _, F207_ok⟩, ⟨208, _, F208_ok⟩, ⟨308, _, F308_ok⟩]) (mkC_ok _ _ _ _) (fnOf_ok _) Tryz.func279 rfl rfl rfl (by decide) rfl ?_
 rintro ⟨a0, _⟩ hwf hpre ⟨P, C, B, X, w0, M0, pv⟩ hG rfl rfl
 show Vc _ _ [(0, ⟨0, 0, .c Z33 a0⟩)] _
 refine Vq (Vr hG rfl (by trivial) (Vq ?_))
 refine Vr hG rfl ?_ ?_
 · repeat' (first | exact trivial | refine And.intro ?_ ?_ | intro _)
 refine Vt ?_
 refine ⟨?_, trivial⟩
 all_goals exact rfl
noncomputable def F204 : Fun := ⟨[.slice Y32], [.pure (.bool)], fun _ => True, fun x => (areKeysF x.1, ())⟩
theorem F204_ok : Meets Tryz.prog 204 F204 := by
 refine mV (C := mkC 37 [2] [0,2,3,7,33] [⟨279, _, F279_ok⟩]) (mkC_ok _ _ _ _) (fnOf_ok _) Tryz.func204 rfl rfl rfl (by decide) rfl ?_
 rintro ⟨a0, _⟩ hwf hpre ⟨P, C, B, X, w0, M0, pv⟩ hG rfl rfl
 show Vc _ _ [(0, ⟨0, 0, .c Z36 a0⟩)] _
 have hb : List.length a0 ≤ bigLen := hwf.1.1
 refine Vq (Vr hG rfl (by trivial) (Vq (Vq ?_)))
 refine Vr hG rfl (by trivial) (Vb ?_)
 refine Vc.loopF [(3, false, .pure (.int .i64))] [0] (fun v => kInv (areG isKeyF (fun k => k.1) (dflt (TKey)) a0) a0 v.1) (fun v => ((List.length a0 : Int) - v.1).toNat) rfl ?_ ?_
 · exact kStart
 rintro ⟨(i : Int), _⟩ hI
 have hI : kInv (areG isKeyF (fun k => k.1) (dflt (TKey)) a0) a0 i := hI
 refine Vq (Vq (Vr hG rfl (by trivial) ?_))
 refine Vk rfl (fun h0 => ?_) (fun h0 => ?_)
 · have hl : i < (List.length a0 : Int) := of_decide_eq_true h0
   refine Vs (Vq (Vb (Vq ?_)))
   refine VrD mixed hG rfl (by kernel_rfl) ?_ ?_
   · repeat' (first | exact trivial | exact kRange hI hl | (intro _ h2; exact prevIdx (kRange hI hl) (of_decide_eq_true h2) hb) | (intro h2; exact prevIdx (kRange hI hl) (of_decide_eq_true h2) hb) | refine And.intro ?_ ?_ | intro _)
   refine Vk rfl (fun h1 => ?_) (fun h1 => ?_)
   · have g1 : areT isKeyF (fun k => k.1) (dflt (TKey)) a0 i = true := h1
     refine Vq (Vr hG rfl (by trivial) (Vt ?_))
     refine ⟨?_, trivial⟩
     exact areBad (m := 12) hI hl hb g1
   · have g1 : areT isKeyF (fun k => k.1) (dflt (TKey)) a0 i = false := h1
     refine Vs (Vr hG rfl (by trivial) ?_)
     refine ⟨rfl, ?_⟩
     exact areStep hI hl hb g1
 · have hl : ¬ i < (List.length a0 : Int) := of_decide_eq_false h0
   refine Vx (Vq (Vr hG rfl (by trivial) (Vt ?_)))
   refine ⟨?_, trivial⟩
   exact areEnd (m := 12) hI hl
noncomputable def F205 : Fun := ⟨[.slice Y15], [.pure (.bool)], fun _ => True, fun x => (areAuthsF x.1, ())⟩
theorem F205_ok : Meets Tryz.prog 205 F205 := by
 refine mV (C := mkC 56 [2] [0,2,3,7,52] [⟨207, _, F207_ok⟩]) (mkC_ok _ _ _ _) (fnOf_ok _) Tryz.func205 rfl rfl rfl (by decide) rfl ?_
 rintro ⟨a0, _⟩ hwf hpre ⟨P, C, B, X, w0, M0, pv⟩ hG rfl rfl
 show Vc _ _ [(0, ⟨0, 0, .c Z21 a0⟩)] _
 have hb : List.length a0 ≤ bigLen := hwf.1.1
 refine Vq (Vr hG rfl (by trivial) (Vq (Vq ?_)))
 refine Vr hG rfl (by trivial) (Vb ?_)
 refine Vc.loopF [(3, false, .pure (.int .i64))] [0] (fun v => kInv (areG isAuthF (fun k => k.1) (dflt (TAuth)) a0) a0 v.1) (fun v => ((List.length a0 : Int) - v.1).toNat) rfl ?_ ?_
 · exact kStart
 rintro ⟨(i : Int), _⟩ hI
 have hI : kInv (areG isAuthF (fun k => k.1) (dflt (TAuth)) a0) a0 i := hI
 refine Vq (Vq (Vr hG rfl (by trivial) ?_))
 refine Vk rfl (fun h0 => ?_) (fun h0 => ?_)
 · have hl : i < (List.length a0 : Int) := of_decide_eq_true h0
   refine Vs (Vq (Vb (Vq ?_)))
   refine VrD mixed hG rfl (by kernel_rfl) ?_ ?_
   · repeat' (first | exact trivial | exact kRange hI hl | (intro _ h2; exact prevIdx (kRange hI hl) (of_decide_eq_true h2) hb) | (intro h2; exact prevIdx (kRange hI hl) (of_decide_eq_true h2) hb) | refine And.intro ?_ ?_ | intro _)
   refine Vk rfl (fun h1 => ?_) (fun h1 => ?_)
   · have g1 : areT isAuthF (fun k => k.1) (dflt (TAuth)) a0 i = true := (nor3 _ _ _ _).symm.trans h1
     refine Vq (Vr hG rfl (by trivial) (Vt ?_))
     refine ⟨?_, trivial⟩
     exact areBad (m := 6) hI hl hb g1
   · have g1 : areT isAuthF (fun k => k.1) (dflt (TAuth)) a0 i = false := (nor3 _ _ _ _).symm.trans h1
     refine Vs (Vr hG rfl (by trivial) ?_)
     refine ⟨rfl, ?_⟩
     exact areStep hI hl hb g1
 · have hl : ¬ i < (List.length a0 : Int) := of_decide_eq_false h0
   refine Vx (Vq (Vr hG rfl (by trivial) (Vt ?_)))
   refine ⟨?_, trivial⟩
   exact areEnd (m := 6) hI hl
noncomputable def F280 : Fun := ⟨[.pair (.int .i64) Y15], [.pure (.bool)], fun _ => True, fun x => (isMethodF x.1, ())⟩
theorem F280_ok : Meets Tryz.prog 280 F280 := by
 refine mV (C := mkC 35 [2] [0,1,2] [⟨207, _, F207_ok⟩, ⟨208, _, F208_ok⟩]) (mkC_ok _ _ _ _) (fnOf_ok _) Tryz.func280 rfl rfl rfl (by decide) rfl ?_
 rintro ⟨a0, _⟩ hwf hpre ⟨P, C, B, X, w0, M0, pv⟩ hG rfl rfl
 show Vc _ _ [(0, ⟨0, 0, .c Z27 a0⟩)] _
 refine Vq (Vr hG rfl (by trivial) (Vq ?_))
 refine Vr hG rfl ?_ ?_
 · repeat' (first | exact trivial | refine And.intro ?_ ?_ | intro _)
 refine Vt ?_
 refine ⟨?_, trivial⟩
 all_goals exact rfl
noncomputable def F206 : Fun := ⟨[.slice Y24], [.pure (.bool)], fun _ => True, fun x => (areMethodsF x.1, ())⟩
theorem F206_ok : Meets Tryz.prog 206 F206 := by
 refine mV (C := mkC 37 [2] [0,2,3,7,33] [⟨280, _, F280_ok⟩]) (mkC_ok _ _ _ _) (fnOf_ok _) Tryz.func206 rfl rfl rfl (by decide) rfl ?_
 rintro ⟨a0, _⟩ hwf hpre ⟨P, C, B, X, w0, M0, pv⟩ hG rfl rfl
 show Vc _ _ [(0, ⟨0, 0, .c Z30 a0⟩)] _
 have hb : List.length a0 ≤ bigLen := hwf.1.1
 refine Vq (Vr hG rfl (by trivial) (Vq (Vq ?_)))
 refine Vr hG rfl (by trivial) (Vb ?_)
 refine Vc.loopF [(3, false, .pure (.int .i64))] [0] (fun v => kInv (areG isMethodF (fun k => k.1) (dflt (TMethod)) a0) a0 v.1) (fun v => ((List.length a0 : Int) - v.1).toNat) rfl ?_ ?_
 · exact kStart
 rintro ⟨(i : Int), _⟩ hI
 have hI : kInv (areG isMethodF (fun k => k.1) (dflt (TMethod)) a0) a0 i := hI
 refine Vq (Vq (Vr hG rfl (by trivial) ?_))
 refine Vk rfl (fun h0 => ?_) (fun h0 => ?_)
 · have hl : i < (List.length a0 : Int) := of_decide_eq_true h0
   refine Vs (Vq (Vb (Vq ?_)))
   refine VrD mixed hG rfl (by kernel_rfl) ?_ ?_
   · repeat' (first | exact trivial | exact kRange hI hl | (intro _ h2; exact prevIdx (kRange hI hl) (of_decide_eq_true h2) hb) | (intro h2; exact prevIdx (kRange hI hl) (of_decide_eq_true h2) hb) | refine And.intro ?_ ?_ | intro _)
   refine Vk rfl (fun h1 => ?_) (fun h1 => ?_)
   · have g1 : areT isMethodF (fun k => k.1) (dflt (TMethod)) a0 i = true := h1
     refine Vq (Vr hG rfl (by trivial) (Vt ?_))
     refine ⟨?_, trivial⟩
     exact areBad (m := 8) hI hl hb g1
   · have g1 : areT isMethodF (fun k => k.1) (dflt (TMethod)) a0 i = false := h1
     refine Vs (Vr hG rfl (by trivial) ?_)
     refine ⟨rfl, ?_⟩
     exact areStep hI hl hb g1
 · have hl : ¬ i < (List.length a0 : Int) := of_decide_eq_false h0
   refine Vx (Vq (Vr hG rfl (by trivial) (Vt ?_)))
   refine ⟨?_, trivial⟩
   exact areEnd (m := 8) hI hl
noncomputable def F118 : Fun := ⟨[.pair Y34 Y55], [.pure (.bool)], fun _ => True, fun x => (isFrameF x.1, ())⟩
theorem F118_ok : Meets Tryz.prog 118 F118 := by
 refine mV (C := mkC 26 [2] [0,1,2] [⟨204, _, F204_ok⟩, ⟨205, _, F205_ok⟩, ⟨206, _, F206_ok⟩, ⟨207, _, F207_ok⟩, ⟨208, _, F208_ok⟩]) (mkC_ok _ _ _ _) (fnOf_ok _) Tryz.func118 rfl rfl rfl (by decide) rfl ?_
 rintro ⟨a0, _⟩ hwf hpre ⟨P, C, B, X, w0, M0, pv⟩ hG rfl rfl
 show Vc _ _ [(0, ⟨0, 0, .c Z67 a0⟩)] _
 refine Vq (Vr hG rfl (by trivial) (Vq ?_))
 refine Vr hG rfl ?_ ?_
 · repeat' (first | exact trivial | refine And.intro ?_ ?_ | intro _)
 refine Vt ?_
 refine ⟨?_, trivial⟩
 all_goals exact rfl
noncomputable def F55 : Fun := ⟨[.int .i64], [.pure Y24], fun _ => True, fun x => ((fun (r : Int) => ((3, r, (0, 0)) : Verdict)) x.1, ())⟩
theorem F55_ok : Meets Tryz.prog 55 F55 := by
 refine mV (C := mkC 5 [2] [0,2] []) (mkC_ok _ _ _ _) (fnOf_ok _) Tryz.func55 rfl rfl rfl (by decide) rfl ?_
 rintro ⟨(a0 : Int), _⟩ hwf hpre ⟨P, C, B, X, w0, M0, pv⟩ hG rfl rfl
 show Vc _ _ [(0, ⟨0, 0, .c (.pure (.int .i64)) a0⟩)] _
 refine Vq (Vr hG rfl (by trivial) (Vq (Vr hG rfl (by trivial) ?_)))
 refine Vt ?_
 refine ⟨?_, trivial⟩
 all_goals exact rfl
noncomputable def F119 : Fun := ⟨[.pair (.int .i64) Y48], [.pure (.bool)], fun _ => True, fun x => (isSigF x.1, ())⟩
theorem F119_ok : Meets Tryz.prog 119 F119 := by
 refine mV (C := mkC 41 [2] [0,1,2] [⟨207, _, F207_ok⟩]) (mkC_ok _ _ _ _) (fnOf_ok _) Tryz.func119 rfl rfl rfl (by decide) rfl ?_
 rintro ⟨a0, _⟩ hwf hpre ⟨P, C, B, X, w0, M0, pv⟩ hG rfl rfl
 show Vc _ _ [(0, ⟨0, 0, .c Z52 a0⟩)] _
 refine Vq (Vr hG rfl (by trivial) (Vq ?_))
 refine Vr hG rfl ?_ ?_
 · repeat' (first | exact trivial | refine And.intro ?_ ?_ | intro _)
 refine Vt ?_
 refine ⟨?_, trivial⟩
 all_goals exact rfl
noncomputable def F120 : Fun := ⟨[.int .i64], [.pure Y24], fun _ => True, fun x => ((fun (r : Int) => ((2, r, (0, 0)) : Verdict)) x.1, ())⟩
theorem F120_ok : Meets Tryz.prog 120 F120 := by
 refine mV (C := mkC 5 [2] [0,2] []) (mkC_ok _ _ _ _) (fnOf_ok _) Tryz.func120 rfl rfl rfl (by decide) rfl ?_
 rintro ⟨(a0 : Int), _⟩ hwf hpre ⟨P, C, B, X, w0, M0, pv⟩ hG rfl rfl
 show Vc _ _ [(0, ⟨0, 0, .c (.pure (.int .i64)) a0⟩)] _
 refine Vq (Vr hG rfl (by trivial) (Vq (Vr hG rfl (by trivial) ?_)))
 refine Vt ?_
 refine ⟨?_, trivial⟩
 all_goals exact rfl
noncomputable def F53 : Fun := ⟨[.slice Y32, .int .i64], [.pure (.int .i64)], fun _ => True, fun x => ((fun a0 a1 => findI (fun x => x.1 == a1) a0) x.1 x.2.1, ())⟩
theorem F53_ok : Meets Tryz.prog 53 F53 := by
 refine mV (C := mkC 20 [4] [0,1,4,5,9,18] []) (mkC_ok _ _ _ _) (fnOf_ok _) Tryz.func53 rfl rfl rfl (by decide) rfl ?_
 rintro ⟨a0, (a1 : Int), _⟩ hwf hpre ⟨P, C, B, X, w0, M0, pv⟩ hG rfl rfl
 show Vc _ _ [(0, ⟨0, 0, .c Z36 a0⟩), (1, ⟨0, 0, .c (.pure (.int .i64)) a1⟩)] _
 have hb : List.length a0 ≤ bigLen := hwf.1.1
 refine Vq (Vr hG rfl (by trivial) (Vq (Vq ?_)))
 refine Vr hG rfl (by trivial) (Vb ?_)
 refine Vc.loopF [(5, false, .pure (.int .i64))] [0, 1] (fun v => fInv (fun x => x.1 == a1) a0 v.1) (fun v => ((List.length a0 : Int) - v.1).toNat) rfl ?_ ?_
 · exact fStart
 rintro ⟨(i : Int), _⟩ hI
 have hI : fInv (fun x => x.1 == a1) a0 i := hI
 refine Vq (Vq (Vr hG rfl (by trivial) ?_))
 refine Vk rfl (fun h0 => ?_) (fun h0 => ?_)
 · have hl : i < (List.length a0 : Int) := of_decide_eq_true h0
   refine Vs (Vq (Vb (Vq ?_)))
   refine Vr hG rfl ?_ ?_
   · exact fRange hI hl
   refine Vk rfl (fun h1 => ?_) (fun h1 => ?_)
   · have g1 : (fun x => x.1 == a1) (List.getD a0 i.toNat (dflt Y32)) = true := h1
     refine Vq (Vr hG rfl (by trivial) (Vt ?_))
     refine ⟨?_, trivial⟩
     exact fHit hI hl g1
   · have g1 : (fun x => x.1 == a1) (List.getD a0 i.toNat (dflt Y32)) = false := h1
     refine Vs (Vr hG rfl (by trivial) ?_)
     refine ⟨rfl, ?_⟩
     exact fStep hI hl hb g1
 · have hl : ¬ i < (List.length a0 : Int) := of_decide_eq_false h0
   refine Vx (Vq (Vr hG rfl (by trivial) (Vt ?_)))
   refine ⟨?_, trivial⟩
   exact fEnd hI hl
noncomputable def F124 : Fun := ⟨[.pair (.int .i64) Y48], [.own (.pure (.int .i64))], fun _ => True, fun x => (sigIntsF x.1, ())⟩
theorem F124_ok : Meets Tryz.prog 124 F124 := by
 refine mV (C := mkC 20 [2] [0,1,2] []) (mkC_ok _ _ _ _) (fnOf_ok _) Tryz.func124 rfl rfl rfl (by decide) rfl ?_
 rintro ⟨a0, _⟩ hwf hpre ⟨P, C, B, X, w0, M0, pv⟩ hG rfl rfl
 show Vc _ _ [(0, ⟨0, 0, .c Z52 a0⟩)] _
 refine Vq (Vr hG rfl (by trivial) (Vq (Vr hG rfl (by trivial) ?_)))
 refine Vt ?_
 refine ⟨?_, trivial⟩
 all_goals exact rfl
noncomputable def F309 : Fun := ⟨[.int .i64, .slice (.int .i64)], [.pure (.int .i64)], fun x => (fun (_ : Int) (l : List Int) => l.length ≤ 1000000001) x.1 x.2.1, fun x => (keyedF x.1 x.2.1, ())⟩
theorem F309_ok : Meets Tryz.prog 309 F309 := by
 refine mV (C := mkC 13 [4] [0,1,4] [⟨263, _, F263_ok⟩]) (mkC_ok _ _ _ _) (fnOf_ok _) Tryz.func309 rfl rfl rfl (by decide) rfl ?_
 rintro ⟨(a0 : Int), a1, _⟩ hwf hpre ⟨P, C, B, X, w0, M0, pv⟩ hG rfl rfl
 show Vc _ _ [(0, ⟨0, 0, .c (.pure (.int .i64)) a0⟩), (1, ⟨0, 0, .c Z2 a1⟩)] _
 have hp : List.length a1 ≤ 1000000001 := hpre
 refine Vq (Vr hG rfl (by trivial) (Vq ?_))
 refine Vr hG rfl ?_ ?_
 · refine ⟨?_, ?_, trivial⟩
   · show 1 + List.length a1 ≤ maxApp
     unfold maxApp; omega
   · show (List.length a1 + 1) + 1 ≤ maxApp
     unfold maxApp; omega
 refine Vt ?_
 refine ⟨?_, trivial⟩
 all_goals exact rfl
noncomputable def F281 : Fun := ⟨[.pair (.int .i64) Y24, .slice (.int .i64)], [.pure (.int .i64)], fun x => (fun (_ : Key) (l : List Int) => smallL l) x.1 x.2.1, fun x => (markWithF x.1 x.2.1, ())⟩
theorem F281_ok : Meets Tryz.prog 281 F281 := by
 refine mV (C := mkC 13 [4] [0,1,2,4] [⟨309, _, F309_ok⟩]) (mkC_ok _ _ _ _) (fnOf_ok _) Tryz.func281 rfl rfl rfl (by decide) rfl ?_
 rintro ⟨a0, a1, _⟩ hwf hpre ⟨P, C, B, X, w0, M0, pv⟩ hG rfl rfl
 show Vc _ _ [(0, ⟨0, 0, .c Z33 a0⟩), (1, ⟨0, 0, .c Z2 a1⟩)] _
 have hp : List.length a1 ≤ 1000000000 := hpre
 refine Vq (Vr hG rfl (by trivial) (Vq ?_))
 refine VrD mixed hG rfl (by kernel_rfl) ?_ ?_
 · refine ⟨?_, ?_⟩
   · show 1 + List.length a1 ≤ maxApp
     unfold maxApp; omega
   · show List.length a1 + 1 ≤ 1000000001
     omega
 refine Vt ?_
 refine ⟨?_, trivial⟩
 all_goals exact rfl
noncomputable def F209 : Fun := ⟨[.slice Y32, .int .i64, .slice (.int .i64), .int .i64], [.pure (.bool)], fun x => (fun (_ : List Key) (_ : Int) (l : List Int) (_ : Int) => smallL l) x.1 x.2.1 x.2.2.1 x.2.2.2.1, fun x => (checkMarkF x.1 x.2.1 x.2.2.1 x.2.2.2.1, ())⟩
theorem F209_ok : Meets Tryz.prog 209 F209 := by
 refine mV (C := mkC 25 [8] [0,1,2,3,8,9] [⟨53, _, F53_ok⟩, ⟨281, _, F281_ok⟩]) (mkC_ok _ _ _ _) (fnOf_ok _) Tryz.func209 rfl rfl rfl (by decide) rfl ?_
 rintro ⟨a0, (a1 : Int), a2, (a3 : Int), _⟩ hwf hpre ⟨P, C, B, X, w0, M0, pv⟩ hG rfl rfl
 show Vc _ _ [(0, ⟨0, 0, .c Z36 a0⟩), (1, ⟨0, 0, .c (.pure (.int .i64)) a1⟩), (2, ⟨0, 0, .c Z2 a2⟩), (3, ⟨0, 0, .c (.pure (.int .i64)) a3⟩)] _
 have hp : smallL a2 := hpre
 refine Vq (Vr hG rfl (by trivial) (Vq (Vr hG rfl (by trivial) ?_)))
 refine Vq ?_
 refine Vr hG rfl ?_ ?_
 · exact ⟨fun h => findRange (show ¬ keyI a0 a1 < 0 from by have : keyI a0 a1 ≥ 0 := of_decide_eq_true h; omega), fun _ => hp⟩
 refine Vt ?_
 refine ⟨?_, trivial⟩
 all_goals exact rfl
noncomputable def F121 : Fun := ⟨[.slice Y32, .pair (.int .i64) Y48], [.pure (.bool)], fun _ => True, fun x => (checkSigF x.1 x.2.1, ())⟩
theorem F121_ok : Meets Tryz.prog 121 F121 := by
 refine mV (C := mkC 17 [4] [0,1,3,4] [⟨119, _, F119_ok⟩, ⟨124, _, F124_ok⟩, ⟨209, _, F209_ok⟩]) (mkC_ok _ _ _ _) (fnOf_ok _) Tryz.func121 rfl rfl rfl (by decide) rfl ?_
 rintro ⟨a0, a1, _⟩ hwf hpre ⟨P, C, B, X, w0, M0, pv⟩ hG rfl rfl
 show Vc _ _ [(0, ⟨0, 0, .c Z36 a0⟩), (1, ⟨0, 0, .c Z52 a1⟩)] _
 refine Vq (Vr hG rfl (by trivial) (Vq ?_))
 refine VrD mixed hG rfl (by kernel_rfl) ?_ ?_
 · repeat' (first | exact trivial | exact smallLit (n := 9) rfl (by decide) | refine And.intro ?_ ?_ | intro _)
 refine Vt ?_
 refine ⟨?_, trivial⟩
 all_goals exact rfl
noncomputable def F50 : Fun := ⟨[.pair Y34 Y55, .int .i64, .pair (.int .i64) Y48], [.pure Y24], fun _ => True, fun x => (formF x.1 x.2.1 x.2.2.1, ())⟩
theorem F50_ok : Meets Tryz.prog 50 F50 := by
 refine mV (C := mkC 43 [6] [0,1,2,3,5,6,7,12,17,21,27,35] [⟨118, _, F118_ok⟩, ⟨55, _, F55_ok⟩, ⟨119, _, F119_ok⟩, ⟨120, _, F120_ok⟩, ⟨53, _, F53_ok⟩, ⟨121, _, F121_ok⟩]) (mkC_ok _ _ _ _) (fnOf_ok _) Tryz.func50 rfl rfl rfl (by decide) rfl ?_
 rintro ⟨a0, (a1 : Int), a2, _⟩ hwf hpre ⟨P, C, B, X, w0, M0, pv⟩ hG rfl rfl
 show Vc _ _ [(0, ⟨0, 0, .c Z67 a0⟩), (1, ⟨0, 0, .c (.pure (.int .i64)) a1⟩), (2, ⟨0, 0, .c Z52 a2⟩)] _
 refine Vq (Vr hG rfl (by trivial) (Vq (Vb ?_)))
 refine Vq (Vr hG rfl (by trivial) ?_)
 refine Vk rfl (fun h0 => ?_) (fun h0 => ?_)
 · refine Vq (Vr hG rfl (by trivial) (Vt ?_))
   refine ⟨?_, trivial⟩
   exact fo1 h0
 · refine Vq (Vr hG rfl (by trivial) ?_)
   refine Vk rfl (fun h1 => ?_) (fun h1 => ?_)
   · refine Vq (Vr hG rfl (by trivial) (Vt ?_))
     refine ⟨?_, trivial⟩
     exact fo2' h0 h1
   · refine Vq (Vr hG rfl (by trivial) ?_)
     refine Vk rfl (fun h2 => ?_) (fun h2 => ?_)
     · refine Vq (Vr hG rfl (by trivial) (Vt ?_))
       refine ⟨?_, trivial⟩
       exact fo3' h0 h1 h2
     · refine Vq (Vr hG rfl (by trivial) ?_)
       refine Vk rfl (fun h3 => ?_) (fun h3 => ?_)
       · refine Vq (Vr hG rfl (by trivial) (Vt ?_))
         refine ⟨?_, trivial⟩
         exact fo4 h0 h1 h2 h3
       · refine Vq (Vr hG rfl (by trivial) ?_)
         refine Vk rfl (fun h4 => ?_) (fun h4 => ?_)
         · refine Vq (Vr hG rfl (by trivial) (Vt ?_))
           refine ⟨?_, trivial⟩
           exact fo5 h0 h1 h2 h3 h4
         · refine Vq (Vr hG rfl (by trivial) ?_)
           refine Vk rfl (fun h5 => ?_) (fun h5 => ?_)
           · refine Vq (Vr hG rfl (by trivial) (Vt ?_))
             refine ⟨?_, trivial⟩
             exact fo6 h0 h1 h2 h3 h4 h5
           · refine Vs (Vq (Vr hG rfl (by trivial) (Vt ?_)))
             refine ⟨?_, trivial⟩
             exact fo7 h0 h1 h2 h3 h4 h5
noncomputable def F52 : Fun := ⟨[.pair (.int .i64) Y48], [.pair (.pure (.int .i64)) Z16], fun _ => True, fun x => (signPieceF x.1, ())⟩
theorem F52_ok : Meets Tryz.prog 52 F52 := by
 refine mV (C := mkC 10 [2] [0,1,2] [⟨124, _, F124_ok⟩]) (mkC_ok _ _ _ _) (fnOf_ok _) Tryz.func52 rfl rfl rfl (by decide) rfl ?_
 rintro ⟨a0, _⟩ hwf hpre ⟨P, C, B, X, w0, M0, pv⟩ hG rfl rfl
 show Vc _ _ [(0, ⟨0, 0, .c Z52 a0⟩)] _
 refine Vq (Vr hG rfl (by trivial) (Vq (VrD mixed hG rfl (by kernel_rfl) (by trivial) ?_)))
 refine Vt ?_
 refine ⟨?_, trivial⟩
 all_goals exact rfl
noncomputable def F210 : Fun := ⟨[.pair Y23 Y59, .pair (.int .i64) Y9], [.pure (.int .i64)], fun _ => True, fun x => ((fun a0 a1 => findI (fun x => eqC x a1) a0.1) x.1 x.2.1, ())⟩
theorem F210_ok : Meets Tryz.prog 210 F210 := by
 refine mV (C := mkC 21 [4] [0,1,2,3,4,5,10,19] [⟨214, _, F214_ok⟩]) (mkC_ok _ _ _ _) (fnOf_ok _) Tryz.func210 rfl rfl rfl (by decide) rfl ?_
 rintro ⟨a0, a1, _⟩ hwf hpre ⟨P, C, B, X, w0, M0, pv⟩ hG rfl rfl
 show Vc _ _ [(0, ⟨0, 0, .c Z65 a0⟩), (1, ⟨0, 0, .c Z22 a1⟩)] _
 have hb : List.length a0.1 ≤ bigLen := hwf.1.1.1
 refine Vq (Vr hG rfl (by trivial) (Vq (Vq ?_)))
 refine Vr hG rfl (by trivial) (Vb ?_)
 refine Vc.loopF [(5, false, .pure (.int .i64))] [0, 1, 2, 3] (fun v => fInv (fun x => eqC x a1) a0.1 v.1) (fun v => ((List.length a0.1 : Int) - v.1).toNat) rfl ?_ ?_
 · exact fStart
 rintro ⟨(i : Int), _⟩ hI
 have hI : fInv (fun x => eqC x a1) a0.1 i := hI
 refine Vq (Vq (Vr hG rfl (by trivial) ?_))
 refine Vk rfl (fun h0 => ?_) (fun h0 => ?_)
 · have hl : i < (List.length a0.1 : Int) := of_decide_eq_true h0
   refine Vs (Vq (Vb (Vq ?_)))
   refine VrD mixed hG rfl (by kernel_rfl) ?_ ?_
   · exact ⟨fRange hI hl, trivial⟩
   refine Vk rfl (fun h1 => ?_) (fun h1 => ?_)
   · have g1 : (fun x => eqC x a1) (List.getD a0.1 i.toNat (dflt Y19)) = true := h1
     refine Vq (Vr hG rfl (by trivial) (Vt ?_))
     refine ⟨?_, trivial⟩
     exact fHit hI hl g1
   · have g1 : (fun x => eqC x a1) (List.getD a0.1 i.toNat (dflt Y19)) = false := h1
     refine Vs (Vr hG rfl (by trivial) ?_)
     refine ⟨rfl, ?_⟩
     exact fStep hI hl hb g1
 · have hl : ¬ i < (List.length a0.1 : Int) := of_decide_eq_false h0
   refine Vx (Vq (Vr hG rfl (by trivial) (Vt ?_)))
   refine ⟨?_, trivial⟩
   exact fEnd hI hl
noncomputable def F286 : Fun := ⟨[.slice Y15, .int .i64], [.pure (.int .i64)], fun _ => True, fun x => ((fun a0 a1 => findI (fun x => x.1 == a1) a0) x.1 x.2.1, ())⟩
theorem F286_ok : Meets Tryz.prog 286 F286 := by
 refine mV (C := mkC 20 [4] [0,1,4,5,9,18] []) (mkC_ok _ _ _ _) (fnOf_ok _) Tryz.func286 rfl rfl rfl (by decide) rfl ?_
 rintro ⟨a0, (a1 : Int), _⟩ hwf hpre ⟨P, C, B, X, w0, M0, pv⟩ hG rfl rfl
 show Vc _ _ [(0, ⟨0, 0, .c Z21 a0⟩), (1, ⟨0, 0, .c (.pure (.int .i64)) a1⟩)] _
 have hb : List.length a0 ≤ bigLen := hwf.1.1
 refine Vq (Vr hG rfl (by trivial) (Vq (Vq ?_)))
 refine Vr hG rfl (by trivial) (Vb ?_)
 refine Vc.loopF [(5, false, .pure (.int .i64))] [0, 1] (fun v => fInv (fun x => x.1 == a1) a0 v.1) (fun v => ((List.length a0 : Int) - v.1).toNat) rfl ?_ ?_
 · exact fStart
 rintro ⟨(i : Int), _⟩ hI
 have hI : fInv (fun x => x.1 == a1) a0 i := hI
 refine Vq (Vq (Vr hG rfl (by trivial) ?_))
 refine Vk rfl (fun h0 => ?_) (fun h0 => ?_)
 · have hl : i < (List.length a0 : Int) := of_decide_eq_true h0
   refine Vs (Vq (Vb (Vq ?_)))
   refine Vr hG rfl ?_ ?_
   · exact fRange hI hl
   refine Vk rfl (fun h1 => ?_) (fun h1 => ?_)
   · have g1 : (fun x => x.1 == a1) (List.getD a0 i.toNat (dflt Y15)) = true := h1
     refine Vq (Vr hG rfl (by trivial) (Vt ?_))
     refine ⟨?_, trivial⟩
     exact fHit hI hl g1
   · have g1 : (fun x => x.1 == a1) (List.getD a0 i.toNat (dflt Y15)) = false := h1
     refine Vs (Vr hG rfl (by trivial) ?_)
     refine ⟨rfl, ?_⟩
     exact fStep hI hl hb g1
 · have hl : ¬ i < (List.length a0 : Int) := of_decide_eq_false h0
   refine Vx (Vq (Vr hG rfl (by trivial) (Vt ?_)))
   refine ⟨?_, trivial⟩
   exact fEnd hI hl
noncomputable def F132 : Fun := ⟨[.int .i64, .int .i64], [.pure (.int .i64)], fun _ => True, fun x => ((fun (a b : Int) => max a b) x.1 x.2.1, ())⟩
theorem F132_ok : Meets Tryz.prog 132 F132 := by
 refine mV (C := mkC 10 [4] [0,1,4,7] []) (mkC_ok _ _ _ _) (fnOf_ok _) Tryz.func132 rfl rfl rfl (by decide) rfl ?_
 rintro ⟨(a0 : Int), (a1 : Int), _⟩ hwf hpre ⟨P, C, B, X, w0, M0, pv⟩ hG rfl rfl
 show Vc _ _ [(0, ⟨0, 0, .c (.pure (.int .i64)) a0⟩), (1, ⟨0, 0, .c (.pure (.int .i64)) a1⟩)] _
 refine Vq (Vr hG rfl (by trivial) (Vq (Vq ?_)))
 refine Vr hG rfl (by trivial) ?_
 refine Vk rfl (fun h0 => ?_) (fun h0 => ?_)
 · refine Vq (Vr hG rfl (by trivial) (Vt ?_))
   refine ⟨?_, trivial⟩
   exact maxT h0
 · refine Vs (Vq (Vr hG rfl (by trivial) (Vt ?_)))
   refine ⟨?_, trivial⟩
   exact maxE h0
noncomputable def F122 : Fun := ⟨[.int .i64, .int .i64], [.pure (.int .i64)], fun _ => True, fun x => ((fun (a b : Int) => min a b) x.1 x.2.1, ())⟩
theorem F122_ok : Meets Tryz.prog 122 F122 := by
 refine mV (C := mkC 10 [4] [0,1,4,7] []) (mkC_ok _ _ _ _) (fnOf_ok _) Tryz.func122 rfl rfl rfl (by decide) rfl ?_
 rintro ⟨(a0 : Int), (a1 : Int), _⟩ hwf hpre ⟨P, C, B, X, w0, M0, pv⟩ hG rfl rfl
 show Vc _ _ [(0, ⟨0, 0, .c (.pure (.int .i64)) a0⟩), (1, ⟨0, 0, .c (.pure (.int .i64)) a1⟩)] _
 refine Vq (Vr hG rfl (by trivial) (Vq (Vq ?_)))
 refine Vr hG rfl (by trivial) ?_
 refine Vk rfl (fun h0 => ?_) (fun h0 => ?_)
 · refine Vq (Vr hG rfl (by trivial) (Vt ?_))
   refine ⟨?_, trivial⟩
   exact minT h0
 · refine Vs (Vq (Vr hG rfl (by trivial) (Vt ?_)))
   refine ⟨?_, trivial⟩
   exact minE h0
noncomputable def F230 : Fun := ⟨[.int .i64, .int .i64], [.pure Y4, .pure (.bool)], fun _ => True, fun x => ((makeSpanF x.1 x.2.1).1, (makeSpanF x.1 x.2.1).2, ())⟩
theorem F230_ok : Meets Tryz.prog 230 F230 := by
 refine mV (C := mkC 19 [4, 5] [0,1,4,5,6,16] [⟨132, _, F132_ok⟩, ⟨122, _, F122_ok⟩]) (mkC_ok _ _ _ _) (fnOf_ok _) Tryz.func230 rfl rfl rfl (by decide) rfl ?_
 rintro ⟨(a0 : Int), (a1 : Int), _⟩ hwf hpre ⟨P, C, B, X, w0, M0, pv⟩ hG rfl rfl
 show Vc _ _ [(0, ⟨0, 0, .c (.pure (.int .i64)) a0⟩), (1, ⟨0, 0, .c (.pure (.int .i64)) a1⟩)] _
 refine Vq (Vr hG rfl (by trivial) (Vq (Vr hG rfl (by trivial) ?_)))
 refine Vq (Vq (Vr hG rfl (by trivial) ?_))
 refine Vk rfl (fun h0 => ?_) (fun h0 => ?_)
 · have g0 : max 0 a0 > min 10000 a1 := of_decide_eq_true h0
   refine Vq (Vr hG rfl (by trivial) (Vt ?_))
   have e := mkSp0 g0
   refine ⟨?_, ?_, trivial⟩
   · exact (congrArg Prod.fst e).symm
   · exact (congrArg Prod.snd e).symm
 · have g0 : ¬ max 0 a0 > min 10000 a1 := of_decide_eq_false h0
   refine Vs (Vq (Vr hG rfl (by trivial) (Vt ?_)))
   have e := mkSp1 g0
   refine ⟨?_, ?_, trivial⟩
   · exact (congrArg Prod.fst e).symm
   · exact (congrArg Prod.snd e).symm
noncomputable def F220 : Fun := ⟨[.slice Y15, .pair (.int .i64) Y24], [.pure Y4, .pure (.bool)], fun _ => True, fun x => ((stampSpanF x.1 x.2.1).1, (stampSpanF x.1 x.2.1).2, ())⟩
theorem F220_ok : Meets Tryz.prog 220 F220 := by
 refine mV (C := mkC 47 [4, 5] [0,1,3,4,5,6,26] [⟨286, _, F286_ok⟩, ⟨208, _, F208_ok⟩, ⟨230, _, F230_ok⟩]) (mkC_ok _ _ _ _) (fnOf_ok _) Tryz.func220 rfl rfl rfl (by decide) rfl ?_
 rintro ⟨a0, a1, _⟩ hwf hpre ⟨P, C, B, X, w0, M0, pv⟩ hG rfl rfl
 show Vc _ _ [(0, ⟨0, 0, .c Z21 a0⟩), (1, ⟨0, 0, .c Z33 a1⟩)] _
 refine Vq (Vr hG rfl (by trivial) (Vq (Vr hG rfl (by trivial) ?_)))
 refine Vq (Vq ?_)
 refine Vr hG rfl ?_ ?_
 · exact ⟨fun h => findRange (of_decide_eq_false h), fun _ => trivial⟩
 refine Vk rfl (fun h0 => ?_) (fun h0 => ?_)
 · have g0 : ssBad a0 a1 = true := h0
   refine Vq (Vr hG rfl (by trivial) (Vt ?_))
   have e := ss0 g0
   refine ⟨?_, ?_, trivial⟩
   · exact (congrArg Prod.fst e).symm
   · exact (congrArg Prod.snd e).symm
 · have g0 : ssBad a0 a1 = false := h0
   refine Vs (Vq ?_)
   refine VrD mixed hG rfl (by kernel_rfl) ?_ ?_
   · exact ⟨ssIdx g0, ssIdx g0, trivial⟩
   refine Vt ?_
   have e := ss1 g0
   refine ⟨?_, ?_, trivial⟩
   · exact (congrArg Prod.fst e).symm
   · exact (congrArg Prod.snd e).symm
noncomputable def F137 : Fun := ⟨[.pair (.int .i64) (.int .i64)], [.pure (.bool)], fun _ => True, fun x => (isSpanF x.1, ())⟩
theorem F137_ok : Meets Tryz.prog 137 F137 := by
 refine mV (C := mkC 18 [2] [0,1,2] [⟨208, _, F208_ok⟩]) (mkC_ok _ _ _ _) (fnOf_ok _) Tryz.func137 rfl rfl rfl (by decide) rfl ?_
 rintro ⟨a0, _⟩ hwf hpre ⟨P, C, B, X, w0, M0, pv⟩ hG rfl rfl
 show Vc _ _ [(0, ⟨0, 0, .c Z8 a0⟩)] _
 refine Vq (Vr hG rfl (by trivial) (Vq ?_))
 refine Vr hG rfl ?_ ?_
 · repeat' (first | exact trivial | refine And.intro ?_ ?_ | intro _)
 refine Vt ?_
 refine ⟨?_, trivial⟩
 all_goals exact rfl
noncomputable def F313 : Fun := ⟨[.slice Y4, .int .i64], [.pure (.int .i64)], fun _ => True, fun x => (countAtF x.1 x.2.1, ())⟩
theorem F313_ok : Meets Tryz.prog 313 F313 := by
 refine mV (C := mkC 39 [4] [0,1,4,5,6,10,35] [⟨137, _, F137_ok⟩]) (mkC_ok _ _ _ _) (fnOf_ok _) Tryz.func313 rfl rfl rfl (by decide) rfl ?_
 rintro ⟨a0, (a1 : Int), _⟩ hwf hpre ⟨P, C, B, X, w0, M0, pv⟩ hG rfl rfl
 show Vc _ _ [(0, ⟨0, 0, .c Z14 a0⟩), (1, ⟨0, 0, .c (.pure (.int .i64)) a1⟩)] _
 have hb : List.length a0 ≤ bigLen := hwf.1.1
 refine Vq (Vr hG rfl (by trivial) (Vq (Vr hG rfl (by trivial) ?_)))
 refine Vq (Vq (Vr hG rfl (by trivial) (Vb ?_)))
 refine Vc.loopF [(5, false, .pure (.int .i64)), (6, false, .pure (.int .i64))] [0, 1, 4] (fun v => foInv (cntStep a1) 0 a0 v.1 v.2.1) (fun v => ((List.length a0 : Int) - v.2.1).toNat) rfl ?_ ?_
 · exact foStart
 rintro ⟨(acc : Int), (i : Int), _⟩ hI
 have hI : foInv (cntStep a1) 0 a0 acc i := hI
 refine Vq (Vq (Vr hG rfl (by trivial) ?_))
 refine Vk rfl (fun h0 => ?_) (fun h0 => ?_)
 · have hl : i < (List.length a0 : Int) := of_decide_eq_true h0
   refine Vs (Vq (Vb (Vq ?_)))
   refine Vr hG rfl ?_ ?_
   · repeat' (first | exact trivial | exact foRange hI hl | refine And.intro ?_ ?_ | intro _)
   refine Vk rfl (fun h1 => ?_) (fun h1 => ?_)
   · have g1 : inSp a1 (List.getD a0 i.toNat (dflt Y4)) = true := cntSpec.symm.trans h1
     have st := foStepE (d := dflt Y4) hI hl hb (cntY (n := acc) g1).symm
     refine Vr hG rfl (by trivial) (Vr hG rfl (by trivial) ?_)
     refine ⟨rfl, ?_⟩
     exact st
   · have g1 : inSp a1 (List.getD a0 i.toNat (dflt Y4)) = false := cntSpec.symm.trans h1
     have st := foStepE (d := dflt Y4) hI hl hb (cntN (n := acc) g1).symm
     refine Vs (Vr hG rfl (by trivial) ?_)
     refine ⟨rfl, ?_⟩
     exact st
 · have hl : ¬ i < (List.length a0 : Int) := of_decide_eq_false h0
   refine Vx (Vq (Vr hG rfl (by trivial) (Vt ?_)))
   refine ⟨?_, trivial⟩
   exact foEnd hI hl
noncomputable def F288 : Fun := ⟨[.slice Y4, .int .i64, .int .i64], [.pure (.bool)], fun _ => True, fun x => (supF x.1 x.2.1 x.2.2.1, ())⟩
theorem F288_ok : Meets Tryz.prog 288 F288 := by
 refine mV (C := mkC 22 [6] [0,1,2,6] [⟨207, _, F207_ok⟩, ⟨313, _, F313_ok⟩]) (mkC_ok _ _ _ _) (fnOf_ok _) Tryz.func288 rfl rfl rfl (by decide) rfl ?_
 rintro ⟨a0, (a1 : Int), (a2 : Int), _⟩ hwf hpre ⟨P, C, B, X, w0, M0, pv⟩ hG rfl rfl
 show Vc _ _ [(0, ⟨0, 0, .c Z14 a0⟩), (1, ⟨0, 0, .c (.pure (.int .i64)) a1⟩), (2, ⟨0, 0, .c (.pure (.int .i64)) a2⟩)] _
 refine Vq (Vr hG rfl (by trivial) (Vq ?_))
 refine Vr hG rfl ?_ ?_
 · repeat' (first | exact trivial | refine And.intro ?_ ?_ | intro _)
 refine Vt ?_
 refine ⟨?_, trivial⟩
 all_goals exact rfl
end Fw
