/- Walks of functions of the program: what each computes. Conditions: those that each contract names. -/
import Derived.Test.YtoccddagjnebbaaGreatW8T
import Derived.Test.YtoccddagjnebbaaGreatW8m0
namespace Fw
open Go Go.Proofs
set_option linter.unusedSimpArgs false
set_option maxRecDepth 100000
noncomputable def F172 : Fun := ⟨[.pair (.int .i64) Y4, .pair (.int .i64) Y4], [.pure (.bool)], fun _ => True, fun x => (eqC x.1 x.2.1, ())⟩
theorem F172_ok : Meets Tryz.prog 172 F172 := by
 refine mV (C := mkC 20 [4] [0,1,2,3,4,9,14,19] []) (mkC_ok _ _ _ _) (fnOf_ok _) Tryz.func172 rfl rfl rfl (by decide) rfl ?_
 rintro ⟨a0, a1, _⟩ hwf hpre ⟨P, C, B, X, w0, M0, pv⟩ hG rfl rfl
 show Vc _ _ [(0, ⟨0, 0, .c Z17 a0⟩), (1, ⟨0, 0, .c Z17 a1⟩)] _
 refine Vq (Vr hG rfl (by trivial) (Vq (Vq ?_)))
 refine Vr hG rfl (by trivial) ?_
 refine Vk rfl (fun h0 => ?_) (fun h0 => ?_)
 · refine Vq (Vr hG rfl (by trivial) (Vt ?_))
   refine ⟨?_, trivial⟩
   exact eqC_no (fun e => absurd (show (a0.1 != a1.1) = true from h0) (by have e : a0 = a1 := e; rw [e]; simp))
 · have g0 : a0.1 = a1.1 := bneI h0
   refine Vs (Vq (Vq (Vr hG rfl (by trivial) ?_)))
   refine Vk rfl (fun h1 => ?_) (fun h1 => ?_)
   · refine Vq (Vr hG rfl (by trivial) (Vt ?_))
     refine ⟨?_, trivial⟩
     exact eqC_no (fun e => absurd (show (a0.2.1 != a1.2.1) = true from h1) (by have e : a0 = a1 := e; rw [e]; simp))
   · have g1 : a0.2.1 = a1.2.1 := bneI h1
     refine Vs (Vq (Vq (Vr hG rfl (by trivial) ?_)))
     refine Vk rfl (fun h2 => ?_) (fun h2 => ?_)
     · refine Vq (Vr hG rfl (by trivial) (Vt ?_))
       refine ⟨?_, trivial⟩
       exact eqC_no (fun e => absurd (show (a0.2.2 != a1.2.2) = true from h2) (by have e : a0 = a1 := e; rw [e]; simp))
     · have g2 : a0.2.2 = a1.2.2 := bneI h2
       refine Vs (Vq (Vr hG rfl (by trivial) (Vt ?_)))
       refine ⟨?_, trivial⟩
       exact eqC_yes (Prod.ext g0 (Prod.ext g1 g2))
noncomputable def F90 : Fun := ⟨[.slice Y15, .slice Y15], [.pure (.bool)], fun _ => True, fun x => (eqC x.1 x.2.1, ())⟩
theorem F90_ok : Meets Tryz.prog 90 F90 := by
 refine mV (C := mkC 27 [4] [0,1,4,5,10,14,26] [⟨172, _, F172_ok⟩]) (mkC_ok _ _ _ _) (fnOf_ok _) Tryz.func90 rfl rfl rfl (by decide) rfl ?_
 rintro ⟨a0, a1, _⟩ hwf hpre ⟨P, C, B, X, w0, M0, pv⟩ hG rfl rfl
 show Vc _ _ [(0, ⟨0, 0, .c Z21 a0⟩), (1, ⟨0, 0, .c Z21 a1⟩)] _
 have hb : List.length a0 ≤ bigLen := hwf.1.1
 refine Vq (Vr hG rfl (by trivial) (Vq (Vq ?_)))
 refine Vr hG rfl (by trivial) ?_
 refine Vk rfl (fun h0 => ?_) (fun h0 => ?_)
 · refine Vq (Vr hG rfl (by trivial) (Vt ?_))
   refine ⟨?_, trivial⟩
   exact eqC_no (fun e => absurd (show ((List.length a0 : Int) != (List.length a1 : Int)) = true from h0) (by have e : a0 = a1 := e; rw [e]; simp))
 · have g0 : List.length a0 = List.length a1 := lenEq h0
   refine Vs (Vq (Vq (Vr hG rfl (by trivial) ?_)))
   refine Vb ?_
   refine Vc.loopF [(5, false, .pure (.int .i64))] [0, 1, 10] (fun v => eqInv a0 a1 v.1) (fun v => ((List.length a0 : Int) - v.1).toNat) rfl ?_ ?_
   · exact eqStart g0
   rintro ⟨(i : Int), _⟩ hI
   have hI : eqInv a0 a1 i := hI
   refine Vq (Vq (Vr hG rfl (by trivial) ?_))
   refine Vk rfl (fun h1 => ?_) (fun h1 => ?_)
   · have hl : i < (List.length a0 : Int) := of_decide_eq_true h1
     refine Vs (Vq (Vb (Vq ?_)))
     refine VrD mixed hG rfl (by kernel_rfl) ?_ ?_
     · exact ⟨(eqRange hI hl).1, (eqRange hI hl).2, trivial⟩
     refine Vk rfl (fun h2 => ?_) (fun h2 => ?_)
     · have g2 : (!(eqC (List.getD a0 i.toNat (dflt Y15)) (List.getD a1 i.toNat (dflt Y15)))) = true := h2
       refine Vq (Vr hG rfl (by trivial) (Vt ?_))
       refine ⟨?_, trivial⟩
       exact eqNo (d := dflt Y15) (i := i) (fun e => by rw [e, eqC_self] at g2; cases g2)
     · have g2 : (List.getD a0 i.toNat (dflt Y15)) = (List.getD a1 i.toNat (dflt Y15)) := notC h2
       refine Vs (Vr hG rfl (by trivial) ?_)
       refine ⟨rfl, ?_⟩
       exact ⟨eqStep (d := dflt Y15) hI hl hb g2, (upStep hI.1 hl hb).2.2⟩
   · have hl : ¬ i < (List.length a0 : Int) := of_decide_eq_false h1
     refine Vx (Vq (Vr hG rfl (by trivial) (Vt ?_)))
     refine ⟨?_, trivial⟩
     exact eqC_yes (eqEnd hI hl)
noncomputable def F173 : Fun := ⟨[.pair (.int .i64) Y15, .pair (.int .i64) Y15], [.pure (.bool)], fun _ => True, fun x => (eqC x.1 x.2.1, ())⟩
theorem F173_ok : Meets Tryz.prog 173 F173 := by
 refine mV (C := mkC 25 [4] [0,1,2,3,4,9,14,19,24] []) (mkC_ok _ _ _ _) (fnOf_ok _) Tryz.func173 rfl rfl rfl (by decide) rfl ?_
 rintro ⟨a0, a1, _⟩ hwf hpre ⟨P, C, B, X, w0, M0, pv⟩ hG rfl rfl
 show Vc _ _ [(0, ⟨0, 0, .c Z27 a0⟩), (1, ⟨0, 0, .c Z27 a1⟩)] _
 refine Vq (Vr hG rfl (by trivial) (Vq (Vq ?_)))
 refine Vr hG rfl (by trivial) ?_
 refine Vk rfl (fun h0 => ?_) (fun h0 => ?_)
 · refine Vq (Vr hG rfl (by trivial) (Vt ?_))
   refine ⟨?_, trivial⟩
   exact eqC_no (fun e => absurd (show (a0.1 != a1.1) = true from h0) (by have e : a0 = a1 := e; rw [e]; simp))
 · have g0 : a0.1 = a1.1 := bneI h0
   refine Vs (Vq (Vq (Vr hG rfl (by trivial) ?_)))
   refine Vk rfl (fun h1 => ?_) (fun h1 => ?_)
   · refine Vq (Vr hG rfl (by trivial) (Vt ?_))
     refine ⟨?_, trivial⟩
     exact eqC_no (fun e => absurd (show (a0.2.1 != a1.2.1) = true from h1) (by have e : a0 = a1 := e; rw [e]; simp))
   · have g1 : a0.2.1 = a1.2.1 := bneI h1
     refine Vs (Vq (Vq (Vr hG rfl (by trivial) ?_)))
     refine Vk rfl (fun h2 => ?_) (fun h2 => ?_)
     · refine Vq (Vr hG rfl (by trivial) (Vt ?_))
       refine ⟨?_, trivial⟩
       exact eqC_no (fun e => absurd (show (a0.2.2.1 != a1.2.2.1) = true from h2) (by have e : a0 = a1 := e; rw [e]; simp))
     · have g2 : a0.2.2.1 = a1.2.2.1 := bneI h2
       refine Vs (Vq (Vq (Vr hG rfl (by trivial) ?_)))
       refine Vk rfl (fun h3 => ?_) (fun h3 => ?_)
       · refine Vq (Vr hG rfl (by trivial) (Vt ?_))
         refine ⟨?_, trivial⟩
         exact eqC_no (fun e => absurd (show (a0.2.2.2 != a1.2.2.2) = true from h3) (by have e : a0 = a1 := e; rw [e]; simp))
       · have g3 : a0.2.2.2 = a1.2.2.2 := bneI h3
         refine Vs (Vq (Vr hG rfl (by trivial) (Vt ?_)))
         refine ⟨?_, trivial⟩
         exact eqC_yes (Prod.ext g0 (Prod.ext g1 (Prod.ext g2 g3)))
noncomputable def F91 : Fun := ⟨[.slice Y24, .slice Y24], [.pure (.bool)], fun _ => True, fun x => (eqC x.1 x.2.1, ())⟩
theorem F91_ok : Meets Tryz.prog 91 F91 := by
 refine mV (C := mkC 27 [4] [0,1,4,5,10,14,26] [⟨173, _, F173_ok⟩]) (mkC_ok _ _ _ _) (fnOf_ok _) Tryz.func91 rfl rfl rfl (by decide) rfl ?_
 rintro ⟨a0, a1, _⟩ hwf hpre ⟨P, C, B, X, w0, M0, pv⟩ hG rfl rfl
 show Vc _ _ [(0, ⟨0, 0, .c Z30 a0⟩), (1, ⟨0, 0, .c Z30 a1⟩)] _
 have hb : List.length a0 ≤ bigLen := hwf.1.1
 refine Vq (Vr hG rfl (by trivial) (Vq (Vq ?_)))
 refine Vr hG rfl (by trivial) ?_
 refine Vk rfl (fun h0 => ?_) (fun h0 => ?_)
 · refine Vq (Vr hG rfl (by trivial) (Vt ?_))
   refine ⟨?_, trivial⟩
   exact eqC_no (fun e => absurd (show ((List.length a0 : Int) != (List.length a1 : Int)) = true from h0) (by have e : a0 = a1 := e; rw [e]; simp))
 · have g0 : List.length a0 = List.length a1 := lenEq h0
   refine Vs (Vq (Vq (Vr hG rfl (by trivial) ?_)))
   refine Vb ?_
   refine Vc.loopF [(5, false, .pure (.int .i64))] [0, 1, 10] (fun v => eqInv a0 a1 v.1) (fun v => ((List.length a0 : Int) - v.1).toNat) rfl ?_ ?_
   · exact eqStart g0
   rintro ⟨(i : Int), _⟩ hI
   have hI : eqInv a0 a1 i := hI
   refine Vq (Vq (Vr hG rfl (by trivial) ?_))
   refine Vk rfl (fun h1 => ?_) (fun h1 => ?_)
   · have hl : i < (List.length a0 : Int) := of_decide_eq_true h1
     refine Vs (Vq (Vb (Vq ?_)))
     refine VrD mixed hG rfl (by kernel_rfl) ?_ ?_
     · exact ⟨(eqRange hI hl).1, (eqRange hI hl).2, trivial⟩
     refine Vk rfl (fun h2 => ?_) (fun h2 => ?_)
     · have g2 : (!(eqC (List.getD a0 i.toNat (dflt Y24)) (List.getD a1 i.toNat (dflt Y24)))) = true := h2
       refine Vq (Vr hG rfl (by trivial) (Vt ?_))
       refine ⟨?_, trivial⟩
       exact eqNo (d := dflt Y24) (i := i) (fun e => by rw [e, eqC_self] at g2; cases g2)
     · have g2 : (List.getD a0 i.toNat (dflt Y24)) = (List.getD a1 i.toNat (dflt Y24)) := notC h2
       refine Vs (Vr hG rfl (by trivial) ?_)
       refine ⟨rfl, ?_⟩
       exact ⟨eqStep (d := dflt Y24) hI hl hb g2, (upStep hI.1 hl hb).2.2⟩
   · have hl : ¬ i < (List.length a0 : Int) := of_decide_eq_false h1
     refine Vx (Vq (Vr hG rfl (by trivial) (Vt ?_)))
     refine ⟨?_, trivial⟩
     exact eqC_yes (eqEnd hI hl)
noncomputable def F20 : Fun := ⟨[.pair Y34 Y55, .pair Y34 Y55], [.pure (.bool)], fun _ => True, fun x => (eqC x.1 x.2.1, ())⟩
theorem F20_ok : Meets Tryz.prog 20 F20 := by
 refine mV (C := mkC 33 [4] [0,1,2,3,4,10,16,22,27,32] [⟨89, _, F89_ok⟩, ⟨90, _, F90_ok⟩, ⟨91, _, F91_ok⟩]) (mkC_ok _ _ _ _) (fnOf_ok _) Tryz.func20 rfl rfl rfl (by decide) rfl ?_
 rintro ⟨a0, a1, _⟩ hwf hpre ⟨P, C, B, X, w0, M0, pv⟩ hG rfl rfl
 show Vc _ _ [(0, ⟨0, 0, .c Z67 a0⟩), (1, ⟨0, 0, .c Z67 a1⟩)] _
 refine Vq (Vr hG rfl (by trivial) (Vq (Vq ?_)))
 refine Vr hG rfl (by trivial) ?_
 refine Vk rfl (fun h0 => ?_) (fun h0 => ?_)
 · refine Vq (Vr hG rfl (by trivial) (Vt ?_))
   refine ⟨?_, trivial⟩
   exact eqC_no (fun e => absurd (show (!(eqC a0.1 a1.1)) = true from h0) (by have e : a0 = a1 := e; rw [e, eqC_self]; decide))
 · have g0 : a0.1 = a1.1 := notC h0
   refine Vs (Vq (Vq (Vr hG rfl (by trivial) ?_)))
   refine Vk rfl (fun h1 => ?_) (fun h1 => ?_)
   · refine Vq (Vr hG rfl (by trivial) (Vt ?_))
     refine ⟨?_, trivial⟩
     exact eqC_no (fun e => absurd (show (!(eqC a0.2.1 a1.2.1)) = true from h1) (by have e : a0 = a1 := e; rw [e, eqC_self]; decide))
   · have g1 : a0.2.1 = a1.2.1 := notC h1
     refine Vs (Vq (Vq (Vr hG rfl (by trivial) ?_)))
     refine Vk rfl (fun h2 => ?_) (fun h2 => ?_)
     · refine Vq (Vr hG rfl (by trivial) (Vt ?_))
       refine ⟨?_, trivial⟩
       exact eqC_no (fun e => absurd (show (!(eqC a0.2.2.1 a1.2.2.1)) = true from h2) (by have e : a0 = a1 := e; rw [e, eqC_self]; decide))
     · have g2 : a0.2.2.1 = a1.2.2.1 := notC h2
       refine Vs (Vq (Vq (Vr hG rfl (by trivial) ?_)))
       refine Vk rfl (fun h3 => ?_) (fun h3 => ?_)
       · refine Vq (Vr hG rfl (by trivial) (Vt ?_))
         refine ⟨?_, trivial⟩
         exact eqC_no (fun e => absurd (show (a0.2.2.2.1 != a1.2.2.2.1) = true from h3) (by have e : a0 = a1 := e; rw [e]; simp))
       · have g3 : a0.2.2.2.1 = a1.2.2.2.1 := bneI h3
         refine Vs (Vq (Vq (Vr hG rfl (by trivial) ?_)))
         refine Vk rfl (fun h4 => ?_) (fun h4 => ?_)
         · refine Vq (Vr hG rfl (by trivial) (Vt ?_))
           refine ⟨?_, trivial⟩
           exact eqC_no (fun e => absurd (show (a0.2.2.2.2 != a1.2.2.2.2) = true from h4) (by have e : a0 = a1 := e; rw [e]; simp))
         · have g4 : a0.2.2.2.2 = a1.2.2.2.2 := bneI h4
           refine Vs (Vq (Vr hG rfl (by trivial) (Vt ?_)))
           refine ⟨?_, trivial⟩
           exact eqC_yes (Prod.ext g0 (Prod.ext g1 (Prod.ext g2 (Prod.ext g3 g4))))
noncomputable def F94 : Fun := ⟨[.slice (.int .i64), .slice (.int .i64)], [.pure (.bool)], fun _ => True, fun x => (eqC x.1 x.2.1, ())⟩
theorem F94_ok : Meets Tryz.prog 94 F94 := by
 refine mV (C := mkC 26 [4] [0,1,4,5,10,14,25] []) (mkC_ok _ _ _ _) (fnOf_ok _) Tryz.func94 rfl rfl rfl (by decide) rfl ?_
 rintro ⟨a0, a1, _⟩ hwf hpre ⟨P, C, B, X, w0, M0, pv⟩ hG rfl rfl
 show Vc _ _ [(0, ⟨0, 0, .c Z2 a0⟩), (1, ⟨0, 0, .c Z2 a1⟩)] _
 have hb : List.length a0 ≤ bigLen := hwf.1.1
 refine Vq (Vr hG rfl (by trivial) (Vq (Vq ?_)))
 refine Vr hG rfl (by trivial) ?_
 refine Vk rfl (fun h0 => ?_) (fun h0 => ?_)
 · refine Vq (Vr hG rfl (by trivial) (Vt ?_))
   refine ⟨?_, trivial⟩
   exact eqC_no (fun e => absurd (show ((List.length a0 : Int) != (List.length a1 : Int)) = true from h0) (by have e : a0 = a1 := e; rw [e]; simp))
 · have g0 : List.length a0 = List.length a1 := lenEq h0
   refine Vs (Vq (Vq (Vr hG rfl (by trivial) ?_)))
   refine Vb ?_
   refine Vc.loopF [(5, false, .pure (.int .i64))] [0, 1, 10] (fun v => eqInv a0 a1 v.1) (fun v => ((List.length a0 : Int) - v.1).toNat) rfl ?_ ?_
   · exact eqStart g0
   rintro ⟨(i : Int), _⟩ hI
   have hI : eqInv a0 a1 i := hI
   refine Vq (Vq (Vr hG rfl (by trivial) ?_))
   refine Vk rfl (fun h1 => ?_) (fun h1 => ?_)
   · have hl : i < (List.length a0 : Int) := of_decide_eq_true h1
     refine Vs (Vq (Vb (Vq ?_)))
     refine VrD mixed hG rfl (by kernel_rfl) ?_ ?_
     · exact ⟨(eqRange hI hl).1, (eqRange hI hl).2⟩
     refine Vk rfl (fun h2 => ?_) (fun h2 => ?_)
     · have g2 : ((List.getD a0 i.toNat (dflt (.int .i64))) != (List.getD a1 i.toNat (dflt (.int .i64)))) = true := h2
       refine Vq (Vr hG rfl (by trivial) (Vt ?_))
       refine ⟨?_, trivial⟩
       exact eqNo (d := dflt (.int .i64)) (i := i) (fun e => by rw [e] at g2; simp at g2)
     · have g2 : (List.getD a0 i.toNat (dflt (.int .i64))) = (List.getD a1 i.toNat (dflt (.int .i64))) := bneI h2
       refine Vs (Vr hG rfl (by trivial) ?_)
       refine ⟨rfl, ?_⟩
       exact ⟨eqStep (d := dflt (.int .i64)) hI hl hb g2, (upStep hI.1 hl hb).2.2⟩
   · have hl : ¬ i < (List.length a0 : Int) := of_decide_eq_false h1
     refine Vx (Vq (Vr hG rfl (by trivial) (Vt ?_)))
     refine ⟨?_, trivial⟩
     exact eqC_yes (eqEnd hI hl)
noncomputable def F274 : Fun := ⟨[.pair (.int .i64) Y9, .pair (.int .i64) Y9], [.pure (.bool)], fun _ => True, fun x => (eqC x.1 x.2.1, ())⟩
theorem F274_ok : Meets Tryz.prog 274 F274 := by
 refine mV (C := mkC 21 [4] [0,1,2,3,4,9,15,20] [⟨94, _, F94_ok⟩]) (mkC_ok _ _ _ _) (fnOf_ok _) Tryz.func274 rfl rfl rfl (by decide) rfl ?_
 rintro ⟨a0, a1, _⟩ hwf hpre ⟨P, C, B, X, w0, M0, pv⟩ hG rfl rfl
 show Vc _ _ [(0, ⟨0, 0, .c Z22 a0⟩), (1, ⟨0, 0, .c Z22 a1⟩)] _
 refine Vq (Vr hG rfl (by trivial) (Vq (Vq ?_)))
 refine Vr hG rfl (by trivial) ?_
 refine Vk rfl (fun h0 => ?_) (fun h0 => ?_)
 · refine Vq (Vr hG rfl (by trivial) (Vt ?_))
   refine ⟨?_, trivial⟩
   exact eqC_no (fun e => absurd (show (a0.1 != a1.1) = true from h0) (by have e : a0 = a1 := e; rw [e]; simp))
 · have g0 : a0.1 = a1.1 := bneI h0
   refine Vs (Vq (Vq (Vr hG rfl (by trivial) ?_)))
   refine Vk rfl (fun h1 => ?_) (fun h1 => ?_)
   · refine Vq (Vr hG rfl (by trivial) (Vt ?_))
     refine ⟨?_, trivial⟩
     exact eqC_no (fun e => absurd (show (!(eqC a0.2.1 a1.2.1)) = true from h1) (by have e : a0 = a1 := e; rw [e, eqC_self]; decide))
   · have g1 : a0.2.1 = a1.2.1 := notC h1
     refine Vs (Vq (Vq (Vr hG rfl (by trivial) ?_)))
     refine Vk rfl (fun h2 => ?_) (fun h2 => ?_)
     · refine Vq (Vr hG rfl (by trivial) (Vt ?_))
       refine ⟨?_, trivial⟩
       exact eqC_no (fun e => absurd (show (a0.2.2 != a1.2.2) = true from h2) (by have e : a0 = a1 := e; rw [e]; simp))
     · have g2 : a0.2.2 = a1.2.2 := bneI h2
       refine Vs (Vq (Vr hG rfl (by trivial) (Vt ?_)))
       refine ⟨?_, trivial⟩
       exact eqC_yes (Prod.ext g0 (Prod.ext g1 g2))
noncomputable def F189 : Fun := ⟨[.slice Y19, .slice Y19], [.pure (.bool)], fun _ => True, fun x => (eqC x.1 x.2.1, ())⟩
theorem F189_ok : Meets Tryz.prog 189 F189 := by
 refine mV (C := mkC 27 [4] [0,1,4,5,10,14,26] [⟨274, _, F274_ok⟩]) (mkC_ok _ _ _ _) (fnOf_ok _) Tryz.func189 rfl rfl rfl (by decide) rfl ?_
 rintro ⟨a0, a1, _⟩ hwf hpre ⟨P, C, B, X, w0, M0, pv⟩ hG rfl rfl
 show Vc _ _ [(0, ⟨0, 0, .c Z26 a0⟩), (1, ⟨0, 0, .c Z26 a1⟩)] _
 have hb : List.length a0 ≤ bigLen := hwf.1.1
 refine Vq (Vr hG rfl (by trivial) (Vq (Vq ?_)))
 refine Vr hG rfl (by trivial) ?_
 refine Vk rfl (fun h0 => ?_) (fun h0 => ?_)
 · refine Vq (Vr hG rfl (by trivial) (Vt ?_))
   refine ⟨?_, trivial⟩
   exact eqC_no (fun e => absurd (show ((List.length a0 : Int) != (List.length a1 : Int)) = true from h0) (by have e : a0 = a1 := e; rw [e]; simp))
 · have g0 : List.length a0 = List.length a1 := lenEq h0
   refine Vs (Vq (Vq (Vr hG rfl (by trivial) ?_)))
   refine Vb ?_
   refine Vc.loopF [(5, false, .pure (.int .i64))] [0, 1, 10] (fun v => eqInv a0 a1 v.1) (fun v => ((List.length a0 : Int) - v.1).toNat) rfl ?_ ?_
   · exact eqStart g0
   rintro ⟨(i : Int), _⟩ hI
   have hI : eqInv a0 a1 i := hI
   refine Vq (Vq (Vr hG rfl (by trivial) ?_))
   refine Vk rfl (fun h1 => ?_) (fun h1 => ?_)
   · have hl : i < (List.length a0 : Int) := of_decide_eq_true h1
     refine Vs (Vq (Vb (Vq ?_)))
     refine VrD mixed hG rfl (by kernel_rfl) ?_ ?_
     · exact ⟨(eqRange hI hl).1, (eqRange hI hl).2, trivial⟩
     refine Vk rfl (fun h2 => ?_) (fun h2 => ?_)
     · have g2 : (!(eqC (List.getD a0 i.toNat (dflt Y19)) (List.getD a1 i.toNat (dflt Y19)))) = true := h2
       refine Vq (Vr hG rfl (by trivial) (Vt ?_))
       refine ⟨?_, trivial⟩
       exact eqNo (d := dflt Y19) (i := i) (fun e => by rw [e, eqC_self] at g2; cases g2)
     · have g2 : (List.getD a0 i.toNat (dflt Y19)) = (List.getD a1 i.toNat (dflt Y19)) := notC h2
       refine Vs (Vr hG rfl (by trivial) ?_)
       refine ⟨rfl, ?_⟩
       exact ⟨eqStep (d := dflt Y19) hI hl hb g2, (upStep hI.1 hl hb).2.2⟩
   · have hl : ¬ i < (List.length a0 : Int) := of_decide_eq_false h1
     refine Vx (Vq (Vr hG rfl (by trivial) (Vt ?_)))
     refine ⟨?_, trivial⟩
     exact eqC_yes (eqEnd hI hl)
noncomputable def F321 : Fun := ⟨[.pair (.int .i64) (.bool), .pair (.int .i64) (.bool)], [.pure (.bool)], fun _ => True, fun x => (eqC x.1 x.2.1, ())⟩
theorem F321_ok : Meets Tryz.prog 321 F321 := by
 refine mV (C := mkC 15 [4] [0,1,2,3,4,9,14] []) (mkC_ok _ _ _ _) (fnOf_ok _) Tryz.func321 rfl rfl rfl (by decide) rfl ?_
 rintro ⟨a0, a1, _⟩ hwf hpre ⟨P, C, B, X, w0, M0, pv⟩ hG rfl rfl
 show Vc _ _ [(0, ⟨0, 0, .c Z5 a0⟩), (1, ⟨0, 0, .c Z5 a1⟩)] _
 refine Vq (Vr hG rfl (by trivial) (Vq (Vq ?_)))
 refine Vr hG rfl (by trivial) ?_
 refine Vk rfl (fun h0 => ?_) (fun h0 => ?_)
 · refine Vq (Vr hG rfl (by trivial) (Vt ?_))
   refine ⟨?_, trivial⟩
   exact eqC_no (fun e => absurd (show (a0.1 != a1.1) = true from h0) (by have e : a0 = a1 := e; rw [e]; simp))
 · have g0 : a0.1 = a1.1 := bneI h0
   refine Vs (Vq (Vq (Vr hG rfl (by trivial) ?_)))
   refine Vk rfl (fun h1 => ?_) (fun h1 => ?_)
   · refine Vq (Vr hG rfl (by trivial) (Vt ?_))
     refine ⟨?_, trivial⟩
     exact eqC_no (fun e => absurd (show (a0.2 != a1.2) = true from h1) (by have e : a0 = a1 := e; rw [e]; simp))
   · have g1 : a0.2 = a1.2 := bneB h1
     refine Vs (Vq (Vr hG rfl (by trivial) (Vt ?_)))
     refine ⟨?_, trivial⟩
     exact eqC_yes (Prod.ext g0 g1)
noncomputable def F307 : Fun := ⟨[.slice Y1, .slice Y1], [.pure (.bool)], fun _ => True, fun x => (eqC x.1 x.2.1, ())⟩
theorem F307_ok : Meets Tryz.prog 307 F307 := by
 refine mV (C := mkC 27 [4] [0,1,4,5,10,14,26] [⟨321, _, F321_ok⟩]) (mkC_ok _ _ _ _) (fnOf_ok _) Tryz.func307 rfl rfl rfl (by decide) rfl ?_
 rintro ⟨a0, a1, _⟩ hwf hpre ⟨P, C, B, X, w0, M0, pv⟩ hG rfl rfl
 show Vc _ _ [(0, ⟨0, 0, .c Z12 a0⟩), (1, ⟨0, 0, .c Z12 a1⟩)] _
 have hb : List.length a0 ≤ bigLen := hwf.1.1
 refine Vq (Vr hG rfl (by trivial) (Vq (Vq ?_)))
 refine Vr hG rfl (by trivial) ?_
 refine Vk rfl (fun h0 => ?_) (fun h0 => ?_)
 · refine Vq (Vr hG rfl (by trivial) (Vt ?_))
   refine ⟨?_, trivial⟩
   exact eqC_no (fun e => absurd (show ((List.length a0 : Int) != (List.length a1 : Int)) = true from h0) (by have e : a0 = a1 := e; rw [e]; simp))
 · have g0 : List.length a0 = List.length a1 := lenEq h0
   refine Vs (Vq (Vq (Vr hG rfl (by trivial) ?_)))
   refine Vb ?_
   refine Vc.loopF [(5, false, .pure (.int .i64))] [0, 1, 10] (fun v => eqInv a0 a1 v.1) (fun v => ((List.length a0 : Int) - v.1).toNat) rfl ?_ ?_
   · exact eqStart g0
   rintro ⟨(i : Int), _⟩ hI
   have hI : eqInv a0 a1 i := hI
   refine Vq (Vq (Vr hG rfl (by trivial) ?_))
   refine Vk rfl (fun h1 => ?_) (fun h1 => ?_)
   · have hl : i < (List.length a0 : Int) := of_decide_eq_true h1
     refine Vs (Vq (Vb (Vq ?_)))
     refine VrD mixed hG rfl (by kernel_rfl) ?_ ?_
     · exact ⟨(eqRange hI hl).1, (eqRange hI hl).2, trivial⟩
     refine Vk rfl (fun h2 => ?_) (fun h2 => ?_)
     · have g2 : (!(eqC (List.getD a0 i.toNat (dflt Y1)) (List.getD a1 i.toNat (dflt Y1)))) = true := h2
       refine Vq (Vr hG rfl (by trivial) (Vt ?_))
       refine ⟨?_, trivial⟩
       exact eqNo (d := dflt Y1) (i := i) (fun e => by rw [e, eqC_self] at g2; cases g2)
     · have g2 : (List.getD a0 i.toNat (dflt Y1)) = (List.getD a1 i.toNat (dflt Y1)) := notC h2
       refine Vs (Vr hG rfl (by trivial) ?_)
       refine ⟨rfl, ?_⟩
       exact ⟨eqStep (d := dflt Y1) hI hl hb g2, (upStep hI.1 hl hb).2.2⟩
   · have hl : ¬ i < (List.length a0 : Int) := of_decide_eq_false h1
     refine Vx (Vq (Vr hG rfl (by trivial) (Vt ?_)))
     refine ⟨?_, trivial⟩
     exact eqC_yes (eqEnd hI hl)
noncomputable def F262 : Fun := ⟨[.pair (.int .i64) Y24, .pair (.int .i64) Y24], [.pure (.bool)], fun _ => True, fun x => (eqC x.1 x.2.1, ())⟩
theorem F262_ok : Meets Tryz.prog 262 F262 := by
 refine mV (C := mkC 30 [4] [0,1,2,3,4,9,14,19,24,29] []) (mkC_ok _ _ _ _) (fnOf_ok _) Tryz.func262 rfl rfl rfl (by decide) rfl ?_
 rintro ⟨a0, a1, _⟩ hwf hpre ⟨P, C, B, X, w0, M0, pv⟩ hG rfl rfl
 show Vc _ _ [(0, ⟨0, 0, .c Z33 a0⟩), (1, ⟨0, 0, .c Z33 a1⟩)] _
 refine Vq (Vr hG rfl (by trivial) (Vq (Vq ?_)))
 refine Vr hG rfl (by trivial) ?_
 refine Vk rfl (fun h0 => ?_) (fun h0 => ?_)
 · refine Vq (Vr hG rfl (by trivial) (Vt ?_))
   refine ⟨?_, trivial⟩
   exact eqC_no (fun e => absurd (show (a0.1 != a1.1) = true from h0) (by have e : a0 = a1 := e; rw [e]; simp))
 · have g0 : a0.1 = a1.1 := bneI h0
   refine Vs (Vq (Vq (Vr hG rfl (by trivial) ?_)))
   refine Vk rfl (fun h1 => ?_) (fun h1 => ?_)
   · refine Vq (Vr hG rfl (by trivial) (Vt ?_))
     refine ⟨?_, trivial⟩
     exact eqC_no (fun e => absurd (show (a0.2.1 != a1.2.1) = true from h1) (by have e : a0 = a1 := e; rw [e]; simp))
   · have g1 : a0.2.1 = a1.2.1 := bneI h1
     refine Vs (Vq (Vq (Vr hG rfl (by trivial) ?_)))
     refine Vk rfl (fun h2 => ?_) (fun h2 => ?_)
     · refine Vq (Vr hG rfl (by trivial) (Vt ?_))
       refine ⟨?_, trivial⟩
       exact eqC_no (fun e => absurd (show (a0.2.2.1 != a1.2.2.1) = true from h2) (by have e : a0 = a1 := e; rw [e]; simp))
     · have g2 : a0.2.2.1 = a1.2.2.1 := bneI h2
       refine Vs (Vq (Vq (Vr hG rfl (by trivial) ?_)))
       refine Vk rfl (fun h3 => ?_) (fun h3 => ?_)
       · refine Vq (Vr hG rfl (by trivial) (Vt ?_))
         refine ⟨?_, trivial⟩
         exact eqC_no (fun e => absurd (show (a0.2.2.2.1 != a1.2.2.2.1) = true from h3) (by have e : a0 = a1 := e; rw [e]; simp))
       · have g3 : a0.2.2.2.1 = a1.2.2.2.1 := bneI h3
         refine Vs (Vq (Vq (Vr hG rfl (by trivial) ?_)))
         refine Vk rfl (fun h4 => ?_) (fun h4 => ?_)
         · refine Vq (Vr hG rfl (by trivial) (Vt ?_))
           refine ⟨?_, trivial⟩
           exact eqC_no (fun e => absurd (show (a0.2.2.2.2 != a1.2.2.2.2) = true from h4) (by have e : a0 = a1 := e; rw [e]; simp))
         · have g4 : a0.2.2.2.2 = a1.2.2.2.2 := bneI h4
           refine Vs (Vq (Vr hG rfl (by trivial) (Vt ?_)))
           refine ⟨?_, trivial⟩
           exact eqC_yes (Prod.ext g0 (Prod.ext g1 (Prod.ext g2 (Prod.ext g3 g4))))
noncomputable def F174 : Fun := ⟨[.slice Y32, .slice Y32], [.pure (.bool)], fun _ => True, fun x => (eqC x.1 x.2.1, ())⟩
theorem F174_ok : Meets Tryz.prog 174 F174 := by
 refine mV (C := mkC 27 [4] [0,1,4,5,10,14,26] [⟨262, _, F262_ok⟩]) (mkC_ok _ _ _ _) (fnOf_ok _) Tryz.func174 rfl rfl rfl (by decide) rfl ?_
 rintro ⟨a0, a1, _⟩ hwf hpre ⟨P, C, B, X, w0, M0, pv⟩ hG rfl rfl
 show Vc _ _ [(0, ⟨0, 0, .c Z36 a0⟩), (1, ⟨0, 0, .c Z36 a1⟩)] _
 have hb : List.length a0 ≤ bigLen := hwf.1.1
 refine Vq (Vr hG rfl (by trivial) (Vq (Vq ?_)))
 refine Vr hG rfl (by trivial) ?_
 refine Vk rfl (fun h0 => ?_) (fun h0 => ?_)
 · refine Vq (Vr hG rfl (by trivial) (Vt ?_))
   refine ⟨?_, trivial⟩
   exact eqC_no (fun e => absurd (show ((List.length a0 : Int) != (List.length a1 : Int)) = true from h0) (by have e : a0 = a1 := e; rw [e]; simp))
 · have g0 : List.length a0 = List.length a1 := lenEq h0
   refine Vs (Vq (Vq (Vr hG rfl (by trivial) ?_)))
   refine Vb ?_
   refine Vc.loopF [(5, false, .pure (.int .i64))] [0, 1, 10] (fun v => eqInv a0 a1 v.1) (fun v => ((List.length a0 : Int) - v.1).toNat) rfl ?_ ?_
   · exact eqStart g0
   rintro ⟨(i : Int), _⟩ hI
   have hI : eqInv a0 a1 i := hI
   refine Vq (Vq (Vr hG rfl (by trivial) ?_))
   refine Vk rfl (fun h1 => ?_) (fun h1 => ?_)
   · have hl : i < (List.length a0 : Int) := of_decide_eq_true h1
     refine Vs (Vq (Vb (Vq ?_)))
     refine VrD mixed hG rfl (by kernel_rfl) ?_ ?_
     · exact ⟨(eqRange hI hl).1, (eqRange hI hl).2, trivial⟩
     refine Vk rfl (fun h2 => ?_) (fun h2 => ?_)
     · have g2 : (!(eqC (List.getD a0 i.toNat (dflt Y32)) (List.getD a1 i.toNat (dflt Y32)))) = true := h2
       refine Vq (Vr hG rfl (by trivial) (Vt ?_))
       refine ⟨?_, trivial⟩
       exact eqNo (d := dflt Y32) (i := i) (fun e => by rw [e, eqC_self] at g2; cases g2)
     · have g2 : (List.getD a0 i.toNat (dflt Y32)) = (List.getD a1 i.toNat (dflt Y32)) := notC h2
       refine Vs (Vr hG rfl (by trivial) ?_)
       refine ⟨rfl, ?_⟩
       exact ⟨eqStep (d := dflt Y32) hI hl hb g2, (upStep hI.1 hl hb).2.2⟩
   · have hl : ¬ i < (List.length a0 : Int) := of_decide_eq_false h1
     refine Vx (Vq (Vr hG rfl (by trivial) (Vt ?_)))
     refine ⟨?_, trivial⟩
     exact eqC_yes (eqEnd hI hl)
noncomputable def F275 : Fun := ⟨[.pair (.int .i64) Y53, .pair (.int .i64) Y53], [.pure (.bool)], fun _ => True, fun x => (eqC x.1 x.2.1, ())⟩
theorem F275_ok : Meets Tryz.prog 275 F275 := by
 refine mV (C := mkC 32 [4] [0,1,2,3,4,9,14,19,25,31] [⟨307, _, F307_ok⟩, ⟨174, _, F174_ok⟩]) (mkC_ok _ _ _ _) (fnOf_ok _) Tryz.func275 rfl rfl rfl (by decide) rfl ?_
 rintro ⟨a0, a1, _⟩ hwf hpre ⟨P, C, B, X, w0, M0, pv⟩ hG rfl rfl
 show Vc _ _ [(0, ⟨0, 0, .c Z57 a0⟩), (1, ⟨0, 0, .c Z57 a1⟩)] _
 refine Vq (Vr hG rfl (by trivial) (Vq (Vq ?_)))
 refine Vr hG rfl (by trivial) ?_
 refine Vk rfl (fun h0 => ?_) (fun h0 => ?_)
 · refine Vq (Vr hG rfl (by trivial) (Vt ?_))
   refine ⟨?_, trivial⟩
   exact eqC_no (fun e => absurd (show (a0.1 != a1.1) = true from h0) (by have e : a0 = a1 := e; rw [e]; simp))
 · have g0 : a0.1 = a1.1 := bneI h0
   refine Vs (Vq (Vq (Vr hG rfl (by trivial) ?_)))
   refine Vk rfl (fun h1 => ?_) (fun h1 => ?_)
   · refine Vq (Vr hG rfl (by trivial) (Vt ?_))
     refine ⟨?_, trivial⟩
     exact eqC_no (fun e => absurd (show (a0.2.1 != a1.2.1) = true from h1) (by have e : a0 = a1 := e; rw [e]; simp))
   · have g1 : a0.2.1 = a1.2.1 := bneI h1
     refine Vs (Vq (Vq (Vr hG rfl (by trivial) ?_)))
     refine Vk rfl (fun h2 => ?_) (fun h2 => ?_)
     · refine Vq (Vr hG rfl (by trivial) (Vt ?_))
       refine ⟨?_, trivial⟩
       exact eqC_no (fun e => absurd (show (a0.2.2.1 != a1.2.2.1) = true from h2) (by have e : a0 = a1 := e; rw [e]; simp))
     · have g2 : a0.2.2.1 = a1.2.2.1 := bneI h2
       refine Vs (Vq (Vq (Vr hG rfl (by trivial) ?_)))
       refine Vk rfl (fun h3 => ?_) (fun h3 => ?_)
       · refine Vq (Vr hG rfl (by trivial) (Vt ?_))
         refine ⟨?_, trivial⟩
         exact eqC_no (fun e => absurd (show (!(eqC a0.2.2.2.1 a1.2.2.2.1)) = true from h3) (by have e : a0 = a1 := e; rw [e, eqC_self]; decide))
       · have g3 : a0.2.2.2.1 = a1.2.2.2.1 := notC h3
         refine Vs (Vq (Vq (Vr hG rfl (by trivial) ?_)))
         refine Vk rfl (fun h4 => ?_) (fun h4 => ?_)
         · refine Vq (Vr hG rfl (by trivial) (Vt ?_))
           refine ⟨?_, trivial⟩
           exact eqC_no (fun e => absurd (show (!(eqC a0.2.2.2.2 a1.2.2.2.2)) = true from h4) (by have e : a0 = a1 := e; rw [e, eqC_self]; decide))
         · have g4 : a0.2.2.2.2 = a1.2.2.2.2 := notC h4
           refine Vs (Vq (Vr hG rfl (by trivial) (Vt ?_)))
           refine ⟨?_, trivial⟩
           exact eqC_yes (Prod.ext g0 (Prod.ext g1 (Prod.ext g2 (Prod.ext g3 g4))))
noncomputable def F190 : Fun := ⟨[.slice Y56, .slice Y56], [.pure (.bool)], fun _ => True, fun x => (eqC x.1 x.2.1, ())⟩
theorem F190_ok : Meets Tryz.prog 190 F190 := by
 refine mV (C := mkC 27 [4] [0,1,4,5,10,14,26] [⟨275, _, F275_ok⟩]) (mkC_ok _ _ _ _) (fnOf_ok _) Tryz.func190 rfl rfl rfl (by decide) rfl ?_
 rintro ⟨a0, a1, _⟩ hwf hpre ⟨P, C, B, X, w0, M0, pv⟩ hG rfl rfl
 show Vc _ _ [(0, ⟨0, 0, .c Z60 a0⟩), (1, ⟨0, 0, .c Z60 a1⟩)] _
 have hb : List.length a0 ≤ bigLen := hwf.1.1
 refine Vq (Vr hG rfl (by trivial) (Vq (Vq ?_)))
 refine Vr hG rfl (by trivial) ?_
 refine Vk rfl (fun h0 => ?_) (fun h0 => ?_)
 · refine Vq (Vr hG rfl (by trivial) (Vt ?_))
   refine ⟨?_, trivial⟩
   exact eqC_no (fun e => absurd (show ((List.length a0 : Int) != (List.length a1 : Int)) = true from h0) (by have e : a0 = a1 := e; rw [e]; simp))
 · have g0 : List.length a0 = List.length a1 := lenEq h0
   refine Vs (Vq (Vq (Vr hG rfl (by trivial) ?_)))
   refine Vb ?_
   refine Vc.loopF [(5, false, .pure (.int .i64))] [0, 1, 10] (fun v => eqInv a0 a1 v.1) (fun v => ((List.length a0 : Int) - v.1).toNat) rfl ?_ ?_
   · exact eqStart g0
   rintro ⟨(i : Int), _⟩ hI
   have hI : eqInv a0 a1 i := hI
   refine Vq (Vq (Vr hG rfl (by trivial) ?_))
   refine Vk rfl (fun h1 => ?_) (fun h1 => ?_)
   · have hl : i < (List.length a0 : Int) := of_decide_eq_true h1
     refine Vs (Vq (Vb (Vq ?_)))
     refine VrD mixed hG rfl (by kernel_rfl) ?_ ?_
     · exact ⟨(eqRange hI hl).1, (eqRange hI hl).2, trivial⟩
     refine Vk rfl (fun h2 => ?_) (fun h2 => ?_)
     · have g2 : (!(eqC (List.getD a0 i.toNat (dflt Y56)) (List.getD a1 i.toNat (dflt Y56)))) = true := h2
       refine Vq (Vr hG rfl (by trivial) (Vt ?_))
       refine ⟨?_, trivial⟩
       exact eqNo (d := dflt Y56) (i := i) (fun e => by rw [e, eqC_self] at g2; cases g2)
     · have g2 : (List.getD a0 i.toNat (dflt Y56)) = (List.getD a1 i.toNat (dflt Y56)) := notC h2
       refine Vs (Vr hG rfl (by trivial) ?_)
       refine ⟨rfl, ?_⟩
       exact ⟨eqStep (d := dflt Y56) hI hl hb g2, (upStep hI.1 hl hb).2.2⟩
   · have hl : ¬ i < (List.length a0 : Int) := of_decide_eq_false h1
     refine Vx (Vq (Vr hG rfl (by trivial) (Vt ?_)))
     refine ⟨?_, trivial⟩
     exact eqC_yes (eqEnd hI hl)
noncomputable def F107 : Fun := ⟨[.pair Y23 Y59, .pair Y23 Y59], [.pure (.bool)], fun _ => True, fun x => (eqC x.1 x.2.1, ())⟩
theorem F107_ok : Meets Tryz.prog 107 F107 := by
 refine mV (C := mkC 17 [4] [0,1,2,3,4,10,16] [⟨189, _, F189_ok⟩, ⟨190, _, F190_ok⟩]) (mkC_ok _ _ _ _) (fnOf_ok _) Tryz.func107 rfl rfl rfl (by decide) rfl ?_
 rintro ⟨a0, a1, _⟩ hwf hpre ⟨P, C, B, X, w0, M0, pv⟩ hG rfl rfl
 show Vc _ _ [(0, ⟨0, 0, .c Z65 a0⟩), (1, ⟨0, 0, .c Z65 a1⟩)] _
 refine Vq (Vr hG rfl (by trivial) (Vq (Vq ?_)))
 refine Vr hG rfl (by trivial) ?_
 refine Vk rfl (fun h0 => ?_) (fun h0 => ?_)
 · refine Vq (Vr hG rfl (by trivial) (Vt ?_))
   refine ⟨?_, trivial⟩
   exact eqC_no (fun e => absurd (show (!(eqC a0.1 a1.1)) = true from h0) (by have e : a0 = a1 := e; rw [e, eqC_self]; decide))
 · have g0 : a0.1 = a1.1 := notC h0
   refine Vs (Vq (Vq (Vr hG rfl (by trivial) ?_)))
   refine Vk rfl (fun h1 => ?_) (fun h1 => ?_)
   · refine Vq (Vr hG rfl (by trivial) (Vt ?_))
     refine ⟨?_, trivial⟩
     exact eqC_no (fun e => absurd (show (!(eqC a0.2 a1.2)) = true from h1) (by have e : a0 = a1 := e; rw [e, eqC_self]; decide))
   · have g1 : a0.2 = a1.2 := notC h1
     refine Vs (Vq (Vr hG rfl (by trivial) (Vt ?_)))
     refine ⟨?_, trivial⟩
     exact eqC_yes (Prod.ext g0 g1)
noncomputable def F92 : Fun := ⟨[.slice Y63, .slice Y63], [.pure (.bool)], fun _ => True, fun x => (eqC x.1 x.2.1, ())⟩
theorem F92_ok : Meets Tryz.prog 92 F92 := by
 refine mV (C := mkC 27 [4] [0,1,4,5,10,14,26] [⟨107, _, F107_ok⟩]) (mkC_ok _ _ _ _) (fnOf_ok _) Tryz.func92 rfl rfl rfl (by decide) rfl ?_
 rintro ⟨a0, a1, _⟩ hwf hpre ⟨P, C, B, X, w0, M0, pv⟩ hG rfl rfl
 show Vc _ _ [(0, ⟨0, 0, .c Z68 a0⟩), (1, ⟨0, 0, .c Z68 a1⟩)] _
 have hb : List.length a0 ≤ bigLen := hwf.1.1
 refine Vq (Vr hG rfl (by trivial) (Vq (Vq ?_)))
 refine Vr hG rfl (by trivial) ?_
 refine Vk rfl (fun h0 => ?_) (fun h0 => ?_)
 · refine Vq (Vr hG rfl (by trivial) (Vt ?_))
   refine ⟨?_, trivial⟩
   exact eqC_no (fun e => absurd (show ((List.length a0 : Int) != (List.length a1 : Int)) = true from h0) (by have e : a0 = a1 := e; rw [e]; simp))
 · have g0 : List.length a0 = List.length a1 := lenEq h0
   refine Vs (Vq (Vq (Vr hG rfl (by trivial) ?_)))
   refine Vb ?_
   refine Vc.loopF [(5, false, .pure (.int .i64))] [0, 1, 10] (fun v => eqInv a0 a1 v.1) (fun v => ((List.length a0 : Int) - v.1).toNat) rfl ?_ ?_
   · exact eqStart g0
   rintro ⟨(i : Int), _⟩ hI
   have hI : eqInv a0 a1 i := hI
   refine Vq (Vq (Vr hG rfl (by trivial) ?_))
   refine Vk rfl (fun h1 => ?_) (fun h1 => ?_)
   · have hl : i < (List.length a0 : Int) := of_decide_eq_true h1
     refine Vs (Vq (Vb (Vq ?_)))
     refine VrD mixed hG rfl (by kernel_rfl) ?_ ?_
     · exact ⟨(eqRange hI hl).1, (eqRange hI hl).2, trivial⟩
     refine Vk rfl (fun h2 => ?_) (fun h2 => ?_)
     · have g2 : (!(eqC (List.getD a0 i.toNat (dflt Y63)) (List.getD a1 i.toNat (dflt Y63)))) = true := h2
       refine Vq (Vr hG rfl (by trivial) (Vt ?_))
       refine ⟨?_, trivial⟩
       exact eqNo (d := dflt Y63) (i := i) (fun e => by rw [e, eqC_self] at g2; cases g2)
     · have g2 : (List.getD a0 i.toNat (dflt Y63)) = (List.getD a1 i.toNat (dflt Y63)) := notC h2
       refine Vs (Vr hG rfl (by trivial) ?_)
       refine ⟨rfl, ?_⟩
       exact ⟨eqStep (d := dflt Y63) hI hl hb g2, (upStep hI.1 hl hb).2.2⟩
   · have hl : ¬ i < (List.length a0 : Int) := of_decide_eq_false h1
     refine Vx (Vq (Vr hG rfl (by trivial) (Vt ?_)))
     refine ⟨?_, trivial⟩
     exact eqC_yes (eqEnd hI hl)
noncomputable def F93 : Fun := ⟨[.slice Y34, .slice Y34], [.pure (.bool)], fun _ => True, fun x => (eqC x.1 x.2.1, ())⟩
theorem F93_ok : Meets Tryz.prog 93 F93 := by
 refine mV (C := mkC 27 [4] [0,1,4,5,10,14,26] [⟨174, _, F174_ok⟩]) (mkC_ok _ _ _ _) (fnOf_ok _) Tryz.func93 rfl rfl rfl (by decide) rfl ?_
 rintro ⟨a0, a1, _⟩ hwf hpre ⟨P, C, B, X, w0, M0, pv⟩ hG rfl rfl
 show Vc _ _ [(0, ⟨0, 0, .c Z40 a0⟩), (1, ⟨0, 0, .c Z40 a1⟩)] _
 have hb : List.length a0 ≤ bigLen := hwf.1.1
 refine Vq (Vr hG rfl (by trivial) (Vq (Vq ?_)))
 refine Vr hG rfl (by trivial) ?_
 refine Vk rfl (fun h0 => ?_) (fun h0 => ?_)
 · refine Vq (Vr hG rfl (by trivial) (Vt ?_))
   refine ⟨?_, trivial⟩
   exact eqC_no (fun e => absurd (show ((List.length a0 : Int) != (List.length a1 : Int)) = true from h0) (by have e : a0 = a1 := e; rw [e]; simp))
 · have g0 : List.length a0 = List.length a1 := lenEq h0
   refine Vs (Vq (Vq (Vr hG rfl (by trivial) ?_)))
   refine Vb ?_
   refine Vc.loopF [(5, false, .pure (.int .i64))] [0, 1, 10] (fun v => eqInv a0 a1 v.1) (fun v => ((List.length a0 : Int) - v.1).toNat) rfl ?_ ?_
   · exact eqStart g0
   rintro ⟨(i : Int), _⟩ hI
   have hI : eqInv a0 a1 i := hI
   refine Vq (Vq (Vr hG rfl (by trivial) ?_))
   refine Vk rfl (fun h1 => ?_) (fun h1 => ?_)
   · have hl : i < (List.length a0 : Int) := of_decide_eq_true h1
     refine Vs (Vq (Vb (Vq ?_)))
     refine VrD mixed hG rfl (by kernel_rfl) ?_ ?_
     · exact ⟨(eqRange hI hl).1, (eqRange hI hl).2, trivial⟩
     refine Vk rfl (fun h2 => ?_) (fun h2 => ?_)
     · have g2 : (!(eqC (List.getD a0 i.toNat (dflt Y34)) (List.getD a1 i.toNat (dflt Y34)))) = true := h2
       refine Vq (Vr hG rfl (by trivial) (Vt ?_))
       refine ⟨?_, trivial⟩
       exact eqNo (d := dflt Y34) (i := i) (fun e => by rw [e, eqC_self] at g2; cases g2)
     · have g2 : (List.getD a0 i.toNat (dflt Y34)) = (List.getD a1 i.toNat (dflt Y34)) := notC h2
       refine Vs (Vr hG rfl (by trivial) ?_)
       refine ⟨rfl, ?_⟩
       exact ⟨eqStep (d := dflt Y34) hI hl hb g2, (upStep hI.1 hl hb).2.2⟩
   · have hl : ¬ i < (List.length a0 : Int) := of_decide_eq_false h1
     refine Vx (Vq (Vr hG rfl (by trivial) (Vt ?_)))
     refine ⟨?_, trivial⟩
     exact eqC_yes (eqEnd hI hl)
noncomputable def F21 : Fun := ⟨[.pair Y66 Y37, .pair Y66 Y37], [.pure (.bool)], fun _ => True, fun x => (eqC x.1 x.2.1, ())⟩
theorem F21_ok : Meets Tryz.prog 21 F21 := by
 refine mV (C := mkC 17 [4] [0,1,2,3,4,10,16] [⟨92, _, F92_ok⟩, ⟨93, _, F93_ok⟩]) (mkC_ok _ _ _ _) (fnOf_ok _) Tryz.func21 rfl rfl rfl (by decide) rfl ?_
 rintro ⟨a0, a1, _⟩ hwf hpre ⟨P, C, B, X, w0, M0, pv⟩ hG rfl rfl
 show Vc _ _ [(0, ⟨0, 0, .c Z72 a0⟩), (1, ⟨0, 0, .c Z72 a1⟩)] _
 refine Vq (Vr hG rfl (by trivial) (Vq (Vq ?_)))
 refine Vr hG rfl (by trivial) ?_
 refine Vk rfl (fun h0 => ?_) (fun h0 => ?_)
 · refine Vq (Vr hG rfl (by trivial) (Vt ?_))
   refine ⟨?_, trivial⟩
   exact eqC_no (fun e => absurd (show (!(eqC a0.1 a1.1)) = true from h0) (by have e : a0 = a1 := e; rw [e, eqC_self]; decide))
 · have g0 : a0.1 = a1.1 := notC h0
   refine Vs (Vq (Vq (Vr hG rfl (by trivial) ?_)))
   refine Vk rfl (fun h1 => ?_) (fun h1 => ?_)
   · refine Vq (Vr hG rfl (by trivial) (Vt ?_))
     refine ⟨?_, trivial⟩
     exact eqC_no (fun e => absurd (show (!(eqC a0.2 a1.2)) = true from h1) (by have e : a0 = a1 := e; rw [e, eqC_self]; decide))
   · have g1 : a0.2 = a1.2 := notC h1
     refine Vs (Vq (Vr hG rfl (by trivial) (Vt ?_)))
     refine ⟨?_, trivial⟩
     exact eqC_yes (Prod.ext g0 g1)
noncomputable def F101 : Fun := ⟨[.slice (.str), .slice (.str)], [.pure (.bool)], fun _ => True, fun x => (eqC x.1 x.2.1, ())⟩
theorem F101_ok : Meets Tryz.prog 101 F101 := by
 refine mV (C := mkC 26 [4] [0,1,4,5,10,14,25] []) (mkC_ok _ _ _ _) (fnOf_ok _) Tryz.func101 rfl rfl rfl (by decide) rfl ?_
 rintro ⟨a0, a1, _⟩ hwf hpre ⟨P, C, B, X, w0, M0, pv⟩ hG rfl rfl
 show Vc _ _ [(0, ⟨0, 0, .c (.pure (.slice (.str))) a0⟩), (1, ⟨0, 0, .c (.pure (.slice (.str))) a1⟩)] _
 have hb : List.length a0 ≤ bigLen := hwf.1.1
 refine Vq (Vr hG rfl (by trivial) (Vq (Vq ?_)))
 refine Vr hG rfl (by trivial) ?_
 refine Vk rfl (fun h0 => ?_) (fun h0 => ?_)
 · refine Vq (Vr hG rfl (by trivial) (Vt ?_))
   refine ⟨?_, trivial⟩
   exact eqC_no (fun e => absurd (show ((List.length a0 : Int) != (List.length a1 : Int)) = true from h0) (by have e : a0 = a1 := e; rw [e]; simp))
 · have g0 : List.length a0 = List.length a1 := lenEq h0
   refine Vs (Vq (Vq (Vr hG rfl (by trivial) ?_)))
   refine Vb ?_
   refine Vc.loopF [(5, false, .pure (.int .i64))] [0, 1, 10] (fun v => eqInv a0 a1 v.1) (fun v => ((List.length a0 : Int) - v.1).toNat) rfl ?_ ?_
   · exact eqStart g0
   rintro ⟨(i : Int), _⟩ hI
   have hI : eqInv a0 a1 i := hI
   refine Vq (Vq (Vr hG rfl (by trivial) ?_))
   refine Vk rfl (fun h1 => ?_) (fun h1 => ?_)
   · have hl : i < (List.length a0 : Int) := of_decide_eq_true h1
     refine Vs (Vq (Vb (Vq ?_)))
     refine VrD mixed hG rfl (by kernel_rfl) ?_ ?_
     · exact ⟨(eqRange hI hl).1, (eqRange hI hl).2⟩
     refine Vk rfl (fun h2 => ?_) (fun h2 => ?_)
     · have g2 : ((List.getD a0 i.toNat (dflt (.str))) != (List.getD a1 i.toNat (dflt (.str)))) = true := h2
       refine Vq (Vr hG rfl (by trivial) (Vt ?_))
       refine ⟨?_, trivial⟩
       exact eqNo (d := dflt (.str)) (i := i) (fun e => by rw [e] at g2; simp at g2)
     · have g2 : (List.getD a0 i.toNat (dflt (.str))) = (List.getD a1 i.toNat (dflt (.str))) := bneS h2
       refine Vs (Vr hG rfl (by trivial) ?_)
       refine ⟨rfl, ?_⟩
       exact ⟨eqStep (d := dflt (.str)) hI hl hb g2, (upStep hI.1 hl hb).2.2⟩
   · have hl : ¬ i < (List.length a0 : Int) := of_decide_eq_false h1
     refine Vx (Vq (Vr hG rfl (by trivial) (Vt ?_)))
     refine ⟨?_, trivial⟩
     exact eqC_yes (eqEnd hI hl)
noncomputable def F27 : Fun := ⟨[.pair (.int .i64) Y13, .pair (.int .i64) Y13], [.pure (.bool)], fun _ => True, fun x => (eqC x.1 x.2.1, ())⟩
theorem F27_ok : Meets Tryz.prog 27 F27 := by
 refine mV (C := mkC 22 [4] [0,1,2,3,4,9,15,21] [⟨101, _, F101_ok⟩, ⟨94, _, F94_ok⟩]) (mkC_ok _ _ _ _) (fnOf_ok _) Tryz.func27 rfl rfl rfl (by decide) rfl ?_
 rintro ⟨a0, a1, _⟩ hwf hpre ⟨P, C, B, X, w0, M0, pv⟩ hG rfl rfl
 show Vc _ _ [(0, ⟨0, 0, .c Z25 a0⟩), (1, ⟨0, 0, .c Z25 a1⟩)] _
 refine Vq (Vr hG rfl (by trivial) (Vq (Vq ?_)))
 refine Vr hG rfl (by trivial) ?_
 refine Vk rfl (fun h0 => ?_) (fun h0 => ?_)
 · refine Vq (Vr hG rfl (by trivial) (Vt ?_))
   refine ⟨?_, trivial⟩
   exact eqC_no (fun e => absurd (show (a0.1 != a1.1) = true from h0) (by have e : a0 = a1 := e; rw [e]; simp))
 · have g0 : a0.1 = a1.1 := bneI h0
   refine Vs (Vq (Vq (Vr hG rfl (by trivial) ?_)))
   refine Vk rfl (fun h1 => ?_) (fun h1 => ?_)
   · refine Vq (Vr hG rfl (by trivial) (Vt ?_))
     refine ⟨?_, trivial⟩
     exact eqC_no (fun e => absurd (show (!(eqC a0.2.1 a1.2.1)) = true from h1) (by have e : a0 = a1 := e; rw [e, eqC_self]; decide))
   · have g1 : a0.2.1 = a1.2.1 := notC h1
     refine Vs (Vq (Vq (Vr hG rfl (by trivial) ?_)))
     refine Vk rfl (fun h2 => ?_) (fun h2 => ?_)
     · refine Vq (Vr hG rfl (by trivial) (Vt ?_))
       refine ⟨?_, trivial⟩
       exact eqC_no (fun e => absurd (show (!(eqC a0.2.2 a1.2.2)) = true from h2) (by have e : a0 = a1 := e; rw [e, eqC_self]; decide))
     · have g2 : a0.2.2 = a1.2.2 := notC h2
       refine Vs (Vq (Vr hG rfl (by trivial) (Vt ?_)))
       refine ⟨?_, trivial⟩
       exact eqC_yes (Prod.ext g0 (Prod.ext g1 g2))
end Fw
