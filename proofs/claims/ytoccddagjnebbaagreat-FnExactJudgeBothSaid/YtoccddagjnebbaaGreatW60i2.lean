/- Walks of functions of the program: what each computes. Conditions: those that each contract names. -/
import Derived.Test.YtoccddagjnebbaaGreatW60T
import Derived.Test.YtoccddagjnebbaaGreatW60i0
import Derived.Test.YtoccddagjnebbaaGreatW60i1
namespace Fw
open Go Go.Proofs
set_option linter.unusedSimpArgs false
set_option maxRecDepth 100000
noncomputable def F154 : Fun := ⟨[.slice Y32, .pair (.int .i64) Y9], [.pure (.bool)], fun _ => True, fun x => (checkPieceF x.1 x.2.1, ())⟩
theorem F154_ok : Meets Tryz.prog 154 F154 := by
 refine mV (C := mkC 54 [4] [0,1,3,4,5,7,8,15,22,29,36] [⟨241, _, F241_ok⟩, ⟨157, _, F157_ok⟩, ⟨164, _, F164_ok⟩, ⟨242, _, F242_ok⟩, ⟨243, _, F243_ok⟩, ⟨170, _, F170_ok⟩, ⟨149, _, F149_ok⟩]) (mkC_ok _ _ _ _) (fnOf_ok _) Tryz.func154 rfl rfl rfl (by decide) rfl ?_
 rintro ⟨a0, a1, _⟩ hwf hpre ⟨P, C, B, X, w0, M0, pv⟩ hG rfl rfl
 show Vc _ _ [(0, ⟨0, 0, .c Z36 a0⟩), (1, ⟨0, 0, .c Z22 a1⟩)] _
 refine Vq (Vr hG rfl (by trivial) (Vq (Vr hG rfl (by trivial) ?_)))
 refine Vq (Vq (Vr hG rfl (by trivial) (Vb ?_)))
 refine Vq (Vr hG rfl (by trivial) ?_)
 refine Vk rfl (fun h0 => ?_) (fun h0 => ?_)
 · have g0 : kindF a1 = 101 := beqI2 h0
   refine Vr hG rfl (by trivial) (Vq ?_)
   refine Vr hG rfl ?_ ?_
   · first
       | exact fun h => shapeSmall ((sh101 g0).trans h)
       | exact fun h => shapeSmall ((sh102 g1).trans h)
       | exact fun h => shapeSmall ((sh103 g2).trans h)
       | exact fun h => shapeSmall ((sh104 g3).trans h)
       | exact fun h => shapeSmall ((sh105 g4).trans h)
       | (intro h;cases h)
   refine Vt ?_
   refine ⟨?_, trivial⟩
   show pick2 (pieceCertF a1).2 (checkMarkF a0 a1.1 a1.2.1 a1.2.2) false = checkPieceF a0 a1
   unfold checkPieceF
   rw [sh101 g0]
 · have n0 : kindF a1 ≠ 101 := bneI' h0
   refine Vq (Vr hG rfl (by trivial) ?_)
   refine Vk rfl (fun h1 => ?_) (fun h1 => ?_)
   · have g1 : kindF a1 = 102 := beqI2 h1
     refine Vr hG rfl (by trivial) (Vq ?_)
     refine Vr hG rfl ?_ ?_
     · first
         | exact fun h => shapeSmall ((sh101 g0).trans h)
         | exact fun h => shapeSmall ((sh102 g1).trans h)
         | exact fun h => shapeSmall ((sh103 g2).trans h)
         | exact fun h => shapeSmall ((sh104 g3).trans h)
         | exact fun h => shapeSmall ((sh105 g4).trans h)
         | (intro h;cases h)
     refine Vt ?_
     refine ⟨?_, trivial⟩
     show pick2 (pieceStatF a1).2 (checkMarkF a0 a1.1 a1.2.1 a1.2.2) false = checkPieceF a0 a1
     unfold checkPieceF
     rw [sh102 g1]
   · have n1 : kindF a1 ≠ 102 := bneI' h1
     refine Vq (Vr hG rfl (by trivial) ?_)
     refine Vk rfl (fun h2 => ?_) (fun h2 => ?_)
     · have g2 : kindF a1 = 103 := beqI2 h2
       refine Vr hG rfl (by trivial) (Vq ?_)
       refine Vr hG rfl ?_ ?_
       · first
           | exact fun h => shapeSmall ((sh101 g0).trans h)
           | exact fun h => shapeSmall ((sh102 g1).trans h)
           | exact fun h => shapeSmall ((sh103 g2).trans h)
           | exact fun h => shapeSmall ((sh104 g3).trans h)
           | exact fun h => shapeSmall ((sh105 g4).trans h)
           | (intro h;cases h)
       refine Vt ?_
       refine ⟨?_, trivial⟩
       show pick2 (pieceStampF a1).2 (checkMarkF a0 a1.1 a1.2.1 a1.2.2) false = checkPieceF a0 a1
       unfold checkPieceF
       rw [sh103 g2]
     · have n2 : kindF a1 ≠ 103 := bneI' h2
       refine Vq (Vr hG rfl (by trivial) ?_)
       refine Vk rfl (fun h3 => ?_) (fun h3 => ?_)
       · have g3 : kindF a1 = 104 := beqI2 h3
         refine Vr hG rfl (by trivial) (Vq ?_)
         refine Vr hG rfl ?_ ?_
         · first
             | exact fun h => shapeSmall ((sh101 g0).trans h)
             | exact fun h => shapeSmall ((sh102 g1).trans h)
             | exact fun h => shapeSmall ((sh103 g2).trans h)
             | exact fun h => shapeSmall ((sh104 g3).trans h)
             | exact fun h => shapeSmall ((sh105 g4).trans h)
             | (intro h;cases h)
         refine Vt ?_
         refine ⟨?_, trivial⟩
         show pick2 (pieceSignF a1).2 (checkMarkF a0 a1.1 a1.2.1 a1.2.2) false = checkPieceF a0 a1
         unfold checkPieceF
         rw [sh104 g3]
       · have n3 : kindF a1 ≠ 104 := bneI' h3
         refine Vq (Vr hG rfl (by trivial) ?_)
         refine Vk rfl (fun h4 => ?_) (fun h4 => ?_)
         · have g4 : kindF a1 = 105 := beqI2 h4
           refine Vr hG rfl (by trivial) (Vq ?_)
           refine Vr hG rfl ?_ ?_
           · first
               | exact fun h => shapeSmall ((sh101 g0).trans h)
               | exact fun h => shapeSmall ((sh102 g1).trans h)
               | exact fun h => shapeSmall ((sh103 g2).trans h)
               | exact fun h => shapeSmall ((sh104 g3).trans h)
               | exact fun h => shapeSmall ((sh105 g4).trans h)
               | (intro h;cases h)
           refine Vt ?_
           refine ⟨?_, trivial⟩
           show pick2 (pieceMandF a1).2 (checkMarkF a0 a1.1 a1.2.1 a1.2.2) false = checkPieceF a0 a1
           unfold checkPieceF
           rw [sh105 g4]
         · have n4 : kindF a1 ≠ 105 := bneI' h4
           refine Vs (Vq ?_)
           refine Vr hG rfl ?_ ?_
           · first
               | exact fun h => shapeSmall ((sh101 g0).trans h)
               | exact fun h => shapeSmall ((sh102 g1).trans h)
               | exact fun h => shapeSmall ((sh103 g2).trans h)
               | exact fun h => shapeSmall ((sh104 g3).trans h)
               | exact fun h => shapeSmall ((sh105 g4).trans h)
               | (intro h;cases h)
           refine Vt ?_
           refine ⟨?_, trivial⟩
           show pick2 false (checkMarkF a0 a1.1 a1.2.1 a1.2.2) false = checkPieceF a0 a1
           unfold checkPieceF
           rw [shNo n0 n1 n2 n3 n4]
noncomputable def F155 : Fun := ⟨[.pair (.int .i64) Y9, .pair (.int .i64) Y9], [.pure (.bool)], fun _ => True, fun x => (pbF x.1 x.2.1, ())⟩
theorem F155_ok : Meets Tryz.prog 155 F155 := by
 refine mV (C := mkC 73 [4] [0,1,2,3,4,5,17,30,42,57] []) (mkC_ok _ _ _ _) (fnOf_ok _) Tryz.func155 rfl rfl rfl (by decide) rfl ?_
 rintro ⟨a0, a1, _⟩ hwf hpre ⟨P, C, B, X, w0, M0, pv⟩ hG rfl rfl
 show Vc _ _ [(0, ⟨0, 0, .c Z22 a0⟩), (1, ⟨0, 0, .c Z22 a1⟩)] _
 have hb : List.length a0.2.1 ≤ bigLen := hwf.1.2.1.1
 refine Vq (Vr hG rfl (by trivial) (Vq (Vq ?_)))
 refine Vr hG rfl (by trivial) (Vb ?_)
 refine Vc.loopF [(5, false, .pure (.int .i64))] [0, 1, 2, 3, 42, 57] (fun v => pbInv a0 a1 v.1) (fun v => ((List.length a0.2.1 : Int) - v.1).toNat) rfl ?_ ?_
 · exact pbStart
 rintro ⟨(i : Int), _⟩ hI
 have hI : pbInv a0 a1 i := hI
 refine Vq (Vq (Vr hG rfl (by trivial) ?_))
 refine Vk rfl (fun h0 => ?_) (fun h0 => ?_)
 · have hh := andLt h0
   have hl := hh.1
   have hm := hh.2
   refine Vs (Vq (Vb (Vq ?_)))
   refine VrD mixed hG rfl (by kernel_rfl) ?_ ?_
   · exact ⟨pbRangeA hI hl, pbRangeB hI hm⟩
   refine Vk rfl (fun h1 => ?_) (fun h1 => ?_)
   · have g1 := bneT h1
     refine Vq ?_
     refine VrD mixed hG rfl (by kernel_rfl) ?_ ?_
     · exact ⟨pbRangeA hI hl, pbRangeB hI hm⟩
     refine Vt ?_
     refine ⟨?_, trivial⟩
     exact pbHit hI hl hm g1
   · have g1 := bneI h1
     refine Vs (Vr hG rfl (by trivial) ?_)
     refine ⟨rfl, ?_⟩
     exact pbStep hI hl hm hb g1
 · have hx := andGe h0
   refine Vx (Vq (Vb (Vq ?_)))
   refine Vr hG rfl (by trivial) ?_
   refine Vk rfl (fun h2 => ?_) (fun h2 => ?_)
   · refine Vq (Vr hG rfl (by trivial) (Vt ?_))
     refine ⟨?_, trivial⟩
     exact pbLen hI hx h2
   · refine Vq (Vr hG rfl (by trivial) ?_)
     refine Vk rfl (fun h3 => ?_) (fun h3 => ?_)
     · refine Vq (Vr hG rfl (by trivial) (Vt ?_))
       refine ⟨?_, trivial⟩
       exact pbKey hI hx h2 h3
     · refine Vs (Vq (Vr hG rfl (by trivial) (Vt ?_)))
       refine ⟨?_, trivial⟩
       exact pbMark hI hx h2 h3
noncomputable def F80 : Fun := ⟨[.pair Y34 Y55, .pair Y66 Y37, .slice (.slice (.int .i64))], [.own Z29], fun x => (fun (_ : Frame) (e : Evidence) (_ : List (List Int)) => Sm big20 Y66 e.1 ∧ ((cellsC Y66 e.1 : Nat) : Int) ≤ 2000000000) x.1 x.2.1 x.2.2.1, fun x => (usablePiecesF x.1 x.2.1 x.2.2.1, ())⟩
theorem F80_ok : Meets Tryz.prog 80 F80 := by
 refine mV (C := mkC 79 [6] [0,1,2,3,4,6,7,9,11,12,14,15,16,17,21,22,23,24,48,60] [⟨153, _, F153_ok⟩, ⟨154, _, F154_ok⟩, ⟨76, _, F76_ok⟩, ⟨78, _, F78_ok⟩, ⟨155, _, F155_ok⟩, ⟨156, _, F156_ok⟩]) (mkC_ok _ _ _ _) (fnOf_ok _) Tryz.func80 rfl rfl rfl (by decide) rfl ?_
 rintro ⟨a0, a1, a2, _⟩ hwf hpre ⟨P, C, B, X, w0, M0, pv⟩ hG rfl rfl
 show Vc _ _ [(0, ⟨0, 0, .c Z67 a0⟩), (1, ⟨0, 0, .c Z72 a1⟩), (2, ⟨0, 0, .c Z7 a2⟩)] _
 have hS : Sm big20 Y66 a1.1 := hpre.1
 have hc : ((cellsC Y66 a1.1 : Nat) : Int) ≤ 2000000000 := hpre.2
 have hb : List.length a1.1 ≤ bigLen := hwf.2.1.1.1
 refine Vq (Vr hG rfl (by trivial) (Vq (Vr hG rfl (by trivial) ?_)))
 refine Vq (Vq (Vr hG rfl (by trivial) (Vb ?_)))
 refine Vc.loopF [(7, false, .own Z29), (16, false, .pure (.int .i64))] [0, 1, 2, 3, 4, 6, 14, 15] (fun v => uoInv a0 a1 a2 v.1 v.2.1) (fun v => ((List.length a1.1 : Int) - v.2.1).toNat) rfl ?_ ?_
 · exact uoStart
 rintro ⟨out, (i : Int), _⟩ hI
 have hI : uoInv a0 a1 a2 out i := hI
 refine Vq (Vr hG rfl (by trivial) (Vq ?_))
 refine Vk rfl (fun h0 => ?_) (fun h0 => ?_)
 · have hl : i < (List.length a1.1 : Int) := of_decide_eq_true h0
   have ri := uoRange hI hl
   have sS := usStrand hS ri
   have hbk : List.length (List.getD a1.1 i.toNat (dflt Y63)).1 ≤ bigLen := Nat.le_trans sS.1.1 (by decide)
   refine Vs (Vq (Vb (Vq ?_)))
   refine Vr hG rfl ?_ ?_
   · exact ri
   refine Vq (Vr hG rfl (by trivial) (Vb ?_))
   refine Vc.loopF [(7, false, .own Z29), (23, false, .pure (.int .i64))] [0, 1, 2, 3, 4, 6, 9, 14, 15, 16, 17, 21, 22] (fun v => uiInv a0 a1 a2 i v.1 v.2.1) (fun v => ((List.length (List.getD a1.1 i.toNat (dflt Y63)).1 : Int) - v.2.1).toNat) rfl ?_ ?_
   · exact uiStart hI
   rintro ⟨out2, (k : Int), _⟩ hK
   have hK : uiInv a0 a1 a2 i out2 k := hK
   refine Vq (Vr hG rfl (by trivial) (Vq ?_))
   refine Vk rfl (fun h1 => ?_) (fun h1 => ?_)
   · have hm : k < (List.length (List.getD a1.1 i.toNat (dflt Y63)).1 : Int) := of_decide_eq_true h1
     have rk := uiRange hK hm
     have ho := uiLen ri hK hc
     have hE : Sm big20 Y19 (List.getD (List.getD a1.1 i.toNat (dflt Y63)).1 k.toNat (dflt Y19)) := sS.1.2 _ (getD_mem rk _)
     refine Vs (Vq (Vb (Vq ?_)))
     refine Vr hG rfl ?_ ?_
     · exact rk
     refine Vq (Vq ?_)
     refine VrD mixed hG rfl (by kernel_rfl) ?_ ?_
     · repeat' (first | exact trivial | exact hS | refine And.intro ?_ ?_ | intro _)
     refine Vk rfl (fun h2 => ?_) (fun h2 => ?_)
     · have g2 : pick2 (pick2 (hasF out2 (List.getD (List.getD a1.1 i.toNat (dflt Y63)).1 k.toNat (dflt Y19))) true (!(checkPieceF a0.1 (List.getD (List.getD a1.1 i.toNat (dflt Y63)).1 k.toNat (dflt Y19))))) true (decide (evBoundF a0 a1 a2 (List.getD (List.getD a1.1 i.toNat (dflt Y63)).1 k.toNat (dflt Y19)) ≥ brkKeyF a0 (List.getD (List.getD a1.1 i.toNat (dflt Y63)).1 k.toNat (dflt Y19)).1)) = true := h2
       have st := uiStep hK hm hbk (usSkip g2)
       refine Vx (Vr hG rfl (by trivial) ?_)
       refine ⟨rfl, ?_⟩
       exact st
     · have g2 : pick2 (pick2 (hasF out2 (List.getD (List.getD a1.1 i.toNat (dflt Y63)).1 k.toNat (dflt Y19))) true (!(checkPieceF a0.1 (List.getD (List.getD a1.1 i.toNat (dflt Y63)).1 k.toNat (dflt Y19))))) true (decide (evBoundF a0 a1 a2 (List.getD (List.getD a1.1 i.toNat (dflt Y63)).1 k.toNat (dflt Y19)) ≥ brkKeyF a0 (List.getD (List.getD a1.1 i.toNat (dflt Y63)).1 k.toNat (dflt Y19)).1)) = false := h2
       refine Vs (Vq (Vr hG rfl (by trivial) (Vq ?_)))
       refine Vb ?_
       refine Vc.loopF [(12, false, .pure (.int .i64))] [0, 1, 2, 3, 4, 6, 7, 9, 11, 14, 15, 16, 17, 21, 22, 23, 24, 48] (fun v => tkInv (fun (y : Piece) => pbF y (List.getD (List.getD a1.1 i.toNat (dflt Y63)).1 k.toNat (dflt Y19))) out2 v.1) (fun v => ((List.length out2 : Int) - v.1).toNat) rfl ?_ ?_
       · exact tkStart
       rintro ⟨(q : Int), _⟩ hQ
       have hQ : tkInv (fun (y : Piece) => pbF y (List.getD (List.getD a1.1 i.toNat (dflt Y63)).1 k.toNat (dflt Y19))) out2 q := hQ
       refine Vq (Vq ?_)
       refine VrD mixed hG rfl (by kernel_rfl) ?_ ?_
       · exact ⟨fun h => tkRange hQ (of_decide_eq_true h), fun _ => trivial⟩
       refine Vk rfl (fun h3 => ?_) (fun h3 => ?_)
       · have g3 : pick2 (decide (q < (List.length out2 : Int))) (pbF (List.getD out2 q.toNat (dflt Y19)) (List.getD (List.getD a1.1 i.toNat (dflt Y63)).1 k.toNat (dflt Y19))) false = true := h3
         refine Vs (Vb (Vr hG rfl (by trivial) ?_))
         refine ⟨rfl, ?_⟩
         exact tkStepW (p := (fun (y : Piece) => pbF y (List.getD (List.getD a1.1 i.toNat (dflt Y63)).1 k.toNat (dflt Y19)))) hQ ho g3
       · have g3 : pick2 (decide (q < (List.length out2 : Int))) (pbF (List.getD out2 q.toNat (dflt Y19)) (List.getD (List.getD a1.1 i.toNat (dflt Y63)).1 k.toNat (dflt Y19))) false = false := h3
         have hk := tkEnd (p := (fun (y : Piece) => pbF y (List.getD (List.getD a1.1 i.toNat (dflt Y63)).1 k.toNat (dflt Y19)))) hQ g3
         have st := uiStep hK hm hbk ((putEq hQ hk).trans (usTake g2))
         refine Vx ?_
         refine VrD mixed hG rfl (by kernel_rfl) ?_ ?_
         · exact insConds2W hQ ho hE
         refine Vr hG rfl (by trivial) ?_
         refine ⟨rfl, ?_⟩
         exact st
   · have hm : ¬ k < (List.length (List.getD a1.1 i.toNat (dflt Y63)).1 : Int) := of_decide_eq_false h1
     refine Vx (Vr hG rfl (by trivial) ?_)
     refine ⟨rfl, ?_⟩
     exact uoStep hI hl hb hK hm
 · have hl : ¬ i < (List.length a1.1 : Int) := of_decide_eq_false h0
   refine Vx (Vq (Vr hG rfl (by trivial) (Vt ?_)))
   refine ⟨?_, trivial⟩
   exact uoEnd hI hl
noncomputable def F259 : Fun := ⟨[.pair (.int .i64) Y38], [.pure Y4], fun _ => True, fun x => (certSpanF x.1, ())⟩
theorem F259_ok : Meets Tryz.prog 259 F259 := by
 refine mV (C := mkC 8 [2] [0,1,2] []) (mkC_ok _ _ _ _) (fnOf_ok _) Tryz.func259 rfl rfl rfl (by decide) rfl ?_
 rintro ⟨a0, _⟩ hwf hpre ⟨P, C, B, X, w0, M0, pv⟩ hG rfl rfl
 show Vc _ _ [(0, ⟨0, 0, .c Z46 a0⟩)] _
 refine Vq (Vr hG rfl (by trivial) (Vq (Vr hG rfl (by trivial) ?_)))
 refine Vt ?_
 refine ⟨?_, trivial⟩
 all_goals exact rfl
noncomputable def F245 : Fun := ⟨[.pair (.int .i64) Y38], [.pure (.bool)], fun _ => True, fun x => (isCertF x.1, ())⟩
theorem F245_ok : Meets Tryz.prog 245 F245 := by
 refine mV (C := mkC 33 [2] [0,1,2] [⟨147, _, F147_ok⟩, ⟨259, _, F259_ok⟩, ⟨168, _, F168_ok⟩]) (mkC_ok _ _ _ _) (fnOf_ok _) Tryz.func245 rfl rfl rfl (by decide) rfl ?_
 rintro ⟨a0, _⟩ hwf hpre ⟨P, C, B, X, w0, M0, pv⟩ hG rfl rfl
 show Vc _ _ [(0, ⟨0, 0, .c Z46 a0⟩)] _
 refine Vq (Vr hG rfl (by trivial) (Vq ?_))
 refine Vr hG rfl ?_ ?_
 · repeat' (first | exact trivial | refine And.intro ?_ ?_ | intro _)
 refine Vt ?_
 refine ⟨?_, trivial⟩
 all_goals exact rfl
noncomputable def F246 : Fun := ⟨[.pair (.int .i64) Y38], [.own (.pure (.int .i64))], fun _ => True, fun x => (certIntsF x.1, ())⟩
theorem F246_ok : Meets Tryz.prog 246 F246 := by
 refine mV (C := mkC 16 [2] [0,1,2] []) (mkC_ok _ _ _ _) (fnOf_ok _) Tryz.func246 rfl rfl rfl (by decide) rfl ?_
 rintro ⟨a0, _⟩ hwf hpre ⟨P, C, B, X, w0, M0, pv⟩ hG rfl rfl
 show Vc _ _ [(0, ⟨0, 0, .c Z46 a0⟩)] _
 refine Vq (Vr hG rfl (by trivial) (Vq (Vr hG rfl (by trivial) ?_)))
 refine Vt ?_
 refine ⟨?_, trivial⟩
 all_goals exact rfl
noncomputable def F247 : Fun := ⟨[.slice Y32, .int .i64], [.pure (.int .i64)], fun _ => True, fun x => (ownerF x.1 x.2.1, ())⟩
theorem F247_ok : Meets Tryz.prog 247 F247 := by
 refine mV (C := mkC 16 [4] [0,1,4,5,10] [⟨74, _, F74_ok⟩]) (mkC_ok _ _ _ _) (fnOf_ok _) Tryz.func247 rfl rfl rfl (by decide) rfl ?_
 rintro ⟨a0, (a1 : Int), _⟩ hwf hpre ⟨P, C, B, X, w0, M0, pv⟩ hG rfl rfl
 show Vc _ _ [(0, ⟨0, 0, .c Z36 a0⟩), (1, ⟨0, 0, .c (.pure (.int .i64)) a1⟩)] _
 refine Vq (Vr hG rfl (by trivial) (Vq (Vq ?_)))
 refine Vr hG rfl (by trivial) (Vq (Vr hG rfl (by trivial) ?_))
 refine Vk rfl (fun h0 => ?_) (fun h0 => ?_)
 · have g0 : ¬ keyI a0 a1 < 0 := Int.not_lt.2 (of_decide_eq_true h0)
   refine Vq ?_
   refine Vr hG rfl ?_ ?_
   · exact findRange g0
   refine Vt ?_
   refine ⟨?_, trivial⟩
   exact owner1 g0
 · have g0 : keyI a0 a1 < 0 := Int.not_le.1 (of_decide_eq_false h0)
   refine Vs (Vq (Vr hG rfl (by trivial) (Vt ?_)))
   refine ⟨?_, trivial⟩
   exact owner0 g0
noncomputable def F158 : Fun := ⟨[.slice Y32, .pair (.int .i64) Y38], [.pure (.bool)], fun _ => True, fun x => (checkCertF x.1 x.2.1, ())⟩
theorem F158_ok : Meets Tryz.prog 158 F158 := by
 refine mV (C := mkC 26 [4] [0,1,3,4] [⟨245, _, F245_ok⟩, ⟨246, _, F246_ok⟩, ⟨149, _, F149_ok⟩, ⟨247, _, F247_ok⟩]) (mkC_ok _ _ _ _) (fnOf_ok _) Tryz.func158 rfl rfl rfl (by decide) rfl ?_
 rintro ⟨a0, a1, _⟩ hwf hpre ⟨P, C, B, X, w0, M0, pv⟩ hG rfl rfl
 show Vc _ _ [(0, ⟨0, 0, .c Z36 a0⟩), (1, ⟨0, 0, .c Z46 a1⟩)] _
 refine Vq (Vr hG rfl (by trivial) (Vq ?_))
 refine VrD mixed hG rfl (by kernel_rfl) ?_ ?_
 · exact ⟨trivial, fun _ => trivial, fun _ => smallLit (n := 7) rfl (by decide), fun _ => trivial⟩
 refine Vt ?_
 refine ⟨?_, trivial⟩
 exact checkCertI a0 a1
noncomputable def F81 : Fun := ⟨[.pair Y34 Y55, .slice Y19, .pair (.int .i64) Y48], [.pure Y45, .pure (.bool)], fun _ => True, fun x => (((fun a0 a1 a2 => certForF a0.1 a1 a2) x.1 x.2.1 x.2.2.1).1, ((fun a0 a1 a2 => certForF a0.1 a1 a2) x.1 x.2.1 x.2.2.1).2, ())⟩
theorem F81_ok : Meets Tryz.prog 81 F81 := by
 refine mV (C := mkC 54 [6, 7] [0,1,2,3,5,6,7,8,9,11,12,13,14,15,16,17,45,51] [⟨157, _, F157_ok⟩, ⟨158, _, F158_ok⟩]) (mkC_ok _ _ _ _) (fnOf_ok _) Tryz.func81 rfl rfl rfl (by decide) rfl ?_
 rintro ⟨a0, a1, a2, _⟩ hwf hpre ⟨P, C, B, X, w0, M0, pv⟩ hG rfl rfl
 show Vc _ _ [(0, ⟨0, 0, .c Z67 a0⟩), (1, ⟨0, 0, .c Z26 a1⟩), (2, ⟨0, 0, .c Z52 a2⟩)] _
 have hb : List.length a1 ≤ bigLen := hwf.2.1.1
 refine Vq (Vr hG rfl (by trivial) (Vq (Vr hG rfl (by trivial) ?_)))
 refine Vq (Vr hG rfl (by trivial) (Vq (Vq ?_)))
 refine Vr hG rfl (by trivial) (Vb ?_)
 refine Vc.loopF [(8, true, .pure Y45), (9, false, .pure (.int .i64)), (16, false, .pure (.int .i64))] [0, 1, 2, 3, 5, 6, 7, 14, 15, 51] (fun v => cfInv a0.1 a2 a1 v.1 v.2.1 v.2.2.1) (fun v => ((List.length a1 : Int) - v.2.2.1).toNat) rfl ?_ ?_
 · exact cfStart
 rintro ⟨c, (n : Int), (i : Int), _⟩ hI
 have hI : cfInv a0.1 a2 a1 c n i := hI
 refine Vq (Vr hG rfl (by trivial) (Vq ?_))
 refine Vk rfl (fun h0 => ?_) (fun h0 => ?_)
 · have hl : i < (List.length a1 : Int) := of_decide_eq_true h0
   refine Vs (Vq (Vb (Vq ?_)))
   refine Vr hG rfl ?_ ?_
   · exact cfRange hI hl
   refine Vq (Vr hG rfl (by trivial) (Vq ?_))
   refine Vr hG rfl ?_ ?_
   · repeat' (first | exact trivial | refine And.intro ?_ ?_ | intro _)
   refine Vk rfl (fun h1 => ?_) (fun h1 => ?_)
   · have g1 : cfTest a0.1 a2 (List.getD a1 i.toNat (dflt Y19)) = true := h1
     refine Vq (Vr hG rfl (by trivial) (Vr hG rfl (by trivial) (Vr hG rfl (by trivial) ?_)))
     refine ⟨rfl, ?_⟩
     first | exact cfGo1 hI hl hb g1 | exact cfGo0 hI hl hb g1
   · have g1 : cfTest a0.1 a2 (List.getD a1 i.toNat (dflt Y19)) = false := h1
     refine Vs (Vr hG rfl (by trivial) ?_)
     refine ⟨rfl, ?_⟩
     first | exact cfGo1 hI hl hb g1 | exact cfGo0 hI hl hb g1
 · have hl : ¬ i < (List.length a1 : Int) := of_decide_eq_false h0
   refine Vx (Vq (Vq (Vr hG rfl (by trivial) ?_)))
   refine Vk rfl (fun h2 => ?_) (fun h2 => ?_)
   · have g2 : (n != 1) = true := h2
     refine Vq (Vr hG rfl (by trivial) (Vt ?_))
     have e := cfEnd0 hI hl g2
     refine ⟨?_, ?_, trivial⟩
     · exact (congrArg Prod.fst e).symm
     · exact (congrArg Prod.snd e).symm
   · have g2 : (n != 1) = false := h2
     refine Vs (Vq (Vr hG rfl (by trivial) (Vt ?_)))
     have e := cfEnd1 hI hl g2
     refine ⟨?_, ?_, trivial⟩
     · exact (congrArg Prod.fst e).symm
     · exact (congrArg Prod.snd e).symm
noncomputable def F248 : Fun := ⟨[.int .i64, .int .i64], [.pure (.int .i64)], fun _ => True, fun x => ((fun (a b : Int) => max a b) x.1 x.2.1, ())⟩
theorem F248_ok : Meets Tryz.prog 248 F248 := by
 refine mV (C := mkC 8 [4] [0,1,4] []) (mkC_ok _ _ _ _) (fnOf_ok _) Tryz.func248 rfl rfl rfl (by decide) rfl ?_
 rintro ⟨(a0 : Int), (a1 : Int), _⟩ hwf hpre ⟨P, C, B, X, w0, M0, pv⟩ hG rfl rfl
 show Vc _ _ [(0, ⟨0, 0, .c (.pure (.int .i64)) a0⟩), (1, ⟨0, 0, .c (.pure (.int .i64)) a1⟩)] _
 refine Vq (Vr hG rfl (by trivial) (Vq (Vr hG rfl (by trivial) ?_)))
 refine Vt ?_
 refine ⟨?_, trivial⟩
 all_goals exact rfl
noncomputable def F160 : Fun := ⟨[.int .i64, .slice Y32], [.pure (.int .i64)], fun x => (fun (_ : Int) (l : List Stamp) => List.length l ≤ 1048576) x.1 x.2.1, fun x => (stampsDgF x.1 x.2.1, ())⟩
theorem F160_ok : Meets Tryz.prog 160 F160 := by
 refine mV (C := mkC 27 [4] [0,1,4,5,7,10,11,12,13,14] [⟨182, _, F182_ok⟩, ⟨248, _, F248_ok⟩]) (mkC_ok _ _ _ _) (fnOf_ok _) Tryz.func160 rfl rfl rfl (by decide) rfl ?_
 rintro ⟨(a0 : Int), a1, _⟩ hwf hpre ⟨P, C, B, X, w0, M0, pv⟩ hG rfl rfl
 show Vc _ _ [(0, ⟨0, 0, .c (.pure (.int .i64)) a0⟩), (1, ⟨0, 0, .c Z36 a1⟩)] _
 have hs : List.length a1 ≤ 1048576 := hpre
 have hb : List.length a1 ≤ bigLen := hwf.2.1.1
 refine Vq (Vr hG rfl (by trivial) (Vq (Vq ?_)))
 refine Vr hG rfl (by trivial) ?_
 refine Vk rfl (fun h0 => ?_) (fun h0 => ?_)
 · have g0 : (List.length a1 : Int) = 0 := beqI2 h0
   refine Vq (Vr hG rfl (by trivial) (Vt ?_))
   refine ⟨?_, trivial⟩
   exact sd0 g0
 · have g0 : ¬ (List.length a1 : Int) = 0 := bneI' h0
   refine Vs (Vq (Vr hG rfl (by trivial) (Vq ?_)))
   refine Vq (Vr hG rfl (by trivial) (Vb ?_))
   refine Vc.loopF [(5, false, .own (.pure (.int .i64))), (13, false, .pure (.int .i64))] [0, 1, 4, 10, 11, 12] (fun v => gsInv (mkG a1) [] a1 v.1 v.2.1) (fun v => ((List.length a1 : Int) - v.2.1).toNat) rfl ?_ ?_
   · exact gsStart
   rintro ⟨acc, (i : Int), _⟩ hI
   have hI : gsInv (mkG a1) [] a1 acc i := hI
   have hA : List.length acc ≤ 1048576 := gsLen (c := 1) (m := 1048576) hI (fun _ => Nat.le_refl _) hs (by simp)
   refine Vq (Vr hG rfl (by trivial) (Vq ?_))
   refine Vk rfl (fun h1 => ?_) (fun h1 => ?_)
   · have hl : i < (List.length a1 : Int) := of_decide_eq_true h1
     refine Vs (Vq (Vb (Vq ?_)))
     refine Vr hG rfl ?_ ?_
     · exact gsRange hI hl
     refine Vr hG rfl ?_ ?_
     · exact (show List.length acc + 1 ≤ maxApp from by unfold maxApp; omega)
     refine Vr hG rfl (by trivial) ?_
     refine ⟨rfl, ?_⟩
     exact gsStep hI hl hb rfl
   · have hl : ¬ i < (List.length a1 : Int) := of_decide_eq_false h1
     refine Vx (Vq ?_)
     refine Vr hG rfl ?_ ?_
     · exact ⟨(show List.length acc ≤ 1000000000 from by omega), trivial⟩
     refine Vt ?_
     refine ⟨?_, trivial⟩
     exact (congrArg (fun l => max 1 (digestF a0 l)) (gsEnd hI hl)).trans (sd1 g0)
noncomputable def F161 : Fun := ⟨[.int .i64, .pair (.int .i64) Y24], [.pair (.pure (.int .i64)) Z16], fun _ => True, fun x => (stampPieceF x.1 x.2.1, ())⟩
theorem F161_ok : Meets Tryz.prog 161 F161 := by
 refine mV (C := mkC 11 [4] [0,1,3,4] [⟨249, _, F249_ok⟩]) (mkC_ok _ _ _ _) (fnOf_ok _) Tryz.func161 rfl rfl rfl (by decide) rfl ?_
 rintro ⟨(a0 : Int), a1, _⟩ hwf hpre ⟨P, C, B, X, w0, M0, pv⟩ hG rfl rfl
 show Vc _ _ [(0, ⟨0, 0, .c (.pure (.int .i64)) a0⟩), (1, ⟨0, 0, .c Z33 a1⟩)] _
 refine Vq (Vr hG rfl (by trivial) (Vq (VrD mixed hG rfl (by kernel_rfl) (by trivial) ?_)))
 refine Vt ?_
 refine ⟨?_, trivial⟩
 all_goals exact rfl
end Fw
