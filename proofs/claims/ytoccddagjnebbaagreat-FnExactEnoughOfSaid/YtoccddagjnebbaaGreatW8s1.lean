/- Walks of functions of the program: what each computes. Conditions: those that each contract names. -/
import Derived.Test.YtoccddagjnebbaaGreatW8T
import Derived.Test.YtoccddagjnebbaaGreatW8s0
namespace Fw
open Go Go.Proofs
set_option linter.unusedSimpArgs false
set_option maxRecDepth 100000
noncomputable def F224 : Fun := ⟨[.slice Y4, .int .i64], [.pure Y4, .pure (.bool)], fun _ => True, fun x => ((agreedF x.1 x.2.1).1, (agreedF x.1 x.2.1).2, ())⟩
theorem F224_ok : Meets Tryz.prog 224 F224 := by
 refine mV (C := mkC 83 [4, 5] [0,1,4,5,6,7,8,14,19,49,69,78] [⟨207, _, F207_ok⟩, ⟨137, _, F137_ok⟩, ⟨288, _, F288_ok⟩, ⟨132, _, F132_ok⟩]) (mkC_ok _ _ _ _) (fnOf_ok _) Tryz.func224 rfl rfl rfl (by decide) rfl ?_
 rintro ⟨a0, (a1 : Int), _⟩ hwf hpre ⟨P, C, B, X, w0, M0, pv⟩ hG rfl rfl
 show Vc _ _ [(0, ⟨0, 0, .c Z14 a0⟩), (1, ⟨0, 0, .c (.pure (.int .i64)) a1⟩)] _
 have hb : List.length a0 ≤ bigLen := hwf.1.1
 refine Vq (Vr hG rfl (by trivial) (Vq (Vq ?_)))
 refine Vr hG rfl (by trivial) ?_
 refine Vk rfl (fun h0 => ?_) (fun h0 => ?_)
 · have g0 := h0
   refine Vq (Vr hG rfl (by trivial) (Vt ?_))
   have e := agBad g0
   refine ⟨?_, ?_, trivial⟩
   · exact (congrArg Prod.fst e).symm
   · exact (congrArg Prod.snd e).symm
 · have g0 := h0
   refine Vs (Vq (Vr hG rfl (by trivial) (Vq ?_)))
   refine Vr hG rfl (by trivial) (Vq (Vq (Vr hG rfl (by trivial) ?_)))
   refine Vb ?_
   refine Vc.loopF [(6, false, .pure (.int .i64)), (7, false, .pure (.int .i64)), (8, false, .pure (.int .i64))] [0, 1, 4, 5, 14, 78] (fun v => aeInv a0 a1 v.1 v.2.1 v.2.2.1) (fun v => ((List.length a0 : Int) - v.2.2.1).toNat) rfl ?_ ?_
   · exact aeStart
   rintro ⟨(f : Int), (t : Int), (i : Int), _⟩ hI
   have hI : aeInv a0 a1 f t i := hI
   refine Vq (Vq (Vr hG rfl (by trivial) ?_))
   refine Vk rfl (fun h1 => ?_) (fun h1 => ?_)
   · have hl : i < (List.length a0 : Int) := of_decide_eq_true h1
     refine Vs (Vq (Vb (Vq ?_)))
     refine Vq ?_
     refine Vr hG rfl ?_ ?_
     · repeat' (first | exact trivial | exact upRange hI.1 hl | refine And.intro ?_ ?_ | intro _)
     refine Vk rfl (fun h2 => ?_) (fun h2 => ?_)
     · have g2 : aeA a0 a1 f (List.getD a0 i.toNat (dflt Y4)) = true := h2
       have e2 : (List.getD a0 i.toNat (dflt Y4)).1 = (if aeA a0 a1 f (List.getD a0 i.toNat (dflt Y4)) = true then (List.getD a0 i.toNat (dflt Y4)).1 else f) := by rw [if_pos g2]
       refine Vr hG rfl ?_ ?_
       · exact upRange hI.1 hl
       refine Vq ?_
       refine Vr hG rfl ?_ ?_
       · repeat' (first | exact trivial | exact upRange hI.1 hl | refine And.intro ?_ ?_ | intro _)
       refine Vk rfl (fun h3 => ?_) (fun h3 => ?_)
       · have g3 : aeB a0 a1 (List.getD a0 i.toNat (dflt Y4)) = true := h3
         have e3 : max t (List.getD a0 i.toNat (dflt Y4)).2 = (if aeB a0 a1 (List.getD a0 i.toNat (dflt Y4)) = true then max t (List.getD a0 i.toNat (dflt Y4)).2 else t) := by rw [if_pos g3]
         refine Vr hG rfl ?_ ?_
         · exact ⟨upRange hI.1 hl, trivial⟩
         refine Vr hG rfl (by trivial) ?_
         refine ⟨rfl, ?_⟩
         exact aeStep (d := dflt Y4) hI hl hb e2 e3
       · have g3 : aeB a0 a1 (List.getD a0 i.toNat (dflt Y4)) = false := h3
         have e3 : t = (if aeB a0 a1 (List.getD a0 i.toNat (dflt Y4)) = true then max t (List.getD a0 i.toNat (dflt Y4)).2 else t) := by rw [if_neg (by rw [g3]; decide)]
         refine Vs (Vr hG rfl (by trivial) ?_)
         refine ⟨rfl, ?_⟩
         exact aeStep (d := dflt Y4) hI hl hb e2 e3
     · have g2 : aeA a0 a1 f (List.getD a0 i.toNat (dflt Y4)) = false := h2
       have e2 : f = (if aeA a0 a1 f (List.getD a0 i.toNat (dflt Y4)) = true then (List.getD a0 i.toNat (dflt Y4)).1 else f) := by rw [if_neg (by rw [g2]; decide)]
       refine Vs (Vq ?_)
       refine Vr hG rfl ?_ ?_
       · repeat' (first | exact trivial | exact upRange hI.1 hl | refine And.intro ?_ ?_ | intro _)
       refine Vk rfl (fun h4 => ?_) (fun h4 => ?_)
       · have g3 : aeB a0 a1 (List.getD a0 i.toNat (dflt Y4)) = true := h4
         have e3 : max t (List.getD a0 i.toNat (dflt Y4)).2 = (if aeB a0 a1 (List.getD a0 i.toNat (dflt Y4)) = true then max t (List.getD a0 i.toNat (dflt Y4)).2 else t) := by rw [if_pos g3]
         refine Vr hG rfl ?_ ?_
         · exact ⟨upRange hI.1 hl, trivial⟩
         refine Vr hG rfl (by trivial) ?_
         refine ⟨rfl, ?_⟩
         exact aeStep (d := dflt Y4) hI hl hb e2 e3
       · have g3 : aeB a0 a1 (List.getD a0 i.toNat (dflt Y4)) = false := h4
         have e3 : t = (if aeB a0 a1 (List.getD a0 i.toNat (dflt Y4)) = true then max t (List.getD a0 i.toNat (dflt Y4)).2 else t) := by rw [if_neg (by rw [g3]; decide)]
         refine Vs (Vr hG rfl (by trivial) ?_)
         refine ⟨rfl, ?_⟩
         exact aeStep (d := dflt Y4) hI hl hb e2 e3
   · have hl : ¬ i < (List.length a0 : Int) := of_decide_eq_false h1
     refine Vx (Vq (Vq (Vr hG rfl (by trivial) ?_)))
     refine Vk rfl (fun h5 => ?_) (fun h5 => ?_)
     · have g4 : f < 0 := of_decide_eq_true h5
       refine Vq (Vr hG rfl (by trivial) (Vt ?_))
       have e := aeNone hb hI hl g4
       refine ⟨?_, ?_, trivial⟩
       · exact (congrArg Prod.fst e).symm
       · exact (congrArg Prod.snd e).symm
     · have g4 : ¬ f < 0 := of_decide_eq_false h5
       refine Vs (Vq (Vr hG rfl (by trivial) (Vt ?_)))
       have e := aeSome hb hI hl g4
       refine ⟨?_, ?_, trivial⟩
       · exact (congrArg Prod.fst e).symm
       · exact (congrArg Prod.snd e).symm
noncomputable def F283 : Fun := ⟨[.slice Y15, .pair (.int .i64) Y53, .int .i64], [.pure Y4, .pure (.bool)], fun x => (fun (_ : List Authority) (a1 : Renewal) (_ : Int) => List.length a1.2.2.2.2 ≤ 1048576) x.1 x.2.1 x.2.2.1, fun x => (((fun a0 a1 a2 => rsF a0 a1.2.2.2.2 a2) x.1 x.2.1 x.2.2.1).1, ((fun a0 a1 a2 => rsF a0 a1.2.2.2.2 a2) x.1 x.2.1 x.2.2.1).2, ())⟩
theorem F283_ok : Meets Tryz.prog 283 F283 := by
 refine mV (C := mkC 42 [6, 7] [0,1,2,4,6,7,8,9,10,11,17,31] [⟨220, _, F220_ok⟩, ⟨224, _, F224_ok⟩]) (mkC_ok _ _ _ _) (fnOf_ok _) Tryz.func283 rfl rfl rfl (by decide) rfl ?_
 rintro ⟨a0, a1, (a2 : Int), _⟩ hwf hpre ⟨P, C, B, X, w0, M0, pv⟩ hG rfl rfl
 show Vc _ _ [(0, ⟨0, 0, .c Z21 a0⟩), (1, ⟨0, 0, .c Z57 a1⟩), (2, ⟨0, 0, .c (.pure (.int .i64)) a2⟩)] _
 have hs : List.length a1.2.2.2.2 ≤ 1048576 := hpre
 have hb : List.length a1.2.2.2.2 ≤ bigLen := by unfold bigLen; omega
 refine Vq (Vr hG rfl (by trivial) (Vq (Vr hG rfl (by trivial) ?_)))
 refine Vq (Vq (Vr hG rfl (by trivial) (Vb ?_)))
 refine Vc.loopF [(6, true, .pure Y4), (8, false, .own Z8), (9, false, .pure (.int .i64))] [0, 1, 2, 4] (fun v => rsInv a0 a1.2.2.2.2 v.2.1 v.2.2.1) (fun v => ((List.length a1.2.2.2.2 : Int) - v.2.2.1).toNat) rfl ?_ ?_
 · exact rsStart
 rintro ⟨r6, acc, (i : Int), _⟩ hI
 have hI : rsInv a0 a1.2.2.2.2 acc i := hI
 have hA : List.length acc ≤ 1048576 := Nat.le_trans (rsLen hI) hs
 refine Vq (Vq (Vr hG rfl (by trivial) ?_))
 refine Vk rfl (fun h0 => ?_) (fun h0 => ?_)
 · have hl : i < (List.length a1.2.2.2.2 : Int) := of_decide_eq_true h0
   refine Vs (Vq (Vb (Vq ?_)))
   refine Vr hG rfl ?_ ?_
   · exact ⟨rsRange hI hl, trivial⟩
   refine Vq (Vq (Vr hG rfl (by trivial) ?_))
   refine Vk rfl (fun h1 => ?_) (fun h1 => ?_)
   · have g1 : ¬ rsP a0 (List.getD a1.2.2.2.2 i.toNat (dflt TStamp)) := fun q => nself q h1
     refine Vq (Vr hG rfl (by trivial) (Vt ?_))
     have e := rsBad (d := dflt TStamp) (liars := a2) hI hl g1
     refine ⟨?_, ?_, trivial⟩
     · exact congrArg (fun (q : Span × Bool) => q.1) e
     · exact congrArg (fun (q : Span × Bool) => q.2) e
   · have g1 : rsP a0 (List.getD a1.2.2.2.2 i.toNat (dflt TStamp)) := notF h1
     refine Vs ?_
     refine Vr hG rfl ?_ ?_
     · show List.length acc + 1 ≤ maxApp
       unfold maxApp; omega
     refine Vr hG rfl (by trivial) ?_
     refine ⟨rfl, ?_⟩
     exact rsStep (d := dflt TStamp) hI hl hb g1
 · have hl : ¬ i < (List.length a1.2.2.2.2 : Int) := of_decide_eq_false h0
   refine Vx (Vq (Vr hG rfl (by trivial) (Vt ?_)))
   have e := rsEnd (liars := a2) hI hl
   refine ⟨?_, ?_, trivial⟩
   · exact congrArg (fun (q : Span × Bool) => q.1) e
   · exact congrArg (fun (q : Span × Bool) => q.2) e
noncomputable def F125 : Fun := ⟨[.slice Y24, .int .i64], [.pure (.int .i64)], fun _ => True, fun x => ((fun a0 a1 => findI (fun x => x.1 == a1) a0) x.1 x.2.1, ())⟩
theorem F125_ok : Meets Tryz.prog 125 F125 := by
 refine mV (C := mkC 20 [4] [0,1,4,5,9,18] []) (mkC_ok _ _ _ _) (fnOf_ok _) Tryz.func125 rfl rfl rfl (by decide) rfl ?_
 rintro ⟨a0, (a1 : Int), _⟩ hwf hpre ⟨P, C, B, X, w0, M0, pv⟩ hG rfl rfl
 show Vc _ _ [(0, ⟨0, 0, .c Z30 a0⟩), (1, ⟨0, 0, .c (.pure (.int .i64)) a1⟩)] _
 have hb : List.length a0 ≤ bigLen := hwf.1.1
 refine Vq (Vr hG rfl (by trivial) (Vq (Vq ?_)))
 refine Vr hG rfl (by trivial) (Vb ?_)
 refine Vc.loopF [(5, false, .pure (.int .i64))] [0, 1] (fun v => fInv (fun x => x.1 == a1) a0 v.1) (fun v => ((List.length a0 : Int) - v.1).toNat) rfl ?_ ?_
 · exact fStart
 rintro ⟨(i : Int), _⟩ hI
 have hI : fInv (fun x => x.1 == a1) a0 i := hI
 refine Vq (Vq (Vr hG rfl (by trivial) ?_))
 refine Vk rfl (fun h0 => ?_) (fun h0 => ?_)
 · have hl : i < (List.length a0 : Int) := of_decide_eq_true h0
   refine Vs (Vq (Vb (Vq ?_)))
   refine Vr hG rfl ?_ ?_
   · exact fRange hI hl
   refine Vk rfl (fun h1 => ?_) (fun h1 => ?_)
   · have g1 : (fun x => x.1 == a1) (List.getD a0 i.toNat (dflt Y24)) = true := h1
     refine Vq (Vr hG rfl (by trivial) (Vt ?_))
     refine ⟨?_, trivial⟩
     exact fHit hI hl g1
   · have g1 : (fun x => x.1 == a1) (List.getD a0 i.toNat (dflt Y24)) = false := h1
     refine Vs (Vr hG rfl (by trivial) ?_)
     refine ⟨rfl, ?_⟩
     exact fStep hI hl hb g1
 · have hl : ¬ i < (List.length a0 : Int) := of_decide_eq_false h0
   refine Vx (Vq (Vr hG rfl (by trivial) (Vt ?_)))
   refine ⟨?_, trivial⟩
   exact fEnd hI hl
noncomputable def F54 : Fun := ⟨[.slice Y24, .int .i64], [.pure (.int .i64)], fun _ => True, fun x => (breakF x.1 x.2.1, ())⟩
theorem F54_ok : Meets Tryz.prog 54 F54 := by
 refine mV (C := mkC 16 [4] [0,1,4,5,10] [⟨125, _, F125_ok⟩]) (mkC_ok _ _ _ _) (fnOf_ok _) Tryz.func54 rfl rfl rfl (by decide) rfl ?_
 rintro ⟨a0, (a1 : Int), _⟩ hwf hpre ⟨P, C, B, X, w0, M0, pv⟩ hG rfl rfl
 show Vc _ _ [(0, ⟨0, 0, .c Z30 a0⟩), (1, ⟨0, 0, .c (.pure (.int .i64)) a1⟩)] _
 refine Vq (Vr hG rfl (by trivial) (Vq (Vr hG rfl (by trivial) ?_)))
 refine Vq (Vq (Vr hG rfl (by trivial) ?_))
 refine Vk rfl (fun h0 => ?_) (fun h0 => ?_)
 · have g0 : methI a0 a1 < 0 := of_decide_eq_true h0
   refine Vq (Vr hG rfl (by trivial) (Vt ?_))
   refine ⟨?_, trivial⟩
   exact brk0 g0
 · have g0 : ¬ methI a0 a1 < 0 := of_decide_eq_false h0
   refine Vs (Vq ?_)
   refine Vr hG rfl ?_ ?_
   · exact findRange g0
   refine Vt ?_
   refine ⟨?_, trivial⟩
   exact brk1 g0
noncomputable def F223 : Fun := ⟨[.slice Y15, .pair (.int .i64) Y24], [.pure (.int .i64)], fun _ => True, fun x => (stampKeyF x.1 x.2.1, ())⟩
theorem F223_ok : Meets Tryz.prog 223 F223 := by
 refine mV (C := mkC 17 [4] [0,1,3,4,5,11] [⟨286, _, F286_ok⟩]) (mkC_ok _ _ _ _) (fnOf_ok _) Tryz.func223 rfl rfl rfl (by decide) rfl ?_
 rintro ⟨a0, a1, _⟩ hwf hpre ⟨P, C, B, X, w0, M0, pv⟩ hG rfl rfl
 show Vc _ _ [(0, ⟨0, 0, .c Z21 a0⟩), (1, ⟨0, 0, .c Z33 a1⟩)] _
 refine Vq (Vr hG rfl (by trivial) (Vq (Vr hG rfl (by trivial) ?_)))
 refine Vq (Vq (Vr hG rfl (by trivial) ?_))
 refine Vk rfl (fun h0 => ?_) (fun h0 => ?_)
 · have g0 : authI a0 a1.1 < 0 := of_decide_eq_true h0
   refine Vq (Vr hG rfl (by trivial) (Vt ?_))
   refine ⟨?_, trivial⟩
   exact stampKey0 g0
 · have g0 : ¬ authI a0 a1.1 < 0 := of_decide_eq_false h0
   refine Vs (Vq ?_)
   refine Vr hG rfl ?_ ?_
   · exact findRange g0
   refine Vt ?_
   refine ⟨?_, trivial⟩
   exact stampKey1 g0
noncomputable def F330 : Fun := ⟨[.slice Y32, .slice Y15, .slice Y24, .pair (.int .i64) Y53], [.pure (.int .i64)], fun _ => True, fun x => (rbF x.1 x.2.1 x.2.2.1 x.2.2.2.1, ())⟩
theorem F330_ok : Meets Tryz.prog 330 F330 := by
 refine mV (C := mkC 44 [8] [0,1,2,3,7,8,9,10,11,20,33] [⟨54, _, F54_ok⟩, ⟨223, _, F223_ok⟩, ⟨53, _, F53_ok⟩, ⟨122, _, F122_ok⟩]) (mkC_ok _ _ _ _) (fnOf_ok _) Tryz.func330 rfl rfl rfl (by decide) rfl ?_
 rintro ⟨a0, a1, a2, a3, _⟩ hwf hpre ⟨P, C, B, X, w0, M0, pv⟩ hG rfl rfl
 show Vc _ _ [(0, ⟨0, 0, .c Z36 a0⟩), (1, ⟨0, 0, .c Z21 a1⟩), (2, ⟨0, 0, .c Z30 a2⟩), (3, ⟨0, 0, .c Z57 a3⟩)] _
 have hb : List.length a3.2.2.2.2 ≤ bigLen := hwf.2.2.2.1.2.2.2.2.1
 refine Vq (Vr hG rfl (by trivial) (Vq (Vr hG rfl (by trivial) ?_)))
 refine Vq (Vq (Vr hG rfl (by trivial) (Vb ?_)))
 refine Vc.loopF [(9, false, .pure (.int .i64)), (10, false, .pure (.int .i64))] [0, 1, 2, 3, 7] (fun v => efInv (rbBad a0 a1) (rbG a0 a1 a2) 0 (breakF a2 a3.2.1) a3.2.2.2.2 v.1 v.2.1) (fun v => ((List.length a3.2.2.2.2 : Int) - v.2.1).toNat) rfl ?_ ?_
 · exact efStart
 rintro ⟨(m : Int), (i : Int), _⟩ hI
 have hI : efInv (rbBad a0 a1) (rbG a0 a1 a2) 0 (breakF a2 a3.2.1) a3.2.2.2.2 m i := hI
 refine Vq (Vq (Vr hG rfl (by trivial) ?_))
 refine Vk rfl (fun h0 => ?_) (fun h0 => ?_)
 · have hl : i < (List.length a3.2.2.2.2 : Int) := of_decide_eq_true h0
   refine Vs (Vq (Vb (Vq ?_)))
   refine Vr hG rfl ?_ ?_
   · exact ⟨efRange hI hl, trivial, trivial⟩
   refine Vq (Vq (Vr hG rfl (by trivial) ?_))
   refine Vk rfl (fun h1 => ?_) (fun h1 => ?_)
   · have g1 : rbBad a0 a1 (List.getD a3.2.2.2.2 i.toNat (dflt Y32)) = true := h1
     refine Vq (Vr hG rfl (by trivial) (Vt ?_))
     refine ⟨?_, trivial⟩
     exact efStop (d := dflt Y32) hI hl g1
   · have g1 : rbBad a0 a1 (List.getD a3.2.2.2.2 i.toNat (dflt Y32)) = false := h1
     have n1 : ¬ keyI a0 (stampKeyF a1 (List.getD a3.2.2.2.2 i.toNat (dflt Y32))) < 0 := of_decide_eq_false h1
     refine Vs ?_
     refine Vr hG rfl ?_ ?_
     · exact ⟨findRange n1, trivial, trivial⟩
     refine Vr hG rfl (by trivial) ?_
     refine ⟨rfl, ?_⟩
     exact efStep (d := dflt Y32) hI hl hb g1
 · have hl : ¬ i < (List.length a3.2.2.2.2 : Int) := of_decide_eq_false h0
   refine Vx (Vq (Vr hG rfl (by trivial) (Vt ?_)))
   refine ⟨?_, trivial⟩
   exact efEnd hI hl
noncomputable def F322 : Fun := ⟨[.pair Y34 Y55, .pair Y23 Y59, .int .i64], [.pure (.bool)], fun x => (fun (_ : Frame) (s : Strand) (_ : Int) => Sm big20 (.slice TPiece) s.1 ∧ ∀ r ∈ s.2, Sm big20 TRen r) x.1 x.2.1 x.2.2.1, fun x => (linkF x.1 x.2.1 x.2.2.1, ())⟩
theorem F322_ok : Meets Tryz.prog 322 F322 := by
 refine mV (C := mkC 60 [6] [0,1,2,3,4,6,7,8,9,16,34] [⟨207, _, F207_ok⟩, ⟨330, _, F330_ok⟩, ⟨283, _, F283_ok⟩]) (mkC_ok _ _ _ _) (fnOf_ok _) Tryz.func322 rfl rfl rfl (by decide) rfl ?_
 rintro ⟨a0, a1, (a2 : Int), _⟩ hwf hpre ⟨P, C, B, X, w0, M0, pv⟩ hG rfl rfl
 show Vc _ _ [(0, ⟨0, 0, .c Z67 a0⟩), (1, ⟨0, 0, .c Z65 a1⟩), (2, ⟨0, 0, .c (.pure (.int .i64)) a2⟩)] _
 have hP : Sm big20 (.slice TPiece) a1.1 := hpre.1
 have hR : ∀ r ∈ a1.2, Sm big20 TRen r := hpre.2
 have hb : List.length a1.2 ≤ bigLen := hwf.2.1.2.1
 have hSt : ∀ k : Int, inRange k (List.length a1.2) → List.length (chAt a1 k).2.2.2.2 ≤ 1048576 := fun k hk => (hR _ (getD_mem hk (dflt TRen))).2.2.2.2.1
 refine Vq (Vr hG rfl (by trivial) (Vq (Vq ?_)))
 refine Vr hG rfl (by trivial) ?_
 refine Vk rfl (fun h0 => ?_) (fun h0 => ?_)
 · have g0 := h0
   refine Vq (Vr hG rfl (by trivial) (Vt ?_))
   refine ⟨?_, trivial⟩
   exact lk0 g0
 · have g0 := h0
   have k0 := laIdx g0 hb
   refine Vs (Vq ?_)
   refine VrD mixed hG rfl (by kernel_rfl) ?_ ?_
   · exact ⟨k0, trivial⟩
   refine Vq (Vq (Vr hG rfl (by trivial) ?_))
   refine Vk rfl (fun h1 => ?_) (fun h1 => ?_)
   · have g1 := h1
     refine Vq (Vr hG rfl (by trivial) (Vt ?_))
     refine ⟨?_, trivial⟩
     exact lk1 g0 g1
   · have g1 := h1
     have k1 := lkNext g0 g1 hb
     refine Vs (Vq ?_)
     refine VrD mixed hG rfl (by kernel_rfl) ?_ ?_
     · exact ⟨k1, hSt _ k1⟩
     refine Vq (Vr hG rfl (by trivial) (Vt ?_))
     refine ⟨?_, trivial⟩
     exact lk2 g0 g1
noncomputable def F287 : Fun := ⟨[.pair (.int .i64) Y24], [.own (.pure (.int .i64))], fun _ => True, fun x => (stampIntsF x.1, ())⟩
theorem F287_ok : Meets Tryz.prog 287 F287 := by
 refine mV (C := mkC 12 [2] [0,1,2] []) (mkC_ok _ _ _ _) (fnOf_ok _) Tryz.func287 rfl rfl rfl (by decide) rfl ?_
 rintro ⟨a0, _⟩ hwf hpre ⟨P, C, B, X, w0, M0, pv⟩ hG rfl rfl
 show Vc _ _ [(0, ⟨0, 0, .c Z33 a0⟩)] _
 refine Vq (Vr hG rfl (by trivial) (Vq (Vr hG rfl (by trivial) ?_)))
 refine Vt ?_
 refine ⟨?_, trivial⟩
 all_goals exact rfl
noncomputable def F333 : Fun := ⟨[.int .i64, .pair (.int .i64) Y53], [.pure (.int .i64)], fun x => (fun (_ : Int) (r : Renewal) => Sm big20 TRen r) x.1 x.2.1, fun x => (renDigF x.1 x.2.1, ())⟩
theorem F333_ok : Meets Tryz.prog 333 F333 := by
 refine mV (C := mkC 75 [4] [0,1,3,4,5,6,7,19,36,53] [⟨287, _, F287_ok⟩, ⟨178, _, F178_ok⟩]) (mkC_ok _ _ _ _) (fnOf_ok _) Tryz.func333 rfl rfl rfl (by decide) rfl ?_
 rintro ⟨(a0 : Int), a1, _⟩ hwf hpre ⟨P, C, B, X, w0, M0, pv⟩ hG rfl rfl
 show Vc _ _ [(0, ⟨0, 0, .c (.pure (.int .i64)) a0⟩), (1, ⟨0, 0, .c Z57 a1⟩)] _
 have hp : Sm big20 TRen a1 := hpre
 have h3 : List.length a1.2.2.2.1 ≤ 1048576 := hp.2.2.2.1.1
 have h4 : List.length a1.2.2.2.2 ≤ 1048576 := hp.2.2.2.2.1
 have hb0 : List.length a1.2.2.2.1 ≤ bigLen := hwf.2.1.2.2.2.1.1
 have hb1 : List.length a1.2.2.2.2 ≤ bigLen := hwf.2.1.2.2.2.2.1
 refine Vq (Vr hG rfl (by trivial) (Vq (Vr hG rfl (by trivial) ?_)))
 refine Vq (Vq (Vr hG rfl (by trivial) (Vb ?_)))
 refine Vc.loopF [(5, false, .own (.pure (.int .i64))), (6, false, .pure (.int .i64))] [0, 1, 3, 4, 7, 53] (fun v => gsInv (stepG a1) [4, a1.1, a1.2.1, a1.2.2.1] a1.2.2.2.1 v.1 v.2.1) (fun v => ((List.length a1.2.2.2.1 : Int) - v.2.1).toNat) rfl ?_ ?_
 · exact gsStart
 rintro ⟨acc, (i : Int), _⟩ hI0
 have hI0 : gsInv (stepG a1) [4, a1.1, a1.2.1, a1.2.2.1] a1.2.2.2.1 acc i := hI0
 have hA : List.length acc ≤ 2097156 := gsLen (c := 2) (m := 1048576) hI0 (fun _ => Nat.le_refl _) h3 (by simp)
 refine Vq (Vq (Vr hG rfl (by trivial) ?_))
 refine Vk rfl (fun h0 => ?_) (fun h0 => ?_)
 · have hl0 : i < (List.length a1.2.2.2.1 : Int) := of_decide_eq_true h0
   refine Vs (Vq (Vb (Vq ?_)))
   refine Vr hG rfl ?_ ?_
   · exact ⟨gsRange hI0 hl0, (show List.length acc + 1 ≤ maxApp from by unfold maxApp; omega)⟩
   refine Vq ?_
   refine Vr hG rfl ?_ ?_
   · exact gsRange hI0 hl0
   refine Vk rfl (fun h1 => ?_) (fun h1 => ?_)
   · have g1 : (List.getD a1.2.2.2.1 i.toNat (dflt TStep)).2 = true := h1
     refine Vr hG rfl ?_ ?_
     · exact (by show List.length (acc ++ [(List.getD a1.2.2.2.1 i.toNat (dflt TStep)).1]) + 1 ≤ maxApp; rw [List.length_append]; show List.length acc + 1 + 1 ≤ maxApp; unfold maxApp; omega)
     refine Vr hG rfl (by trivial) ?_
     refine ⟨rfl, ?_⟩
     first | exact gsStep hI0 hl0 hb0 (stepYes g1) | exact gsStep hI0 hl0 hb0 (stepNo g1)
   · have g1 : (List.getD a1.2.2.2.1 i.toNat (dflt TStep)).2 = false := h1
     refine Vr hG rfl ?_ ?_
     · exact (by show List.length (acc ++ [(List.getD a1.2.2.2.1 i.toNat (dflt TStep)).1]) + 1 ≤ maxApp; rw [List.length_append]; show List.length acc + 1 + 1 ≤ maxApp; unfold maxApp; omega)
     refine Vr hG rfl (by trivial) ?_
     refine ⟨rfl, ?_⟩
     first | exact gsStep hI0 hl0 hb0 (stepYes g1) | exact gsStep hI0 hl0 hb0 (stepNo g1)
 · have hl0 : ¬ i < (List.length a1.2.2.2.1 : Int) := of_decide_eq_false h0
   refine Vx (Vq ?_)
   refine Vr hG rfl ?_ ?_
   · exact (show List.length acc + 1 ≤ maxApp from by unfold maxApp; omega)
   refine Vq (Vq (Vr hG rfl (by trivial) (Vb ?_)))
   refine Vc.loopF [(5, false, .own (.pure (.int .i64))), (7, false, .pure (.int .i64))] [0, 1, 3, 4, 6, 19, 36] (fun v => gsInv (stmpG a1) (renMid a1) a1.2.2.2.2 v.1 v.2.1) (fun v => ((List.length a1.2.2.2.2 : Int) - v.2.1).toNat) rfl ?_ ?_
   · exact gsStart2 (renMidEq hI0 hl0)
   rintro ⟨acc2, (i : Int), _⟩ hI1
   have hI1 : gsInv (stmpG a1) (renMid a1) a1.2.2.2.2 acc2 i := hI1
   have hA2 : List.length acc2 ≤ 8388613 := gsLen (c := 6) (m := 1048576) hI1 (fun _ => Nat.le_refl _) h4 (by have := midLen h3; omega)
   refine Vq (Vq (Vr hG rfl (by trivial) ?_))
   refine Vk rfl (fun h2 => ?_) (fun h2 => ?_)
   · have hl1 : i < (List.length a1.2.2.2.2 : Int) := of_decide_eq_true h2
     refine Vs (Vq (Vb ?_))
     refine VrD mixed hG rfl (by kernel_rfl) ?_ ?_
     · exact ⟨gsRange hI1 hl1, trivial, (show List.length acc2 + 5 ≤ maxApp from by unfold maxApp; omega), gsRange hI1 hl1, (by show List.length (acc2 ++ stampIntsF (List.getD a1.2.2.2.2 i.toNat (dflt TStamp))) + 1 ≤ maxApp; rw [List.length_append]; show List.length acc2 + 5 + 1 ≤ maxApp; unfold maxApp; omega)⟩
     refine Vr hG rfl (by trivial) ?_
     refine ⟨rfl, ?_⟩
     exact gsStep hI1 hl1 hb1 stmpEq
   · have hl1 : ¬ i < (List.length a1.2.2.2.2 : Int) := of_decide_eq_false h2
     refine Vx (Vq ?_)
     refine Vr hG rfl ?_ ?_
     · exact (show List.length acc2 ≤ 1000000000 from by omega)
     refine Vt ?_
     refine ⟨?_, trivial⟩
     have e := congrArg (digestF a0) (gsEnd hI1 hl1)
     exact e
noncomputable def F340 : Fun := ⟨[.int .i64, .slice Y19], [.pure (.int .i64)], fun x => (fun (_ : Int) (l : List Piece) => Sm big20 (.slice TPiece) l) x.1 x.2.1, fun x => (piecesF x.1 x.2.1, ())⟩
theorem F340_ok : Meets Tryz.prog 340 F340 := by
 refine mV (C := mkC 39 [4] [0,1,4,5,6,11] [⟨178, _, F178_ok⟩]) (mkC_ok _ _ _ _) (fnOf_ok _) Tryz.func340 rfl rfl rfl (by decide) rfl ?_
 rintro ⟨(a0 : Int), a1, _⟩ hwf hpre ⟨P, C, B, X, w0, M0, pv⟩ hG rfl rfl
 show Vc _ _ [(0, ⟨0, 0, .c (.pure (.int .i64)) a0⟩), (1, ⟨0, 0, .c Z26 a1⟩)] _
 have hp : List.length a1 ≤ big20 ∧ ∀ x ∈ a1, Sm big20 TPiece x := hpre
 have hL : List.length a1 ≤ 1048576 := hp.1
 have hb : List.length a1 ≤ bigLen := hwf.2.1.1
 refine Vq (Vr hG rfl (by trivial) (Vq (Vr hG rfl (by trivial) ?_)))
 refine Vq (Vq (Vr hG rfl (by trivial) (Vb ?_)))
 refine Vc.loopF [(5, false, .own (.pure (.int .i64))), (6, false, .pure (.int .i64))] [0, 1, 4] (fun v => gsInv (piecesG a0 a1) [2] a1 v.1 v.2.1) (fun v => ((List.length a1 : Int) - v.2.1).toNat) rfl ?_ ?_
 · exact gsStart
 rintro ⟨acc, (i : Int), _⟩ hI
 have hI : gsInv (piecesG a0 a1) [2] a1 acc i := hI
 have hA : List.length acc ≤ 1048577 := gsLen (c := 1) (m := 1048576) hI (fun _ => Nat.le_refl _) hL (by simp)
 refine Vq (Vq (Vr hG rfl (by trivial) ?_))
 refine Vk rfl (fun h0 => ?_) (fun h0 => ?_)
 · have hl : i < (List.length a1 : Int) := of_decide_eq_true h0
   have hE : List.length (List.getD a1 i.toNat (dflt TPiece)).2.1 ≤ 1048576 := (hp.2 _ (upElem hI.1 hl)).2.1.1
   refine Vs (Vq (Vb ?_))
   refine VrD mixed hG rfl (by kernel_rfl) ?_ ?_
   · exact ⟨gsRange hI hl, gsRange hI hl, gsRange hI hl, (show 2 + List.length (List.getD a1 i.toNat (dflt TPiece)).2.1 ≤ maxApp from by unfold maxApp; omega), (show List.length (List.getD a1 i.toNat (dflt TPiece)).2.1 + 2 ≤ 1000000000 from by omega), (show List.length acc + 1 ≤ maxApp from by unfold maxApp; omega)⟩
   refine Vr hG rfl (by trivial) ?_
   refine ⟨rfl, ?_⟩
   exact gsStep hI hl hb rfl
 · have hl : ¬ i < (List.length a1 : Int) := of_decide_eq_false h0
   refine Vx (Vq ?_)
   refine Vr hG rfl ?_ ?_
   · exact (show List.length acc ≤ 1000000000 from by omega)
   refine Vt ?_
   refine ⟨?_, trivial⟩
   have e := congrArg (digestF a0) (gsEnd hI hl)
   exact e
noncomputable def F334 : Fun := ⟨[.int .i64, .int .i64, .slice Y19, .int .i64], [.pure (.int .i64)], fun x => (fun (_ _ : Int) (l : List Piece) (_ : Int) => Sm big20 (.slice TPiece) l) x.1 x.2.1 x.2.2.1 x.2.2.2.1, fun x => (leafOfF x.1 x.2.1 x.2.2.1 x.2.2.2.1, ())⟩
theorem F334_ok : Meets Tryz.prog 334 F334 := by
 refine mV (C := mkC 17 [8] [0,1,2,3,8] [⟨340, _, F340_ok⟩, ⟨178, _, F178_ok⟩]) (mkC_ok _ _ _ _) (fnOf_ok _) Tryz.func334 rfl rfl rfl (by decide) rfl ?_
 rintro ⟨(a0 : Int), (a1 : Int), a2, (a3 : Int), _⟩ hwf hpre ⟨P, C, B, X, w0, M0, pv⟩ hG rfl rfl
 show Vc _ _ [(0, ⟨0, 0, .c (.pure (.int .i64)) a0⟩), (1, ⟨0, 0, .c (.pure (.int .i64)) a1⟩), (2, ⟨0, 0, .c Z26 a2⟩), (3, ⟨0, 0, .c (.pure (.int .i64)) a3⟩)] _
 have hp : Sm big20 (.slice TPiece) a2 := hpre
 refine Vq (Vr hG rfl (by trivial) (Vq ?_))
 refine Vr hG rfl ?_ ?_
 · exact ⟨hp, smallLit (n := 4) rfl (by decide)⟩
 refine Vt ?_
 refine ⟨?_, trivial⟩
 all_goals exact rfl
noncomputable def F324 : Fun := ⟨[.pair Y23 Y59, .slice (.int .i64), .int .i64], [.pure (.int .i64)], fun x => (fun (s : Strand) (_ : List Int) (_ : Int) => Sm big20 (.slice TPiece) s.1 ∧ ∀ r ∈ s.2, Sm big20 TRen r) x.1 x.2.1 x.2.2.1, fun x => (leafAtF x.1 x.2.1 x.2.2.1, ())⟩
theorem F324_ok : Meets Tryz.prog 324 F324 := by
 refine mV (C := mkC 69 [6] [0,1,2,3,6,7,8,36,44] [⟨207, _, F207_ok⟩, ⟨333, _, F333_ok⟩, ⟨334, _, F334_ok⟩]) (mkC_ok _ _ _ _) (fnOf_ok _) Tryz.func324 rfl rfl rfl (by decide) rfl ?_
 rintro ⟨a0, a1, (a2 : Int), _⟩ hwf hpre ⟨P, C, B, X, w0, M0, pv⟩ hG rfl rfl
 show Vc _ _ [(0, ⟨0, 0, .c Z65 a0⟩), (1, ⟨0, 0, .c Z2 a1⟩), (2, ⟨0, 0, .c (.pure (.int .i64)) a2⟩)] _
 have hP : Sm big20 (.slice TPiece) a0.1 := hpre.1
 have hR : ∀ r ∈ a0.2, Sm big20 TRen r := hpre.2
 have hb : List.length a0.2 ≤ bigLen := hwf.1.2.1
 refine Vq (Vr hG rfl (by trivial) (Vq (Vq ?_)))
 refine VrD mixed hG rfl (by kernel_rfl) ?_ ?_
 · exact ⟨trivial, fun h => laIdx (orF h).1 hb, fun _ => trivial⟩
 refine Vk rfl (fun h0 => ?_) (fun h0 => ?_)
 · have g0 : leafAtBad a0 a1 a2 = true := h0
   refine Vq (Vr hG rfl (by trivial) (Vt ?_))
   refine ⟨?_, trivial⟩
   exact la0 g0
 · have g0 : leafAtBad a0 a1 a2 = false := h0
   have k1 := laIdx (orF (orF g0).1).1 hb
   have k2 : (List.length a1 : Int) = (List.length a0.2 : Int) := bneI (orF (orF g0).1).2
   have k3 := rg (orF g0).2
   have k4 : inRange a2 (List.length a1) := ⟨k1.1, by have := k1.2; omega⟩
   refine Vs (Vq ?_)
   refine Vr hG rfl ?_ ?_
   · exact k1
   refine Vq (Vr hG rfl (by trivial) (Vq (Vq ?_)))
   refine Vr hG rfl (by trivial) ?_
   refine Vk rfl (fun h1 => ?_) (fun h1 => ?_)
   · have g1 : a2 > 0 := of_decide_eq_true h1
     refine Vr hG rfl ?_ ?_
     · exact ⟨prevIdx k1 g1 hb, hR _ (getD_mem (prevIdx k1 g1 hb) (dflt TRen))⟩
     refine Vq ?_
     refine VrD mixed hG rfl (by kernel_rfl) ?_ ?_
     · exact ⟨k4, k1, Int.le_refl _, k3.1, k3.2, subL_sm hP⟩
     refine Vt ?_
     refine ⟨?_, trivial⟩
     exact la1 g0 g1
   · have g1 : ¬ a2 > 0 := of_decide_eq_false h1
     refine Vs (Vq ?_)
     refine VrD mixed hG rfl (by kernel_rfl) ?_ ?_
     · exact ⟨k4, k1, Int.le_refl _, k3.1, k3.2, subL_sm hP⟩
     refine Vt ?_
     refine ⟨?_, trivial⟩
     exact la2 g0 g1
noncomputable def F338 : Fun := ⟨[.int .i64, .int .i64, .int .i64], [.pure (.int .i64)], fun _ => True, fun x => (pairDF x.1 x.2.1 x.2.2.1, ())⟩
theorem F338_ok : Meets Tryz.prog 338 F338 := by
 refine mV (C := mkC 12 [6] [0,1,2,6] [⟨178, _, F178_ok⟩]) (mkC_ok _ _ _ _) (fnOf_ok _) Tryz.func338 rfl rfl rfl (by decide) rfl ?_
 rintro ⟨(a0 : Int), (a1 : Int), (a2 : Int), _⟩ hwf hpre ⟨P, C, B, X, w0, M0, pv⟩ hG rfl rfl
 show Vc _ _ [(0, ⟨0, 0, .c (.pure (.int .i64)) a0⟩), (1, ⟨0, 0, .c (.pure (.int .i64)) a1⟩), (2, ⟨0, 0, .c (.pure (.int .i64)) a2⟩)] _
 refine Vq (Vr hG rfl (by trivial) (Vq ?_))
 refine Vr hG rfl ?_ ?_
 · exact smallLit (n := 3) rfl (by decide)
 refine Vt ?_
 refine ⟨?_, trivial⟩
 all_goals exact rfl
noncomputable def F331 : Fun := ⟨[.int .i64, .int .i64, .slice Y1], [.pure (.int .i64)], fun _ => True, fun x => (followF x.1 x.2.1 x.2.2.1, ())⟩
theorem F331_ok : Meets Tryz.prog 331 F331 := by
 refine mV (C := mkC 38 [6] [0,1,2,6,7,8,13,20] [⟨338, _, F338_ok⟩]) (mkC_ok _ _ _ _) (fnOf_ok _) Tryz.func331 rfl rfl rfl (by decide) rfl ?_
 rintro ⟨(a0 : Int), (a1 : Int), a2, _⟩ hwf hpre ⟨P, C, B, X, w0, M0, pv⟩ hG rfl rfl
 show Vc _ _ [(0, ⟨0, 0, .c (.pure (.int .i64)) a0⟩), (1, ⟨0, 0, .c (.pure (.int .i64)) a1⟩), (2, ⟨0, 0, .c Z12 a2⟩)] _
 have hb : List.length a2 ≤ bigLen := hwf.2.2.1.1
 refine Vq (Vr hG rfl (by trivial) (Vq (Vr hG rfl (by trivial) ?_)))
 refine Vq (Vq (Vr hG rfl (by trivial) (Vb ?_)))
 refine Vc.loopF [(7, false, .pure (.int .i64)), (8, false, .pure (.int .i64))] [0, 1, 2, 6] (fun v => foInv (flStep a0) a1 a2 v.1 v.2.1) (fun v => ((List.length a2 : Int) - v.2.1).toNat) rfl ?_ ?_
 · exact foStart
 rintro ⟨(acc : Int), (i : Int), _⟩ hI
 have hI : foInv (flStep a0) a1 a2 acc i := hI
 refine Vq (Vq (Vr hG rfl (by trivial) ?_))
 refine Vk rfl (fun h0 => ?_) (fun h0 => ?_)
 · have hl : i < (List.length a2 : Int) := of_decide_eq_true h0
   refine Vs (Vq (Vb (Vq ?_)))
   refine Vr hG rfl ?_ ?_
   · exact foRange hI hl
   refine Vk rfl (fun h1 => ?_) (fun h1 => ?_)
   · have g1 : (List.getD a2 i.toNat (dflt (.pair TI .bool))).2 = true := h1
     have st := foStepE (d := dflt (.pair TI .bool)) hI hl hb (flL (m := a0) (x := acc) g1).symm
     refine Vr hG rfl ?_ ?_
     · exact ⟨foRange hI hl, trivial⟩
     refine Vr hG rfl (by trivial) ?_
     refine ⟨rfl, ?_⟩
     exact st
   · have g1 : (List.getD a2 i.toNat (dflt (.pair TI .bool))).2 = false := h1
     have st := foStepE (d := dflt (.pair TI .bool)) hI hl hb (flR (m := a0) (x := acc) g1).symm
     refine Vr hG rfl ?_ ?_
     · exact ⟨foRange hI hl, trivial⟩
     refine Vr hG rfl (by trivial) ?_
     refine ⟨rfl, ?_⟩
     exact st
 · have hl : ¬ i < (List.length a2 : Int) := of_decide_eq_false h0
   refine Vx (Vq (Vr hG rfl (by trivial) (Vt ?_)))
   refine ⟨?_, trivial⟩
   exact foEnd hI hl
noncomputable def F339 : Fun := ⟨[.slice Y32, .slice Y15, .pair (.int .i64) Y24], [.pure Y32, .pure (.bool)], fun _ => True, fun x => ((makeStampF x.1 x.2.1 x.2.2.1).1, (makeStampF x.1 x.2.1 x.2.2.1).2, ())⟩
theorem F339_ok : Meets Tryz.prog 339 F339 := by
 refine mV (C := mkC 47 [6, 7] [0,1,2,5,6,7,8,9,26,36] [⟨286, _, F286_ok⟩, ⟨208, _, F208_ok⟩, ⟨53, _, F53_ok⟩, ⟨287, _, F287_ok⟩, ⟨281, _, F281_ok⟩]) (mkC_ok _ _ _ _) (fnOf_ok _) Tryz.func339 rfl rfl rfl (by decide) rfl ?_
 rintro ⟨a0, a1, a2, _⟩ hwf hpre ⟨P, C, B, X, w0, M0, pv⟩ hG rfl rfl
 show Vc _ _ [(0, ⟨0, 0, .c Z36 a0⟩), (1, ⟨0, 0, .c Z21 a1⟩), (2, ⟨0, 0, .c Z33 a2⟩)] _
 refine Vq (Vr hG rfl (by trivial) (Vq (Vr hG rfl (by trivial) ?_)))
 refine Vq (Vq ?_)
 refine Vr hG rfl ?_ ?_
 · intro _; exact trivial
 refine Vk rfl (fun h0 => ?_) (fun h0 => ?_)
 · have g0 : stampBad a1 a2 = true := h0
   refine Vq (Vr hG rfl (by trivial) (Vt ?_))
   have e := ms_1 (keys := a0) g0
   refine ⟨?_, ?_, trivial⟩
   · exact (congrArg Prod.fst e).symm
   · exact (congrArg Prod.snd e).symm
 · have g0 : stampBad a1 a2 = false := h0
   refine Vs (Vq ?_)
   refine Vr hG rfl ?_ ?_
   · exact ⟨bad_idx g0, trivial⟩
   refine Vq (Vq (Vr hG rfl (by trivial) ?_))
   refine Vk rfl (fun h1 => ?_) (fun h1 => ?_)
   · have g1 : keyI a0 (authAt a1 a2.1).2.1 < 0 := of_decide_eq_true h1
     refine Vq (Vr hG rfl (by trivial) (Vt ?_))
     have e := ms_2 (keys := a0) g0 g1
     refine ⟨?_, ?_, trivial⟩
     · exact (congrArg Prod.fst e).symm
     · exact (congrArg Prod.snd e).symm
   · have g1 : ¬ keyI a0 (authAt a1 a2.1).2.1 < 0 := of_decide_eq_false h1
     refine Vs (Vq ?_)
     refine VrD mixed hG rfl (by kernel_rfl) ?_ ?_
     · exact ⟨findRange g1, trivial, smallLit (n := 5) rfl (by decide)⟩
     refine Vq (Vr hG rfl (by trivial) (Vt ?_))
     have e := ms_3 (keys := a0) g0 g1
     refine ⟨?_, ?_, trivial⟩
     · exact (congrArg Prod.fst e).symm
     · exact (congrArg Prod.snd e).symm
noncomputable def F332 : Fun := ⟨[.slice Y32, .slice Y15, .pair (.int .i64) Y24], [.pure (.bool)], fun _ => True, fun x => (checkStampF x.1 x.2.1 x.2.2.1, ())⟩
theorem F332_ok : Meets Tryz.prog 332 F332 := by
 refine mV (C := mkC 22 [6] [0,1,2,5,6,7,8] [⟨339, _, F339_ok⟩]) (mkC_ok _ _ _ _) (fnOf_ok _) Tryz.func332 rfl rfl rfl (by decide) rfl ?_
 rintro ⟨a0, a1, a2, _⟩ hwf hpre ⟨P, C, B, X, w0, M0, pv⟩ hG rfl rfl
 show Vc _ _ [(0, ⟨0, 0, .c Z36 a0⟩), (1, ⟨0, 0, .c Z21 a1⟩), (2, ⟨0, 0, .c Z33 a2⟩)] _
 refine Vq (Vr hG rfl (by trivial) (Vq (Vr hG rfl (by trivial) ?_)))
 refine Vq (Vr hG rfl (by trivial) (Vt ?_))
 refine ⟨?_, trivial⟩
 all_goals exact rfl
noncomputable def F323 : Fun := ⟨[.slice Y32, .slice Y15, .pair (.int .i64) Y53, .int .i64], [.pure (.bool)], fun _ => True, fun x => (checkRenF x.1 x.2.1 x.2.2.1 x.2.2.2.1, ())⟩
theorem F323_ok : Meets Tryz.prog 323 F323 := by
 refine mV (C := mkC 73 [8] [0,1,2,3,6,8,9,10,32,37,72] [⟨331, _, F331_ok⟩, ⟨207, _, F207_ok⟩, ⟨332, _, F332_ok⟩]) (mkC_ok _ _ _ _) (fnOf_ok _) Tryz.func323 rfl rfl rfl (by decide) rfl ?_
 rintro ⟨a0, a1, a2, (a3 : Int), _⟩ hwf hpre ⟨P, C, B, X, w0, M0, pv⟩ hG rfl rfl
 show Vc _ _ [(0, ⟨0, 0, .c Z36 a0⟩), (1, ⟨0, 0, .c Z21 a1⟩), (2, ⟨0, 0, .c Z57 a2⟩), (3, ⟨0, 0, .c (.pure (.int .i64)) a3⟩)] _
 have hb : List.length a2.2.2.2.2 ≤ bigLen := hwf.2.2.1.2.2.2.2.1
 refine Vq (Vr hG rfl (by trivial) (Vq (Vq ?_)))
 refine VrD mixed hG rfl (by kernel_rfl) ?_ ?_
 · repeat' (first | exact trivial | refine And.intro ?_ ?_ | intro _)
 refine Vk rfl (fun h0 => ?_) (fun h0 => ?_)
 · have g0 := cr0S (keys := a0) (l := a1) (r := a2) (leaf := a3) h0
   refine Vq (Vr hG rfl (by trivial) (Vt ?_))
   refine ⟨?_, trivial⟩
   exact g0
 · have g0 := crPreS.1 h0
   refine Vs (Vq (Vq (Vr hG rfl (by trivial) ?_)))
   refine Vb ?_
   refine Vc.loopF [(9, false, .pure (.int .i64))] [0, 1, 2, 3, 6, 32] (fun v => kInv (crS a0 a1 a2) a2.2.2.2.2 v.1) (fun v => ((List.length a2.2.2.2.2 : Int) - v.1).toNat) rfl ?_ ?_
   · exact kStart
   rintro ⟨(i : Int), _⟩ hI
   have hI : kInv (crS a0 a1 a2) a2.2.2.2.2 i := hI
   refine Vq (Vq (Vr hG rfl (by trivial) ?_))
   refine Vk rfl (fun h1 => ?_) (fun h1 => ?_)
   · have hl : i < (List.length a2.2.2.2.2 : Int) := of_decide_eq_true h1
     refine Vs (Vq (Vb (Vq ?_)))
     refine Vr hG rfl ?_ ?_
     · exact kRange hI hl
     refine Vq ?_
     refine VrD mixed hG rfl (by kernel_rfl) ?_ ?_
     · repeat' (first | exact trivial | (intro h2; exact backRange hI hl hb (of_decide_eq_true h2)) | refine And.intro ?_ ?_ | intro _)
     refine Vk rfl (fun h2 => ?_) (fun h2 => ?_)
     · have g2 : crTestS a0 a1 a2 i = true := h2
       refine Vq (Vr hG rfl (by trivial) (Vt ?_))
       refine ⟨?_, trivial⟩
       exact crBadS hI hl hb g2
     · have g2 : crTestS a0 a1 a2 i = false := h2
       refine Vs (Vr hG rfl (by trivial) ?_)
       refine ⟨rfl, ?_⟩
       exact kStep hI hl hb (crGoodS hI hl hb g2)
   · have hl : ¬ i < (List.length a2.2.2.2.2 : Int) := of_decide_eq_false h1
     refine Vx (Vq (Vr hG rfl (by trivial) (Vt ?_)))
     refine ⟨?_, trivial⟩
     exact crEndS g0 hI hl
noncomputable def F310 : Fun := ⟨[.pair Y34 Y55, .pair Y23 Y59, .slice (.int .i64), .int .i64], [.pure (.bool)], fun x => (fun (_ : Frame) (s : Strand) (_ : List Int) (k : Int) => (Sm big20 (.slice TPiece) s.1 ∧ ∀ r ∈ s.2, Sm big20 TRen r) ∧ inRange k (List.length s.2)) x.1 x.2.1 x.2.2.1 x.2.2.2.1, fun x => (keptF x.1 x.2.1 x.2.2.1 x.2.2.2.1, ())⟩
theorem F310_ok : Meets Tryz.prog 310 F310 := by
 refine mV (C := mkC 47 [8] [0,1,2,3,4,5,8,10] [⟨283, _, F283_ok⟩, ⟨322, _, F322_ok⟩, ⟨324, _, F324_ok⟩, ⟨323, _, F323_ok⟩]) (mkC_ok _ _ _ _) (fnOf_ok _) Tryz.func310 rfl rfl rfl (by decide) rfl ?_
 rintro ⟨a0, a1, a2, (a3 : Int), _⟩ hwf hpre ⟨P, C, B, X, w0, M0, pv⟩ hG rfl rfl
 show Vc _ _ [(0, ⟨0, 0, .c Z67 a0⟩), (1, ⟨0, 0, .c Z65 a1⟩), (2, ⟨0, 0, .c Z2 a2⟩), (3, ⟨0, 0, .c (.pure (.int .i64)) a3⟩)] _
 have hP : Sm big20 (.slice TPiece) a1.1 := hpre.1.1
 have hR : ∀ r ∈ a1.2, Sm big20 TRen r := hpre.1.2
 have hb : List.length a1.2 ≤ bigLen := hwf.2.1.2.1
 have hSt : ∀ k : Int, inRange k (List.length a1.2) → List.length (chAt a1 k).2.2.2.2 ≤ 1048576 := fun k hk => (hR _ (getD_mem hk (dflt TRen))).2.2.2.2.1
 have hk : inRange a3 (List.length a1.2) := hpre.2
 refine Vq (Vr hG rfl (by trivial) (Vq ?_))
 refine VrD mixed hG rfl (by kernel_rfl) ?_ ?_
 · exact ⟨hk, hSt _ hk⟩
 refine Vq ?_
 refine VrD mixed hG rfl (by kernel_rfl) ?_ ?_
 · repeat' (first | exact trivial | exact hk | exact ⟨hP, hR⟩ | refine And.intro ?_ ?_ | intro _)
 refine Vt ?_
 refine ⟨?_, trivial⟩
 all_goals exact rfl
noncomputable def F282 : Fun := ⟨[.pair Y34 Y55, .pair Y23 Y59, .slice (.int .i64)], [.pure (.int .i64)], fun x => (fun (_ : Frame) (s : Strand) (_ : List Int) => Sm big20 (.slice TPiece) s.1 ∧ ∀ r ∈ s.2, Sm big20 TRen r) x.1 x.2.1 x.2.2.1, fun x => (firstKeptF x.1 x.2.1 x.2.2.1, ())⟩
theorem F282_ok : Meets Tryz.prog 282 F282 := by
 refine mV (C := mkC 24 [6] [0,1,2,3,4,6,7,20] [⟨310, _, F310_ok⟩]) (mkC_ok _ _ _ _) (fnOf_ok _) Tryz.func282 rfl rfl rfl (by decide) rfl ?_
 rintro ⟨a0, a1, a2, _⟩ hwf hpre ⟨P, C, B, X, w0, M0, pv⟩ hG rfl rfl
 show Vc _ _ [(0, ⟨0, 0, .c Z67 a0⟩), (1, ⟨0, 0, .c Z65 a1⟩), (2, ⟨0, 0, .c Z2 a2⟩)] _
 have hP : Sm big20 (.slice TPiece) a1.1 := hpre.1
 have hR : ∀ r ∈ a1.2, Sm big20 TRen r := hpre.2
 have hb : List.length a1.2 ≤ bigLen := hwf.2.1.2.1
 have hSt : ∀ k : Int, inRange k (List.length a1.2) → List.length (chAt a1 k).2.2.2.2 ≤ 1048576 := fun k hk => (hR _ (getD_mem hk (dflt TRen))).2.2.2.2.1
 refine Vq (Vr hG rfl (by trivial) (Vq (Vr hG rfl (by trivial) ?_)))
 refine Vq (Vb ?_)
 refine Vc.loopF [(7, false, .pure (.int .i64))] [0, 1, 2, 3, 4, 6] (fun v => fkInv a0 a1 a2 v.1) (fun v => v.1.toNat) rfl ?_ ?_
 · exact fkStart
 rintro ⟨(j : Int), _⟩ hI
 have hI : fkInv a0 a1 a2 j := hI
 refine Vq (Vq ?_)
 refine Vr hG rfl ?_ ?_
 · exact fun h => ⟨⟨hP, hR⟩, fkIdx hI (of_decide_eq_true h) hb⟩
 refine Vk rfl (fun h0 => ?_) (fun h0 => ?_)
 · have g0 : j > 0 := of_decide_eq_true (andT h0).1
   have g1 : keptF a0 a1 a2 (IntKind.i64.wrap (j - 1)) = true := (andT h0).2
   refine Vs (Vb (Vr hG rfl (by trivial) ?_))
   refine ⟨rfl, ?_⟩
   exact fkStep hI g0 hb g1
 · have g1 := fkEndS hI hb h0
   refine Vx (Vq (Vr hG rfl (by trivial) (Vt ?_)))
   refine ⟨?_, trivial⟩
   exact g1
noncomputable def F211 : Fun := ⟨[.pair Y34 Y55, .pair Y23 Y59, .slice (.int .i64), .int .i64], [.pure (.int .i64)], fun x => (fun (_ : Frame) (s : Strand) (_ : List Int) (_ : Int) => Sm big20 (.slice TPiece) s.1 ∧ ∀ r ∈ s.2, Sm big20 TRen r) x.1 x.2.1 x.2.2.1 x.2.2.2.1, fun x => (boundOfF x.1 x.2.1 x.2.2.1 x.2.2.2.1, ())⟩
theorem F211_ok : Meets Tryz.prog 211 F211 := by
 refine mV (C := mkC 52 [8] [0,1,2,3,4,5,8,9,10,11,23,33] [⟨282, _, F282_ok⟩, ⟨283, _, F283_ok⟩, ⟨122, _, F122_ok⟩]) (mkC_ok _ _ _ _) (fnOf_ok _) Tryz.func211 rfl rfl rfl (by decide) rfl ?_
 rintro ⟨a0, a1, a2, (a3 : Int), _⟩ hwf hpre ⟨P, C, B, X, w0, M0, pv⟩ hG rfl rfl
 show Vc _ _ [(0, ⟨0, 0, .c Z67 a0⟩), (1, ⟨0, 0, .c Z65 a1⟩), (2, ⟨0, 0, .c Z2 a2⟩), (3, ⟨0, 0, .c (.pure (.int .i64)) a3⟩)] _
 have hP : Sm big20 (.slice TPiece) a1.1 := hpre.1
 have hR : ∀ r ∈ a1.2, Sm big20 TRen r := hpre.2
 have hb : List.length a1.2 ≤ bigLen := hwf.2.1.2.1
 have hSt : ∀ k : Int, inRange k (List.length a1.2) → List.length (chAt a1 k).2.2.2.2 ≤ 1048576 := fun k hk => (hR _ (getD_mem hk (dflt TRen))).2.2.2.2.1
 refine Vq (Vr hG rfl (by trivial) (Vq (Vr hG rfl (by trivial) ?_)))
 refine Vq (Vq ?_)
 refine Vr hG rfl ?_ ?_
 · exact ⟨hP, hR⟩
 refine Vb ?_
 refine Vc.loopF [(9, false, .pure (.int .i64)), (10, false, .pure (.int .i64))] [0, 1, 2, 3, 4, 5, 8] (fun v => boInv a0 a1 a2 a3 v.1 v.2.1) (fun v => ((List.length a1.2 : Int) - v.2.1).toNat) rfl ?_ ?_
 · exact boStart
 rintro ⟨(t : Int), (j : Int), _⟩ hI
 have hI : boInv a0 a1 a2 a3 t j := hI
 refine Vq (Vq (Vr hG rfl (by trivial) ?_))
 refine Vk rfl (fun h0 => ?_) (fun h0 => ?_)
 · have hl : j < (List.length a1.2 : Int) := of_decide_eq_true h0
   have k0 := boRange hI hl
   refine Vs (Vq (Vb (Vq ?_)))
   refine Vr hG rfl ?_ ?_
   · exact k0
   refine Vk rfl (fun h1 => ?_) (fun h1 => ?_)
   · have st := boStep hI hl hb (boY (f := a0) (t := t) (r := chAt a1 j) h1).symm
     refine Vq ?_
     refine VrD mixed hG rfl (by kernel_rfl) ?_ ?_
     · exact ⟨k0, hSt _ k0⟩
     refine Vr hG rfl (by trivial) (Vr hG rfl (by trivial) ?_)
     refine ⟨rfl, ?_⟩
     exact st
   · have st := boStep hI hl hb (boN (f := a0) (t := t) (r := chAt a1 j) h1).symm
     refine Vs (Vr hG rfl (by trivial) ?_)
     refine ⟨rfl, ?_⟩
     exact st
 · have hl : ¬ j < (List.length a1.2 : Int) := of_decide_eq_false h0
   refine Vx (Vq (Vr hG rfl (by trivial) (Vt ?_)))
   refine ⟨?_, trivial⟩
   exact boEnd hI hl
noncomputable def F123 : Fun := ⟨[.pair Y34 Y55, .pair Y23 Y59, .slice (.int .i64), .pair (.int .i64) Y9], [.pure (.int .i64)], fun x => (fun (_ : Frame) (s : Strand) (_ : List Int) (_ : Piece) => Sm big20 (.slice TPiece) s.1 ∧ ∀ r ∈ s.2, Sm big20 TRen r) x.1 x.2.1 x.2.2.1 x.2.2.2.1, fun x => (pieceBoundF x.1 x.2.1 x.2.2.1 x.2.2.2.1, ())⟩
theorem F123_ok : Meets Tryz.prog 123 F123 := by
 refine mV (C := mkC 22 [8] [0,1,2,3,4,5,7,8,9,14] [⟨210, _, F210_ok⟩, ⟨211, _, F211_ok⟩]) (mkC_ok _ _ _ _) (fnOf_ok _) Tryz.func123 rfl rfl rfl (by decide) rfl ?_
 rintro ⟨a0, a1, a2, a3, _⟩ hwf hpre ⟨P, C, B, X, w0, M0, pv⟩ hG rfl rfl
 show Vc _ _ [(0, ⟨0, 0, .c Z67 a0⟩), (1, ⟨0, 0, .c Z65 a1⟩), (2, ⟨0, 0, .c Z2 a2⟩), (3, ⟨0, 0, .c Z22 a3⟩)] _
 have hp := hpre
 refine Vq (Vr hG rfl (by trivial) (Vq (Vr hG rfl (by trivial) ?_)))
 refine Vq (Vq (Vr hG rfl (by trivial) ?_))
 refine Vk rfl (fun h0 => ?_) (fun h0 => ?_)
 · have g0 : findPieceF a1 a3 < 0 := of_decide_eq_true h0
   refine Vq (Vr hG rfl (by trivial) (Vt ?_))
   refine ⟨?_, trivial⟩
   exact pb0 g0
 · have g0 : ¬ findPieceF a1 a3 < 0 := of_decide_eq_false h0
   refine Vs (Vq ?_)
   refine Vr hG rfl ?_ ?_
   · exact hp
   refine Vt ?_
   refine ⟨?_, trivial⟩
   exact pb1 g0
noncomputable def F51 : Fun := ⟨[.pair Y34 Y55, .pair Y66 Y37, .slice (.slice (.int .i64)), .pair (.int .i64) Y9], [.pure (.int .i64)], fun x => (fun (_ : Frame) (e : Evidence) (_ : List (List Int)) (_ : Piece) => Sm big20 Y66 e.1) x.1 x.2.1 x.2.2.1 x.2.2.2.1, fun x => (evBoundF x.1 x.2.1 x.2.2.1 x.2.2.2.1, ())⟩
theorem F51_ok : Meets Tryz.prog 51 F51 := by
 refine mV (C := mkC 41 [8] [0,1,2,3,4,5,7,8,9,10,23] [⟨123, _, F123_ok⟩, ⟨122, _, F122_ok⟩]) (mkC_ok _ _ _ _) (fnOf_ok _) Tryz.func51 rfl rfl rfl (by decide) rfl ?_
 rintro ⟨a0, a1, a2, a3, _⟩ hwf hpre ⟨P, C, B, X, w0, M0, pv⟩ hG rfl rfl
 show Vc _ _ [(0, ⟨0, 0, .c Z67 a0⟩), (1, ⟨0, 0, .c Z72 a1⟩), (2, ⟨0, 0, .c Z7 a2⟩), (3, ⟨0, 0, .c Z22 a3⟩)] _
 have hS : Sm big20 Y66 a1.1 := hpre
 have hb : List.length a1.1 ≤ bigLen := hwf.2.1.1.1
 refine Vq (Vr hG rfl (by trivial) (Vq (Vr hG rfl (by trivial) ?_)))
 refine Vq (Vq (Vr hG rfl (by trivial) (Vb ?_)))
 refine Vc.loopF [(9, false, .pure (.int .i64)), (10, false, .pure (.int .i64))] [0, 1, 2, 3, 4, 5, 7, 8] (fun v => ebInv a0 a1 a2 a3 v.1 v.2.1) (fun v => ((List.length a1.1 : Int) - v.2.1).toNat) rfl ?_ ?_
 · exact ebStart
 rintro ⟨(t : Int), (i : Int), _⟩ hI
 have hI : ebInv a0 a1 a2 a3 t i := hI
 refine Vq (Vq (Vr hG rfl (by trivial) ?_))
 refine Vk rfl (fun h0 => ?_) (fun h0 => ?_)
 · have hh := andLt h0
   have hl := hh.1
   have hd := hh.2
   have st := ebYes (dflt Y63) (dflt (.slice TI)) hI hl hd hb rfl
   have r1 := ebRange hI hl
   have r2 := ebRangeD hI hd
   have r3 := usStrand hS r1
   refine Vs (Vq (Vb ?_))
   refine VrD mixed hG rfl (by kernel_rfl) ?_ ?_
   · exact ⟨r1, r2, r3, trivial⟩
   refine Vr hG rfl (by trivial) ?_
   refine ⟨rfl, ?_⟩
   exact st
 · have hx := andGe h0
   refine Vx (Vq (Vr hG rfl (by trivial) (Vt ?_)))
   refine ⟨?_, trivial⟩
   exact ebEnd hI hx
noncomputable def F216 : Fun := ⟨[.pair (.int .i64) Y9], [.pure (.int .i64)], fun _ => True, fun x => (kindF x.1, ())⟩
theorem F216_ok : Meets Tryz.prog 216 F216 := by
 refine mV (C := mkC 31 [2] [0,1,2,14,26] [⟨207, _, F207_ok⟩]) (mkC_ok _ _ _ _) (fnOf_ok _) Tryz.func216 rfl rfl rfl (by decide) rfl ?_
 rintro ⟨a0, _⟩ hwf hpre ⟨P, C, B, X, w0, M0, pv⟩ hG rfl rfl
 show Vc _ _ [(0, ⟨0, 0, .c Z22 a0⟩)] _
 refine Vq (Vr hG rfl (by trivial) (Vq (Vq ?_)))
 refine Vr hG rfl ?_ ?_
 · exact ⟨fun h => kLen h, fun _ => trivial⟩
 refine Vk rfl (fun h0 => ?_) (fun h0 => ?_)
 · have g0 : kb1 a0 = true := h0
   refine Vq (Vr hG rfl (by trivial) (Vt ?_))
   refine ⟨?_, trivial⟩
   exact kind0 g0
 · have g0 : kb1 a0 = false := h0
   refine Vs (Vq (Vq ?_))
   refine VrD mixed hG rfl (by kernel_rfl) ?_ ?_
   · exact ⟨kLen1 g0, kIdx g0⟩
   refine Vk rfl (fun h1 => ?_) (fun h1 => ?_)
   · have g1 : kb2 a0 = true := h1
     refine Vq (Vr hG rfl (by trivial) (Vt ?_))
     refine ⟨?_, trivial⟩
     exact kind1 g1
   · have g1 : kb2 a0 = false := h1
     refine Vs (Vq ?_)
     refine Vr hG rfl ?_ ?_
     · exact kLen1 g0
     refine Vt ?_
     refine ⟨?_, trivial⟩
     exact kind2 g0 g1
noncomputable def F128 : Fun := ⟨[.pair (.int .i64) Y9], [.pure Y45, .pure (.bool)], fun _ => True, fun x => ((pieceCertF x.1).1, (pieceCertF x.1).2, ())⟩
theorem F128_ok : Meets Tryz.prog 128 F128 := by
 refine mV (C := mkC 44 [2, 3] [0,1,2,3,15] [⟨216, _, F216_ok⟩]) (mkC_ok _ _ _ _) (fnOf_ok _) Tryz.func128 rfl rfl rfl (by decide) rfl ?_
 rintro ⟨a0, _⟩ hwf hpre ⟨P, C, B, X, w0, M0, pv⟩ hG rfl rfl
 show Vc _ _ [(0, ⟨0, 0, .c Z22 a0⟩)] _
 refine Vq (Vr hG rfl (by trivial) (Vq (Vq ?_)))
 refine VrD mixed hG rfl (by kernel_rfl) ?_ ?_
 · exact ⟨trivial, fun h => seven (kind7 h) 6 (by decide)⟩
 refine Vk rfl (fun h0 => ?_) (fun h0 => ?_)
 · have g0 : pcBad a0 = true := h0
   refine Vq (Vr hG rfl (by trivial) (Vt ?_))
   have e := pc0 g0
   refine ⟨?_, ?_, trivial⟩
   · exact (congrArg Prod.fst e).symm
   · exact (congrArg Prod.snd e).symm
 · have g0 : pcBad a0 = false := h0
   refine Vs (Vq ?_)
   refine VrD mixed hG rfl (by kernel_rfl) ?_ ?_
   · exact ⟨seven (pc7 g0) 1 (by decide), seven (pc7 g0) 2 (by decide), seven (pc7 g0) 3 (by decide), seven (pc7 g0) 4 (by decide), seven (pc7 g0) 5 (by decide), seven (pc7 g0) 6 (by decide)⟩
   refine Vt ?_
   have e := pc1 g0
   refine ⟨?_, ?_, trivial⟩
   · exact (congrArg Prod.fst e).symm
   · exact (congrArg Prod.snd e).symm
noncomputable def F133 : Fun := ⟨[.pair (.int .i64) Y9], [.pure Y32, .pure (.bool)], fun _ => True, fun x => ((pieceStatF x.1).1, (pieceStatF x.1).2, ())⟩
theorem F133_ok : Meets Tryz.prog 133 F133 := by
 refine mV (C := mkC 36 [2, 3] [0,1,2,3,15] [⟨216, _, F216_ok⟩]) (mkC_ok _ _ _ _) (fnOf_ok _) Tryz.func133 rfl rfl rfl (by decide) rfl ?_
 rintro ⟨a0, _⟩ hwf hpre ⟨P, C, B, X, w0, M0, pv⟩ hG rfl rfl
 show Vc _ _ [(0, ⟨0, 0, .c Z22 a0⟩)] _
 refine Vq (Vr hG rfl (by trivial) (Vq (Vq ?_)))
 refine VrD mixed hG rfl (by kernel_rfl) ?_ ?_
 · exact ⟨trivial, fun h => nIdx (psN h) 4 (by decide)⟩
 refine Vk rfl (fun h0 => ?_) (fun h0 => ?_)
 · have g0 : psBad a0 = true := h0
   refine Vq (Vr hG rfl (by trivial) (Vt ?_))
   have e := ps0 g0
   refine ⟨?_, ?_, trivial⟩
   · exact (congrArg Prod.fst e).symm
   · exact (congrArg Prod.snd e).symm
 · have g0 : psBad a0 = false := h0
   refine Vs (Vq ?_)
   refine VrD mixed hG rfl (by kernel_rfl) ?_ ?_
   · exact ⟨nIdx (psN (orF g0).1) 1 (by decide), nIdx (psN (orF g0).1) 2 (by decide), nIdx (psN (orF g0).1) 3 (by decide), nIdx (psN (orF g0).1) 4 (by decide)⟩
   refine Vt ?_
   have e := ps1 g0
   refine ⟨?_, ?_, trivial⟩
   · exact (congrArg Prod.fst e).symm
   · exact (congrArg Prod.snd e).symm
noncomputable def F311 : Fun := ⟨[.pair (.int .i64) Y9], [.pure Y32, .pure (.bool)], fun _ => True, fun x => ((pieceStampF x.1).1, (pieceStampF x.1).2, ())⟩
theorem F311_ok : Meets Tryz.prog 311 F311 := by
 refine mV (C := mkC 27 [2, 3] [0,1,2,3,6] [⟨216, _, F216_ok⟩]) (mkC_ok _ _ _ _) (fnOf_ok _) Tryz.func311 rfl rfl rfl (by decide) rfl ?_
 rintro ⟨a0, _⟩ hwf hpre ⟨P, C, B, X, w0, M0, pv⟩ hG rfl rfl
 show Vc _ _ [(0, ⟨0, 0, .c Z22 a0⟩)] _
 refine Vq (Vr hG rfl (by trivial) (Vq (Vq ?_)))
 refine Vr hG rfl (by trivial) ?_
 refine Vk rfl (fun h0 => ?_) (fun h0 => ?_)
 · have g0 : pstBad a0 = true := h0
   refine Vq (Vr hG rfl (by trivial) (Vt ?_))
   have e := pst0 g0
   refine ⟨?_, ?_, trivial⟩
   · exact (congrArg Prod.fst e).symm
   · exact (congrArg Prod.snd e).symm
 · have g0 : pstBad a0 = false := h0
   refine Vs (Vq ?_)
   refine VrD mixed hG rfl (by kernel_rfl) ?_ ?_
   · exact ⟨nIdx (pstN g0) 1 (by decide), nIdx (pstN g0) 2 (by decide), nIdx (pstN g0) 3 (by decide), nIdx (pstN g0) 4 (by decide)⟩
   refine Vt ?_
   have e := pst1 g0
   refine ⟨?_, ?_, trivial⟩
   · exact (congrArg Prod.fst e).symm
   · exact (congrArg Prod.snd e).symm
noncomputable def F312 : Fun := ⟨[.pair (.int .i64) Y9], [.pure Y51, .pure (.bool)], fun _ => True, fun x => ((pieceSignF x.1).1, (pieceSignF x.1).2, ())⟩
theorem F312_ok : Meets Tryz.prog 312 F312 := by
 refine mV (C := mkC 52 [2, 3] [0,1,2,3,15] [⟨216, _, F216_ok⟩]) (mkC_ok _ _ _ _) (fnOf_ok _) Tryz.func312 rfl rfl rfl (by decide) rfl ?_
 rintro ⟨a0, _⟩ hwf hpre ⟨P, C, B, X, w0, M0, pv⟩ hG rfl rfl
 show Vc _ _ [(0, ⟨0, 0, .c Z22 a0⟩)] _
 refine Vq (Vr hG rfl (by trivial) (Vq (Vq ?_)))
 refine VrD mixed hG rfl (by kernel_rfl) ?_ ?_
 · exact ⟨trivial, fun h => nIdx (psgN h) 1 (by decide)⟩
 refine Vk rfl (fun h0 => ?_) (fun h0 => ?_)
 · have g0 : psgBad a0 = true := h0
   refine Vq (Vr hG rfl (by trivial) (Vt ?_))
   have e := psg0 g0
   refine ⟨?_, ?_, trivial⟩
   · exact (congrArg Prod.fst e).symm
   · exact (congrArg Prod.snd e).symm
 · have g0 : psgBad a0 = false := h0
   refine Vs (Vq ?_)
   refine VrD mixed hG rfl (by kernel_rfl) ?_ ?_
   · exact ⟨nIdx (psgN (orF g0).1) 1 (by decide), nIdx (psgN (orF g0).1) 2 (by decide), nIdx (psgN (orF g0).1) 3 (by decide), nIdx (psgN (orF g0).1) 4 (by decide), nIdx (psgN (orF g0).1) 5 (by decide), nIdx (psgN (orF g0).1) 6 (by decide), nIdx (psgN (orF g0).1) 7 (by decide), nIdx (psgN (orF g0).1) 8 (by decide)⟩
   refine Vt ?_
   have e := psg1 g0
   refine ⟨?_, ?_, trivial⟩
   · exact (congrArg Prod.fst e).symm
   · exact (congrArg Prod.snd e).symm
noncomputable def F139 : Fun := ⟨[.pair (.int .i64) Y9], [.pure Y38, .pure (.bool)], fun _ => True, fun x => ((pieceMandF x.1).1, (pieceMandF x.1).2, ())⟩
theorem F139_ok : Meets Tryz.prog 139 F139 := by
 refine mV (C := mkC 40 [2, 3] [0,1,2,3,15] [⟨216, _, F216_ok⟩]) (mkC_ok _ _ _ _) (fnOf_ok _) Tryz.func139 rfl rfl rfl (by decide) rfl ?_
 rintro ⟨a0, _⟩ hwf hpre ⟨P, C, B, X, w0, M0, pv⟩ hG rfl rfl
 show Vc _ _ [(0, ⟨0, 0, .c Z22 a0⟩)] _
 refine Vq (Vr hG rfl (by trivial) (Vq (Vq ?_)))
 refine VrD mixed hG rfl (by kernel_rfl) ?_ ?_
 · exact ⟨trivial, fun h => nIdx (pmN h) 5 (by decide)⟩
 refine Vk rfl (fun h0 => ?_) (fun h0 => ?_)
 · have g0 : pmBad a0 = true := h0
   refine Vq (Vr hG rfl (by trivial) (Vt ?_))
   have e := pm0 g0
   refine ⟨?_, ?_, trivial⟩
   · exact (congrArg Prod.fst e).symm
   · exact (congrArg Prod.snd e).symm
 · have g0 : pmBad a0 = false := h0
   refine Vs (Vq ?_)
   refine VrD mixed hG rfl (by kernel_rfl) ?_ ?_
   · exact ⟨nIdx (pmN (orF g0).1) 1 (by decide), nIdx (pmN (orF g0).1) 2 (by decide), nIdx (pmN (orF g0).1) 3 (by decide), nIdx (pmN (orF g0).1) 4 (by decide), nIdx (pmN (orF g0).1) 5 (by decide)⟩
   refine Vt ?_
   have e := pm1 g0
   refine ⟨?_, ?_, trivial⟩
   · exact (congrArg Prod.fst e).symm
   · exact (congrArg Prod.snd e).symm
noncomputable def F284 : Fun := ⟨[.pair (.int .i64) Y9], [.pure (.bool)], fun _ => True, fun x => (shapeF x.1, ())⟩
theorem F284_ok : Meets Tryz.prog 284 F284 := by
 refine mV (C := mkC 51 [2] [0,1,2,4,6,8,10,12] [⟨128, _, F128_ok⟩, ⟨133, _, F133_ok⟩, ⟨311, _, F311_ok⟩, ⟨312, _, F312_ok⟩, ⟨139, _, F139_ok⟩]) (mkC_ok _ _ _ _) (fnOf_ok _) Tryz.func284 rfl rfl rfl (by decide) rfl ?_
 rintro ⟨a0, _⟩ hwf hpre ⟨P, C, B, X, w0, M0, pv⟩ hG rfl rfl
 show Vc _ _ [(0, ⟨0, 0, .c Z22 a0⟩)] _
 refine Vq (Vr hG rfl (by trivial) (Vq (Vr hG rfl (by trivial) ?_)))
 refine Vq (Vr hG rfl (by trivial) (Vq (Vr hG rfl (by trivial) ?_)))
 refine Vq (Vr hG rfl (by trivial) (Vq (Vr hG rfl (by trivial) ?_)))
 refine Vq (Vr hG rfl (by trivial) (Vt ?_))
 refine ⟨?_, trivial⟩
 all_goals exact rfl
noncomputable def F212 : Fun := ⟨[.slice Y32, .pair (.int .i64) Y9], [.pure (.bool)], fun _ => True, fun x => (checkPieceF x.1 x.2.1, ())⟩
theorem F212_ok : Meets Tryz.prog 212 F212 := by
 refine mV (C := mkC 17 [4] [0,1,3,4] [⟨284, _, F284_ok⟩, ⟨209, _, F209_ok⟩]) (mkC_ok _ _ _ _) (fnOf_ok _) Tryz.func212 rfl rfl rfl (by decide) rfl ?_
 rintro ⟨a0, a1, _⟩ hwf hpre ⟨P, C, B, X, w0, M0, pv⟩ hG rfl rfl
 show Vc _ _ [(0, ⟨0, 0, .c Z36 a0⟩), (1, ⟨0, 0, .c Z22 a1⟩)] _
 refine Vq (Vr hG rfl (by trivial) (Vq ?_))
 refine Vr hG rfl ?_ ?_
 · exact ⟨trivial, fun h => shapeSmall h⟩
 refine Vt ?_
 refine ⟨?_, trivial⟩
 all_goals exact rfl
noncomputable def F126 : Fun := ⟨[.pair Y34 Y55, .pair Y66 Y37, .slice (.slice (.int .i64)), .pair (.int .i64) Y9], [.pure (.bool)], fun x => (fun (_ : Frame) (e : Evidence) (_ : List (List Int)) (_ : Piece) => Sm big20 Y66 e.1) x.1 x.2.1 x.2.2.1 x.2.2.2.1, fun x => (usableF x.1 x.2.1 x.2.2.1 x.2.2.2.1, ())⟩
theorem F126_ok : Meets Tryz.prog 126 F126 := by
 refine mV (C := mkC 40 [8] [0,1,2,3,4,5,7,8,9] [⟨53, _, F53_ok⟩, ⟨212, _, F212_ok⟩, ⟨51, _, F51_ok⟩, ⟨54, _, F54_ok⟩]) (mkC_ok _ _ _ _) (fnOf_ok _) Tryz.func126 rfl rfl rfl (by decide) rfl ?_
 rintro ⟨a0, a1, a2, a3, _⟩ hwf hpre ⟨P, C, B, X, w0, M0, pv⟩ hG rfl rfl
 show Vc _ _ [(0, ⟨0, 0, .c Z67 a0⟩), (1, ⟨0, 0, .c Z72 a1⟩), (2, ⟨0, 0, .c Z7 a2⟩), (3, ⟨0, 0, .c Z22 a3⟩)] _
 have hS : Sm big20 Y66 a1.1 := hpre
 refine Vq (Vr hG rfl (by trivial) (Vq (Vr hG rfl (by trivial) ?_)))
 refine Vq ?_
 refine VrD mixed hG rfl (by kernel_rfl) ?_ ?_
 · exact ⟨fun _ => trivial, fun _ => hS, fun h => findRange (geNot (andT h).1), fun _ => trivial⟩
 refine Vt ?_
 refine ⟨?_, trivial⟩
 exact usS
noncomputable def F213 : Fun := ⟨[.pair (.int .i64) Y9, .pair (.int .i64) Y9], [.pure (.bool)], fun _ => True, fun x => (pbF x.1 x.2.1, ())⟩
theorem F213_ok : Meets Tryz.prog 213 F213 := by
 refine mV (C := mkC 71 [4] [0,1,2,3,4,5,17,30,48,60] []) (mkC_ok _ _ _ _) (fnOf_ok _) Tryz.func213 rfl rfl rfl (by decide) rfl ?_
 rintro ⟨a0, a1, _⟩ hwf hpre ⟨P, C, B, X, w0, M0, pv⟩ hG rfl rfl
 show Vc _ _ [(0, ⟨0, 0, .c Z22 a0⟩), (1, ⟨0, 0, .c Z22 a1⟩)] _
 have hb : List.length a0.2.1 ≤ bigLen := hwf.1.2.1.1
 refine Vq (Vr hG rfl (by trivial) (Vq (Vq ?_)))
 refine Vr hG rfl (by trivial) (Vb ?_)
 refine Vc.loopF [(5, false, .pure (.int .i64))] [0, 1, 2, 3, 48, 60] (fun v => pbInv a0 a1 v.1) (fun v => ((List.length a0.2.1 : Int) - v.1).toNat) rfl ?_ ?_
 · exact pbStart
 rintro ⟨(i : Int), _⟩ hI
 have hI : pbInv a0 a1 i := hI
 refine Vq (Vq (Vr hG rfl (by trivial) ?_))
 refine Vk rfl (fun h0 => ?_) (fun h0 => ?_)
 · have hh := andLt h0
   have hl := hh.1
   have hm := hh.2
   refine Vs (Vq (Vb (Vq ?_)))
   refine VrD mixed hG rfl (by kernel_rfl) ?_ ?_
   · exact ⟨pbRangeA hI hl, pbRangeB hI hm⟩
   refine Vk rfl (fun h1 => ?_) (fun h1 => ?_)
   · have g1 := bneT h1
     refine Vq ?_
     refine VrD mixed hG rfl (by kernel_rfl) ?_ ?_
     · exact ⟨pbRangeA hI hl, pbRangeB hI hm⟩
     refine Vt ?_
     refine ⟨?_, trivial⟩
     exact pbHit hI hl hm g1
   · have g1 := bneI h1
     refine Vs (Vr hG rfl (by trivial) ?_)
     refine ⟨rfl, ?_⟩
     exact pbStep hI hl hm hb g1
 · have hx := andGe h0
   refine Vx (Vq (Vq (Vr hG rfl (by trivial) ?_)))
   refine Vk rfl (fun h2 => ?_) (fun h2 => ?_)
   · refine Vq (Vr hG rfl (by trivial) (Vt ?_))
     refine ⟨?_, trivial⟩
     exact pbLen hI hx h2
   · refine Vs (Vq (Vq (Vr hG rfl (by trivial) ?_)))
     refine Vk rfl (fun h3 => ?_) (fun h3 => ?_)
     · refine Vq (Vr hG rfl (by trivial) (Vt ?_))
       refine ⟨?_, trivial⟩
       exact pbKey hI hx h2 h3
     · refine Vs (Vq (Vr hG rfl (by trivial) (Vt ?_)))
       refine ⟨?_, trivial⟩
       exact pbMark hI hx h2 h3
noncomputable def T127 : TFun := ⟨.own Z29, [.pair (.int .i64) Y9], .own Z29, fun x xs => (fun (l : List Piece) (p : Piece) => List.length l ≤ 2000000000 ∧ AscP l ∧ Sm big20 Y19 p) x xs.1, fun x xs => (fun l p => usPut p l) x xs.1⟩
theorem T127_ok : MeetsT Tryz.prog 127 T127 := by
 refine meetsT_of_vc (C := mkCM 46 [4] [0,1,3,4,5,17,31] [⟨213, _, F213_ok⟩, ⟨214, _, F214_ok⟩, ⟨215, _, F215_ok⟩] [] [] []) (mkCM_ok _ _ _ _ _ _ _) (fnOf_ok _) Tryz.func127 rfl rfl rfl (by decide) rfl rfl rfl rfl ?_ rfl
 rintro a0 ⟨a1, _⟩ hwf0 hwf hpre ⟨P, C, B, X, w0, M0, pv⟩ hG rfl rfl
 show Vc _ _ [(0, ⟨0, 0, .c Z31 a0⟩), (1, ⟨0, 0, .c Z22 a1⟩)] _
 have hs : List.length a0 ≤ 2000000000 := hpre.1
 have ha : AscP a0 := hpre.2.1
 have hp : Sm big20 Y19 a1 := hpre.2.2
 refine Vq (Vr hG rfl (by trivial) (Vq (Vr hG rfl (by trivial) ?_)))
 refine Vq (Vb ?_)
 refine Vc.loopF [(5, false, .pure (.int .i64))] [0, 1, 3, 4, 31] (fun v => tkInv (fun (y : Piece) => pbF y a1) a0 v.1) (fun v => ((List.length a0 : Int) - v.1).toNat) rfl ?_ ?_
 · exact tkStart
 rintro ⟨(i : Int), _⟩ hI
 have hI : tkInv (fun (y : Piece) => pbF y a1) a0 i := hI
 refine Vq (Vq ?_)
 refine VrD mixed hG rfl (by kernel_rfl) ?_ ?_
 · exact ⟨fun h => tkRange hI (of_decide_eq_true h), fun _ => trivial⟩
 refine Vk rfl (fun h0 => ?_) (fun h0 => ?_)
 · have g0 : pick2 (decide (i < (List.length a0 : Int))) (pbF (List.getD a0 i.toNat (dflt Y19)) a1) false = true := h0
   refine Vs (Vb (Vr hG rfl (by trivial) ?_))
   refine ⟨rfl, ?_⟩
   exact tkStepW (p := (fun (y : Piece) => pbF y a1)) hI hs g0
 · have g0 : pick2 (decide (i < (List.length a0 : Int))) (pbF (List.getD a0 i.toNat (dflt Y19)) a1) false = false := h0
   have hk := tkEnd (p := (fun (y : Piece) => pbF y a1)) hI g0
   refine Vx (Vq (Vq ?_))
   refine VrD mixed hG rfl (by kernel_rfl) ?_ ?_
   · exact ⟨fun h => tkRange hI (of_decide_eq_true h), fun _ => trivial⟩
   refine Vk rfl (fun h1 => ?_) (fun h1 => ?_)
   · have g1 : pick2 (decide (i < (List.length a0 : Int))) (eqC (List.getD a0 i.toNat (dflt Y19)) a1) false = true := h1
     refine Vq (Vr hG rfl (by trivial) (Vt ?_))
     refine ⟨?_, trivial⟩
     exact putYes hI.1 g1
   · have g1 : pick2 (decide (i < (List.length a0 : Int))) (eqC (List.getD a0 i.toNat (dflt Y19)) a1) false = false := h1
     refine Vs (Vq ?_)
     refine VrD mixed hG rfl (by kernel_rfl) ?_ ?_
     · exact insConds2W hI hs hp
     refine Vt ?_
     refine ⟨?_, trivial⟩
     exact (putEq hI hk).trans (putNo ha hk hI.1 g1).symm
noncomputable def F56 : Fun := ⟨[.pair Y34 Y55, .pair Y66 Y37, .slice (.slice (.int .i64))], [.own Z29], fun x => (fun (_ : Frame) (e : Evidence) (_ : List (List Int)) => Sm big20 Y66 e.1 ∧ ((cellsC Y66 e.1 : Nat) : Int) ≤ 2000000000) x.1 x.2.1 x.2.2.1, fun x => (usablePiecesF x.1 x.2.1 x.2.2.1, ())⟩
theorem F56_ok : Meets Tryz.prog 56 F56 := by
 refine mV (C := mkCM 48 [6] [0,1,2,3,4,6,7,8,9,10,16,27,43] [⟨126, _, F126_ok⟩] [] [⟨127, _, T127_ok⟩] []) (mkCM_ok _ _ _ _ _ _ _) (fnOf_ok _) Tryz.func56 rfl rfl rfl (by decide) rfl ?_
 rintro ⟨a0, a1, a2, _⟩ hwf hpre ⟨P, C, B, X, w0, M0, pv⟩ hG rfl rfl
 show Vc _ _ [(0, ⟨0, 0, .c Z67 a0⟩), (1, ⟨0, 0, .c Z72 a1⟩), (2, ⟨0, 0, .c Z7 a2⟩)] _
 have hS : Sm big20 Y66 a1.1 := hpre.1
 have hc : ((cellsC Y66 a1.1 : Nat) : Int) ≤ 2000000000 := hpre.2
 have hb : List.length a1.1 ≤ bigLen := hwf.2.1.1.1
 refine Vq (Vr hG rfl (by trivial) (Vq (Vr hG rfl (by trivial) ?_)))
 refine Vq (Vq (Vr hG rfl (by trivial) (Vb ?_)))
 refine Vc.loopF [(7, false, .own Z29), (8, false, .pure (.int .i64))] [0, 1, 2, 3, 4, 6] (fun v => uoInv a0 a1 a2 v.1 v.2.1) (fun v => ((List.length a1.1 : Int) - v.2.1).toNat) rfl ?_ ?_
 · exact uoStart
 rintro ⟨out, (i : Int), _⟩ hI
 have hI : uoInv a0 a1 a2 out i := hI
 refine Vq (Vq (Vr hG rfl (by trivial) ?_))
 refine Vk rfl (fun h0 => ?_) (fun h0 => ?_)
 · have hl : i < (List.length a1.1 : Int) := of_decide_eq_true h0
   have ri := uoRange hI hl
   have sS := usStrand hS ri
   have hbk : List.length (List.getD a1.1 i.toNat (dflt Y63)).1 ≤ bigLen := Nat.le_trans sS.1.1 (by decide)
   refine Vs (Vq (Vb (Vq ?_)))
   refine Vr hG rfl (by trivial) (Vb ?_)
   refine Vc.loopF [(7, false, .own Z29), (9, false, .pure (.int .i64))] [0, 1, 2, 3, 4, 6, 8, 16] (fun v => uiInv a0 a1 a2 i v.1 v.2.1) (fun v => ((List.length (List.getD a1.1 i.toNat (dflt Y63)).1 : Int) - v.2.1).toNat) rfl ?_ ?_
   · exact uiStart hI
   rintro ⟨out2, (k : Int), _⟩ hK
   have hK : uiInv a0 a1 a2 i out2 k := hK
   refine Vq (Vq ?_)
   refine Vr hG rfl ?_ ?_
   · exact ri
   refine Vk rfl (fun h1 => ?_) (fun h1 => ?_)
   · have hm : k < (List.length (List.getD a1.1 i.toNat (dflt Y63)).1 : Int) := of_decide_eq_true h1
     have rk := uiRange hK hm
     have ho := uiLen ri hK hc
     have hE : Sm big20 Y19 (List.getD (List.getD a1.1 i.toNat (dflt Y63)).1 k.toNat (dflt Y19)) := sS.1.2 _ (getD_mem rk _)
     refine Vs (Vq (Vb (Vq ?_)))
     refine Vr hG rfl ?_ ?_
     · exact ⟨ri, rk⟩
     refine Vq ?_
     refine Vr hG rfl ?_ ?_
     · exact hS
     refine Vk rfl (fun h2 => ?_) (fun h2 => ?_)
     · have g2 : usableF a0 a1 a2 (List.getD (List.getD a1.1 i.toNat (dflt Y63)).1 k.toNat (dflt Y19)) = true := h2
       have st := uiStep hK hm hbk (usYes g2)
       refine Vr hG rfl ?_ ?_
       · exact ⟨ho, uiAsc hK, hE⟩
       refine Vr hG rfl (by trivial) ?_
       refine ⟨rfl, ?_⟩
       exact st
     · have g2 : usableF a0 a1 a2 (List.getD (List.getD a1.1 i.toNat (dflt Y63)).1 k.toNat (dflt Y19)) = false := h2
       have st := uiStep hK hm hbk (usNo (out := out2) g2)
       refine Vs (Vr hG rfl (by trivial) ?_)
       refine ⟨rfl, ?_⟩
       exact st
   · have hm : ¬ k < (List.length (List.getD a1.1 i.toNat (dflt Y63)).1 : Int) := of_decide_eq_false h1
     refine Vx (Vr hG rfl (by trivial) ?_)
     refine ⟨rfl, ?_⟩
     exact uoStep hI hl hb hK hm
 · have hl : ¬ i < (List.length a1.1 : Int) := of_decide_eq_false h0
   refine Vx (Vq (Vr hG rfl (by trivial) (Vt ?_)))
   refine ⟨?_, trivial⟩
   exact uoEnd hI hl
noncomputable def F232 : Fun := ⟨[.pair (.int .i64) Y38], [.pure Y4], fun _ => True, fun x => (certSpanF x.1, ())⟩
theorem F232_ok : Meets Tryz.prog 232 F232 := by
 refine mV (C := mkC 8 [2] [0,1,2] []) (mkC_ok _ _ _ _) (fnOf_ok _) Tryz.func232 rfl rfl rfl (by decide) rfl ?_
 rintro ⟨a0, _⟩ hwf hpre ⟨P, C, B, X, w0, M0, pv⟩ hG rfl rfl
 show Vc _ _ [(0, ⟨0, 0, .c Z46 a0⟩)] _
 refine Vq (Vr hG rfl (by trivial) (Vq (Vr hG rfl (by trivial) ?_)))
 refine Vt ?_
 refine ⟨?_, trivial⟩
 all_goals exact rfl
noncomputable def F217 : Fun := ⟨[.pair (.int .i64) Y38], [.pure (.bool)], fun _ => True, fun x => (isCertF x.1, ())⟩
theorem F217_ok : Meets Tryz.prog 217 F217 := by
 refine mV (C := mkC 33 [2] [0,1,2] [⟨207, _, F207_ok⟩, ⟨232, _, F232_ok⟩, ⟨137, _, F137_ok⟩]) (mkC_ok _ _ _ _) (fnOf_ok _) Tryz.func217 rfl rfl rfl (by decide) rfl ?_
 rintro ⟨a0, _⟩ hwf hpre ⟨P, C, B, X, w0, M0, pv⟩ hG rfl rfl
 show Vc _ _ [(0, ⟨0, 0, .c Z46 a0⟩)] _
 refine Vq (Vr hG rfl (by trivial) (Vq ?_))
 refine Vr hG rfl ?_ ?_
 · repeat' (first | exact trivial | refine And.intro ?_ ?_ | intro _)
 refine Vt ?_
 refine ⟨?_, trivial⟩
 all_goals exact rfl
noncomputable def F218 : Fun := ⟨[.pair (.int .i64) Y38], [.own (.pure (.int .i64))], fun _ => True, fun x => (certIntsF x.1, ())⟩
theorem F218_ok : Meets Tryz.prog 218 F218 := by
 refine mV (C := mkC 16 [2] [0,1,2] []) (mkC_ok _ _ _ _) (fnOf_ok _) Tryz.func218 rfl rfl rfl (by decide) rfl ?_
 rintro ⟨a0, _⟩ hwf hpre ⟨P, C, B, X, w0, M0, pv⟩ hG rfl rfl
 show Vc _ _ [(0, ⟨0, 0, .c Z46 a0⟩)] _
 refine Vq (Vr hG rfl (by trivial) (Vq (Vr hG rfl (by trivial) ?_)))
 refine Vt ?_
 refine ⟨?_, trivial⟩
 all_goals exact rfl
noncomputable def F219 : Fun := ⟨[.slice Y32, .int .i64], [.pure (.int .i64)], fun _ => True, fun x => (ownerF x.1 x.2.1, ())⟩
theorem F219_ok : Meets Tryz.prog 219 F219 := by
 refine mV (C := mkC 16 [4] [0,1,4,5,10] [⟨53, _, F53_ok⟩]) (mkC_ok _ _ _ _) (fnOf_ok _) Tryz.func219 rfl rfl rfl (by decide) rfl ?_
 rintro ⟨a0, (a1 : Int), _⟩ hwf hpre ⟨P, C, B, X, w0, M0, pv⟩ hG rfl rfl
 show Vc _ _ [(0, ⟨0, 0, .c Z36 a0⟩), (1, ⟨0, 0, .c (.pure (.int .i64)) a1⟩)] _
 refine Vq (Vr hG rfl (by trivial) (Vq (Vr hG rfl (by trivial) ?_)))
 refine Vq (Vq (Vr hG rfl (by trivial) ?_))
 refine Vk rfl (fun h0 => ?_) (fun h0 => ?_)
 · have g0 : keyI a0 a1 < 0 := of_decide_eq_true h0
   refine Vq (Vr hG rfl (by trivial) (Vt ?_))
   refine ⟨?_, trivial⟩
   exact owner0 g0
 · have g0 : ¬ keyI a0 a1 < 0 := of_decide_eq_false h0
   refine Vs (Vq ?_)
   refine Vr hG rfl ?_ ?_
   · exact findRange g0
   refine Vt ?_
   refine ⟨?_, trivial⟩
   exact owner1 g0
noncomputable def F129 : Fun := ⟨[.slice Y32, .pair (.int .i64) Y38], [.pure (.bool)], fun _ => True, fun x => (checkCertF x.1 x.2.1, ())⟩
theorem F129_ok : Meets Tryz.prog 129 F129 := by
 refine mV (C := mkC 26 [4] [0,1,3,4] [⟨217, _, F217_ok⟩, ⟨218, _, F218_ok⟩, ⟨209, _, F209_ok⟩, ⟨219, _, F219_ok⟩]) (mkC_ok _ _ _ _) (fnOf_ok _) Tryz.func129 rfl rfl rfl (by decide) rfl ?_
 rintro ⟨a0, a1, _⟩ hwf hpre ⟨P, C, B, X, w0, M0, pv⟩ hG rfl rfl
 show Vc _ _ [(0, ⟨0, 0, .c Z36 a0⟩), (1, ⟨0, 0, .c Z46 a1⟩)] _
 refine Vq (Vr hG rfl (by trivial) (Vq ?_))
 refine VrD mixed hG rfl (by kernel_rfl) ?_ ?_
 · exact ⟨trivial, fun _ => trivial, fun _ => smallLit (n := 7) rfl (by decide), fun _ => trivial⟩
 refine Vt ?_
 refine ⟨?_, trivial⟩
 all_goals exact rfl
noncomputable def F57 : Fun := ⟨[.pair Y34 Y55, .slice Y19, .pair (.int .i64) Y48], [.pure Y45, .pure (.bool)], fun _ => True, fun x => (((fun a0 a1 a2 => certForF a0.1 a1 a2) x.1 x.2.1 x.2.2.1).1, ((fun a0 a1 a2 => certForF a0.1 a1 a2) x.1 x.2.1 x.2.2.1).2, ())⟩
theorem F57_ok : Meets Tryz.prog 57 F57 := by
 refine mV (C := mkC 56 [6, 7] [0,1,2,3,5,6,7,8,9,10,11,12,17,48,53] [⟨128, _, F128_ok⟩, ⟨129, _, F129_ok⟩]) (mkC_ok _ _ _ _) (fnOf_ok _) Tryz.func57 rfl rfl rfl (by decide) rfl ?_
 rintro ⟨a0, a1, a2, _⟩ hwf hpre ⟨P, C, B, X, w0, M0, pv⟩ hG rfl rfl
 show Vc _ _ [(0, ⟨0, 0, .c Z67 a0⟩), (1, ⟨0, 0, .c Z26 a1⟩), (2, ⟨0, 0, .c Z52 a2⟩)] _
 have hb : List.length a1 ≤ bigLen := hwf.2.1.1
 refine Vq (Vr hG rfl (by trivial) (Vq (Vr hG rfl (by trivial) ?_)))
 refine Vq (Vr hG rfl (by trivial) (Vq (Vq ?_)))
 refine Vr hG rfl (by trivial) (Vb ?_)
 refine Vc.loopF [(8, true, .pure Y45), (9, false, .pure (.int .i64)), (10, false, .pure (.int .i64))] [0, 1, 2, 3, 5, 6, 7, 53] (fun v => cfInv a0.1 a2 a1 v.1 v.2.1 v.2.2.1) (fun v => ((List.length a1 : Int) - v.2.2.1).toNat) rfl ?_ ?_
 · exact cfStart
 rintro ⟨c, (n : Int), (i : Int), _⟩ hI
 have hI : cfInv a0.1 a2 a1 c n i := hI
 refine Vq (Vq (Vr hG rfl (by trivial) ?_))
 refine Vk rfl (fun h0 => ?_) (fun h0 => ?_)
 · have hl : i < (List.length a1 : Int) := of_decide_eq_true h0
   refine Vs (Vq (Vb (Vq ?_)))
   refine Vr hG rfl ?_ ?_
   · exact ⟨cfRange hI hl, trivial⟩
   refine Vq ?_
   refine Vr hG rfl ?_ ?_
   · repeat' (first | exact trivial | refine And.intro ?_ ?_ | intro _)
   refine Vk rfl (fun h1 => ?_) (fun h1 => ?_)
   · have g1 : cfTest a0.1 a2 (List.getD a1 i.toNat (dflt Y19)) = true := h1
     refine Vq (Vr hG rfl (by trivial) (Vr hG rfl (by trivial) (Vr hG rfl (by trivial) ?_)))
     refine ⟨rfl, ?_⟩
     first | exact cfGo1 hI hl hb g1 | exact cfGo0 hI hl hb g1
   · have g1 : cfTest a0.1 a2 (List.getD a1 i.toNat (dflt Y19)) = false := h1
     refine Vs (Vr hG rfl (by trivial) ?_)
     refine ⟨rfl, ?_⟩
     first | exact cfGo1 hI hl hb g1 | exact cfGo0 hI hl hb g1
 · have hl : ¬ i < (List.length a1 : Int) := of_decide_eq_false h0
   refine Vx (Vq (Vq (Vr hG rfl (by trivial) ?_)))
   refine Vk rfl (fun h2 => ?_) (fun h2 => ?_)
   · have g2 : (n != 1) = true := h2
     refine Vq (Vr hG rfl (by trivial) (Vt ?_))
     have e := cfEnd0 hI hl g2
     refine ⟨?_, ?_, trivial⟩
     · exact (congrArg Prod.fst e).symm
     · exact (congrArg Prod.snd e).symm
   · have g2 : (n != 1) = false := h2
     refine Vs (Vq (Vr hG rfl (by trivial) (Vt ?_)))
     have e := cfEnd1 hI hl g2
     refine ⟨?_, ?_, trivial⟩
     · exact (congrArg Prod.fst e).symm
     · exact (congrArg Prod.snd e).symm
noncomputable def F130 : Fun := ⟨[.int .i64, .slice Y32], [.pure (.int .i64)], fun x => (fun (_ : Int) (l : List Stamp) => List.length l ≤ 1048576) x.1 x.2.1, fun x => (stampsDgF x.1 x.2.1, ())⟩
theorem F130_ok : Meets Tryz.prog 130 F130 := by
 refine mV (C := mkC 29 [4] [0,1,4,5,6,9,14] [⟨178, _, F178_ok⟩, ⟨132, _, F132_ok⟩]) (mkC_ok _ _ _ _) (fnOf_ok _) Tryz.func130 rfl rfl rfl (by decide) rfl ?_
 rintro ⟨(a0 : Int), a1, _⟩ hwf hpre ⟨P, C, B, X, w0, M0, pv⟩ hG rfl rfl
 show Vc _ _ [(0, ⟨0, 0, .c (.pure (.int .i64)) a0⟩), (1, ⟨0, 0, .c Z36 a1⟩)] _
 have hs : List.length a1 ≤ 1048576 := hpre
 have hb : List.length a1 ≤ bigLen := hwf.2.1.1
 refine Vq (Vr hG rfl (by trivial) (Vq (Vq ?_)))
 refine Vr hG rfl (by trivial) ?_
 refine Vk rfl (fun h0 => ?_) (fun h0 => ?_)
 · have g0 : (List.length a1 : Int) = 0 := beqI2 h0
   refine Vq (Vr hG rfl (by trivial) (Vt ?_))
   refine ⟨?_, trivial⟩
   exact sd0 g0
 · have g0 : ¬ (List.length a1 : Int) = 0 := bneI' h0
   refine Vs (Vq (Vr hG rfl (by trivial) (Vq ?_)))
   refine Vq (Vr hG rfl (by trivial) (Vb ?_))
   refine Vc.loopF [(5, false, .own (.pure (.int .i64))), (6, false, .pure (.int .i64))] [0, 1, 4, 9] (fun v => gsInv (mkG a1) [] a1 v.1 v.2.1) (fun v => ((List.length a1 : Int) - v.2.1).toNat) rfl ?_ ?_
   · exact gsStart
   rintro ⟨acc, (i : Int), _⟩ hI
   have hI : gsInv (mkG a1) [] a1 acc i := hI
   have hA : List.length acc ≤ 1048576 := gsLen (c := 1) (m := 1048576) hI (fun _ => Nat.le_refl _) hs (by simp)
   refine Vq (Vq (Vr hG rfl (by trivial) ?_))
   refine Vk rfl (fun h1 => ?_) (fun h1 => ?_)
   · have hl : i < (List.length a1 : Int) := of_decide_eq_true h1
     refine Vs (Vq (Vb ?_))
     refine Vr hG rfl ?_ ?_
     · exact ⟨gsRange hI hl, (show List.length acc + 1 ≤ maxApp from by unfold maxApp; omega)⟩
     refine Vr hG rfl (by trivial) ?_
     refine ⟨rfl, ?_⟩
     exact gsStep hI hl hb rfl
   · have hl : ¬ i < (List.length a1 : Int) := of_decide_eq_false h1
     refine Vx (Vq ?_)
     refine Vr hG rfl ?_ ?_
     · exact ⟨(show List.length acc ≤ 1000000000 from by omega), trivial⟩
     refine Vt ?_
     refine ⟨?_, trivial⟩
     exact (congrArg (fun l => max 1 (digestF a0 l)) (gsEnd hI hl)).trans (sd1 g0)
noncomputable def F222 : Fun := ⟨[.int .i64, .pair (.int .i64) Y24], [.pair (.pure (.int .i64)) Z16], fun _ => True, fun x => (stampPieceF x.1 x.2.1, ())⟩
theorem F222_ok : Meets Tryz.prog 222 F222 := by
 refine mV (C := mkC 11 [4] [0,1,3,4] [⟨287, _, F287_ok⟩]) (mkC_ok _ _ _ _) (fnOf_ok _) Tryz.func222 rfl rfl rfl (by decide) rfl ?_
 rintro ⟨(a0 : Int), a1, _⟩ hwf hpre ⟨P, C, B, X, w0, M0, pv⟩ hG rfl rfl
 show Vc _ _ [(0, ⟨0, 0, .c (.pure (.int .i64)) a0⟩), (1, ⟨0, 0, .c Z33 a1⟩)] _
 refine Vq (Vr hG rfl (by trivial) (Vq (VrD mixed hG rfl (by kernel_rfl) (by trivial) ?_)))
 refine Vt ?_
 refine ⟨?_, trivial⟩
 all_goals exact rfl
noncomputable def F221 : Fun := ⟨[.slice Y19, .pair (.int .i64) Y9], [.pure (.bool)], fun _ => True, fun x => (hasF x.1 x.2.1, ())⟩
theorem F221_ok : Meets Tryz.prog 221 F221 := by
 refine mV (C := mkC 18 [4] [0,1,3,4,5,9,17] [⟨214, _, F214_ok⟩]) (mkC_ok _ _ _ _) (fnOf_ok _) Tryz.func221 rfl rfl rfl (by decide) rfl ?_
 rintro ⟨a0, a1, _⟩ hwf hpre ⟨P, C, B, X, w0, M0, pv⟩ hG rfl rfl
 show Vc _ _ [(0, ⟨0, 0, .c Z26 a0⟩), (1, ⟨0, 0, .c Z22 a1⟩)] _
 have hb : List.length a0 ≤ bigLen := hwf.1.1
 refine Vq (Vr hG rfl (by trivial) (Vq (Vq ?_)))
 refine Vr hG rfl (by trivial) (Vb ?_)
 refine Vc.loopF [(5, false, .pure (.int .i64))] [0, 1, 3] (fun v => fInv (fun x => eqC x a1) a0 v.1) (fun v => ((List.length a0 : Int) - v.1).toNat) rfl ?_ ?_
 · exact fStart
 rintro ⟨(i : Int), _⟩ hI
 have hI : fInv (fun x => eqC x a1) a0 i := hI
 refine Vq (Vq (Vr hG rfl (by trivial) ?_))
 refine Vk rfl (fun h0 => ?_) (fun h0 => ?_)
 · have hl : i < (List.length a0 : Int) := of_decide_eq_true h0
   refine Vs (Vq (Vb (Vq ?_)))
   refine VrD mixed hG rfl (by kernel_rfl) ?_ ?_
   · exact ⟨fRange hI hl, trivial⟩
   refine Vk rfl (fun h1 => ?_) (fun h1 => ?_)
   · have g1 : (fun x => eqC x a1) (List.getD a0 i.toNat (dflt Y19)) = true := h1
     refine Vq (Vr hG rfl (by trivial) (Vt ?_))
     refine ⟨?_, trivial⟩
     exact hasYes hI hl g1
   · have g1 : (fun x => eqC x a1) (List.getD a0 i.toNat (dflt Y19)) = false := h1
     refine Vs (Vr hG rfl (by trivial) ?_)
     refine ⟨rfl, ?_⟩
     exact fStep hI hl hb g1
 · have hl : ¬ i < (List.length a0 : Int) := of_decide_eq_false h0
   refine Vx (Vq (Vr hG rfl (by trivial) (Vt ?_)))
   refine ⟨?_, trivial⟩
   exact hasNo hI hl
end Fw
