/- Walks of functions of the program: what each computes. Conditions: those that each contract names. -/
import Derived.Test.YtoccddagjnebbaaGreatW8T
import Derived.Test.YtoccddagjnebbaaGreatW8s0
import Derived.Test.YtoccddagjnebbaaGreatW8s1
namespace Fw
open Go Go.Proofs
set_option linter.unusedSimpArgs false
set_option maxRecDepth 100000
noncomputable def F131 : Fun := ⟨[.pair Y34 Y55, .slice Y19, .slice Y32], [.pure (.int .i64), .pure (.bool)], fun x => (fun (_ : Frame) (_ : List Piece) (l : List Stamp) => List.length l ≤ 1048576) x.1 x.2.1 x.2.2.1, fun x => ((l23F x.1 x.2.1 x.2.2.1).1, (l23F x.1 x.2.1 x.2.2.1).2, ())⟩
theorem F131_ok : Meets Tryz.prog 131 F131 := by
 refine mV (C := mkC 82 [6, 7] [0,1,2,3,6,7,8,9,10,11,12,13,18,67] [⟨220, _, F220_ok⟩, ⟨223, _, F223_ok⟩, ⟨222, _, F222_ok⟩, ⟨221, _, F221_ok⟩, ⟨224, _, F224_ok⟩]) (mkC_ok _ _ _ _) (fnOf_ok _) Tryz.func131 rfl rfl rfl (by decide) rfl ?_
 rintro ⟨a0, a1, a2, _⟩ hwf hpre ⟨P, C, B, X, w0, M0, pv⟩ hG rfl rfl
 show Vc _ _ [(0, ⟨0, 0, .c Z67 a0⟩), (1, ⟨0, 0, .c Z26 a1⟩), (2, ⟨0, 0, .c Z36 a2⟩)] _
 have hs : List.length a2 ≤ 1048576 := hpre
 have hb : List.length a2 ≤ bigLen := hwf.2.2.1.1
 refine Vq (Vr hG rfl (by trivial) (Vq (Vr hG rfl (by trivial) ?_)))
 refine Vq (Vq (Vr hG rfl (by trivial) (Vb ?_)))
 refine Vc.loopF [(8, false, .own Z8), (9, false, .pure (.int .i64))] [0, 1, 2, 3, 12, 13] (fun v => l23Inv a0 a1 a2 v.1 v.2.1) (fun v => ((List.length a2 : Int) - v.2.1).toNat) rfl ?_ ?_
 · exact l23Start
 rintro ⟨acc, (i : Int), _⟩ hI
 have hI : l23Inv a0 a1 a2 acc i := hI
 have hA : List.length acc ≤ 1048576 := Nat.le_trans (rsLen hI.1) hs
 have h0i : 0 ≤ i := by obtain ⟨n, _, e⟩ := hI.1.1; omega
 refine Vq (Vq (Vr hG rfl (by trivial) ?_))
 refine Vk rfl (fun h0 => ?_) (fun h0 => ?_)
 · have hl : i < (List.length a2 : Int) := of_decide_eq_true h0
   refine Vs (Vq (Vb (Vq ?_)))
   refine VrD mixed hG rfl (by kernel_rfl) ?_ ?_
   · exact ⟨rsRange hI.1 hl, trivial⟩
   refine Vq (Vq ?_)
   refine VrD mixed hG rfl (by kernel_rfl) ?_ ?_
   · repeat' (first | exact trivial | exact rsRange hI.1 hl | (intro h2; exact prevIdx (rsRange hI.1 hl) (of_decide_eq_true h2) hb) | refine And.intro ?_ ?_ | intro _)
   refine Vk rfl (fun h1 => ?_) (fun h1 => ?_)
   · have g1 : l23Bad a0 a1 a2 i = true := h1
     refine Vq (Vr hG rfl (by trivial) (Vt ?_))
     have e := l23Stop hI hl hb g1
     refine ⟨?_, ?_, trivial⟩
     · exact congrArg (fun (q : Int × Bool) => q.1) e
     · exact congrArg (fun (q : Int × Bool) => q.2) e
   · have g1 : l23Bad a0 a1 a2 i = false := h1
     refine Vs ?_
     refine Vr hG rfl ?_ ?_
     · exact (show List.length acc + 1 ≤ maxApp from by unfold maxApp; omega)
     refine Vr hG rfl (by trivial) ?_
     refine ⟨rfl, ?_⟩
     exact l23Step hI hl hb ((l23_iff h0i hl hb).1 g1)
 · have hl : ¬ i < (List.length a2 : Int) := of_decide_eq_false h0
   refine Vx (Vq (Vr hG rfl (by trivial) (Vq ?_)))
   refine Vr hG rfl (by trivial) (Vt ?_)
   have e := l23End hI hl
   refine ⟨?_, ?_, trivial⟩
   · exact congrArg (fun (q : Int × Bool) => q.1) e
   · exact congrArg (fun (q : Int × Bool) => q.2) e
noncomputable def F58 : Fun := ⟨[.pair Y34 Y55, .pair Y66 Y37, .slice Y19, .pair (.int .i64) Y48], [.pure (.int .i64)], fun x => (fun (_ : Frame) (e : Evidence) (_ : List Piece) (_ : Sig) => Sm big20 (.slice (.slice TStamp)) e.2) x.1 x.2.1 x.2.2.1 x.2.2.2.1, fun x => (freshG x.1 x.2.1 x.2.2.1 x.2.2.2.1, ())⟩
set_option maxHeartbeats 2000000 in
theorem F58_ok : Meets Tryz.prog 58 F58 := by
 refine mV (C := mkC 66 [8] [0,1,2,3,4,5,7,8,9,10,11,12,13,20,36,49,61] [⟨53, _, F53_ok⟩, ⟨130, _, F130_ok⟩, ⟨131, _, F131_ok⟩, ⟨132, _, F132_ok⟩]) (mkC_ok _ _ _ _) (fnOf_ok _) Tryz.func58 rfl rfl rfl (by decide) rfl ?_
 rintro ⟨a0, a1, a2, a3, _⟩ hwf hpre ⟨P, C, B, X, w0, M0, pv⟩ hG rfl rfl
 show Vc _ _ [(0, ⟨0, 0, .c Z67 a0⟩), (1, ⟨0, 0, .c Z72 a1⟩), (2, ⟨0, 0, .c Z26 a2⟩), (3, ⟨0, 0, .c Z52 a3⟩)] _
 have hp : List.length a1.2 ≤ big20 ∧ ∀ l ∈ a1.2, Sm big20 (.slice TStamp) l := hpre
 have hb : List.length a1.2 ≤ bigLen := hwf.2.1.2.1
 refine Vq (Vr hG rfl (by trivial) (Vq (Vr hG rfl (by trivial) ?_)))
 refine Vq (Vr hG rfl (by trivial) (Vq (Vq ?_)))
 refine Vr hG rfl (by trivial) ?_
 refine Vk rfl (fun h0 => ?_) (fun h0 => ?_)
 · have g0 : keyI a0.1 a3.1 ≥ 0 := of_decide_eq_true h0
   have eb := born1 g0
   refine Vr hG rfl ?_ ?_
   · exact findRange (show ¬ keyI a0.1 a3.1 < 0 from by omega)
   refine Vq (Vq (Vr hG rfl (by trivial) (Vb ?_)))
   refine Vc.loopF [(9, false, .pure (.int .i64)), (11, false, .pure (.int .i64))] [0, 1, 2, 3, 4, 5, 7, 8, 10, 20] (fun v => foInv (frG a0 a2 a3) (bornF a0 a3) a1.2 v.1 v.2.1) (fun v => ((List.length a1.2 : Int) - v.2.1).toNat) rfl ?_ ?_
   · exact frStart eb
   rintro ⟨(t : Int), (i : Int), _⟩ hI
   have hI : foInv (frG a0 a2 a3) (bornF a0 a3) a1.2 t i := hI
   refine Vq (Vq (Vr hG rfl (by trivial) ?_))
   refine Vk rfl (fun h1 => ?_) (fun h1 => ?_)
   · have hl : i < (List.length a1.2 : Int) := of_decide_eq_true (andT h1).1
     have ga : (a3.2.2.2.2.2.2.2.1 != 0) = true := (andT h1).2
     have r1 := foRange hI hl
     have hE : List.length (List.getD a1.2 i.toNat (dflt (.slice TStamp))) ≤ 1048576 := (hp.2 _ (getD_mem r1 _)).1
     have hbk : List.length (List.getD a1.2 i.toNat (dflt (.slice TStamp))) ≤ bigLen := Nat.le_trans hE (by decide)
     refine Vs (Vq (Vb (Vq ?_)))
     refine Vq ?_
     refine VrD mixed hG rfl (by kernel_rfl) ?_ ?_
     · exact ⟨r1, hE⟩
     refine Vk rfl (fun h2 => ?_) (fun h2 => ?_)
     · have g1 : (stampsDgF a3.2.2.1 (List.getD a1.2 i.toNat (dflt (.slice TStamp))) != a3.2.2.2.2.2.2.2.1) = true := h2
       have st := foStepE (d := dflt (.slice TStamp)) hI hl hb (frNo1 g1)
       refine Vx (Vr hG rfl (by trivial) ?_)
       refine ⟨rfl, ?_⟩
       exact st
     · have g1 : (stampsDgF a3.2.2.1 (List.getD a1.2 i.toNat (dflt (.slice TStamp))) != a3.2.2.2.2.2.2.2.1) = false := h2
       refine Vs (Vq ?_)
       refine VrD mixed hG rfl (by kernel_rfl) ?_ ?_
       · exact ⟨r1, hE⟩
       refine Vq (Vr hG rfl (by trivial) ?_)
       refine Vk rfl (fun h3 => ?_) (fun h3 => ?_)
       · have g2 : (l23F a0 a2 (List.getD a1.2 i.toNat (dflt (.slice TStamp)))).2 = true := h3
         have st := foStepE (d := dflt (.slice TStamp)) hI hl hb (frYes ga g1 g2)
         refine Vr hG rfl (by trivial) (Vr hG rfl (by trivial) ?_)
         refine ⟨rfl, ?_⟩
         exact st
       · have g2 : (l23F a0 a2 (List.getD a1.2 i.toNat (dflt (.slice TStamp)))).2 = false := h3
         have st := foStepE (d := dflt (.slice TStamp)) hI hl hb (frNo2 (t := t) g2)
         refine Vs (Vr hG rfl (by trivial) ?_)
         refine ⟨rfl, ?_⟩
         exact st
   · have gz := h1
     refine Vx (Vq (Vr hG rfl (by trivial) (Vt ?_)))
     refine ⟨?_, trivial⟩
     exact frEnd hI gz
 · have g0 : ¬ keyI a0.1 a3.1 ≥ 0 := of_decide_eq_false h0
   have eb := born0 g0
   refine Vs (Vq (Vq (Vr hG rfl (by trivial) ?_)))
   refine Vb ?_
   refine Vc.loopF [(9, false, .pure (.int .i64)), (11, false, .pure (.int .i64))] [0, 1, 2, 3, 4, 5, 7, 8, 10, 20] (fun v => foInv (frG a0 a2 a3) (bornF a0 a3) a1.2 v.1 v.2.1) (fun v => ((List.length a1.2 : Int) - v.2.1).toNat) rfl ?_ ?_
   · exact frStart eb
   rintro ⟨(t : Int), (i : Int), _⟩ hI
   have hI : foInv (frG a0 a2 a3) (bornF a0 a3) a1.2 t i := hI
   refine Vq (Vq (Vr hG rfl (by trivial) ?_))
   refine Vk rfl (fun h4 => ?_) (fun h4 => ?_)
   · have hl : i < (List.length a1.2 : Int) := of_decide_eq_true (andT h4).1
     have ga : (a3.2.2.2.2.2.2.2.1 != 0) = true := (andT h4).2
     have r1 := foRange hI hl
     have hE : List.length (List.getD a1.2 i.toNat (dflt (.slice TStamp))) ≤ 1048576 := (hp.2 _ (getD_mem r1 _)).1
     have hbk : List.length (List.getD a1.2 i.toNat (dflt (.slice TStamp))) ≤ bigLen := Nat.le_trans hE (by decide)
     refine Vs (Vq (Vb (Vq ?_)))
     refine Vq ?_
     refine VrD mixed hG rfl (by kernel_rfl) ?_ ?_
     · exact ⟨r1, hE⟩
     refine Vk rfl (fun h5 => ?_) (fun h5 => ?_)
     · have g1 : (stampsDgF a3.2.2.1 (List.getD a1.2 i.toNat (dflt (.slice TStamp))) != a3.2.2.2.2.2.2.2.1) = true := h5
       have st := foStepE (d := dflt (.slice TStamp)) hI hl hb (frNo1 g1)
       refine Vx (Vr hG rfl (by trivial) ?_)
       refine ⟨rfl, ?_⟩
       exact st
     · have g1 : (stampsDgF a3.2.2.1 (List.getD a1.2 i.toNat (dflt (.slice TStamp))) != a3.2.2.2.2.2.2.2.1) = false := h5
       refine Vs (Vq ?_)
       refine VrD mixed hG rfl (by kernel_rfl) ?_ ?_
       · exact ⟨r1, hE⟩
       refine Vq (Vr hG rfl (by trivial) ?_)
       refine Vk rfl (fun h6 => ?_) (fun h6 => ?_)
       · have g2 : (l23F a0 a2 (List.getD a1.2 i.toNat (dflt (.slice TStamp)))).2 = true := h6
         have st := foStepE (d := dflt (.slice TStamp)) hI hl hb (frYes ga g1 g2)
         refine Vr hG rfl (by trivial) (Vr hG rfl (by trivial) ?_)
         refine ⟨rfl, ?_⟩
         exact st
       · have g2 : (l23F a0 a2 (List.getD a1.2 i.toNat (dflt (.slice TStamp)))).2 = false := h6
         have st := foStepE (d := dflt (.slice TStamp)) hI hl hb (frNo2 (t := t) g2)
         refine Vs (Vr hG rfl (by trivial) ?_)
         refine ⟨rfl, ?_⟩
         exact st
   · have gz := h4
     refine Vx (Vq (Vr hG rfl (by trivial) (Vt ?_)))
     refine ⟨?_, trivial⟩
     exact frEnd hI gz
noncomputable def F59 : Fun := ⟨[.slice Y19, .pair (.int .i64) Y38], [.own Z33], fun x => (fun a0 _ => List.length a0 ≤ 2000000000) x.1 x.2.1, fun x => (statusesF x.1 x.2.1, ())⟩
theorem F59_ok : Meets Tryz.prog 59 F59 := by
 refine mV (C := mkC 44 [4] [0,1,3,4,5,6,7,8,13,38] [⟨133, _, F133_ok⟩]) (mkC_ok _ _ _ _) (fnOf_ok _) Tryz.func59 rfl rfl rfl (by decide) rfl ?_
 rintro ⟨a0, a1, _⟩ hwf hpre ⟨P, C, B, X, w0, M0, pv⟩ hG rfl rfl
 show Vc _ _ [(0, ⟨0, 0, .c Z26 a0⟩), (1, ⟨0, 0, .c Z46 a1⟩)] _
 have hb : List.length a0 ≤ bigLen := hwf.1.1
 have hs : List.length a0 ≤ 2000000000 := hpre
 refine Vq (Vr hG rfl (by trivial) (Vq (Vr hG rfl (by trivial) ?_)))
 refine Vq (Vq (Vr hG rfl (by trivial) (Vb ?_)))
 refine Vc.loopF [(5, false, .own Z33), (6, false, .pure (.int .i64))] [0, 1, 3, 4] (fun v => pkInv (statFor a1) a0 v.1 v.2.1) (fun v => ((List.length a0 : Int) - v.2.1).toNat) rfl ?_ ?_
 · exact pkStart
 rintro ⟨acc, (i : Int), _⟩ hI
 have hI : pkInv (statFor a1) a0 acc i := hI
 refine Vq (Vq (Vr hG rfl (by trivial) ?_))
 refine Vk rfl (fun h0 => ?_) (fun h0 => ?_)
 · have hl : i < (List.length a0 : Int) := of_decide_eq_true h0
   refine Vs (Vq (Vb (Vq ?_)))
   refine Vr hG rfl ?_ ?_
   · exact ⟨pkRange hI hl, trivial⟩
   refine Vq (Vr hG rfl (by trivial) ?_)
   refine Vk rfl (fun h1 => ?_) (fun h1 => ?_)
   · have g1 : ((statFor a1) (List.getD a0 i.toNat (dflt Y19))).2 = true := h1
     refine Vr hG rfl ?_ ?_
     · exact pkLenW hI hs
     refine Vr hG rfl (by trivial) ?_
     refine ⟨rfl, ?_⟩
     first
       | exact pkYes (d := dflt Y19) hI hl hb g1
       | exact pkNo (d := dflt Y19) hI hl hb g1
   · have g1 : ((statFor a1) (List.getD a0 i.toNat (dflt Y19))).2 = false := h1
     refine Vs (Vr hG rfl (by trivial) ?_)
     refine ⟨rfl, ?_⟩
     first
       | exact pkYes (d := dflt Y19) hI hl hb g1
       | exact pkNo (d := dflt Y19) hI hl hb g1
 · have hl : ¬ i < (List.length a0 : Int) := of_decide_eq_false h0
   refine Vx (Vq (Vr hG rfl (by trivial) (Vt ?_)))
   refine ⟨?_, trivial⟩
   exact pkEnd hI hl
noncomputable def T227 : TFun := ⟨.own Z8, [.int .i64, .int .i64], .own Z8, fun x xs => (fun (l : List Span) (_ _ : Int) => List.length l ≤ 1000) x xs.1 xs.2.1, fun x xs => bPut x xs.1 xs.2.1⟩
theorem T227_ok : MeetsT Tryz.prog 227 T227 := by
 refine meetsT_of_vc (C := mkCM 22 [6] [0,1,2,6,7,8,16] [⟨230, _, F230_ok⟩] [] [] []) (mkCM_ok _ _ _ _ _ _ _) (fnOf_ok _) Tryz.func227 rfl rfl rfl (by decide) rfl rfl rfl rfl ?_ rfl
 rintro a0 ⟨(a1 : Int), (a2 : Int), _⟩ hwf0 hwf hpre ⟨P, C, B, X, w0, M0, pv⟩ hG rfl rfl
 show Vc _ _ [(0, ⟨0, 0, .c (.own Z8) a0⟩), (1, ⟨0, 0, .c (.pure (.int .i64)) a1⟩), (2, ⟨0, 0, .c (.pure (.int .i64)) a2⟩)] _
 have hs : List.length a0 ≤ 1000 := hpre
 refine Vq (Vr hG rfl (by trivial) (Vq (Vr hG rfl (by trivial) ?_)))
 refine Vq (Vq (Vr hG rfl (by trivial) ?_))
 refine Vk rfl (fun h0 => ?_) (fun h0 => ?_)
 · refine Vq (Vr hG rfl (by trivial) (Vt ?_))
   refine ⟨?_, trivial⟩
   exact bpN (notT' h0)
 · refine Vs (Vq ?_)
   refine Vr hG rfl ?_ ?_
   · exact bpApp hs
   refine Vt ?_
   refine ⟨?_, trivial⟩
   exact bpY (notF h0)
noncomputable def F228 : Fun := ⟨[.slice Y32, .int .i64], [.pure (.int .i64)], fun _ => True, fun x => (badFromF x.1 x.2.1, ())⟩
theorem F228_ok : Meets Tryz.prog 228 F228 := by
 refine mV (C := mkC 47 [4] [0,1,4,5,6,7,11,20,26,42] [⟨132, _, F132_ok⟩]) (mkC_ok _ _ _ _) (fnOf_ok _) Tryz.func228 rfl rfl rfl (by decide) rfl ?_
 rintro ⟨a0, (a1 : Int), _⟩ hwf hpre ⟨P, C, B, X, w0, M0, pv⟩ hG rfl rfl
 show Vc _ _ [(0, ⟨0, 0, .c Z36 a0⟩), (1, ⟨0, 0, .c (.pure (.int .i64)) a1⟩)] _
 have hb : List.length a0 ≤ bigLen := hwf.1.1
 refine Vq (Vr hG rfl (by trivial) (Vq (Vr hG rfl (by trivial) ?_)))
 refine Vq (Vr hG rfl (by trivial) (Vq (Vq ?_)))
 refine Vr hG rfl (by trivial) (Vb ?_)
 refine Vc.loopF [(5, false, .pure (.int .i64)), (6, false, .pure (.int .i64)), (7, false, .pure (.int .i64))] [0, 1, 4, 42] (fun v => foInv (msS a1) (-1) a0 v.1 v.2.2.1 ∧ foInv (gsS a1) (-1) a0 v.2.1 v.2.2.1) (fun v => ((List.length a0 : Int) - v.2.2.1).toNat) rfl ?_ ?_
 · exact ⟨foStart, foStart⟩
 rintro ⟨(x : Int), (y : Int), (i : Int), _⟩ hI
 have hI : foInv (msS a1) (-1) a0 x i ∧ foInv (gsS a1) (-1) a0 y i := hI
 refine Vq (Vq (Vr hG rfl (by trivial) ?_))
 refine Vk rfl (fun h0 => ?_) (fun h0 => ?_)
 · have hl : i < (List.length a0 : Int) := of_decide_eq_true h0
   refine Vs (Vq (Vb (Vq ?_)))
   refine Vq ?_
   refine Vr hG rfl ?_ ?_
   · exact foRange hI.1 hl
   refine Vk rfl (fun h1 => ?_) (fun h1 => ?_)
   · have g1 : ((List.getD a0 i.toNat (dflt Y32)).1 != a1) = true := h1
     have st := fo2 (d := dflt Y32) hI hl hb (msN1 g1) (gsN1 g1)
     refine Vx (Vr hG rfl (by trivial) ?_)
     refine ⟨rfl, ?_⟩
     exact st
   · have g1 : ((List.getD a0 i.toNat (dflt Y32)).1 != a1) = false := h1
     refine Vs (Vq ?_)
     refine Vr hG rfl ?_ ?_
     · exact foRange hI.1 hl
     refine Vk rfl (fun h2 => ?_) (fun h2 => ?_)
     · have g2 : ¬ (List.getD a0 i.toNat (dflt Y32)).2.2.1 < 0 := Int.not_lt.2 (of_decide_eq_true h2)
       have st := fo2 (d := dflt Y32) hI hl hb (msY g1 g2) (gsN2 g2)
       refine Vr hG rfl ?_ ?_
       · exact ⟨foRange hI.1 hl, trivial⟩
       refine Vr hG rfl (by trivial) ?_
       refine ⟨rfl, ?_⟩
       exact st
     · have g2 : (List.getD a0 i.toNat (dflt Y32)).2.2.1 < 0 := Int.not_le.1 (of_decide_eq_false h2)
       have st := fo2 (d := dflt Y32) hI hl hb (msN2 g2) (gsY g1 g2)
       refine Vr hG rfl ?_ ?_
       · exact ⟨foRange hI.1 hl, trivial⟩
       refine Vr hG rfl (by trivial) ?_
       refine ⟨rfl, ?_⟩
       exact st
 · have hl : ¬ i < (List.length a0 : Int) := of_decide_eq_false h0
   refine Vx (Vq (Vq (Vr hG rfl (by trivial) ?_)))
   refine Vk rfl (fun h3 => ?_) (fun h3 => ?_)
   · refine Vq (Vr hG rfl (by trivial) (Vt ?_))
     refine ⟨?_, trivial⟩
     exact bfA (foEnd hI.1 hl) h3
   · refine Vs (Vq (Vr hG rfl (by trivial) (Vt ?_)))
     refine ⟨?_, trivial⟩
     exact bfB (foEnd hI.1 hl) (foEnd hI.2 hl) h3
noncomputable def F289 : Fun := ⟨[.slice Y4, .pair (.int .i64) (.int .i64)], [.own Z8], fun x => (fun (l : List Span) (_ : Span) => List.length l ≤ 2000000000) x.1 x.2.1, fun x => (jPut x.1 x.2.1, ())⟩
theorem F289_ok : Meets Tryz.prog 289 F289 := by
 refine mV (C := mkC 78 [4] [0,1,3,4,5,6,7,8,13,33,63] [⟨122, _, F122_ok⟩, ⟨132, _, F132_ok⟩]) (mkC_ok _ _ _ _) (fnOf_ok _) Tryz.func289 rfl rfl rfl (by decide) rfl ?_
 rintro ⟨a0, a1, _⟩ hwf hpre ⟨P, C, B, X, w0, M0, pv⟩ hG rfl rfl
 show Vc _ _ [(0, ⟨0, 0, .c Z14 a0⟩), (1, ⟨0, 0, .c Z8 a1⟩)] _
 have hs : List.length a0 ≤ 2000000000 := hpre
 have hb : List.length a0 ≤ bigLen := hwf.1.1
 refine Vq (Vr hG rfl (by trivial) (Vq (Vr hG rfl (by trivial) ?_)))
 refine Vq (Vq (Vr hG rfl (by trivial) (Vb ?_)))
 refine Vc.loopF [(3, true, .pure Y4), (5, false, .own Z8), (6, false, .pure (.int .i64))] [0, 1, 4, 8, 63] (fun v => foInv jG ([], a1) a0 (v.2.1, v.1) v.2.2.1) (fun v => ((List.length a0 : Int) - v.2.2.1).toNat) rfl ?_ ?_
 · exact foStart
 rintro ⟨s, nx, (j : Int), _⟩ hJ
 have hJ : foInv jG ([], a1) a0 (nx, s) j := hJ
 have hN : List.length nx ≤ 2000000000 := jLenI hJ hs
 refine Vq (Vq (Vr hG rfl (by trivial) ?_))
 refine Vk rfl (fun h0 => ?_) (fun h0 => ?_)
 · have hm : j < (List.length a0 : Int) := of_decide_eq_true h0
   refine Vs (Vq (Vb (Vq ?_)))
   refine Vr hG rfl ?_ ?_
   · exact foRange hJ hm
   refine Vq (Vq (Vr hG rfl (by trivial) ?_))
   refine Vk rfl (fun h1 => ?_) (fun h1 => ?_)
   · have g3 : jApart (List.getD a0 j.toNat (dflt Y4)) s = true := h1
     have st2 := foStepE (d := dflt Y4) hJ hm hb (jY (n := nx) g3)
     refine Vq ?_
     refine Vr hG rfl ?_ ?_
     · exact jApp hN
     refine Vx (Vr hG rfl (by trivial) ?_)
     refine ⟨rfl, ?_⟩
     exact st2
   · have g3 : jApart (List.getD a0 j.toNat (dflt Y4)) s = false := h1
     have st2 := foStepE (d := dflt Y4) hJ hm hb (jN (n := nx) g3)
     refine Vs (Vq (Vr hG rfl (by trivial) (Vr hG rfl (by trivial) ?_)))
     refine Vr hG rfl (by trivial) ?_
     refine ⟨rfl, ?_⟩
     exact st2
 · have hm : ¬ j < (List.length a0 : Int) := of_decide_eq_false h0
   refine Vx (Vq (Vr hG rfl (by trivial) (Vq ?_)))
   refine Vb ?_
   refine Vc.loopF [(8, false, .pure (.int .i64))] [0, 1, 3, 4, 5, 6, 7, 13, 33] (fun v => tkInv (jP s) nx v.1) (fun v => ((List.length nx : Int) - v.1).toNat) rfl ?_ ?_
   · exact tkStart
   rintro ⟨(k : Int), _⟩ hQ
   have hQ : tkInv (jP s) nx k := hQ
   refine Vq (Vq ?_)
   refine VrD mixed hG rfl (by kernel_rfl) ?_ ?_
   · exact fun h => tkRange hQ (of_decide_eq_true h)
   refine Vk rfl (fun h2 => ?_) (fun h2 => ?_)
   · have g4 : pick2 (decide (k < (List.length nx : Int))) (jP s (List.getD nx k.toNat (dflt Y4))) false = true := h2
     refine Vs (Vb (Vr hG rfl (by trivial) ?_))
     refine ⟨rfl, ?_⟩
     exact tkStepW (p := jP s) hQ hN g4
   · have g4 : pick2 (decide (k < (List.length nx : Int))) (jP s (List.getD nx k.toNat (dflt Y4))) false = false := h2
     have hk := tkEnd (p := jP s) hQ g4
     refine Vx (Vq ?_)
     refine VrD mixed hG rfl (by kernel_rfl) ?_ ?_
     · exact jConds hQ hN
     refine Vt ?_
     refine ⟨?_, trivial⟩
     exact jDone hJ hm hQ hk
noncomputable def F225 : Fun := ⟨[.slice Y4], [.own Z8], fun x => (fun (l : List Span) => List.length l ≤ 2000000000) x.1, fun x => (joinF x.1, ())⟩
theorem F225_ok : Meets Tryz.prog 225 F225 := by
 refine mV (C := mkC 24 [2] [0,2,3,4,9,16] [⟨137, _, F137_ok⟩, ⟨289, _, F289_ok⟩]) (mkC_ok _ _ _ _) (fnOf_ok _) Tryz.func225 rfl rfl rfl (by decide) rfl ?_
 rintro ⟨a0, _⟩ hwf hpre ⟨P, C, B, X, w0, M0, pv⟩ hG rfl rfl
 show Vc _ _ [(0, ⟨0, 0, .c Z14 a0⟩)] _
 have hs : List.length a0 ≤ 2000000000 := hpre
 have hb : List.length a0 ≤ bigLen := hwf.1.1
 refine Vq (Vr hG rfl (by trivial) (Vq (Vr hG rfl (by trivial) ?_)))
 refine Vq (Vq (Vr hG rfl (by trivial) (Vb ?_)))
 refine Vc.loopF [(3, false, .own Z8), (4, false, .pure (.int .i64))] [0, 2] (fun v => foInv joinG [] a0 v.1 v.2.1) (fun v => ((List.length a0 : Int) - v.2.1).toNat) rfl ?_ ?_
 · exact foStart
 rintro ⟨acc, (i : Int), _⟩ hI
 have hI : foInv joinG [] a0 acc i := hI
 have hA : List.length acc ≤ 2000000000 := joinLenI hI hs
 refine Vq (Vq (Vr hG rfl (by trivial) ?_))
 refine Vk rfl (fun h0 => ?_) (fun h0 => ?_)
 · have hl : i < (List.length a0 : Int) := of_decide_eq_true h0
   refine Vs (Vq (Vb (Vq ?_)))
   refine Vr hG rfl ?_ ?_
   · exact ⟨foRange hI hl, trivial⟩
   refine Vk rfl (fun h1 => ?_) (fun h1 => ?_)
   · have g1 : isSpanF (List.getD a0 i.toNat (dflt Y4)) = true := h1
     have st := foStepE (d := dflt Y4) hI hl hb (joinY g1)
     refine Vr hG rfl ?_ ?_
     · exact ⟨foRange hI hl, hA⟩
     refine Vr hG rfl (by trivial) ?_
     refine ⟨rfl, ?_⟩
     exact st
   · have g1 : isSpanF (List.getD a0 i.toNat (dflt Y4)) = false := h1
     have st := foStepE (d := dflt Y4) hI hl hb (joinN g1)
     refine Vs (Vr hG rfl (by trivial) ?_)
     refine ⟨rfl, ?_⟩
     exact st
 · have hl : ¬ i < (List.length a0 : Int) := of_decide_eq_false h0
   refine Vx (Vq (Vr hG rfl (by trivial) (Vt ?_)))
   refine ⟨?_, trivial⟩
   exact foEnd hI hl
noncomputable def F135 : Fun := ⟨[.pair (.int .i64) Y38, .slice Y32], [.own Z8], fun _ => True, fun x => (badSpansF x.1 x.2.1, ())⟩
theorem F135_ok : Meets Tryz.prog 135 F135 := by
 refine mV (C := mkCM 30 [4] [0,1,2,4,5,9,17] [⟨228, _, F228_ok⟩, ⟨225, _, F225_ok⟩] [] [⟨227, _, T227_ok⟩] []) (mkCM_ok _ _ _ _ _ _ _) (fnOf_ok _) Tryz.func135 rfl rfl rfl (by decide) rfl ?_
 rintro ⟨a0, a1, _⟩ hwf hpre ⟨P, C, B, X, w0, M0, pv⟩ hG rfl rfl
 show Vc _ _ [(0, ⟨0, 0, .c Z46 a0⟩), (1, ⟨0, 0, .c Z36 a1⟩)] _
 refine Vq (Vr hG rfl (by trivial) (Vq (Vr hG rfl (by trivial) ?_)))
 refine Vq (Vq (Vr hG rfl (by trivial) ?_))
 refine Vk rfl (fun h0 => ?_) (fun h0 => ?_)
 · refine Vr hG rfl ?_ ?_
   · exact Nat.zero_le _
   refine Vq (Vq (Vr hG rfl (by trivial) ?_))
   refine Vk rfl (fun h1 => ?_) (fun h1 => ?_)
   · refine Vr hG rfl ?_ ?_
     · first
         | exact bp1
         | exact Nat.zero_le _
     refine Vq ?_
     refine Vr hG rfl ?_ ?_
     · exact ⟨trivial, (by first | exact bp2 | exact bp1 | exact Nat.zero_le _), (Nat.le_trans (by first | exact bp3 | exact bp2 | exact bp1) (show 1000 ≤ 2000000000 by decide))⟩
     refine Vt ?_
     refine ⟨?_, trivial⟩
     exact bdYY h0 h1
   · refine Vs (Vq ?_)
     refine Vr hG rfl ?_ ?_
     · exact ⟨trivial, (by first | exact bp2 | exact bp1 | exact Nat.zero_le _), (Nat.le_trans (by first | exact bp3 | exact bp2 | exact bp1) (show 1000 ≤ 2000000000 by decide))⟩
     refine Vt ?_
     refine ⟨?_, trivial⟩
     exact bdYN h0 h1
 · refine Vs (Vq (Vq (Vr hG rfl (by trivial) ?_)))
   refine Vk rfl (fun h2 => ?_) (fun h2 => ?_)
   · refine Vr hG rfl ?_ ?_
     · first
         | exact bp1
         | exact Nat.zero_le _
     refine Vq ?_
     refine Vr hG rfl ?_ ?_
     · exact ⟨trivial, (by first | exact bp2 | exact bp1 | exact Nat.zero_le _), (Nat.le_trans (by first | exact bp3 | exact bp2 | exact bp1) (show 1000 ≤ 2000000000 by decide))⟩
     refine Vt ?_
     refine ⟨?_, trivial⟩
     exact bdNY h0 h2
   · refine Vs (Vq ?_)
     refine Vr hG rfl ?_ ?_
     · exact ⟨trivial, (by first | exact bp2 | exact bp1 | exact Nat.zero_le _), (Nat.le_trans (by first | exact bp3 | exact bp2 | exact bp1) (show 1000 ≤ 2000000000 by decide))⟩
     refine Vt ?_
     refine ⟨?_, trivial⟩
     exact bdNN h0 h2
noncomputable def F226 : Fun := ⟨[.pair (.int .i64) (.int .i64), .pair (.int .i64) (.int .i64)], [.pure (.bool)], fun _ => True, fun x => (isInsideF x.1 x.2.1, ())⟩
theorem F226_ok : Meets Tryz.prog 226 F226 := by
 refine mV (C := mkC 25 [4] [0,1,2,3,4] [⟨137, _, F137_ok⟩]) (mkC_ok _ _ _ _) (fnOf_ok _) Tryz.func226 rfl rfl rfl (by decide) rfl ?_
 rintro ⟨a0, a1, _⟩ hwf hpre ⟨P, C, B, X, w0, M0, pv⟩ hG rfl rfl
 show Vc _ _ [(0, ⟨0, 0, .c Z8 a0⟩), (1, ⟨0, 0, .c Z8 a1⟩)] _
 refine Vq (Vr hG rfl (by trivial) (Vq ?_))
 refine Vr hG rfl ?_ ?_
 · repeat' (first | exact trivial | refine And.intro ?_ ?_ | intro _)
 refine Vt ?_
 refine ⟨?_, trivial⟩
 all_goals exact rfl
noncomputable def F134 : Fun := ⟨[.slice Y4, .pair (.int .i64) (.int .i64)], [.pure (.bool)], fun x => (fun (l : List Span) (_ : Span) => List.length l ≤ 2000000000) x.1 x.2.1, fun x => (coversF x.1 x.2.1, ())⟩
theorem F134_ok : Meets Tryz.prog 134 F134 := by
 refine mV (C := mkC 21 [4] [0,1,3,4,5,6,12,20] [⟨225, _, F225_ok⟩, ⟨226, _, F226_ok⟩]) (mkC_ok _ _ _ _) (fnOf_ok _) Tryz.func134 rfl rfl rfl (by decide) rfl ?_
 rintro ⟨a0, a1, _⟩ hwf hpre ⟨P, C, B, X, w0, M0, pv⟩ hG rfl rfl
 show Vc _ _ [(0, ⟨0, 0, .c Z14 a0⟩), (1, ⟨0, 0, .c Z8 a1⟩)] _
 have hs : List.length a0 ≤ 2000000000 := hpre
 have hb : List.length a0 ≤ bigLen := hwf.1.1
 have hbj : List.length (joinF a0) ≤ bigLen := Nat.le_trans (joinLen a0) hb
 refine Vq (Vr hG rfl (by trivial) (Vq ?_))
 refine Vr hG rfl ?_ ?_
 · exact hs
 refine Vq (Vq (Vr hG rfl (by trivial) (Vb ?_)))
 refine Vc.loopF [(6, false, .pure (.int .i64))] [0, 1, 3, 5] (fun v => fInv (fun x => isInsideF a1 x) (joinF a0) v.1) (fun v => ((List.length (joinF a0) : Int) - v.1).toNat) rfl ?_ ?_
 · exact fStart
 rintro ⟨(i : Int), _⟩ hI
 have hI : fInv (fun x => isInsideF a1 x) (joinF a0) i := hI
 refine Vq (Vq (Vr hG rfl (by trivial) ?_))
 refine Vk rfl (fun h0 => ?_) (fun h0 => ?_)
 · have hl : i < (List.length (joinF a0) : Int) := of_decide_eq_true h0
   refine Vs (Vq (Vb (Vq ?_)))
   refine VrD mixed hG rfl (by kernel_rfl) ?_ ?_
   · exact ⟨fRange hI hl, trivial⟩
   refine Vk rfl (fun h1 => ?_) (fun h1 => ?_)
   · have g1 : isInsideF a1 (List.getD (joinF a0) i.toNat (dflt Y4)) = true := h1
     refine Vq (Vr hG rfl (by trivial) (Vt ?_))
     refine ⟨?_, trivial⟩
     exact cvHit rfl hI hl g1
   · have g1 : (fun x => isInsideF a1 x) (List.getD (joinF a0) i.toNat (dflt Y4)) = false := h1
     refine Vs (Vr hG rfl (by trivial) ?_)
     refine ⟨rfl, ?_⟩
     exact fStep hI hl hbj g1
 · have hl : ¬ i < (List.length (joinF a0) : Int) := of_decide_eq_false h0
   refine Vx (Vq (Vr hG rfl (by trivial) (Vt ?_)))
   refine ⟨?_, trivial⟩
   exact cvEnd rfl hI hl
noncomputable def F60 : Fun := ⟨[.pair (.int .i64) Y38, .slice Y32, .pair (.int .i64) (.int .i64)], [.pure (.bool)], fun _ => True, fun x => ((fun c l s => coversF (badSpansF c l) s) x.1 x.2.1 x.2.2.1, ())⟩
theorem F60_ok : Meets Tryz.prog 60 F60 := by
 refine mV (C := mkC 12 [6] [0,1,2,3,5,6] [⟨135, _, F135_ok⟩, ⟨134, _, F134_ok⟩]) (mkC_ok _ _ _ _) (fnOf_ok _) Tryz.func60 rfl rfl rfl (by decide) rfl ?_
 rintro ⟨a0, a1, a2, _⟩ hwf hpre ⟨P, C, B, X, w0, M0, pv⟩ hG rfl rfl
 show Vc _ _ [(0, ⟨0, 0, .c Z46 a0⟩), (1, ⟨0, 0, .c Z36 a1⟩), (2, ⟨0, 0, .c Z8 a2⟩)] _
 refine Vq (Vr hG rfl (by trivial) (Vq ?_))
 refine VrD mixed hG rfl (by kernel_rfl) ?_ ?_
 · exact ⟨trivial, Nat.le_trans (badLen a0 a1) (by decide)⟩
 refine Vt ?_
 refine ⟨?_, trivial⟩
 all_goals exact rfl
noncomputable def F229 : Fun := ⟨[.slice Y32, .int .i64], [.pure (.int .i64)], fun _ => True, fun x => (goodUntilF x.1 x.2.1, ())⟩
theorem F229_ok : Meets Tryz.prog 229 F229 := by
 refine mV (C := mkC 55 [4] [0,1,4,5,6,7,11,20,26,44,51] [⟨132, _, F132_ok⟩]) (mkC_ok _ _ _ _) (fnOf_ok _) Tryz.func229 rfl rfl rfl (by decide) rfl ?_
 rintro ⟨a0, (a1 : Int), _⟩ hwf hpre ⟨P, C, B, X, w0, M0, pv⟩ hG rfl rfl
 show Vc _ _ [(0, ⟨0, 0, .c Z36 a0⟩), (1, ⟨0, 0, .c (.pure (.int .i64)) a1⟩)] _
 have hb : List.length a0 ≤ bigLen := hwf.1.1
 refine Vq (Vr hG rfl (by trivial) (Vq (Vr hG rfl (by trivial) ?_)))
 refine Vq (Vr hG rfl (by trivial) (Vq (Vq ?_)))
 refine Vr hG rfl (by trivial) (Vb ?_)
 refine Vc.loopF [(5, false, .pure (.int .i64)), (6, false, .pure (.int .i64)), (7, false, .pure (.int .i64))] [0, 1, 4, 51] (fun v => foInv (lsS a1) (-1) a0 v.1 v.2.2.1 ∧ foInv (gsS a1) (-1) a0 v.2.1 v.2.2.1) (fun v => ((List.length a0 : Int) - v.2.2.1).toNat) rfl ?_ ?_
 · exact ⟨foStart, foStart⟩
 rintro ⟨(x : Int), (y : Int), (i : Int), _⟩ hI
 have hI : foInv (lsS a1) (-1) a0 x i ∧ foInv (gsS a1) (-1) a0 y i := hI
 refine Vq (Vq (Vr hG rfl (by trivial) ?_))
 refine Vk rfl (fun h0 => ?_) (fun h0 => ?_)
 · have hl : i < (List.length a0 : Int) := of_decide_eq_true h0
   refine Vs (Vq (Vb (Vq ?_)))
   refine Vq ?_
   refine Vr hG rfl ?_ ?_
   · exact foRange hI.1 hl
   refine Vk rfl (fun h1 => ?_) (fun h1 => ?_)
   · have g1 : ((List.getD a0 i.toNat (dflt Y32)).1 != a1) = true := h1
     have st := fo2 (d := dflt Y32) hI hl hb (lsN1 g1) (gsN1 g1)
     refine Vx (Vr hG rfl (by trivial) ?_)
     refine ⟨rfl, ?_⟩
     exact st
   · have g1 : ((List.getD a0 i.toNat (dflt Y32)).1 != a1) = false := h1
     refine Vs (Vq ?_)
     refine Vr hG rfl ?_ ?_
     · exact foRange hI.1 hl
     refine Vk rfl (fun h2 => ?_) (fun h2 => ?_)
     · have g2 : (List.getD a0 i.toNat (dflt Y32)).2.2.1 < 0 := of_decide_eq_true h2
       have st := fo2 (d := dflt Y32) hI hl hb (lsN2 g2) (gsY g1 g2)
       refine Vr hG rfl ?_ ?_
       · exact ⟨foRange hI.1 hl, trivial⟩
       refine Vr hG rfl (by trivial) ?_
       refine ⟨rfl, ?_⟩
       exact st
     · have g2 : ¬ (List.getD a0 i.toNat (dflt Y32)).2.2.1 < 0 := of_decide_eq_false h2
       refine Vq ?_
       refine Vr hG rfl ?_ ?_
       · repeat' (first | exact trivial | exact foRange hI.1 hl | refine And.intro ?_ ?_ | intro _)
       refine Vk rfl (fun h3 => ?_) (fun h3 => ?_)
       · have st := fo2 (d := dflt Y32) hI hl hb (lsY g1 g2 h3) (gsN2 g2)
         refine Vr hG rfl ?_ ?_
         · exact foRange hI.1 hl
         refine Vr hG rfl (by trivial) ?_
         refine ⟨rfl, ?_⟩
         exact st
       · have st := fo2 (d := dflt Y32) hI hl hb (lsN3 h3) (gsN2 g2)
         refine Vs (Vr hG rfl (by trivial) ?_)
         refine ⟨rfl, ?_⟩
         exact st
 · have hl : ¬ i < (List.length a0 : Int) := of_decide_eq_false h0
   refine Vx (Vq (Vq (Vr hG rfl (by trivial) ?_)))
   refine Vk rfl (fun h4 => ?_) (fun h4 => ?_)
   · refine Vq (Vr hG rfl (by trivial) (Vt ?_))
     refine ⟨?_, trivial⟩
     exact guA (foEnd hI.1 hl) h4
   · refine Vs (Vq (Vr hG rfl (by trivial) (Vt ?_)))
     refine ⟨?_, trivial⟩
     exact guB (foEnd hI.1 hl) (foEnd hI.2 hl) h4
noncomputable def F290 : Fun := ⟨[.pair (.int .i64) (.int .i64), .pair (.int .i64) (.int .i64)], [.pure Y4, .pure (.bool)], fun _ => True, fun x => ((meetF x.1 x.2.1).1, (meetF x.1 x.2.1).2, ())⟩
theorem F290_ok : Meets Tryz.prog 290 F290 := by
 refine mV (C := mkC 28 [4, 5] [0,1,2,3,4,5,13] [⟨137, _, F137_ok⟩, ⟨132, _, F132_ok⟩, ⟨122, _, F122_ok⟩, ⟨230, _, F230_ok⟩]) (mkC_ok _ _ _ _) (fnOf_ok _) Tryz.func290 rfl rfl rfl (by decide) rfl ?_
 rintro ⟨a0, a1, _⟩ hwf hpre ⟨P, C, B, X, w0, M0, pv⟩ hG rfl rfl
 show Vc _ _ [(0, ⟨0, 0, .c Z8 a0⟩), (1, ⟨0, 0, .c Z8 a1⟩)] _
 refine Vq (Vr hG rfl (by trivial) (Vq (Vq ?_)))
 refine Vr hG rfl ?_ ?_
 · repeat' (first | exact trivial | refine And.intro ?_ ?_ | intro _)
 refine Vk rfl (fun h0 => ?_) (fun h0 => ?_)
 · refine Vq (Vr hG rfl (by trivial) (Vt ?_))
   have e := meS0 h0
   refine ⟨?_, ?_, trivial⟩
   · exact (congrArg Prod.fst e).symm
   · exact (congrArg Prod.snd e).symm
 · refine Vs (Vq (VrD mixed hG rfl (by kernel_rfl) (by trivial) (Vt ?_)))
   have e := meS1 h0
   refine ⟨?_, ?_, trivial⟩
   · exact (congrArg Prod.fst e).symm
   · exact (congrArg Prod.snd e).symm
noncomputable def F231 : Fun := ⟨[.slice Y4, .slice Y4], [.own Z8], fun x => (fun (a b : List Span) => List.length a ≤ 1000 ∧ List.length b ≤ 1000) x.1 x.2.1, fun x => (meetAllF x.1 x.2.1, ())⟩
theorem F231_ok : Meets Tryz.prog 231 F231 := by
 refine mV (C := mkC 42 [4] [0,1,4,5,6,7,8,9,14,20,35] [⟨290, _, F290_ok⟩, ⟨225, _, F225_ok⟩]) (mkC_ok _ _ _ _) (fnOf_ok _) Tryz.func231 rfl rfl rfl (by decide) rfl ?_
 rintro ⟨a0, a1, _⟩ hwf hpre ⟨P, C, B, X, w0, M0, pv⟩ hG rfl rfl
 show Vc _ _ [(0, ⟨0, 0, .c Z14 a0⟩), (1, ⟨0, 0, .c Z14 a1⟩)] _
 have hp1 : List.length a0 ≤ 1000 := hpre.1
 have hp2 : List.length a1 ≤ 1000 := hpre.2
 have hb : List.length a0 ≤ bigLen := hwf.1.1
 have hb1 : List.length a1 ≤ bigLen := hwf.2.1.1
 refine Vq (Vr hG rfl (by trivial) (Vq (Vr hG rfl (by trivial) ?_)))
 refine Vq (Vq (Vr hG rfl (by trivial) (Vb ?_)))
 refine Vc.loopF [(5, false, .own Z8), (6, false, .pure (.int .i64))] [0, 1, 4] (fun v => foInv (meR a1) [] a0 v.1 v.2.1) (fun v => ((List.length a0 : Int) - v.2.1).toNat) rfl ?_ ?_
 · exact foStart
 rintro ⟨acc, (i : Int), _⟩ hI
 have hI : foInv (meR a1) [] a0 acc i := hI
 have hA : List.length acc ≤ 1000000 := meLenI hI hp1 hp2
 refine Vq (Vq (Vr hG rfl (by trivial) ?_))
 refine Vk rfl (fun h0 => ?_) (fun h0 => ?_)
 · have hl : i < (List.length a0 : Int) := of_decide_eq_true h0
   refine Vs (Vq (Vb (Vq ?_)))
   refine Vr hG rfl (by trivial) (Vb ?_)
   refine Vc.loopF [(5, false, .own Z8), (7, false, .pure (.int .i64))] [0, 1, 4, 6, 14] (fun v => foInv (meG (List.getD a0 i.toNat (dflt Y4))) acc a1 v.1 v.2.1) (fun v => ((List.length a1 : Int) - v.2.1).toNat) rfl ?_ ?_
   · exact foStart
   rintro ⟨ac2, (k : Int), _⟩ hK
   have hK : foInv (meG (List.getD a0 i.toNat (dflt Y4))) acc a1 ac2 k := hK
   have hA2 : List.length ac2 ≤ 2000000 := meLenJ hK hA hp2
   refine Vq (Vq (Vr hG rfl (by trivial) ?_))
   refine Vk rfl (fun h1 => ?_) (fun h1 => ?_)
   · have hm : k < (List.length a1 : Int) := of_decide_eq_true h1
     refine Vs (Vq (Vb (Vq ?_)))
     refine VrD mixed hG rfl (by kernel_rfl) ?_ ?_
     · exact ⟨foRange hI hl, foRange hK hm, trivial⟩
     refine Vq (Vr hG rfl (by trivial) ?_)
     refine Vk rfl (fun h2 => ?_) (fun h2 => ?_)
     · have g2 : (meetF (List.getD a0 i.toNat (dflt Y4)) (List.getD a1 k.toNat (dflt Y4))).2 = true := h2
       have st := foStepE (d := dflt Y4) hK hm hb1 (meY g2)
       refine Vr hG rfl ?_ ?_
       · exact meApp hA2
       refine Vr hG rfl (by trivial) ?_
       refine ⟨rfl, ?_⟩
       exact st
     · have g2 : (meetF (List.getD a0 i.toNat (dflt Y4)) (List.getD a1 k.toNat (dflt Y4))).2 = false := h2
       have st := foStepE (d := dflt Y4) hK hm hb1 (meN (acc := ac2) g2)
       refine Vs (Vr hG rfl (by trivial) ?_)
       refine ⟨rfl, ?_⟩
       exact st
   · have hm : ¬ k < (List.length a1 : Int) := of_decide_eq_false h1
     refine Vx (Vr hG rfl (by trivial) ?_)
     refine ⟨rfl, ?_⟩
     exact foStepE (d := dflt Y4) hI hl hb (foEnd hK hm)
 · have hl : ¬ i < (List.length a0 : Int) := of_decide_eq_false h0
   refine Vx (Vq ?_)
   refine Vr hG rfl ?_ ?_
   · exact meBig hp1 hp2 (foEnd hI hl)
   refine Vt ?_
   refine ⟨?_, trivial⟩
   exact congrArg joinF (foEnd hI hl)
noncomputable def F136 : Fun := ⟨[.pair (.int .i64) Y38, .slice Y32], [.own Z8], fun _ => True, fun x => (goodSpansF x.1 x.2.1, ())⟩
theorem F136_ok : Meets Tryz.prog 136 F136 := by
 refine mV (C := mkC 30 [4] [0,1,2,4,5,6,7,22] [⟨229, _, F229_ok⟩, ⟨230, _, F230_ok⟩, ⟨232, _, F232_ok⟩, ⟨231, _, F231_ok⟩]) (mkC_ok _ _ _ _) (fnOf_ok _) Tryz.func136 rfl rfl rfl (by decide) rfl ?_
 rintro ⟨a0, a1, _⟩ hwf hpre ⟨P, C, B, X, w0, M0, pv⟩ hG rfl rfl
 show Vc _ _ [(0, ⟨0, 0, .c Z46 a0⟩), (1, ⟨0, 0, .c Z36 a1⟩)] _
 refine Vq (Vr hG rfl (by trivial) (Vq (Vr hG rfl (by trivial) ?_)))
 refine Vq (Vr hG rfl (by trivial) (Vq (Vq ?_)))
 refine Vr hG rfl (by trivial) ?_
 refine Vk rfl (fun h0 => ?_) (fun h0 => ?_)
 · refine Vq (Vr hG rfl (by trivial) (Vt ?_))
   refine ⟨?_, trivial⟩
   exact gsNone h0
 · refine Vs (Vq ?_)
   refine VrD mixed hG rfl (by kernel_rfl) ?_ ?_
   · exact ⟨trivial, one1, one1⟩
   refine Vt ?_
   refine ⟨?_, trivial⟩
   exact gsSome h0
noncomputable def F61 : Fun := ⟨[.pair (.int .i64) Y38, .slice Y32, .pair (.int .i64) (.int .i64)], [.pure (.bool)], fun _ => True, fun x => ((fun c l s => coversF (goodSpansF c l) s) x.1 x.2.1 x.2.2.1, ())⟩
theorem F61_ok : Meets Tryz.prog 61 F61 := by
 refine mV (C := mkC 12 [6] [0,1,2,3,5,6] [⟨136, _, F136_ok⟩, ⟨134, _, F134_ok⟩]) (mkC_ok _ _ _ _) (fnOf_ok _) Tryz.func61 rfl rfl rfl (by decide) rfl ?_
 rintro ⟨a0, a1, a2, _⟩ hwf hpre ⟨P, C, B, X, w0, M0, pv⟩ hG rfl rfl
 show Vc _ _ [(0, ⟨0, 0, .c Z46 a0⟩), (1, ⟨0, 0, .c Z36 a1⟩), (2, ⟨0, 0, .c Z8 a2⟩)] _
 refine Vq (Vr hG rfl (by trivial) (Vq ?_))
 refine VrD mixed hG rfl (by kernel_rfl) ?_ ?_
 · exact ⟨trivial, Nat.le_trans (goodLen a0 a1) (by decide)⟩
 refine Vt ?_
 refine ⟨?_, trivial⟩
 all_goals exact rfl
noncomputable def F63 : Fun := ⟨[.slice Y19], [.own Z41], fun x => (fun a0 => List.length a0 ≤ 2000000000) x.1, fun x => (mandatesF x.1, ())⟩
theorem F63_ok : Meets Tryz.prog 63 F63 := by
 refine mV (C := mkC 28 [2] [0,2,3,4,5,6,11,22] [⟨139, _, F139_ok⟩]) (mkC_ok _ _ _ _) (fnOf_ok _) Tryz.func63 rfl rfl rfl (by decide) rfl ?_
 rintro ⟨a0, _⟩ hwf hpre ⟨P, C, B, X, w0, M0, pv⟩ hG rfl rfl
 show Vc _ _ [(0, ⟨0, 0, .c Z26 a0⟩)] _
 have hb : List.length a0 ≤ bigLen := hwf.1.1
 have hs : List.length a0 ≤ 2000000000 := hpre
 refine Vq (Vr hG rfl (by trivial) (Vq (Vr hG rfl (by trivial) ?_)))
 refine Vq (Vq (Vr hG rfl (by trivial) (Vb ?_)))
 refine Vc.loopF [(3, false, .own Z41), (4, false, .pure (.int .i64))] [0, 2] (fun v => pkInv (pieceMandF) a0 v.1 v.2.1) (fun v => ((List.length a0 : Int) - v.2.1).toNat) rfl ?_ ?_
 · exact pkStart
 rintro ⟨acc, (i : Int), _⟩ hI
 have hI : pkInv (pieceMandF) a0 acc i := hI
 refine Vq (Vq (Vr hG rfl (by trivial) ?_))
 refine Vk rfl (fun h0 => ?_) (fun h0 => ?_)
 · have hl : i < (List.length a0 : Int) := of_decide_eq_true h0
   refine Vs (Vq (Vb (Vq ?_)))
   refine Vr hG rfl ?_ ?_
   · exact ⟨pkRange hI hl, trivial⟩
   refine Vq (Vr hG rfl (by trivial) ?_)
   refine Vk rfl (fun h1 => ?_) (fun h1 => ?_)
   · have g1 : ((pieceMandF) (List.getD a0 i.toNat (dflt Y19))).2 = true := h1
     refine Vr hG rfl ?_ ?_
     · exact pkLenW hI hs
     refine Vr hG rfl (by trivial) ?_
     refine ⟨rfl, ?_⟩
     first
       | exact pkYes (d := dflt Y19) hI hl hb g1
       | exact pkNo (d := dflt Y19) hI hl hb g1
   · have g1 : ((pieceMandF) (List.getD a0 i.toNat (dflt Y19))).2 = false := h1
     refine Vs (Vr hG rfl (by trivial) ?_)
     refine ⟨rfl, ?_⟩
     first
       | exact pkYes (d := dflt Y19) hI hl hb g1
       | exact pkNo (d := dflt Y19) hI hl hb g1
 · have hl : ¬ i < (List.length a0 : Int) := of_decide_eq_false h0
   refine Vx (Vq (Vr hG rfl (by trivial) (Vt ?_)))
   refine ⟨?_, trivial⟩
   exact pkEnd hI hl
noncomputable def F291 : Fun := ⟨[.pair (.int .i64) Y32], [.pure (.bool)], fun _ => True, fun x => (isMandF x.1, ())⟩
theorem F291_ok : Meets Tryz.prog 291 F291 := by
 refine mV (C := mkC 24 [2] [0,1,2] [⟨207, _, F207_ok⟩, ⟨137, _, F137_ok⟩]) (mkC_ok _ _ _ _) (fnOf_ok _) Tryz.func291 rfl rfl rfl (by decide) rfl ?_
 rintro ⟨a0, _⟩ hwf hpre ⟨P, C, B, X, w0, M0, pv⟩ hG rfl rfl
 show Vc _ _ [(0, ⟨0, 0, .c Z41 a0⟩)] _
 refine Vq (Vr hG rfl (by trivial) (Vq ?_))
 refine Vr hG rfl ?_ ?_
 · repeat' (first | exact trivial | refine And.intro ?_ ?_ | intro _)
 refine Vt ?_
 refine ⟨?_, trivial⟩
 all_goals exact rfl
noncomputable def F292 : Fun := ⟨[.pair (.int .i64) Y32], [.own (.pure (.int .i64))], fun _ => True, fun x => (mandIntsF x.1, ())⟩
theorem F292_ok : Meets Tryz.prog 292 F292 := by
 refine mV (C := mkC 14 [2] [0,1,2] []) (mkC_ok _ _ _ _) (fnOf_ok _) Tryz.func292 rfl rfl rfl (by decide) rfl ?_
 rintro ⟨a0, _⟩ hwf hpre ⟨P, C, B, X, w0, M0, pv⟩ hG rfl rfl
 show Vc _ _ [(0, ⟨0, 0, .c Z41 a0⟩)] _
 refine Vq (Vr hG rfl (by trivial) (Vq (Vr hG rfl (by trivial) ?_)))
 refine Vt ?_
 refine ⟨?_, trivial⟩
 all_goals exact rfl
noncomputable def F233 : Fun := ⟨[.slice Y32, .pair (.int .i64) Y32], [.pure (.bool)], fun _ => True, fun x => (checkMandF x.1 x.2.1, ())⟩
theorem F233_ok : Meets Tryz.prog 233 F233 := by
 refine mV (C := mkC 26 [4] [0,1,3,4] [⟨291, _, F291_ok⟩, ⟨219, _, F219_ok⟩, ⟨292, _, F292_ok⟩, ⟨209, _, F209_ok⟩]) (mkC_ok _ _ _ _) (fnOf_ok _) Tryz.func233 rfl rfl rfl (by decide) rfl ?_
 rintro ⟨a0, a1, _⟩ hwf hpre ⟨P, C, B, X, w0, M0, pv⟩ hG rfl rfl
 show Vc _ _ [(0, ⟨0, 0, .c Z36 a0⟩), (1, ⟨0, 0, .c Z41 a1⟩)] _
 refine Vq (Vr hG rfl (by trivial) (Vq ?_))
 refine VrD mixed hG rfl (by kernel_rfl) ?_ ?_
 · repeat' (first | exact trivial | exact smallLit (n := 6) rfl (by decide) | refine And.intro ?_ ?_ | intro _)
 refine Vt ?_
 refine ⟨?_, trivial⟩
 all_goals exact rfl
noncomputable def F138 : Fun := ⟨[.slice Y32, .slice Y38, .int .i64, .int .i64], [.own Z8], fun x => (fun (_ : List Key) (l : List Mandate) (_ _ : Int) => List.length l ≤ 2000000000) x.1 x.2.1 x.2.2.1 x.2.2.2.1, fun x => (mandSpansF x.1 x.2.1 x.2.2.1 x.2.2.2.1, ())⟩
theorem F138_ok : Meets Tryz.prog 138 F138 := by
 refine mV (C := mkC 58 [8] [0,1,2,3,8,9,10,15,41] [⟨233, _, F233_ok⟩, ⟨225, _, F225_ok⟩]) (mkC_ok _ _ _ _) (fnOf_ok _) Tryz.func138 rfl rfl rfl (by decide) rfl ?_
 rintro ⟨a0, a1, (a2 : Int), (a3 : Int), _⟩ hwf hpre ⟨P, C, B, X, w0, M0, pv⟩ hG rfl rfl
 show Vc _ _ [(0, ⟨0, 0, .c Z36 a0⟩), (1, ⟨0, 0, .c Z44 a1⟩), (2, ⟨0, 0, .c (.pure (.int .i64)) a2⟩), (3, ⟨0, 0, .c (.pure (.int .i64)) a3⟩)] _
 have hs : List.length a1 ≤ 2000000000 := hpre
 have hb : List.length a1 ≤ bigLen := hwf.2.1.1
 refine Vq (Vr hG rfl (by trivial) (Vq (Vr hG rfl (by trivial) ?_)))
 refine Vq (Vq (Vr hG rfl (by trivial) (Vb ?_)))
 refine Vc.loopF [(9, false, .own Z8), (10, false, .pure (.int .i64))] [0, 1, 2, 3, 8] (fun v => pkInv (mdF a0 a2 a3) a1 v.1 v.2.1) (fun v => ((List.length a1 : Int) - v.2.1).toNat) rfl ?_ ?_
 · exact pkStart
 rintro ⟨acc, (i : Int), _⟩ hI
 have hI : pkInv (mdF a0 a2 a3) a1 acc i := hI
 refine Vq (Vq (Vr hG rfl (by trivial) ?_))
 refine Vk rfl (fun h0 => ?_) (fun h0 => ?_)
 · have hl : i < (List.length a1 : Int) := of_decide_eq_true h0
   refine Vs (Vq (Vb (Vq ?_)))
   refine Vr hG rfl ?_ ?_
   · repeat' (first | exact pkRange hI hl | exact trivial | refine And.intro ?_ ?_ | intro _)
   refine Vk rfl (fun h1 => ?_) (fun h1 => ?_)
   · have g1 : ((mdF a0 a2 a3) (List.getD a1 i.toNat (dflt Y38))).2 = true := h1
     have st := pkYes (d := dflt Y38) hI hl hb g1
     refine VrD mixed hG rfl (by kernel_rfl) ?_ ?_
     · exact ⟨pkRange hI hl, pkRange hI hl, pkLenW hI hs⟩
     refine Vr hG rfl (by trivial) ?_
     refine ⟨rfl, ?_⟩
     exact st
   · have g1 : ((mdF a0 a2 a3) (List.getD a1 i.toNat (dflt Y38))).2 = false := h1
     have st := pkNo (d := dflt Y38) hI hl hb g1
     refine Vs (Vr hG rfl (by trivial) ?_)
     refine ⟨rfl, ?_⟩
     exact st
 · have hl : ¬ i < (List.length a1 : Int) := of_decide_eq_false h0
   refine Vx (Vq ?_)
   refine Vr hG rfl ?_ ?_
   · exact pkBigW hs (pkEnd hI hl)
   refine Vt ?_
   refine ⟨?_, trivial⟩
   exact congrArg joinF (pkEnd hI hl)
noncomputable def F62 : Fun := ⟨[.slice Y32, .slice Y38, .int .i64, .int .i64, .pair (.int .i64) (.int .i64)], [.pure (.bool)], fun x => (fun (_ : List Key) (l : List Mandate) (_ _ : Int) (_ : Span) => List.length l ≤ 2000000000) x.1 x.2.1 x.2.2.1 x.2.2.2.1 x.2.2.2.2.1, fun x => (maySignF x.1 x.2.1 x.2.2.1 x.2.2.2.1 x.2.2.2.2.1, ())⟩
theorem F62_ok : Meets Tryz.prog 62 F62 := by
 refine mV (C := mkC 22 [10] [0,1,2,3,4,9,10,12] [⟨137, _, F137_ok⟩, ⟨138, _, F138_ok⟩, ⟨134, _, F134_ok⟩]) (mkC_ok _ _ _ _) (fnOf_ok _) Tryz.func62 rfl rfl rfl (by decide) rfl ?_
 rintro ⟨a0, a1, (a2 : Int), (a3 : Int), a4, _⟩ hwf hpre ⟨P, C, B, X, w0, M0, pv⟩ hG rfl rfl
 show Vc _ _ [(0, ⟨0, 0, .c Z36 a0⟩), (1, ⟨0, 0, .c Z44 a1⟩), (2, ⟨0, 0, .c (.pure (.int .i64)) a2⟩), (3, ⟨0, 0, .c (.pure (.int .i64)) a3⟩), (4, ⟨0, 0, .c Z8 a4⟩)] _
 have hs : List.length a1 ≤ 2000000000 := hpre
 refine Vq (Vr hG rfl (by trivial) (Vq (Vq ?_)))
 refine Vr hG rfl (by trivial) ?_
 refine Vk rfl (fun h0 => ?_) (fun h0 => ?_)
 · refine Vq (Vr hG rfl (by trivial) (Vt ?_))
   refine ⟨?_, trivial⟩
   exact mayS h0
 · refine Vs (Vq ?_)
   refine VrD mixed hG rfl (by kernel_rfl) ?_ ?_
   · exact ⟨hs, mandSpLen hs⟩
   refine Vt ?_
   refine ⟨?_, trivial⟩
   exact mayN h0
end Fw
