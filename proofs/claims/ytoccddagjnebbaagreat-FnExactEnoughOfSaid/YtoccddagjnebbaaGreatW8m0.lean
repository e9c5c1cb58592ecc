/- Walks of functions of the program: what each computes. Conditions: those that each contract names. -/
import Derived.Test.YtoccddagjnebbaaGreatW8T
namespace Fw
open Go Go.Proofs
set_option linter.unusedSimpArgs false
set_option maxRecDepth 100000
noncomputable def F44 : Fun := ⟨[.slice Y32, .int .i64], [.pure (.int .i64)], fun x => szPre x.1 x.2.1, fun x => (szF Y34 x.1 x.2.1, ())⟩
theorem F44_ok : Meets Tryz.prog 44 F44 := by
 refine mV (C := mkC 12 [4] [0,1,4,10] []) (mkC_ok _ _ _ _) (fnOf_ok _) Tryz.func44 rfl rfl rfl (by decide) rfl ?_
 rintro ⟨a0, (a1 : Int), _⟩ hwf hpre ⟨P, C, B, X, w0, M0, pv⟩ hG rfl rfl
 show Vc _ _ [(0, ⟨0, 0, .c Z36 a0⟩), (1, ⟨0, 0, .c (.pure (.int .i64)) a1⟩)] _
 have q0 : (0 : Int) ≤ a1 ∧ a1 ≤ (big20 : Int) := hpre
 have hb : List.length a0 ≤ bigLen := hwf.1.1
 have hw : IntKind.i64.wrap (a1 - (List.length a0 : Int)) = a1 - (List.length a0 : Int) := subW hpre hb
 refine Vq (Vr hG rfl (by trivial) (Vq (Vr hG rfl (by trivial) ?_)))
 refine Vq (Vq (Vr hG rfl (by trivial) ?_))
 refine Vk rfl (fun h0 => ?_) (fun h0 => ?_)
 · have g0 : a1 - (List.length a0 : Int) < 0 := by rw [← hw]; exact of_decide_eq_true h0
   refine Vq (Vr hG rfl (by trivial) (Vt ?_))
   refine ⟨?_, trivial⟩
   show (-1 : Int) = if a1 - (List.length a0 : Int) < 0 then -1 else szL (szF Y32) a0 (a1 - (List.length a0 : Int))
   rw [if_pos g0]
 · have g0 : ¬ a1 - (List.length a0 : Int) < 0 := by rw [← hw]; exact of_decide_eq_false h0
   refine Vs (Vq (Vr hG rfl (by trivial) (Vt ?_)))
   refine ⟨?_, trivial⟩
   show IntKind.i64.wrap (a1 - (List.length a0 : Int)) = if a1 - (List.length a0 : Int) < 0 then -1 else szL (szF Y32) a0 (a1 - (List.length a0 : Int))
   rw [if_neg g0, hw, szL_id (fun x l hl => szF_id Y32 rfl x l hl) a0 _ (show (0 : Int) ≤ a1 - (List.length a0 : Int) from by omega)]
noncomputable def F45 : Fun := ⟨[.slice Y15, .int .i64], [.pure (.int .i64)], fun x => szPre x.1 x.2.1, fun x => (szF Y18 x.1 x.2.1, ())⟩
theorem F45_ok : Meets Tryz.prog 45 F45 := by
 refine mV (C := mkC 12 [4] [0,1,4,10] []) (mkC_ok _ _ _ _) (fnOf_ok _) Tryz.func45 rfl rfl rfl (by decide) rfl ?_
 rintro ⟨a0, (a1 : Int), _⟩ hwf hpre ⟨P, C, B, X, w0, M0, pv⟩ hG rfl rfl
 show Vc _ _ [(0, ⟨0, 0, .c Z21 a0⟩), (1, ⟨0, 0, .c (.pure (.int .i64)) a1⟩)] _
 have q0 : (0 : Int) ≤ a1 ∧ a1 ≤ (big20 : Int) := hpre
 have hb : List.length a0 ≤ bigLen := hwf.1.1
 have hw : IntKind.i64.wrap (a1 - (List.length a0 : Int)) = a1 - (List.length a0 : Int) := subW hpre hb
 refine Vq (Vr hG rfl (by trivial) (Vq (Vr hG rfl (by trivial) ?_)))
 refine Vq (Vq (Vr hG rfl (by trivial) ?_))
 refine Vk rfl (fun h0 => ?_) (fun h0 => ?_)
 · have g0 : a1 - (List.length a0 : Int) < 0 := by rw [← hw]; exact of_decide_eq_true h0
   refine Vq (Vr hG rfl (by trivial) (Vt ?_))
   refine ⟨?_, trivial⟩
   show (-1 : Int) = if a1 - (List.length a0 : Int) < 0 then -1 else szL (szF Y15) a0 (a1 - (List.length a0 : Int))
   rw [if_pos g0]
 · have g0 : ¬ a1 - (List.length a0 : Int) < 0 := by rw [← hw]; exact of_decide_eq_false h0
   refine Vs (Vq (Vr hG rfl (by trivial) (Vt ?_)))
   refine ⟨?_, trivial⟩
   show IntKind.i64.wrap (a1 - (List.length a0 : Int)) = if a1 - (List.length a0 : Int) < 0 then -1 else szL (szF Y15) a0 (a1 - (List.length a0 : Int))
   rw [if_neg g0, hw, szL_id (fun x l hl => szF_id Y15 rfl x l hl) a0 _ (show (0 : Int) ≤ a1 - (List.length a0 : Int) from by omega)]
noncomputable def F46 : Fun := ⟨[.slice Y24, .int .i64], [.pure (.int .i64)], fun x => szPre x.1 x.2.1, fun x => (szF Y28 x.1 x.2.1, ())⟩
theorem F46_ok : Meets Tryz.prog 46 F46 := by
 refine mV (C := mkC 12 [4] [0,1,4,10] []) (mkC_ok _ _ _ _) (fnOf_ok _) Tryz.func46 rfl rfl rfl (by decide) rfl ?_
 rintro ⟨a0, (a1 : Int), _⟩ hwf hpre ⟨P, C, B, X, w0, M0, pv⟩ hG rfl rfl
 show Vc _ _ [(0, ⟨0, 0, .c Z30 a0⟩), (1, ⟨0, 0, .c (.pure (.int .i64)) a1⟩)] _
 have q0 : (0 : Int) ≤ a1 ∧ a1 ≤ (big20 : Int) := hpre
 have hb : List.length a0 ≤ bigLen := hwf.1.1
 have hw : IntKind.i64.wrap (a1 - (List.length a0 : Int)) = a1 - (List.length a0 : Int) := subW hpre hb
 refine Vq (Vr hG rfl (by trivial) (Vq (Vr hG rfl (by trivial) ?_)))
 refine Vq (Vq (Vr hG rfl (by trivial) ?_))
 refine Vk rfl (fun h0 => ?_) (fun h0 => ?_)
 · have g0 : a1 - (List.length a0 : Int) < 0 := by rw [← hw]; exact of_decide_eq_true h0
   refine Vq (Vr hG rfl (by trivial) (Vt ?_))
   refine ⟨?_, trivial⟩
   show (-1 : Int) = if a1 - (List.length a0 : Int) < 0 then -1 else szL (szF Y24) a0 (a1 - (List.length a0 : Int))
   rw [if_pos g0]
 · have g0 : ¬ a1 - (List.length a0 : Int) < 0 := by rw [← hw]; exact of_decide_eq_false h0
   refine Vs (Vq (Vr hG rfl (by trivial) (Vt ?_)))
   refine ⟨?_, trivial⟩
   show IntKind.i64.wrap (a1 - (List.length a0 : Int)) = if a1 - (List.length a0 : Int) < 0 then -1 else szL (szF Y24) a0 (a1 - (List.length a0 : Int))
   rw [if_neg g0, hw, szL_id (fun x l hl => szF_id Y24 rfl x l hl) a0 _ (show (0 : Int) ≤ a1 - (List.length a0 : Int) from by omega)]
noncomputable def F10 : Fun := ⟨[.pair Y34 Y55, .int .i64], [.pure (.int .i64)], fun x => szPre x.1 x.2.1, fun x => (szF Y64 x.1 x.2.1, ())⟩
theorem F10_ok : Meets Tryz.prog 10 F10 := by
 refine mV (C := mkC 24 [4] [0,1,2,4,10,16,22] [⟨44, _, F44_ok⟩, ⟨45, _, F45_ok⟩, ⟨46, _, F46_ok⟩]) (mkC_ok _ _ _ _) (fnOf_ok _) Tryz.func10 rfl rfl rfl (by decide) rfl ?_
 rintro ⟨a0, (a1 : Int), _⟩ hwf hpre ⟨P, C, B, X, w0, M0, pv⟩ hG rfl rfl
 show Vc _ _ [(0, ⟨0, 0, .c Z67 a0⟩), (1, ⟨0, 0, .c (.pure (.int .i64)) a1⟩)] _
 have q0 : (0 : Int) ≤ a1 ∧ a1 ≤ (big20 : Int) := hpre
 refine Vq (Vr hG rfl (by trivial) (Vq ?_))
 refine Vr hG rfl ?_ ?_
 · exact (show (0 : Int) ≤ a1 ∧ a1 ≤ (big20 : Int) from ⟨by omega, by omega⟩)
 refine Vq (Vq (Vr hG rfl (by trivial) ?_))
 refine Vk rfl (fun h0 => ?_) (fun h0 => ?_)
 · have m0 := szF_m1 Y34 rfl a0.1 (a1) (show (0 : Int) ≤ a1 from by omega)
   have g0 : szF Y34 a0.1 (a1) < 0 := of_decide_eq_true h0
   refine Vq (Vr hG rfl (by trivial) (Vt ?_))
   refine ⟨?_, trivial⟩
   show (-1 : Int) = szF Y64 a0 a1
   refine Eq.trans ?_ (szSpine _ _ (show szF Y64 a0 a1 = (if szF Y34 a0.1 (a1) < 0 then -1 else (if szF Y18 a0.2.1 (szF Y34 a0.1 (a1)) < 0 then -1 else (if szF Y28 a0.2.2.1 (szF Y18 a0.2.1 (szF Y34 a0.1 (a1))) < 0 then -1 else (if szF (.int .i64) a0.2.2.2.1 (szF Y28 a0.2.2.1 (szF Y18 a0.2.1 (szF Y34 a0.1 (a1)))) < 0 then -1 else szF (.int .i64) a0.2.2.2.2 (szF (.int .i64) a0.2.2.2.1 (szF Y28 a0.2.2.1 (szF Y18 a0.2.1 (szF Y34 a0.1 (a1))))))))) from rfl))
   rw [if_pos g0]
 · have m0 := szF_m1 Y34 rfl a0.1 (a1) (show (0 : Int) ≤ a1 from by omega)
   have g0 : ¬ szF Y34 a0.1 (a1) < 0 := of_decide_eq_false h0
   have k0 := szF_le Y34 a0.1 (a1)
   refine Vs (Vq ?_)
   refine Vr hG rfl ?_ ?_
   · exact (show (0 : Int) ≤ szF Y34 a0.1 (a1) ∧ szF Y34 a0.1 (a1) ≤ (big20 : Int) from ⟨by omega, by omega⟩)
   refine Vq (Vq (Vr hG rfl (by trivial) ?_))
   refine Vk rfl (fun h1 => ?_) (fun h1 => ?_)
   · have m1 := szF_m1 Y18 rfl a0.2.1 (szF Y34 a0.1 (a1)) (show (0 : Int) ≤ szF Y34 a0.1 (a1) from by omega)
     have g1 : szF Y18 a0.2.1 (szF Y34 a0.1 (a1)) < 0 := of_decide_eq_true h1
     refine Vq (Vr hG rfl (by trivial) (Vt ?_))
     refine ⟨?_, trivial⟩
     show (-1 : Int) = szF Y64 a0 a1
     refine Eq.trans ?_ (szSpine _ _ (show szF Y64 a0 a1 = (if szF Y34 a0.1 (a1) < 0 then -1 else (if szF Y18 a0.2.1 (szF Y34 a0.1 (a1)) < 0 then -1 else (if szF Y28 a0.2.2.1 (szF Y18 a0.2.1 (szF Y34 a0.1 (a1))) < 0 then -1 else (if szF (.int .i64) a0.2.2.2.1 (szF Y28 a0.2.2.1 (szF Y18 a0.2.1 (szF Y34 a0.1 (a1)))) < 0 then -1 else szF (.int .i64) a0.2.2.2.2 (szF (.int .i64) a0.2.2.2.1 (szF Y28 a0.2.2.1 (szF Y18 a0.2.1 (szF Y34 a0.1 (a1))))))))) from rfl))
     rw [if_neg g0]
     rw [if_pos g1]
   · have m1 := szF_m1 Y18 rfl a0.2.1 (szF Y34 a0.1 (a1)) (show (0 : Int) ≤ szF Y34 a0.1 (a1) from by omega)
     have g1 : ¬ szF Y18 a0.2.1 (szF Y34 a0.1 (a1)) < 0 := of_decide_eq_false h1
     have k1 := szF_le Y18 a0.2.1 (szF Y34 a0.1 (a1))
     refine Vs (Vq ?_)
     refine Vr hG rfl ?_ ?_
     · exact (show (0 : Int) ≤ szF Y18 a0.2.1 (szF Y34 a0.1 (a1)) ∧ szF Y18 a0.2.1 (szF Y34 a0.1 (a1)) ≤ (big20 : Int) from ⟨by omega, by omega⟩)
     refine Vq (Vq (Vr hG rfl (by trivial) ?_))
     refine Vk rfl (fun h2 => ?_) (fun h2 => ?_)
     · have m2 := szF_m1 Y28 rfl a0.2.2.1 (szF Y18 a0.2.1 (szF Y34 a0.1 (a1))) (show (0 : Int) ≤ szF Y18 a0.2.1 (szF Y34 a0.1 (a1)) from by omega)
       have g2 : szF Y28 a0.2.2.1 (szF Y18 a0.2.1 (szF Y34 a0.1 (a1))) < 0 := of_decide_eq_true h2
       refine Vq (Vr hG rfl (by trivial) (Vt ?_))
       refine ⟨?_, trivial⟩
       show (-1 : Int) = szF Y64 a0 a1
       refine Eq.trans ?_ (szSpine _ _ (show szF Y64 a0 a1 = (if szF Y34 a0.1 (a1) < 0 then -1 else (if szF Y18 a0.2.1 (szF Y34 a0.1 (a1)) < 0 then -1 else (if szF Y28 a0.2.2.1 (szF Y18 a0.2.1 (szF Y34 a0.1 (a1))) < 0 then -1 else (if szF (.int .i64) a0.2.2.2.1 (szF Y28 a0.2.2.1 (szF Y18 a0.2.1 (szF Y34 a0.1 (a1)))) < 0 then -1 else szF (.int .i64) a0.2.2.2.2 (szF (.int .i64) a0.2.2.2.1 (szF Y28 a0.2.2.1 (szF Y18 a0.2.1 (szF Y34 a0.1 (a1))))))))) from rfl))
       rw [if_neg g0]
       rw [if_neg g1]
       rw [if_pos g2]
     · have m2 := szF_m1 Y28 rfl a0.2.2.1 (szF Y18 a0.2.1 (szF Y34 a0.1 (a1))) (show (0 : Int) ≤ szF Y18 a0.2.1 (szF Y34 a0.1 (a1)) from by omega)
       have g2 : ¬ szF Y28 a0.2.2.1 (szF Y18 a0.2.1 (szF Y34 a0.1 (a1))) < 0 := of_decide_eq_false h2
       have k2 := szF_le Y28 a0.2.2.1 (szF Y18 a0.2.1 (szF Y34 a0.1 (a1)))
       refine Vs (Vq (Vr hG rfl (by trivial) (Vt ?_)))
       refine ⟨?_, trivial⟩
       show szF Y28 a0.2.2.1 (szF Y18 a0.2.1 (szF Y34 a0.1 (a1))) = szF Y64 a0 a1
       refine Eq.trans ?_ (szSpine _ _ (show szF Y64 a0 a1 = (if szF Y34 a0.1 (a1) < 0 then -1 else (if szF Y18 a0.2.1 (szF Y34 a0.1 (a1)) < 0 then -1 else (if szF Y28 a0.2.2.1 (szF Y18 a0.2.1 (szF Y34 a0.1 (a1))) < 0 then -1 else (if szF (.int .i64) a0.2.2.2.1 (szF Y28 a0.2.2.1 (szF Y18 a0.2.1 (szF Y34 a0.1 (a1)))) < 0 then -1 else szF (.int .i64) a0.2.2.2.2 (szF (.int .i64) a0.2.2.2.1 (szF Y28 a0.2.2.1 (szF Y18 a0.2.1 (szF Y34 a0.1 (a1))))))))) from rfl))
       rw [if_neg g0]
       rw [if_neg g1]
       rw [if_neg g2]
       rw [szF_id (.int .i64) rfl a0.2.2.2.1 (szF Y28 a0.2.2.1 (szF Y18 a0.2.1 (szF Y34 a0.1 (a1)))) (show (0 : Int) ≤ szF Y28 a0.2.2.1 (szF Y18 a0.2.1 (szF Y34 a0.1 (a1))) from by omega)]
       rw [if_neg (show ¬ szF Y28 a0.2.2.1 (szF Y18 a0.2.1 (szF Y34 a0.1 (a1))) < 0 from by omega)]
       rw [szF_id (.int .i64) rfl a0.2.2.2.2 (szF Y28 a0.2.2.1 (szF Y18 a0.2.1 (szF Y34 a0.1 (a1)))) (show (0 : Int) ≤ szF Y28 a0.2.2.1 (szF Y18 a0.2.1 (szF Y34 a0.1 (a1))) from by omega)]
noncomputable def F49 : Fun := ⟨[.slice (.int .i64), .int .i64], [.pure (.int .i64)], fun x => szPre x.1 x.2.1, fun x => (szF (.slice (.int .i64)) x.1 x.2.1, ())⟩
theorem F49_ok : Meets Tryz.prog 49 F49 := by
 refine mV (C := mkC 12 [4] [0,1,4,10] []) (mkC_ok _ _ _ _) (fnOf_ok _) Tryz.func49 rfl rfl rfl (by decide) rfl ?_
 rintro ⟨a0, (a1 : Int), _⟩ hwf hpre ⟨P, C, B, X, w0, M0, pv⟩ hG rfl rfl
 show Vc _ _ [(0, ⟨0, 0, .c Z2 a0⟩), (1, ⟨0, 0, .c (.pure (.int .i64)) a1⟩)] _
 have q0 : (0 : Int) ≤ a1 ∧ a1 ≤ (big20 : Int) := hpre
 have hb : List.length a0 ≤ bigLen := hwf.1.1
 have hw : IntKind.i64.wrap (a1 - (List.length a0 : Int)) = a1 - (List.length a0 : Int) := subW hpre hb
 refine Vq (Vr hG rfl (by trivial) (Vq (Vr hG rfl (by trivial) ?_)))
 refine Vq (Vq (Vr hG rfl (by trivial) ?_))
 refine Vk rfl (fun h0 => ?_) (fun h0 => ?_)
 · have g0 : a1 - (List.length a0 : Int) < 0 := by rw [← hw]; exact of_decide_eq_true h0
   refine Vq (Vr hG rfl (by trivial) (Vt ?_))
   refine ⟨?_, trivial⟩
   show (-1 : Int) = if a1 - (List.length a0 : Int) < 0 then -1 else szL (szF (.int .i64)) a0 (a1 - (List.length a0 : Int))
   rw [if_pos g0]
 · have g0 : ¬ a1 - (List.length a0 : Int) < 0 := by rw [← hw]; exact of_decide_eq_false h0
   refine Vs (Vq (Vr hG rfl (by trivial) (Vt ?_)))
   refine ⟨?_, trivial⟩
   show IntKind.i64.wrap (a1 - (List.length a0 : Int)) = if a1 - (List.length a0 : Int) < 0 then -1 else szL (szF (.int .i64)) a0 (a1 - (List.length a0 : Int))
   rw [if_neg g0, hw, szL_id (fun x l hl => szF_id (.int .i64) rfl x l hl) a0 _ (show (0 : Int) ≤ a1 - (List.length a0 : Int) from by omega)]
noncomputable def F266 : Fun := ⟨[.pair (.int .i64) Y9, .int .i64], [.pure (.int .i64)], fun x => szPre x.1 x.2.1, fun x => (szF Y19 x.1 x.2.1, ())⟩
theorem F266_ok : Meets Tryz.prog 266 F266 := by
 refine mV (C := mkC 12 [4] [0,1,2,4,10] [⟨49, _, F49_ok⟩]) (mkC_ok _ _ _ _) (fnOf_ok _) Tryz.func266 rfl rfl rfl (by decide) rfl ?_
 rintro ⟨a0, (a1 : Int), _⟩ hwf hpre ⟨P, C, B, X, w0, M0, pv⟩ hG rfl rfl
 show Vc _ _ [(0, ⟨0, 0, .c Z22 a0⟩), (1, ⟨0, 0, .c (.pure (.int .i64)) a1⟩)] _
 have q0 : (0 : Int) ≤ a1 ∧ a1 ≤ (big20 : Int) := hpre
 refine Vq (Vr hG rfl (by trivial) (Vq ?_))
 refine Vr hG rfl ?_ ?_
 · exact (show (0 : Int) ≤ a1 ∧ a1 ≤ (big20 : Int) from ⟨by omega, by omega⟩)
 refine Vq (Vq (Vr hG rfl (by trivial) ?_))
 refine Vk rfl (fun h0 => ?_) (fun h0 => ?_)
 · have m0 := szF_m1 (.slice (.int .i64)) rfl a0.2.1 (a1) (show (0 : Int) ≤ a1 from by omega)
   have g0 : szF (.slice (.int .i64)) a0.2.1 (a1) < 0 := of_decide_eq_true h0
   refine Vq (Vr hG rfl (by trivial) (Vt ?_))
   refine ⟨?_, trivial⟩
   show (-1 : Int) = szF Y19 a0 a1
   refine Eq.trans ?_ (szSpine _ _ (show szF Y19 a0 a1 = (if szF (.int .i64) a0.1 (a1) < 0 then -1 else (if szF (.slice (.int .i64)) a0.2.1 (szF (.int .i64) a0.1 (a1)) < 0 then -1 else szF (.int .i64) a0.2.2 (szF (.slice (.int .i64)) a0.2.1 (szF (.int .i64) a0.1 (a1))))) from rfl))
   rw [szF_id (.int .i64) rfl a0.1 (a1) (show (0 : Int) ≤ a1 from by omega)]
   rw [if_neg (show ¬ a1 < 0 from by omega)]
   rw [if_pos g0]
 · have m0 := szF_m1 (.slice (.int .i64)) rfl a0.2.1 (a1) (show (0 : Int) ≤ a1 from by omega)
   have g0 : ¬ szF (.slice (.int .i64)) a0.2.1 (a1) < 0 := of_decide_eq_false h0
   have k0 := szF_le (.slice (.int .i64)) a0.2.1 (a1)
   refine Vs (Vq (Vr hG rfl (by trivial) (Vt ?_)))
   refine ⟨?_, trivial⟩
   show szF (.slice (.int .i64)) a0.2.1 (a1) = szF Y19 a0 a1
   refine Eq.trans ?_ (szSpine _ _ (show szF Y19 a0 a1 = (if szF (.int .i64) a0.1 (a1) < 0 then -1 else (if szF (.slice (.int .i64)) a0.2.1 (szF (.int .i64) a0.1 (a1)) < 0 then -1 else szF (.int .i64) a0.2.2 (szF (.slice (.int .i64)) a0.2.1 (szF (.int .i64) a0.1 (a1))))) from rfl))
   rw [szF_id (.int .i64) rfl a0.1 (a1) (show (0 : Int) ≤ a1 from by omega)]
   rw [if_neg (show ¬ a1 < 0 from by omega)]
   rw [if_neg g0]
   rw [szF_id (.int .i64) rfl a0.2.2 (szF (.slice (.int .i64)) a0.2.1 (a1)) (show (0 : Int) ≤ szF (.slice (.int .i64)) a0.2.1 (a1) from by omega)]
noncomputable def F183 : Fun := ⟨[.slice Y19, .int .i64], [.pure (.int .i64)], fun x => szPre x.1 x.2.1, fun x => (szF Y23 x.1 x.2.1, ())⟩
theorem F183_ok : Meets Tryz.prog 183 F183 := by
 refine mV (C := mkC 27 [4] [0,1,4,5,11,15,25] [⟨266, _, F266_ok⟩]) (mkC_ok _ _ _ _) (fnOf_ok _) Tryz.func183 rfl rfl rfl (by decide) rfl ?_
 rintro ⟨a0, (a1 : Int), _⟩ hwf hpre ⟨P, C, B, X, w0, M0, pv⟩ hG rfl rfl
 show Vc _ _ [(0, ⟨0, 0, .c Z26 a0⟩), (1, ⟨0, 0, .c (.pure (.int .i64)) a1⟩)] _
 have q0 : (0 : Int) ≤ a1 ∧ a1 ≤ (big20 : Int) := hpre
 have hb : List.length a0 ≤ bigLen := hwf.1.1
 have hw : IntKind.i64.wrap (a1 - (List.length a0 : Int)) = a1 - (List.length a0 : Int) := subW hpre hb
 refine Vq (Vr hG rfl (by trivial) (Vq (Vr hG rfl (by trivial) ?_)))
 refine Vq (Vq (Vr hG rfl (by trivial) ?_))
 refine Vk rfl (fun h0 => ?_) (fun h0 => ?_)
 · have g0 : a1 - (List.length a0 : Int) < 0 := by rw [← hw]; exact of_decide_eq_true h0
   refine Vq (Vr hG rfl (by trivial) (Vt ?_))
   refine ⟨?_, trivial⟩
   show (-1 : Int) = if a1 - (List.length a0 : Int) < 0 then -1 else szL (szF Y19) a0 (a1 - (List.length a0 : Int))
   rw [if_pos g0]
 · have g0 : ¬ a1 - (List.length a0 : Int) < 0 := by rw [← hw]; exact of_decide_eq_false h0
   refine Vs (Vq (Vq (Vr hG rfl (by trivial) ?_)))
   refine Vb ?_
   refine Vc.loopF [(1, false, .pure (.int .i64)), (5, false, .pure (.int .i64))] [0, 11] (fun v => szInv (szF Y19) a0 (a1 - (List.length a0 : Int)) v.1 v.2.1) (fun v => ((List.length a0 : Int) - v.2.1).toNat) rfl ?_ ?_
   · show szInv (szF Y19) a0 (a1 - (List.length a0 : Int)) (IntKind.i64.wrap (a1 - (List.length a0 : Int))) 0
     rw [hw]
     exact szStart (by omega) (by omega)
   rintro ⟨(l : Int), (i : Int), _⟩ hI
   have hI : szInv (szF Y19) a0 (a1 - (List.length a0 : Int)) l i := hI
   refine Vq (Vq (Vr hG rfl (by trivial) ?_))
   refine Vk rfl (fun h1 => ?_) (fun h1 => ?_)
   · have hl : i < (List.length a0 : Int) := of_decide_eq_true h1
     refine Vs (Vq (Vb (Vq ?_)))
     refine Vr hG rfl ?_ ?_
     · exact ⟨upRange hI.1 hl, ⟨hI.2.1, hI.2.2.1⟩⟩
     refine Vq (Vr hG rfl (by trivial) ?_)
     refine Vk rfl (fun h2 => ?_) (fun h2 => ?_)
     · have g2 : szF Y19 (List.getD a0 i.toNat (dflt Y19)) l < 0 := of_decide_eq_true h2
       refine Vq (Vr hG rfl (by trivial) (Vt ?_))
       refine ⟨?_, trivial⟩
       show (-1 : Int) = if a1 - (List.length a0 : Int) < 0 then -1 else szL (szF Y19) a0 (a1 - (List.length a0 : Int))
       rw [if_neg g0, (szStep (d := dflt Y19) hI (szF_le Y19) hl hb).1 g2]
     · have g2 : ¬ szF Y19 (List.getD a0 i.toNat (dflt Y19)) l < 0 := of_decide_eq_false h2
       refine Vs (Vr hG rfl (by trivial) ?_)
       refine ⟨rfl, ?_⟩
       exact ⟨(szStep (d := dflt Y19) hI (szF_le Y19) hl hb).2 g2, (upStep hI.1 hl hb).2.2⟩
   · have hl : ¬ i < (List.length a0 : Int) := of_decide_eq_false h1
     refine Vx (Vq (Vr hG rfl (by trivial) (Vt ?_)))
     refine ⟨?_, trivial⟩
     show l = if a1 - (List.length a0 : Int) < 0 then -1 else szL (szF Y19) a0 (a1 - (List.length a0 : Int))
     rw [if_neg g0, szEnd hI hl]
noncomputable def F305 : Fun := ⟨[.slice Y1, .int .i64], [.pure (.int .i64)], fun x => szPre x.1 x.2.1, fun x => (szF Y6 x.1 x.2.1, ())⟩
theorem F305_ok : Meets Tryz.prog 305 F305 := by
 refine mV (C := mkC 12 [4] [0,1,4,10] []) (mkC_ok _ _ _ _) (fnOf_ok _) Tryz.func305 rfl rfl rfl (by decide) rfl ?_
 rintro ⟨a0, (a1 : Int), _⟩ hwf hpre ⟨P, C, B, X, w0, M0, pv⟩ hG rfl rfl
 show Vc _ _ [(0, ⟨0, 0, .c Z12 a0⟩), (1, ⟨0, 0, .c (.pure (.int .i64)) a1⟩)] _
 have q0 : (0 : Int) ≤ a1 ∧ a1 ≤ (big20 : Int) := hpre
 have hb : List.length a0 ≤ bigLen := hwf.1.1
 have hw : IntKind.i64.wrap (a1 - (List.length a0 : Int)) = a1 - (List.length a0 : Int) := subW hpre hb
 refine Vq (Vr hG rfl (by trivial) (Vq (Vr hG rfl (by trivial) ?_)))
 refine Vq (Vq (Vr hG rfl (by trivial) ?_))
 refine Vk rfl (fun h0 => ?_) (fun h0 => ?_)
 · have g0 : a1 - (List.length a0 : Int) < 0 := by rw [← hw]; exact of_decide_eq_true h0
   refine Vq (Vr hG rfl (by trivial) (Vt ?_))
   refine ⟨?_, trivial⟩
   show (-1 : Int) = if a1 - (List.length a0 : Int) < 0 then -1 else szL (szF Y1) a0 (a1 - (List.length a0 : Int))
   rw [if_pos g0]
 · have g0 : ¬ a1 - (List.length a0 : Int) < 0 := by rw [← hw]; exact of_decide_eq_false h0
   refine Vs (Vq (Vr hG rfl (by trivial) (Vt ?_)))
   refine ⟨?_, trivial⟩
   show IntKind.i64.wrap (a1 - (List.length a0 : Int)) = if a1 - (List.length a0 : Int) < 0 then -1 else szL (szF Y1) a0 (a1 - (List.length a0 : Int))
   rw [if_neg g0, hw, szL_id (fun x l hl => szF_id Y1 rfl x l hl) a0 _ (show (0 : Int) ≤ a1 - (List.length a0 : Int) from by omega)]
noncomputable def F117 : Fun := ⟨[.slice Y32, .int .i64], [.pure (.int .i64)], fun x => szPre x.1 x.2.1, fun x => (szF Y34 x.1 x.2.1, ())⟩
theorem F117_ok : Meets Tryz.prog 117 F117 := by
 refine mV (C := mkC 12 [4] [0,1,4,10] []) (mkC_ok _ _ _ _) (fnOf_ok _) Tryz.func117 rfl rfl rfl (by decide) rfl ?_
 rintro ⟨a0, (a1 : Int), _⟩ hwf hpre ⟨P, C, B, X, w0, M0, pv⟩ hG rfl rfl
 show Vc _ _ [(0, ⟨0, 0, .c Z36 a0⟩), (1, ⟨0, 0, .c (.pure (.int .i64)) a1⟩)] _
 have q0 : (0 : Int) ≤ a1 ∧ a1 ≤ (big20 : Int) := hpre
 have hb : List.length a0 ≤ bigLen := hwf.1.1
 have hw : IntKind.i64.wrap (a1 - (List.length a0 : Int)) = a1 - (List.length a0 : Int) := subW hpre hb
 refine Vq (Vr hG rfl (by trivial) (Vq (Vr hG rfl (by trivial) ?_)))
 refine Vq (Vq (Vr hG rfl (by trivial) ?_))
 refine Vk rfl (fun h0 => ?_) (fun h0 => ?_)
 · have g0 : a1 - (List.length a0 : Int) < 0 := by rw [← hw]; exact of_decide_eq_true h0
   refine Vq (Vr hG rfl (by trivial) (Vt ?_))
   refine ⟨?_, trivial⟩
   show (-1 : Int) = if a1 - (List.length a0 : Int) < 0 then -1 else szL (szF Y32) a0 (a1 - (List.length a0 : Int))
   rw [if_pos g0]
 · have g0 : ¬ a1 - (List.length a0 : Int) < 0 := by rw [← hw]; exact of_decide_eq_false h0
   refine Vs (Vq (Vr hG rfl (by trivial) (Vt ?_)))
   refine ⟨?_, trivial⟩
   show IntKind.i64.wrap (a1 - (List.length a0 : Int)) = if a1 - (List.length a0 : Int) < 0 then -1 else szL (szF Y32) a0 (a1 - (List.length a0 : Int))
   rw [if_neg g0, hw, szL_id (fun x l hl => szF_id Y32 rfl x l hl) a0 _ (show (0 : Int) ≤ a1 - (List.length a0 : Int) from by omega)]
noncomputable def F267 : Fun := ⟨[.pair (.int .i64) Y53, .int .i64], [.pure (.int .i64)], fun x => szPre x.1 x.2.1, fun x => (szF Y56 x.1 x.2.1, ())⟩
theorem F267_ok : Meets Tryz.prog 267 F267 := by
 refine mV (C := mkC 18 [4] [0,1,2,4,10,16] [⟨305, _, F305_ok⟩, ⟨117, _, F117_ok⟩]) (mkC_ok _ _ _ _) (fnOf_ok _) Tryz.func267 rfl rfl rfl (by decide) rfl ?_
 rintro ⟨a0, (a1 : Int), _⟩ hwf hpre ⟨P, C, B, X, w0, M0, pv⟩ hG rfl rfl
 show Vc _ _ [(0, ⟨0, 0, .c Z57 a0⟩), (1, ⟨0, 0, .c (.pure (.int .i64)) a1⟩)] _
 have q0 : (0 : Int) ≤ a1 ∧ a1 ≤ (big20 : Int) := hpre
 refine Vq (Vr hG rfl (by trivial) (Vq ?_))
 refine Vr hG rfl ?_ ?_
 · exact (show (0 : Int) ≤ a1 ∧ a1 ≤ (big20 : Int) from ⟨by omega, by omega⟩)
 refine Vq (Vq (Vr hG rfl (by trivial) ?_))
 refine Vk rfl (fun h0 => ?_) (fun h0 => ?_)
 · have m0 := szF_m1 Y6 rfl a0.2.2.2.1 (a1) (show (0 : Int) ≤ a1 from by omega)
   have g0 : szF Y6 a0.2.2.2.1 (a1) < 0 := of_decide_eq_true h0
   refine Vq (Vr hG rfl (by trivial) (Vt ?_))
   refine ⟨?_, trivial⟩
   show (-1 : Int) = szF Y56 a0 a1
   refine Eq.trans ?_ (szSpine _ _ (show szF Y56 a0 a1 = (if szF (.int .i64) a0.1 (a1) < 0 then -1 else (if szF (.int .i64) a0.2.1 (szF (.int .i64) a0.1 (a1)) < 0 then -1 else (if szF (.int .i64) a0.2.2.1 (szF (.int .i64) a0.2.1 (szF (.int .i64) a0.1 (a1))) < 0 then -1 else (if szF Y6 a0.2.2.2.1 (szF (.int .i64) a0.2.2.1 (szF (.int .i64) a0.2.1 (szF (.int .i64) a0.1 (a1)))) < 0 then -1 else szF Y34 a0.2.2.2.2 (szF Y6 a0.2.2.2.1 (szF (.int .i64) a0.2.2.1 (szF (.int .i64) a0.2.1 (szF (.int .i64) a0.1 (a1))))))))) from rfl))
   rw [szF_id (.int .i64) rfl a0.1 (a1) (show (0 : Int) ≤ a1 from by omega)]
   rw [if_neg (show ¬ a1 < 0 from by omega)]
   rw [szF_id (.int .i64) rfl a0.2.1 (a1) (show (0 : Int) ≤ a1 from by omega)]
   rw [if_neg (show ¬ a1 < 0 from by omega)]
   rw [szF_id (.int .i64) rfl a0.2.2.1 (a1) (show (0 : Int) ≤ a1 from by omega)]
   rw [if_neg (show ¬ a1 < 0 from by omega)]
   rw [if_pos g0]
 · have m0 := szF_m1 Y6 rfl a0.2.2.2.1 (a1) (show (0 : Int) ≤ a1 from by omega)
   have g0 : ¬ szF Y6 a0.2.2.2.1 (a1) < 0 := of_decide_eq_false h0
   have k0 := szF_le Y6 a0.2.2.2.1 (a1)
   refine Vs (Vq ?_)
   refine Vr hG rfl ?_ ?_
   · exact (show (0 : Int) ≤ szF Y6 a0.2.2.2.1 (a1) ∧ szF Y6 a0.2.2.2.1 (a1) ≤ (big20 : Int) from ⟨by omega, by omega⟩)
   refine Vq (Vq (Vr hG rfl (by trivial) ?_))
   refine Vk rfl (fun h1 => ?_) (fun h1 => ?_)
   · have m1 := szF_m1 Y34 rfl a0.2.2.2.2 (szF Y6 a0.2.2.2.1 (a1)) (show (0 : Int) ≤ szF Y6 a0.2.2.2.1 (a1) from by omega)
     have g1 : szF Y34 a0.2.2.2.2 (szF Y6 a0.2.2.2.1 (a1)) < 0 := of_decide_eq_true h1
     refine Vq (Vr hG rfl (by trivial) (Vt ?_))
     refine ⟨?_, trivial⟩
     show (-1 : Int) = szF Y56 a0 a1
     refine Eq.trans ?_ (szSpine _ _ (show szF Y56 a0 a1 = (if szF (.int .i64) a0.1 (a1) < 0 then -1 else (if szF (.int .i64) a0.2.1 (szF (.int .i64) a0.1 (a1)) < 0 then -1 else (if szF (.int .i64) a0.2.2.1 (szF (.int .i64) a0.2.1 (szF (.int .i64) a0.1 (a1))) < 0 then -1 else (if szF Y6 a0.2.2.2.1 (szF (.int .i64) a0.2.2.1 (szF (.int .i64) a0.2.1 (szF (.int .i64) a0.1 (a1)))) < 0 then -1 else szF Y34 a0.2.2.2.2 (szF Y6 a0.2.2.2.1 (szF (.int .i64) a0.2.2.1 (szF (.int .i64) a0.2.1 (szF (.int .i64) a0.1 (a1))))))))) from rfl))
     rw [szF_id (.int .i64) rfl a0.1 (a1) (show (0 : Int) ≤ a1 from by omega)]
     rw [if_neg (show ¬ a1 < 0 from by omega)]
     rw [szF_id (.int .i64) rfl a0.2.1 (a1) (show (0 : Int) ≤ a1 from by omega)]
     rw [if_neg (show ¬ a1 < 0 from by omega)]
     rw [szF_id (.int .i64) rfl a0.2.2.1 (a1) (show (0 : Int) ≤ a1 from by omega)]
     rw [if_neg (show ¬ a1 < 0 from by omega)]
     rw [if_neg g0]
     omega
   · have m1 := szF_m1 Y34 rfl a0.2.2.2.2 (szF Y6 a0.2.2.2.1 (a1)) (show (0 : Int) ≤ szF Y6 a0.2.2.2.1 (a1) from by omega)
     have g1 : ¬ szF Y34 a0.2.2.2.2 (szF Y6 a0.2.2.2.1 (a1)) < 0 := of_decide_eq_false h1
     have k1 := szF_le Y34 a0.2.2.2.2 (szF Y6 a0.2.2.2.1 (a1))
     refine Vs (Vq (Vr hG rfl (by trivial) (Vt ?_)))
     refine ⟨?_, trivial⟩
     show szF Y34 a0.2.2.2.2 (szF Y6 a0.2.2.2.1 (a1)) = szF Y56 a0 a1
     refine Eq.trans ?_ (szSpine _ _ (show szF Y56 a0 a1 = (if szF (.int .i64) a0.1 (a1) < 0 then -1 else (if szF (.int .i64) a0.2.1 (szF (.int .i64) a0.1 (a1)) < 0 then -1 else (if szF (.int .i64) a0.2.2.1 (szF (.int .i64) a0.2.1 (szF (.int .i64) a0.1 (a1))) < 0 then -1 else (if szF Y6 a0.2.2.2.1 (szF (.int .i64) a0.2.2.1 (szF (.int .i64) a0.2.1 (szF (.int .i64) a0.1 (a1)))) < 0 then -1 else szF Y34 a0.2.2.2.2 (szF Y6 a0.2.2.2.1 (szF (.int .i64) a0.2.2.1 (szF (.int .i64) a0.2.1 (szF (.int .i64) a0.1 (a1))))))))) from rfl))
     rw [szF_id (.int .i64) rfl a0.1 (a1) (show (0 : Int) ≤ a1 from by omega)]
     rw [if_neg (show ¬ a1 < 0 from by omega)]
     rw [szF_id (.int .i64) rfl a0.2.1 (a1) (show (0 : Int) ≤ a1 from by omega)]
     rw [if_neg (show ¬ a1 < 0 from by omega)]
     rw [szF_id (.int .i64) rfl a0.2.2.1 (a1) (show (0 : Int) ≤ a1 from by omega)]
     rw [if_neg (show ¬ a1 < 0 from by omega)]
     rw [if_neg g0]
noncomputable def F184 : Fun := ⟨[.slice Y56, .int .i64], [.pure (.int .i64)], fun x => szPre x.1 x.2.1, fun x => (szF Y59 x.1 x.2.1, ())⟩
theorem F184_ok : Meets Tryz.prog 184 F184 := by
 refine mV (C := mkC 27 [4] [0,1,4,5,11,15,25] [⟨267, _, F267_ok⟩]) (mkC_ok _ _ _ _) (fnOf_ok _) Tryz.func184 rfl rfl rfl (by decide) rfl ?_
 rintro ⟨a0, (a1 : Int), _⟩ hwf hpre ⟨P, C, B, X, w0, M0, pv⟩ hG rfl rfl
 show Vc _ _ [(0, ⟨0, 0, .c Z60 a0⟩), (1, ⟨0, 0, .c (.pure (.int .i64)) a1⟩)] _
 have q0 : (0 : Int) ≤ a1 ∧ a1 ≤ (big20 : Int) := hpre
 have hb : List.length a0 ≤ bigLen := hwf.1.1
 have hw : IntKind.i64.wrap (a1 - (List.length a0 : Int)) = a1 - (List.length a0 : Int) := subW hpre hb
 refine Vq (Vr hG rfl (by trivial) (Vq (Vr hG rfl (by trivial) ?_)))
 refine Vq (Vq (Vr hG rfl (by trivial) ?_))
 refine Vk rfl (fun h0 => ?_) (fun h0 => ?_)
 · have g0 : a1 - (List.length a0 : Int) < 0 := by rw [← hw]; exact of_decide_eq_true h0
   refine Vq (Vr hG rfl (by trivial) (Vt ?_))
   refine ⟨?_, trivial⟩
   show (-1 : Int) = if a1 - (List.length a0 : Int) < 0 then -1 else szL (szF Y56) a0 (a1 - (List.length a0 : Int))
   rw [if_pos g0]
 · have g0 : ¬ a1 - (List.length a0 : Int) < 0 := by rw [← hw]; exact of_decide_eq_false h0
   refine Vs (Vq (Vq (Vr hG rfl (by trivial) ?_)))
   refine Vb ?_
   refine Vc.loopF [(1, false, .pure (.int .i64)), (5, false, .pure (.int .i64))] [0, 11] (fun v => szInv (szF Y56) a0 (a1 - (List.length a0 : Int)) v.1 v.2.1) (fun v => ((List.length a0 : Int) - v.2.1).toNat) rfl ?_ ?_
   · show szInv (szF Y56) a0 (a1 - (List.length a0 : Int)) (IntKind.i64.wrap (a1 - (List.length a0 : Int))) 0
     rw [hw]
     exact szStart (by omega) (by omega)
   rintro ⟨(l : Int), (i : Int), _⟩ hI
   have hI : szInv (szF Y56) a0 (a1 - (List.length a0 : Int)) l i := hI
   refine Vq (Vq (Vr hG rfl (by trivial) ?_))
   refine Vk rfl (fun h1 => ?_) (fun h1 => ?_)
   · have hl : i < (List.length a0 : Int) := of_decide_eq_true h1
     refine Vs (Vq (Vb (Vq ?_)))
     refine Vr hG rfl ?_ ?_
     · exact ⟨upRange hI.1 hl, ⟨hI.2.1, hI.2.2.1⟩⟩
     refine Vq (Vr hG rfl (by trivial) ?_)
     refine Vk rfl (fun h2 => ?_) (fun h2 => ?_)
     · have g2 : szF Y56 (List.getD a0 i.toNat (dflt Y56)) l < 0 := of_decide_eq_true h2
       refine Vq (Vr hG rfl (by trivial) (Vt ?_))
       refine ⟨?_, trivial⟩
       show (-1 : Int) = if a1 - (List.length a0 : Int) < 0 then -1 else szL (szF Y56) a0 (a1 - (List.length a0 : Int))
       rw [if_neg g0, (szStep (d := dflt Y56) hI (szF_le Y56) hl hb).1 g2]
     · have g2 : ¬ szF Y56 (List.getD a0 i.toNat (dflt Y56)) l < 0 := of_decide_eq_false h2
       refine Vs (Vr hG rfl (by trivial) ?_)
       refine ⟨rfl, ?_⟩
       exact ⟨(szStep (d := dflt Y56) hI (szF_le Y56) hl hb).2 g2, (upStep hI.1 hl hb).2.2⟩
   · have hl : ¬ i < (List.length a0 : Int) := of_decide_eq_false h1
     refine Vx (Vq (Vr hG rfl (by trivial) (Vt ?_)))
     refine ⟨?_, trivial⟩
     show l = if a1 - (List.length a0 : Int) < 0 then -1 else szL (szF Y56) a0 (a1 - (List.length a0 : Int))
     rw [if_neg g0, szEnd hI hl]
noncomputable def F102 : Fun := ⟨[.pair Y23 Y59, .int .i64], [.pure (.int .i64)], fun x => szPre x.1 x.2.1, fun x => (szF Y63 x.1 x.2.1, ())⟩
theorem F102_ok : Meets Tryz.prog 102 F102 := by
 refine mV (C := mkC 18 [4] [0,1,2,4,10,16] [⟨183, _, F183_ok⟩, ⟨184, _, F184_ok⟩]) (mkC_ok _ _ _ _) (fnOf_ok _) Tryz.func102 rfl rfl rfl (by decide) rfl ?_
 rintro ⟨a0, (a1 : Int), _⟩ hwf hpre ⟨P, C, B, X, w0, M0, pv⟩ hG rfl rfl
 show Vc _ _ [(0, ⟨0, 0, .c Z65 a0⟩), (1, ⟨0, 0, .c (.pure (.int .i64)) a1⟩)] _
 have q0 : (0 : Int) ≤ a1 ∧ a1 ≤ (big20 : Int) := hpre
 refine Vq (Vr hG rfl (by trivial) (Vq ?_))
 refine Vr hG rfl ?_ ?_
 · exact (show (0 : Int) ≤ a1 ∧ a1 ≤ (big20 : Int) from ⟨by omega, by omega⟩)
 refine Vq (Vq (Vr hG rfl (by trivial) ?_))
 refine Vk rfl (fun h0 => ?_) (fun h0 => ?_)
 · have m0 := szF_m1 Y23 rfl a0.1 (a1) (show (0 : Int) ≤ a1 from by omega)
   have g0 : szF Y23 a0.1 (a1) < 0 := of_decide_eq_true h0
   refine Vq (Vr hG rfl (by trivial) (Vt ?_))
   refine ⟨?_, trivial⟩
   show (-1 : Int) = szF Y63 a0 a1
   refine Eq.trans ?_ (szSpine _ _ (show szF Y63 a0 a1 = (if szF Y23 a0.1 (a1) < 0 then -1 else szF Y59 a0.2 (szF Y23 a0.1 (a1))) from rfl))
   rw [if_pos g0]
 · have m0 := szF_m1 Y23 rfl a0.1 (a1) (show (0 : Int) ≤ a1 from by omega)
   have g0 : ¬ szF Y23 a0.1 (a1) < 0 := of_decide_eq_false h0
   have k0 := szF_le Y23 a0.1 (a1)
   refine Vs (Vq ?_)
   refine Vr hG rfl ?_ ?_
   · exact (show (0 : Int) ≤ szF Y23 a0.1 (a1) ∧ szF Y23 a0.1 (a1) ≤ (big20 : Int) from ⟨by omega, by omega⟩)
   refine Vq (Vq (Vr hG rfl (by trivial) ?_))
   refine Vk rfl (fun h1 => ?_) (fun h1 => ?_)
   · have m1 := szF_m1 Y59 rfl a0.2 (szF Y23 a0.1 (a1)) (show (0 : Int) ≤ szF Y23 a0.1 (a1) from by omega)
     have g1 : szF Y59 a0.2 (szF Y23 a0.1 (a1)) < 0 := of_decide_eq_true h1
     refine Vq (Vr hG rfl (by trivial) (Vt ?_))
     refine ⟨?_, trivial⟩
     show (-1 : Int) = szF Y63 a0 a1
     refine Eq.trans ?_ (szSpine _ _ (show szF Y63 a0 a1 = (if szF Y23 a0.1 (a1) < 0 then -1 else szF Y59 a0.2 (szF Y23 a0.1 (a1))) from rfl))
     rw [if_neg g0]
     omega
   · have m1 := szF_m1 Y59 rfl a0.2 (szF Y23 a0.1 (a1)) (show (0 : Int) ≤ szF Y23 a0.1 (a1) from by omega)
     have g1 : ¬ szF Y59 a0.2 (szF Y23 a0.1 (a1)) < 0 := of_decide_eq_false h1
     have k1 := szF_le Y59 a0.2 (szF Y23 a0.1 (a1))
     refine Vs (Vq (Vr hG rfl (by trivial) (Vt ?_)))
     refine ⟨?_, trivial⟩
     show szF Y59 a0.2 (szF Y23 a0.1 (a1)) = szF Y63 a0 a1
     refine Eq.trans ?_ (szSpine _ _ (show szF Y63 a0 a1 = (if szF Y23 a0.1 (a1) < 0 then -1 else szF Y59 a0.2 (szF Y23 a0.1 (a1))) from rfl))
     rw [if_neg g0]
noncomputable def F47 : Fun := ⟨[.slice Y63, .int .i64], [.pure (.int .i64)], fun x => szPre x.1 x.2.1, fun x => (szF Y66 x.1 x.2.1, ())⟩
theorem F47_ok : Meets Tryz.prog 47 F47 := by
 refine mV (C := mkC 27 [4] [0,1,4,5,11,15,25] [⟨102, _, F102_ok⟩]) (mkC_ok _ _ _ _) (fnOf_ok _) Tryz.func47 rfl rfl rfl (by decide) rfl ?_
 rintro ⟨a0, (a1 : Int), _⟩ hwf hpre ⟨P, C, B, X, w0, M0, pv⟩ hG rfl rfl
 show Vc _ _ [(0, ⟨0, 0, .c Z68 a0⟩), (1, ⟨0, 0, .c (.pure (.int .i64)) a1⟩)] _
 have q0 : (0 : Int) ≤ a1 ∧ a1 ≤ (big20 : Int) := hpre
 have hb : List.length a0 ≤ bigLen := hwf.1.1
 have hw : IntKind.i64.wrap (a1 - (List.length a0 : Int)) = a1 - (List.length a0 : Int) := subW hpre hb
 refine Vq (Vr hG rfl (by trivial) (Vq (Vr hG rfl (by trivial) ?_)))
 refine Vq (Vq (Vr hG rfl (by trivial) ?_))
 refine Vk rfl (fun h0 => ?_) (fun h0 => ?_)
 · have g0 : a1 - (List.length a0 : Int) < 0 := by rw [← hw]; exact of_decide_eq_true h0
   refine Vq (Vr hG rfl (by trivial) (Vt ?_))
   refine ⟨?_, trivial⟩
   show (-1 : Int) = if a1 - (List.length a0 : Int) < 0 then -1 else szL (szF Y63) a0 (a1 - (List.length a0 : Int))
   rw [if_pos g0]
 · have g0 : ¬ a1 - (List.length a0 : Int) < 0 := by rw [← hw]; exact of_decide_eq_false h0
   refine Vs (Vq (Vq (Vr hG rfl (by trivial) ?_)))
   refine Vb ?_
   refine Vc.loopF [(1, false, .pure (.int .i64)), (5, false, .pure (.int .i64))] [0, 11] (fun v => szInv (szF Y63) a0 (a1 - (List.length a0 : Int)) v.1 v.2.1) (fun v => ((List.length a0 : Int) - v.2.1).toNat) rfl ?_ ?_
   · show szInv (szF Y63) a0 (a1 - (List.length a0 : Int)) (IntKind.i64.wrap (a1 - (List.length a0 : Int))) 0
     rw [hw]
     exact szStart (by omega) (by omega)
   rintro ⟨(l : Int), (i : Int), _⟩ hI
   have hI : szInv (szF Y63) a0 (a1 - (List.length a0 : Int)) l i := hI
   refine Vq (Vq (Vr hG rfl (by trivial) ?_))
   refine Vk rfl (fun h1 => ?_) (fun h1 => ?_)
   · have hl : i < (List.length a0 : Int) := of_decide_eq_true h1
     refine Vs (Vq (Vb (Vq ?_)))
     refine Vr hG rfl ?_ ?_
     · exact ⟨upRange hI.1 hl, ⟨hI.2.1, hI.2.2.1⟩⟩
     refine Vq (Vr hG rfl (by trivial) ?_)
     refine Vk rfl (fun h2 => ?_) (fun h2 => ?_)
     · have g2 : szF Y63 (List.getD a0 i.toNat (dflt Y63)) l < 0 := of_decide_eq_true h2
       refine Vq (Vr hG rfl (by trivial) (Vt ?_))
       refine ⟨?_, trivial⟩
       show (-1 : Int) = if a1 - (List.length a0 : Int) < 0 then -1 else szL (szF Y63) a0 (a1 - (List.length a0 : Int))
       rw [if_neg g0, (szStep (d := dflt Y63) hI (szF_le Y63) hl hb).1 g2]
     · have g2 : ¬ szF Y63 (List.getD a0 i.toNat (dflt Y63)) l < 0 := of_decide_eq_false h2
       refine Vs (Vr hG rfl (by trivial) ?_)
       refine ⟨rfl, ?_⟩
       exact ⟨(szStep (d := dflt Y63) hI (szF_le Y63) hl hb).2 g2, (upStep hI.1 hl hb).2.2⟩
   · have hl : ¬ i < (List.length a0 : Int) := of_decide_eq_false h1
     refine Vx (Vq (Vr hG rfl (by trivial) (Vt ?_)))
     refine ⟨?_, trivial⟩
     show l = if a1 - (List.length a0 : Int) < 0 then -1 else szL (szF Y63) a0 (a1 - (List.length a0 : Int))
     rw [if_neg g0, szEnd hI hl]
noncomputable def F48 : Fun := ⟨[.slice Y34, .int .i64], [.pure (.int .i64)], fun x => szPre x.1 x.2.1, fun x => (szF Y37 x.1 x.2.1, ())⟩
theorem F48_ok : Meets Tryz.prog 48 F48 := by
 refine mV (C := mkC 27 [4] [0,1,4,5,11,15,25] [⟨117, _, F117_ok⟩]) (mkC_ok _ _ _ _) (fnOf_ok _) Tryz.func48 rfl rfl rfl (by decide) rfl ?_
 rintro ⟨a0, (a1 : Int), _⟩ hwf hpre ⟨P, C, B, X, w0, M0, pv⟩ hG rfl rfl
 show Vc _ _ [(0, ⟨0, 0, .c Z40 a0⟩), (1, ⟨0, 0, .c (.pure (.int .i64)) a1⟩)] _
 have q0 : (0 : Int) ≤ a1 ∧ a1 ≤ (big20 : Int) := hpre
 have hb : List.length a0 ≤ bigLen := hwf.1.1
 have hw : IntKind.i64.wrap (a1 - (List.length a0 : Int)) = a1 - (List.length a0 : Int) := subW hpre hb
 refine Vq (Vr hG rfl (by trivial) (Vq (Vr hG rfl (by trivial) ?_)))
 refine Vq (Vq (Vr hG rfl (by trivial) ?_))
 refine Vk rfl (fun h0 => ?_) (fun h0 => ?_)
 · have g0 : a1 - (List.length a0 : Int) < 0 := by rw [← hw]; exact of_decide_eq_true h0
   refine Vq (Vr hG rfl (by trivial) (Vt ?_))
   refine ⟨?_, trivial⟩
   show (-1 : Int) = if a1 - (List.length a0 : Int) < 0 then -1 else szL (szF Y34) a0 (a1 - (List.length a0 : Int))
   rw [if_pos g0]
 · have g0 : ¬ a1 - (List.length a0 : Int) < 0 := by rw [← hw]; exact of_decide_eq_false h0
   refine Vs (Vq (Vq (Vr hG rfl (by trivial) ?_)))
   refine Vb ?_
   refine Vc.loopF [(1, false, .pure (.int .i64)), (5, false, .pure (.int .i64))] [0, 11] (fun v => szInv (szF Y34) a0 (a1 - (List.length a0 : Int)) v.1 v.2.1) (fun v => ((List.length a0 : Int) - v.2.1).toNat) rfl ?_ ?_
   · show szInv (szF Y34) a0 (a1 - (List.length a0 : Int)) (IntKind.i64.wrap (a1 - (List.length a0 : Int))) 0
     rw [hw]
     exact szStart (by omega) (by omega)
   rintro ⟨(l : Int), (i : Int), _⟩ hI
   have hI : szInv (szF Y34) a0 (a1 - (List.length a0 : Int)) l i := hI
   refine Vq (Vq (Vr hG rfl (by trivial) ?_))
   refine Vk rfl (fun h1 => ?_) (fun h1 => ?_)
   · have hl : i < (List.length a0 : Int) := of_decide_eq_true h1
     refine Vs (Vq (Vb (Vq ?_)))
     refine Vr hG rfl ?_ ?_
     · exact ⟨upRange hI.1 hl, ⟨hI.2.1, hI.2.2.1⟩⟩
     refine Vq (Vr hG rfl (by trivial) ?_)
     refine Vk rfl (fun h2 => ?_) (fun h2 => ?_)
     · have g2 : szF Y34 (List.getD a0 i.toNat (dflt Y34)) l < 0 := of_decide_eq_true h2
       refine Vq (Vr hG rfl (by trivial) (Vt ?_))
       refine ⟨?_, trivial⟩
       show (-1 : Int) = if a1 - (List.length a0 : Int) < 0 then -1 else szL (szF Y34) a0 (a1 - (List.length a0 : Int))
       rw [if_neg g0, (szStep (d := dflt Y34) hI (szF_le Y34) hl hb).1 g2]
     · have g2 : ¬ szF Y34 (List.getD a0 i.toNat (dflt Y34)) l < 0 := of_decide_eq_false h2
       refine Vs (Vr hG rfl (by trivial) ?_)
       refine ⟨rfl, ?_⟩
       exact ⟨(szStep (d := dflt Y34) hI (szF_le Y34) hl hb).2 g2, (upStep hI.1 hl hb).2.2⟩
   · have hl : ¬ i < (List.length a0 : Int) := of_decide_eq_false h1
     refine Vx (Vq (Vr hG rfl (by trivial) (Vt ?_)))
     refine ⟨?_, trivial⟩
     show l = if a1 - (List.length a0 : Int) < 0 then -1 else szL (szF Y34) a0 (a1 - (List.length a0 : Int))
     rw [if_neg g0, szEnd hI hl]
noncomputable def F11 : Fun := ⟨[.pair Y66 Y37, .int .i64], [.pure (.int .i64)], fun x => szPre x.1 x.2.1, fun x => (szF Y71 x.1 x.2.1, ())⟩
theorem F11_ok : Meets Tryz.prog 11 F11 := by
 refine mV (C := mkC 18 [4] [0,1,2,4,10,16] [⟨47, _, F47_ok⟩, ⟨48, _, F48_ok⟩]) (mkC_ok _ _ _ _) (fnOf_ok _) Tryz.func11 rfl rfl rfl (by decide) rfl ?_
 rintro ⟨a0, (a1 : Int), _⟩ hwf hpre ⟨P, C, B, X, w0, M0, pv⟩ hG rfl rfl
 show Vc _ _ [(0, ⟨0, 0, .c Z72 a0⟩), (1, ⟨0, 0, .c (.pure (.int .i64)) a1⟩)] _
 have q0 : (0 : Int) ≤ a1 ∧ a1 ≤ (big20 : Int) := hpre
 refine Vq (Vr hG rfl (by trivial) (Vq ?_))
 refine Vr hG rfl ?_ ?_
 · exact (show (0 : Int) ≤ a1 ∧ a1 ≤ (big20 : Int) from ⟨by omega, by omega⟩)
 refine Vq (Vq (Vr hG rfl (by trivial) ?_))
 refine Vk rfl (fun h0 => ?_) (fun h0 => ?_)
 · have m0 := szF_m1 Y66 rfl a0.1 (a1) (show (0 : Int) ≤ a1 from by omega)
   have g0 : szF Y66 a0.1 (a1) < 0 := of_decide_eq_true h0
   refine Vq (Vr hG rfl (by trivial) (Vt ?_))
   refine ⟨?_, trivial⟩
   show (-1 : Int) = szF Y71 a0 a1
   refine Eq.trans ?_ (szSpine _ _ (show szF Y71 a0 a1 = (if szF Y66 a0.1 (a1) < 0 then -1 else szF Y37 a0.2 (szF Y66 a0.1 (a1))) from rfl))
   rw [if_pos g0]
 · have m0 := szF_m1 Y66 rfl a0.1 (a1) (show (0 : Int) ≤ a1 from by omega)
   have g0 : ¬ szF Y66 a0.1 (a1) < 0 := of_decide_eq_false h0
   have k0 := szF_le Y66 a0.1 (a1)
   refine Vs (Vq ?_)
   refine Vr hG rfl ?_ ?_
   · exact (show (0 : Int) ≤ szF Y66 a0.1 (a1) ∧ szF Y66 a0.1 (a1) ≤ (big20 : Int) from ⟨by omega, by omega⟩)
   refine Vq (Vq (Vr hG rfl (by trivial) ?_))
   refine Vk rfl (fun h1 => ?_) (fun h1 => ?_)
   · have m1 := szF_m1 Y37 rfl a0.2 (szF Y66 a0.1 (a1)) (show (0 : Int) ≤ szF Y66 a0.1 (a1) from by omega)
     have g1 : szF Y37 a0.2 (szF Y66 a0.1 (a1)) < 0 := of_decide_eq_true h1
     refine Vq (Vr hG rfl (by trivial) (Vt ?_))
     refine ⟨?_, trivial⟩
     show (-1 : Int) = szF Y71 a0 a1
     refine Eq.trans ?_ (szSpine _ _ (show szF Y71 a0 a1 = (if szF Y66 a0.1 (a1) < 0 then -1 else szF Y37 a0.2 (szF Y66 a0.1 (a1))) from rfl))
     rw [if_neg g0]
     omega
   · have m1 := szF_m1 Y37 rfl a0.2 (szF Y66 a0.1 (a1)) (show (0 : Int) ≤ szF Y66 a0.1 (a1) from by omega)
     have g1 : ¬ szF Y37 a0.2 (szF Y66 a0.1 (a1)) < 0 := of_decide_eq_false h1
     have k1 := szF_le Y37 a0.2 (szF Y66 a0.1 (a1))
     refine Vs (Vq (Vr hG rfl (by trivial) (Vt ?_)))
     refine ⟨?_, trivial⟩
     show szF Y37 a0.2 (szF Y66 a0.1 (a1)) = szF Y71 a0 a1
     refine Eq.trans ?_ (szSpine _ _ (show szF Y71 a0 a1 = (if szF Y66 a0.1 (a1) < 0 then -1 else szF Y37 a0.2 (szF Y66 a0.1 (a1))) from rfl))
     rw [if_neg g0]
noncomputable def F95 : Fun := ⟨[.slice (.str), .int .i64], [.pure (.int .i64)], fun x => szPre x.1 x.2.1, fun x => (szF (.slice (.str)) x.1 x.2.1, ())⟩
theorem F95_ok : Meets Tryz.prog 95 F95 := by
 refine mV (C := mkC 28 [4] [0,1,4,5,11,15,26] []) (mkC_ok _ _ _ _) (fnOf_ok _) Tryz.func95 rfl rfl rfl (by decide) rfl ?_
 rintro ⟨a0, (a1 : Int), _⟩ hwf hpre ⟨P, C, B, X, w0, M0, pv⟩ hG rfl rfl
 show Vc _ _ [(0, ⟨0, 0, .c (.pure (.slice (.str))) a0⟩), (1, ⟨0, 0, .c (.pure (.int .i64)) a1⟩)] _
 have q0 : (0 : Int) ≤ a1 ∧ a1 ≤ (big20 : Int) := hpre
 have hb : List.length a0 ≤ bigLen := hwf.1.1
 have hw : IntKind.i64.wrap (a1 - (List.length a0 : Int)) = a1 - (List.length a0 : Int) := subW hpre hb
 refine Vq (Vr hG rfl (by trivial) (Vq (Vr hG rfl (by trivial) ?_)))
 refine Vq (Vq (Vr hG rfl (by trivial) ?_))
 refine Vk rfl (fun h0 => ?_) (fun h0 => ?_)
 · have g0 : a1 - (List.length a0 : Int) < 0 := by rw [← hw]; exact of_decide_eq_true h0
   refine Vq (Vr hG rfl (by trivial) (Vt ?_))
   refine ⟨?_, trivial⟩
   show (-1 : Int) = if a1 - (List.length a0 : Int) < 0 then -1 else szL (szF (.str)) a0 (a1 - (List.length a0 : Int))
   rw [if_pos g0]
 · have g0 : ¬ a1 - (List.length a0 : Int) < 0 := by rw [← hw]; exact of_decide_eq_false h0
   refine Vs (Vq (Vq (Vr hG rfl (by trivial) ?_)))
   refine Vb ?_
   refine Vc.loopF [(1, false, .pure (.int .i64)), (5, false, .pure (.int .i64))] [0, 11] (fun v => szInv (szF (.str)) a0 (a1 - (List.length a0 : Int)) v.1 v.2.1) (fun v => ((List.length a0 : Int) - v.2.1).toNat) rfl ?_ ?_
   · show szInv (szF (.str)) a0 (a1 - (List.length a0 : Int)) (IntKind.i64.wrap (a1 - (List.length a0 : Int))) 0
     rw [hw]
     exact szStart (by omega) (by omega)
   rintro ⟨(l : Int), (i : Int), _⟩ hI
   have hI : szInv (szF (.str)) a0 (a1 - (List.length a0 : Int)) l i := hI
   refine Vq (Vq (Vr hG rfl (by trivial) ?_))
   refine Vk rfl (fun h1 => ?_) (fun h1 => ?_)
   · have hl : i < (List.length a0 : Int) := of_decide_eq_true h1
     refine Vs (Vq (Vb (Vq ?_)))
     refine Vr hG rfl ?_ ?_
     · exact upRange hI.1 hl
     refine Vq (Vr hG rfl (by trivial) ?_)
     refine Vk rfl (fun h2 => ?_) (fun h2 => ?_)
     · have hs : List.length (List.getD a0 i.toNat (dflt .str)) ≤ bigLen := hwf.1.2 _ (upElem hI.1 hl)
       have hw2 : IntKind.i64.wrap (l - (List.length (List.getD a0 i.toNat (dflt .str)) : Int)) = l - (List.length (List.getD a0 i.toNat (dflt .str)) : Int) := subW ⟨hI.2.1, hI.2.2.1⟩ hs
       have g2 : szF (.str) (List.getD a0 i.toNat (dflt (.str))) l < 0 := by show l - _ < 0; rw [← hw2]; exact of_decide_eq_true h2
       refine Vq (Vr hG rfl (by trivial) (Vt ?_))
       refine ⟨?_, trivial⟩
       show (-1 : Int) = if a1 - (List.length a0 : Int) < 0 then -1 else szL (szF (.str)) a0 (a1 - (List.length a0 : Int))
       rw [if_neg g0, (szStep (d := dflt (.str)) hI (szF_le (.str)) hl hb).1 g2]
     · have hs : List.length (List.getD a0 i.toNat (dflt .str)) ≤ bigLen := hwf.1.2 _ (upElem hI.1 hl)
       have hw2 : IntKind.i64.wrap (l - (List.length (List.getD a0 i.toNat (dflt .str)) : Int)) = l - (List.length (List.getD a0 i.toNat (dflt .str)) : Int) := subW ⟨hI.2.1, hI.2.2.1⟩ hs
       have g2 : ¬ szF (.str) (List.getD a0 i.toNat (dflt (.str))) l < 0 := by show ¬ l - _ < 0; rw [← hw2]; exact of_decide_eq_false h2
       refine Vs (Vr hG rfl (by trivial) ?_)
       refine ⟨rfl, ?_⟩
       show szInv (szF (.str)) a0 (a1 - (List.length a0 : Int)) (IntKind.i64.wrap (l - (List.length (List.getD a0 i.toNat (dflt .str)) : Int))) (IntKind.i64.wrap (i + 1)) ∧ _
       rw [hw2]
       exact ⟨(szStep (d := dflt (.str)) hI (szF_le (.str)) hl hb).2 g2, (upStep hI.1 hl hb).2.2⟩
   · have hl : ¬ i < (List.length a0 : Int) := of_decide_eq_false h1
     refine Vx (Vq (Vr hG rfl (by trivial) (Vt ?_)))
     refine ⟨?_, trivial⟩
     show l = if a1 - (List.length a0 : Int) < 0 then -1 else szL (szF (.str)) a0 (a1 - (List.length a0 : Int))
     rw [if_neg g0, szEnd hI hl]
noncomputable def F23 : Fun := ⟨[.pair (.int .i64) Y13, .int .i64], [.pure (.int .i64)], fun x => szPre x.1 x.2.1, fun x => (szF Y20 x.1 x.2.1, ())⟩
theorem F23_ok : Meets Tryz.prog 23 F23 := by
 refine mV (C := mkC 18 [4] [0,1,2,4,10,16] [⟨95, _, F95_ok⟩, ⟨49, _, F49_ok⟩]) (mkC_ok _ _ _ _) (fnOf_ok _) Tryz.func23 rfl rfl rfl (by decide) rfl ?_
 rintro ⟨a0, (a1 : Int), _⟩ hwf hpre ⟨P, C, B, X, w0, M0, pv⟩ hG rfl rfl
 show Vc _ _ [(0, ⟨0, 0, .c Z25 a0⟩), (1, ⟨0, 0, .c (.pure (.int .i64)) a1⟩)] _
 have q0 : (0 : Int) ≤ a1 ∧ a1 ≤ (big20 : Int) := hpre
 refine Vq (Vr hG rfl (by trivial) (Vq ?_))
 refine Vr hG rfl ?_ ?_
 · exact (show (0 : Int) ≤ a1 ∧ a1 ≤ (big20 : Int) from ⟨by omega, by omega⟩)
 refine Vq (Vq (Vr hG rfl (by trivial) ?_))
 refine Vk rfl (fun h0 => ?_) (fun h0 => ?_)
 · have m0 := szF_m1 (.slice (.str)) rfl a0.2.1 (a1) (show (0 : Int) ≤ a1 from by omega)
   have g0 : szF (.slice (.str)) a0.2.1 (a1) < 0 := of_decide_eq_true h0
   refine Vq (Vr hG rfl (by trivial) (Vt ?_))
   refine ⟨?_, trivial⟩
   show (-1 : Int) = szF Y20 a0 a1
   refine Eq.trans ?_ (szSpine _ _ (show szF Y20 a0 a1 = (if szF (.int .i64) a0.1 (a1) < 0 then -1 else (if szF (.slice (.str)) a0.2.1 (szF (.int .i64) a0.1 (a1)) < 0 then -1 else szF (.slice (.int .i64)) a0.2.2 (szF (.slice (.str)) a0.2.1 (szF (.int .i64) a0.1 (a1))))) from rfl))
   rw [szF_id (.int .i64) rfl a0.1 (a1) (show (0 : Int) ≤ a1 from by omega)]
   rw [if_neg (show ¬ a1 < 0 from by omega)]
   rw [if_pos g0]
 · have m0 := szF_m1 (.slice (.str)) rfl a0.2.1 (a1) (show (0 : Int) ≤ a1 from by omega)
   have g0 : ¬ szF (.slice (.str)) a0.2.1 (a1) < 0 := of_decide_eq_false h0
   have k0 := szF_le (.slice (.str)) a0.2.1 (a1)
   refine Vs (Vq ?_)
   refine Vr hG rfl ?_ ?_
   · exact (show (0 : Int) ≤ szF (.slice (.str)) a0.2.1 (a1) ∧ szF (.slice (.str)) a0.2.1 (a1) ≤ (big20 : Int) from ⟨by omega, by omega⟩)
   refine Vq (Vq (Vr hG rfl (by trivial) ?_))
   refine Vk rfl (fun h1 => ?_) (fun h1 => ?_)
   · have m1 := szF_m1 (.slice (.int .i64)) rfl a0.2.2 (szF (.slice (.str)) a0.2.1 (a1)) (show (0 : Int) ≤ szF (.slice (.str)) a0.2.1 (a1) from by omega)
     have g1 : szF (.slice (.int .i64)) a0.2.2 (szF (.slice (.str)) a0.2.1 (a1)) < 0 := of_decide_eq_true h1
     refine Vq (Vr hG rfl (by trivial) (Vt ?_))
     refine ⟨?_, trivial⟩
     show (-1 : Int) = szF Y20 a0 a1
     refine Eq.trans ?_ (szSpine _ _ (show szF Y20 a0 a1 = (if szF (.int .i64) a0.1 (a1) < 0 then -1 else (if szF (.slice (.str)) a0.2.1 (szF (.int .i64) a0.1 (a1)) < 0 then -1 else szF (.slice (.int .i64)) a0.2.2 (szF (.slice (.str)) a0.2.1 (szF (.int .i64) a0.1 (a1))))) from rfl))
     rw [szF_id (.int .i64) rfl a0.1 (a1) (show (0 : Int) ≤ a1 from by omega)]
     rw [if_neg (show ¬ a1 < 0 from by omega)]
     rw [if_neg g0]
     omega
   · have m1 := szF_m1 (.slice (.int .i64)) rfl a0.2.2 (szF (.slice (.str)) a0.2.1 (a1)) (show (0 : Int) ≤ szF (.slice (.str)) a0.2.1 (a1) from by omega)
     have g1 : ¬ szF (.slice (.int .i64)) a0.2.2 (szF (.slice (.str)) a0.2.1 (a1)) < 0 := of_decide_eq_false h1
     have k1 := szF_le (.slice (.int .i64)) a0.2.2 (szF (.slice (.str)) a0.2.1 (a1))
     refine Vs (Vq (Vr hG rfl (by trivial) (Vt ?_)))
     refine ⟨?_, trivial⟩
     show szF (.slice (.int .i64)) a0.2.2 (szF (.slice (.str)) a0.2.1 (a1)) = szF Y20 a0 a1
     refine Eq.trans ?_ (szSpine _ _ (show szF Y20 a0 a1 = (if szF (.int .i64) a0.1 (a1) < 0 then -1 else (if szF (.slice (.str)) a0.2.1 (szF (.int .i64) a0.1 (a1)) < 0 then -1 else szF (.slice (.int .i64)) a0.2.2 (szF (.slice (.str)) a0.2.1 (szF (.int .i64) a0.1 (a1))))) from rfl))
     rw [szF_id (.int .i64) rfl a0.1 (a1) (show (0 : Int) ≤ a1 from by omega)]
     rw [if_neg (show ¬ a1 < 0 from by omega)]
     rw [if_neg g0]
noncomputable def F140 : Fun := ⟨[.pair (.int .i64) Y24], [.pure Y32], fun _ => True, fun x => (id x.1, ())⟩
theorem F140_ok : Meets Tryz.prog 140 F140 := by
 refine mV (C := mkC 20 [2] [0,1,2,3] []) (mkC_ok _ _ _ _) (fnOf_ok _) Tryz.func140 rfl rfl rfl (by decide) rfl ?_
 rintro ⟨a0, _⟩ hwf hpre ⟨P, C, B, X, w0, M0, pv⟩ hG rfl rfl
 show Vc _ _ [(0, ⟨0, 0, .c Z33 a0⟩)] _
 refine Vq (Vr hG rfl (by trivial) (Vq (Vr hG rfl (by trivial) ?_)))
 refine Vq (Vr hG rfl (by trivial) (Vq (Vr hG rfl (by trivial) ?_)))
 refine Vq (Vr hG rfl (by trivial) (Vq (Vr hG rfl (by trivial) ?_)))
 refine Vq (Vr hG rfl (by trivial) (Vq (Vr hG rfl (by trivial) ?_)))
 refine Vt ?_
 refine ⟨?_, trivial⟩
 all_goals exact rfl
noncomputable def F64 : Fun := ⟨[.slice Y32], [.own Z33], fun x => Sm big20 Y34 x.1, fun x => (id x.1, ())⟩
theorem F64_ok : Meets Tryz.prog 64 F64 := by
 refine mV (C := mkC 23 [2] [0,2,3,4,11] [⟨140, _, F140_ok⟩]) (mkC_ok _ _ _ _) (fnOf_ok _) Tryz.func64 rfl rfl rfl (by decide) rfl ?_
 rintro ⟨a0, _⟩ hwf hpre ⟨P, C, B, X, w0, M0, pv⟩ hG rfl rfl
 show Vc _ _ [(0, ⟨0, 0, .c Z36 a0⟩)] _
 have hp : _ ∧ _ := hpre
 have hb : List.length a0 ≤ bigLen := hwf.1.1
 refine Vq (Vr hG rfl (by trivial) (Vq ?_))
 refine Vr hG rfl ?_ ?_
 · exact ⟨rfl, Int.natCast_nonneg _, mkSmall hp.1⟩
 refine Vq (Vq (Vr hG rfl (by trivial) (Vb ?_)))
 refine Vc.loopF [(3, false, .own Z33), (4, false, .pure (.int .i64))] [0, 2] (fun v => toInv a0 (dflt Y32) v.1 v.2.1) (fun v => ((List.length a0 : Int) - v.2.1).toNat) rfl ?_ ?_
 · exact toStart
 rintro ⟨ys, (i : Int), _⟩ hI
 have hI : toInv a0 (dflt Y32) ys i := hI
 refine Vq (Vq (Vr hG rfl (by trivial) ?_))
 refine Vk rfl (fun h0 => ?_) (fun h0 => ?_)
 · have hl : i < (List.length a0 : Int) := of_decide_eq_true h0
   refine Vs (Vq (Vb ?_))
   refine Vr hG rfl ?_ ?_
   · exact ⟨(toRange hI hl).1, trivial, (toRange hI hl).2⟩
   refine Vr hG rfl (by trivial) ?_
   refine ⟨rfl, ?_⟩
   exact ⟨toStep hI hl hb, toMu hI hl hb⟩
 · have hl : ¬ i < (List.length a0 : Int) := of_decide_eq_false h0
   refine Vx (Vq (Vr hG rfl (by trivial) (Vt ?_)))
   refine ⟨?_, trivial⟩
   exact toEnd hI hl
noncomputable def F141 : Fun := ⟨[.pair (.int .i64) Y4], [.pure Y15], fun _ => True, fun x => (id x.1, ())⟩
theorem F141_ok : Meets Tryz.prog 141 F141 := by
 refine mV (C := mkC 14 [2] [0,1,2,3] []) (mkC_ok _ _ _ _) (fnOf_ok _) Tryz.func141 rfl rfl rfl (by decide) rfl ?_
 rintro ⟨a0, _⟩ hwf hpre ⟨P, C, B, X, w0, M0, pv⟩ hG rfl rfl
 show Vc _ _ [(0, ⟨0, 0, .c Z17 a0⟩)] _
 refine Vq (Vr hG rfl (by trivial) (Vq (Vr hG rfl (by trivial) ?_)))
 refine Vq (Vr hG rfl (by trivial) (Vq (Vr hG rfl (by trivial) ?_)))
 refine Vq (Vr hG rfl (by trivial) (Vq (Vr hG rfl (by trivial) ?_)))
 refine Vt ?_
 refine ⟨?_, trivial⟩
 all_goals exact rfl
noncomputable def F65 : Fun := ⟨[.slice Y15], [.own Z17], fun x => Sm big20 Y18 x.1, fun x => (id x.1, ())⟩
theorem F65_ok : Meets Tryz.prog 65 F65 := by
 refine mV (C := mkC 23 [2] [0,2,3,4,11] [⟨141, _, F141_ok⟩]) (mkC_ok _ _ _ _) (fnOf_ok _) Tryz.func65 rfl rfl rfl (by decide) rfl ?_
 rintro ⟨a0, _⟩ hwf hpre ⟨P, C, B, X, w0, M0, pv⟩ hG rfl rfl
 show Vc _ _ [(0, ⟨0, 0, .c Z21 a0⟩)] _
 have hp : _ ∧ _ := hpre
 have hb : List.length a0 ≤ bigLen := hwf.1.1
 refine Vq (Vr hG rfl (by trivial) (Vq ?_))
 refine Vr hG rfl ?_ ?_
 · exact ⟨rfl, Int.natCast_nonneg _, mkSmall hp.1⟩
 refine Vq (Vq (Vr hG rfl (by trivial) (Vb ?_)))
 refine Vc.loopF [(3, false, .own Z17), (4, false, .pure (.int .i64))] [0, 2] (fun v => toInv a0 (dflt Y15) v.1 v.2.1) (fun v => ((List.length a0 : Int) - v.2.1).toNat) rfl ?_ ?_
 · exact toStart
 rintro ⟨ys, (i : Int), _⟩ hI
 have hI : toInv a0 (dflt Y15) ys i := hI
 refine Vq (Vq (Vr hG rfl (by trivial) ?_))
 refine Vk rfl (fun h0 => ?_) (fun h0 => ?_)
 · have hl : i < (List.length a0 : Int) := of_decide_eq_true h0
   refine Vs (Vq (Vb ?_))
   refine Vr hG rfl ?_ ?_
   · exact ⟨(toRange hI hl).1, trivial, (toRange hI hl).2⟩
   refine Vr hG rfl (by trivial) ?_
   refine ⟨rfl, ?_⟩
   exact ⟨toStep hI hl hb, toMu hI hl hb⟩
 · have hl : ¬ i < (List.length a0 : Int) := of_decide_eq_false h0
   refine Vx (Vq (Vr hG rfl (by trivial) (Vt ?_)))
   refine ⟨?_, trivial⟩
   exact toEnd hI hl
noncomputable def F142 : Fun := ⟨[.pair (.int .i64) Y15], [.pure Y24], fun _ => True, fun x => (id x.1, ())⟩
theorem F142_ok : Meets Tryz.prog 142 F142 := by
 refine mV (C := mkC 17 [2] [0,1,2,3] []) (mkC_ok _ _ _ _) (fnOf_ok _) Tryz.func142 rfl rfl rfl (by decide) rfl ?_
 rintro ⟨a0, _⟩ hwf hpre ⟨P, C, B, X, w0, M0, pv⟩ hG rfl rfl
 show Vc _ _ [(0, ⟨0, 0, .c Z27 a0⟩)] _
 refine Vq (Vr hG rfl (by trivial) (Vq (Vr hG rfl (by trivial) ?_)))
 refine Vq (Vr hG rfl (by trivial) (Vq (Vr hG rfl (by trivial) ?_)))
 refine Vq (Vr hG rfl (by trivial) (Vq (Vr hG rfl (by trivial) ?_)))
 refine Vq (Vr hG rfl (by trivial) (Vt ?_))
 refine ⟨?_, trivial⟩
 all_goals exact rfl
noncomputable def F66 : Fun := ⟨[.slice Y24], [.own Z27], fun x => Sm big20 Y28 x.1, fun x => (id x.1, ())⟩
theorem F66_ok : Meets Tryz.prog 66 F66 := by
 refine mV (C := mkC 23 [2] [0,2,3,4,11] [⟨142, _, F142_ok⟩]) (mkC_ok _ _ _ _) (fnOf_ok _) Tryz.func66 rfl rfl rfl (by decide) rfl ?_
 rintro ⟨a0, _⟩ hwf hpre ⟨P, C, B, X, w0, M0, pv⟩ hG rfl rfl
 show Vc _ _ [(0, ⟨0, 0, .c Z30 a0⟩)] _
 have hp : _ ∧ _ := hpre
 have hb : List.length a0 ≤ bigLen := hwf.1.1
 refine Vq (Vr hG rfl (by trivial) (Vq ?_))
 refine Vr hG rfl ?_ ?_
 · exact ⟨rfl, Int.natCast_nonneg _, mkSmall hp.1⟩
 refine Vq (Vq (Vr hG rfl (by trivial) (Vb ?_)))
 refine Vc.loopF [(3, false, .own Z27), (4, false, .pure (.int .i64))] [0, 2] (fun v => toInv a0 (dflt Y24) v.1 v.2.1) (fun v => ((List.length a0 : Int) - v.2.1).toNat) rfl ?_ ?_
 · exact toStart
 rintro ⟨ys, (i : Int), _⟩ hI
 have hI : toInv a0 (dflt Y24) ys i := hI
 refine Vq (Vq (Vr hG rfl (by trivial) ?_))
 refine Vk rfl (fun h0 => ?_) (fun h0 => ?_)
 · have hl : i < (List.length a0 : Int) := of_decide_eq_true h0
   refine Vs (Vq (Vb ?_))
   refine Vr hG rfl ?_ ?_
   · exact ⟨(toRange hI hl).1, trivial, (toRange hI hl).2⟩
   refine Vr hG rfl (by trivial) ?_
   refine ⟨rfl, ?_⟩
   exact ⟨toStep hI hl hb, toMu hI hl hb⟩
 · have hl : ¬ i < (List.length a0 : Int) := of_decide_eq_false h0
   refine Vx (Vq (Vr hG rfl (by trivial) (Vt ?_)))
   refine ⟨?_, trivial⟩
   exact toEnd hI hl
noncomputable def F14 : Fun := ⟨[.pair Y34 Y55], [.pair Z35 (.pair (.own Z17) (.pair (.own Z27) Z8))], fun x => Sm big20 Y64 x.1, fun x => (id x.1, ())⟩
theorem F14_ok : Meets Tryz.prog 14 F14 := by
 refine mV (C := mkC 23 [2] [0,1,2,3] [⟨64, _, F64_ok⟩, ⟨65, _, F65_ok⟩, ⟨66, _, F66_ok⟩]) (mkC_ok _ _ _ _) (fnOf_ok _) Tryz.func14 rfl rfl rfl (by decide) rfl ?_
 rintro ⟨a0, _⟩ hwf hpre ⟨P, C, B, X, w0, M0, pv⟩ hG rfl rfl
 show Vc _ _ [(0, ⟨0, 0, .c Z67 a0⟩)] _
 have hp0 : _ ∧ _ := hpre
 have hp1 : _ ∧ _ := hp0.2
 have hp2 : _ ∧ _ := hp1.2
 have hp3 : _ ∧ _ := hp2.2
 refine Vq (Vr hG rfl (by trivial) (Vq (Vr hG rfl (by trivial) ?_)))
 refine Vq ?_
 refine Vr hG rfl ?_ ?_
 · exact hp0.1
 refine Vq ?_
 refine Vr hG rfl ?_ ?_
 · exact hp1.1
 refine Vq ?_
 refine Vr hG rfl ?_ ?_
 · exact hp2.1
 refine Vq (Vr hG rfl (by trivial) (Vq (Vr hG rfl (by trivial) ?_)))
 refine Vq (Vr hG rfl (by trivial) (Vt ?_))
 refine ⟨?_, trivial⟩
 all_goals exact rfl
noncomputable def F69 : Fun := ⟨[.slice (.int .i64)], [.own (.pure (.int .i64))], fun x => Sm big20 (.slice (.int .i64)) x.1, fun x => (id x.1, ())⟩
theorem F69_ok : Meets Tryz.prog 69 F69 := by
 refine mV (C := mkC 22 [2] [0,2,3,4,11] []) (mkC_ok _ _ _ _) (fnOf_ok _) Tryz.func69 rfl rfl rfl (by decide) rfl ?_
 rintro ⟨a0, _⟩ hwf hpre ⟨P, C, B, X, w0, M0, pv⟩ hG rfl rfl
 show Vc _ _ [(0, ⟨0, 0, .c Z2 a0⟩)] _
 have hp : _ ∧ _ := hpre
 have hb : List.length a0 ≤ bigLen := hwf.1.1
 refine Vq (Vr hG rfl (by trivial) (Vq ?_))
 refine Vr hG rfl ?_ ?_
 · exact ⟨rfl, Int.natCast_nonneg _, mkSmall hp.1⟩
 refine Vq (Vq (Vr hG rfl (by trivial) (Vb ?_)))
 refine Vc.loopF [(3, false, .own (.pure (.int .i64))), (4, false, .pure (.int .i64))] [0, 2] (fun v => toInv a0 (dflt (.int .i64)) v.1 v.2.1) (fun v => ((List.length a0 : Int) - v.2.1).toNat) rfl ?_ ?_
 · exact toStart
 rintro ⟨ys, (i : Int), _⟩ hI
 have hI : toInv a0 (dflt (.int .i64)) ys i := hI
 refine Vq (Vq (Vr hG rfl (by trivial) ?_))
 refine Vk rfl (fun h0 => ?_) (fun h0 => ?_)
 · have hl : i < (List.length a0 : Int) := of_decide_eq_true h0
   refine Vs (Vq (Vb ?_))
   refine Vr hG rfl ?_ ?_
   · exact ⟨(toRange hI hl).1, (toRange hI hl).2⟩
   refine Vr hG rfl (by trivial) ?_
   refine ⟨rfl, ?_⟩
   exact ⟨toStep hI hl hb, toMu hI hl hb⟩
 · have hl : ¬ i < (List.length a0 : Int) := of_decide_eq_false h0
   refine Vx (Vq (Vr hG rfl (by trivial) (Vt ?_)))
   refine ⟨?_, trivial⟩
   exact toEnd hI hl
noncomputable def F270 : Fun := ⟨[.pair (.int .i64) Y9], [.pair (.pure (.int .i64)) Z16], fun x => Sm big20 Y19 x.1, fun x => (id x.1, ())⟩
theorem F270_ok : Meets Tryz.prog 270 F270 := by
 refine mV (C := mkC 15 [2] [0,1,2,3] [⟨69, _, F69_ok⟩]) (mkC_ok _ _ _ _) (fnOf_ok _) Tryz.func270 rfl rfl rfl (by decide) rfl ?_
 rintro ⟨a0, _⟩ hwf hpre ⟨P, C, B, X, w0, M0, pv⟩ hG rfl rfl
 show Vc _ _ [(0, ⟨0, 0, .c Z22 a0⟩)] _
 have hp0 : _ ∧ _ := hpre
 have hp1 : _ ∧ _ := hp0.2
 refine Vq (Vr hG rfl (by trivial) (Vq (Vr hG rfl (by trivial) ?_)))
 refine Vq (Vr hG rfl (by trivial) (Vq ?_))
 refine Vr hG rfl ?_ ?_
 · exact hp1.1
 refine Vq (Vr hG rfl (by trivial) (Vq (Vr hG rfl (by trivial) ?_)))
 refine Vt ?_
 refine ⟨?_, trivial⟩
 all_goals exact rfl
noncomputable def F186 : Fun := ⟨[.slice Y19], [.own Z29], fun x => Sm big20 Y23 x.1, fun x => (id x.1, ())⟩
theorem F186_ok : Meets Tryz.prog 186 F186 := by
 refine mV (C := mkC 23 [2] [0,2,3,4,11] [⟨270, _, F270_ok⟩]) (mkC_ok _ _ _ _) (fnOf_ok _) Tryz.func186 rfl rfl rfl (by decide) rfl ?_
 rintro ⟨a0, _⟩ hwf hpre ⟨P, C, B, X, w0, M0, pv⟩ hG rfl rfl
 show Vc _ _ [(0, ⟨0, 0, .c Z26 a0⟩)] _
 have hp : _ ∧ _ := hpre
 have hb : List.length a0 ≤ bigLen := hwf.1.1
 refine Vq (Vr hG rfl (by trivial) (Vq ?_))
 refine Vr hG rfl ?_ ?_
 · exact ⟨rfl, Int.natCast_nonneg _, mkSmall hp.1⟩
 refine Vq (Vq (Vr hG rfl (by trivial) (Vb ?_)))
 refine Vc.loopF [(3, false, .own Z29), (4, false, .pure (.int .i64))] [0, 2] (fun v => toInv a0 (dflt Y19) v.1 v.2.1) (fun v => ((List.length a0 : Int) - v.2.1).toNat) rfl ?_ ?_
 · exact toStart
 rintro ⟨ys, (i : Int), _⟩ hI
 have hI : toInv a0 (dflt Y19) ys i := hI
 refine Vq (Vq (Vr hG rfl (by trivial) ?_))
 refine Vk rfl (fun h0 => ?_) (fun h0 => ?_)
 · have hl : i < (List.length a0 : Int) := of_decide_eq_true h0
   refine Vs (Vq (Vb ?_))
   refine Vr hG rfl ?_ ?_
   · exact ⟨(toRange hI hl).1, hp.2 _ (toElem hI hl), (toRange hI hl).2⟩
   refine Vr hG rfl (by trivial) ?_
   refine ⟨rfl, ?_⟩
   exact ⟨toStep hI hl hb, toMu hI hl hb⟩
 · have hl : ¬ i < (List.length a0 : Int) := of_decide_eq_false h0
   refine Vx (Vq (Vr hG rfl (by trivial) (Vt ?_)))
   refine ⟨?_, trivial⟩
   exact toEnd hI hl
noncomputable def F320 : Fun := ⟨[.pair (.int .i64) (.bool)], [.pure Y1], fun _ => True, fun x => (id x.1, ())⟩
theorem F320_ok : Meets Tryz.prog 320 F320 := by
 refine mV (C := mkC 11 [2] [0,1,2,3] []) (mkC_ok _ _ _ _) (fnOf_ok _) Tryz.func320 rfl rfl rfl (by decide) rfl ?_
 rintro ⟨a0, _⟩ hwf hpre ⟨P, C, B, X, w0, M0, pv⟩ hG rfl rfl
 show Vc _ _ [(0, ⟨0, 0, .c Z5 a0⟩)] _
 refine Vq (Vr hG rfl (by trivial) (Vq (Vr hG rfl (by trivial) ?_)))
 refine Vq (Vr hG rfl (by trivial) (Vq (Vr hG rfl (by trivial) ?_)))
 refine Vq (Vr hG rfl (by trivial) (Vt ?_))
 refine ⟨?_, trivial⟩
 all_goals exact rfl
noncomputable def F306 : Fun := ⟨[.slice Y1], [.own Z5], fun x => Sm big20 Y6 x.1, fun x => (id x.1, ())⟩
theorem F306_ok : Meets Tryz.prog 306 F306 := by
 refine mV (C := mkC 23 [2] [0,2,3,4,11] [⟨320, _, F320_ok⟩]) (mkC_ok _ _ _ _) (fnOf_ok _) Tryz.func306 rfl rfl rfl (by decide) rfl ?_
 rintro ⟨a0, _⟩ hwf hpre ⟨P, C, B, X, w0, M0, pv⟩ hG rfl rfl
 show Vc _ _ [(0, ⟨0, 0, .c Z12 a0⟩)] _
 have hp : _ ∧ _ := hpre
 have hb : List.length a0 ≤ bigLen := hwf.1.1
 refine Vq (Vr hG rfl (by trivial) (Vq ?_))
 refine Vr hG rfl ?_ ?_
 · exact ⟨rfl, Int.natCast_nonneg _, mkSmall hp.1⟩
 refine Vq (Vq (Vr hG rfl (by trivial) (Vb ?_)))
 refine Vc.loopF [(3, false, .own Z5), (4, false, .pure (.int .i64))] [0, 2] (fun v => toInv a0 (dflt Y1) v.1 v.2.1) (fun v => ((List.length a0 : Int) - v.2.1).toNat) rfl ?_ ?_
 · exact toStart
 rintro ⟨ys, (i : Int), _⟩ hI
 have hI : toInv a0 (dflt Y1) ys i := hI
 refine Vq (Vq (Vr hG rfl (by trivial) ?_))
 refine Vk rfl (fun h0 => ?_) (fun h0 => ?_)
 · have hl : i < (List.length a0 : Int) := of_decide_eq_true h0
   refine Vs (Vq (Vb ?_))
   refine Vr hG rfl ?_ ?_
   · exact ⟨(toRange hI hl).1, trivial, (toRange hI hl).2⟩
   refine Vr hG rfl (by trivial) ?_
   refine ⟨rfl, ?_⟩
   exact ⟨toStep hI hl hb, toMu hI hl hb⟩
 · have hl : ¬ i < (List.length a0 : Int) := of_decide_eq_false h0
   refine Vx (Vq (Vr hG rfl (by trivial) (Vt ?_)))
   refine ⟨?_, trivial⟩
   exact toEnd hI hl
noncomputable def F234 : Fun := ⟨[.pair (.int .i64) Y24], [.pure Y32], fun _ => True, fun x => (id x.1, ())⟩
theorem F234_ok : Meets Tryz.prog 234 F234 := by
 refine mV (C := mkC 20 [2] [0,1,2,3] []) (mkC_ok _ _ _ _) (fnOf_ok _) Tryz.func234 rfl rfl rfl (by decide) rfl ?_
 rintro ⟨a0, _⟩ hwf hpre ⟨P, C, B, X, w0, M0, pv⟩ hG rfl rfl
 show Vc _ _ [(0, ⟨0, 0, .c Z33 a0⟩)] _
 refine Vq (Vr hG rfl (by trivial) (Vq (Vr hG rfl (by trivial) ?_)))
 refine Vq (Vr hG rfl (by trivial) (Vq (Vr hG rfl (by trivial) ?_)))
 refine Vq (Vr hG rfl (by trivial) (Vq (Vr hG rfl (by trivial) ?_)))
 refine Vq (Vr hG rfl (by trivial) (Vq (Vr hG rfl (by trivial) ?_)))
 refine Vt ?_
 refine ⟨?_, trivial⟩
 all_goals exact rfl
noncomputable def F143 : Fun := ⟨[.slice Y32], [.own Z33], fun x => Sm big20 Y34 x.1, fun x => (id x.1, ())⟩
theorem F143_ok : Meets Tryz.prog 143 F143 := by
 refine mV (C := mkC 23 [2] [0,2,3,4,11] [⟨234, _, F234_ok⟩]) (mkC_ok _ _ _ _) (fnOf_ok _) Tryz.func143 rfl rfl rfl (by decide) rfl ?_
 rintro ⟨a0, _⟩ hwf hpre ⟨P, C, B, X, w0, M0, pv⟩ hG rfl rfl
 show Vc _ _ [(0, ⟨0, 0, .c Z36 a0⟩)] _
 have hp : _ ∧ _ := hpre
 have hb : List.length a0 ≤ bigLen := hwf.1.1
 refine Vq (Vr hG rfl (by trivial) (Vq ?_))
 refine Vr hG rfl ?_ ?_
 · exact ⟨rfl, Int.natCast_nonneg _, mkSmall hp.1⟩
 refine Vq (Vq (Vr hG rfl (by trivial) (Vb ?_)))
 refine Vc.loopF [(3, false, .own Z33), (4, false, .pure (.int .i64))] [0, 2] (fun v => toInv a0 (dflt Y32) v.1 v.2.1) (fun v => ((List.length a0 : Int) - v.2.1).toNat) rfl ?_ ?_
 · exact toStart
 rintro ⟨ys, (i : Int), _⟩ hI
 have hI : toInv a0 (dflt Y32) ys i := hI
 refine Vq (Vq (Vr hG rfl (by trivial) ?_))
 refine Vk rfl (fun h0 => ?_) (fun h0 => ?_)
 · have hl : i < (List.length a0 : Int) := of_decide_eq_true h0
   refine Vs (Vq (Vb ?_))
   refine Vr hG rfl ?_ ?_
   · exact ⟨(toRange hI hl).1, trivial, (toRange hI hl).2⟩
   refine Vr hG rfl (by trivial) ?_
   refine ⟨rfl, ?_⟩
   exact ⟨toStep hI hl hb, toMu hI hl hb⟩
 · have hl : ¬ i < (List.length a0 : Int) := of_decide_eq_false h0
   refine Vx (Vq (Vr hG rfl (by trivial) (Vt ?_)))
   refine ⟨?_, trivial⟩
   exact toEnd hI hl
noncomputable def F271 : Fun := ⟨[.pair (.int .i64) Y53], [.pair (.pure (.int .i64)) Z58], fun x => Sm big20 Y56 x.1, fun x => (id x.1, ())⟩
theorem F271_ok : Meets Tryz.prog 271 F271 := by
 refine mV (C := mkC 22 [2] [0,1,2,3] [⟨306, _, F306_ok⟩, ⟨143, _, F143_ok⟩]) (mkC_ok _ _ _ _) (fnOf_ok _) Tryz.func271 rfl rfl rfl (by decide) rfl ?_
 rintro ⟨a0, _⟩ hwf hpre ⟨P, C, B, X, w0, M0, pv⟩ hG rfl rfl
 show Vc _ _ [(0, ⟨0, 0, .c Z57 a0⟩)] _
 have hp0 : _ ∧ _ := hpre
 have hp1 : _ ∧ _ := hp0.2
 have hp2 : _ ∧ _ := hp1.2
 have hp3 : _ ∧ _ := hp2.2
 refine Vq (Vr hG rfl (by trivial) (Vq (Vr hG rfl (by trivial) ?_)))
 refine Vq (Vr hG rfl (by trivial) (Vq (Vr hG rfl (by trivial) ?_)))
 refine Vq (Vr hG rfl (by trivial) (Vq ?_))
 refine Vr hG rfl ?_ ?_
 · exact hp3.1
 refine Vq ?_
 refine Vr hG rfl ?_ ?_
 · exact hp3.2
 refine Vq (Vr hG rfl (by trivial) (Vt ?_))
 refine ⟨?_, trivial⟩
 all_goals exact rfl
noncomputable def F187 : Fun := ⟨[.slice Y56], [.own Z61], fun x => Sm big20 Y59 x.1, fun x => (id x.1, ())⟩
theorem F187_ok : Meets Tryz.prog 187 F187 := by
 refine mV (C := mkC 23 [2] [0,2,3,4,11] [⟨271, _, F271_ok⟩]) (mkC_ok _ _ _ _) (fnOf_ok _) Tryz.func187 rfl rfl rfl (by decide) rfl ?_
 rintro ⟨a0, _⟩ hwf hpre ⟨P, C, B, X, w0, M0, pv⟩ hG rfl rfl
 show Vc _ _ [(0, ⟨0, 0, .c Z60 a0⟩)] _
 have hp : _ ∧ _ := hpre
 have hb : List.length a0 ≤ bigLen := hwf.1.1
 refine Vq (Vr hG rfl (by trivial) (Vq ?_))
 refine Vr hG rfl ?_ ?_
 · exact ⟨rfl, Int.natCast_nonneg _, mkSmall hp.1⟩
 refine Vq (Vq (Vr hG rfl (by trivial) (Vb ?_)))
 refine Vc.loopF [(3, false, .own Z61), (4, false, .pure (.int .i64))] [0, 2] (fun v => toInv a0 (dflt Y56) v.1 v.2.1) (fun v => ((List.length a0 : Int) - v.2.1).toNat) rfl ?_ ?_
 · exact toStart
 rintro ⟨ys, (i : Int), _⟩ hI
 have hI : toInv a0 (dflt Y56) ys i := hI
 refine Vq (Vq (Vr hG rfl (by trivial) ?_))
 refine Vk rfl (fun h0 => ?_) (fun h0 => ?_)
 · have hl : i < (List.length a0 : Int) := of_decide_eq_true h0
   refine Vs (Vq (Vb ?_))
   refine Vr hG rfl ?_ ?_
   · exact ⟨(toRange hI hl).1, hp.2 _ (toElem hI hl), (toRange hI hl).2⟩
   refine Vr hG rfl (by trivial) ?_
   refine ⟨rfl, ?_⟩
   exact ⟨toStep hI hl hb, toMu hI hl hb⟩
 · have hl : ¬ i < (List.length a0 : Int) := of_decide_eq_false h0
   refine Vx (Vq (Vr hG rfl (by trivial) (Vt ?_)))
   refine ⟨?_, trivial⟩
   exact toEnd hI hl
noncomputable def F104 : Fun := ⟨[.pair Y23 Y59], [.pair Z31 Z62], fun x => Sm big20 Y63 x.1, fun x => (id x.1, ())⟩
theorem F104_ok : Meets Tryz.prog 104 F104 := by
 refine mV (C := mkC 13 [2] [0,1,2,3] [⟨186, _, F186_ok⟩, ⟨187, _, F187_ok⟩]) (mkC_ok _ _ _ _) (fnOf_ok _) Tryz.func104 rfl rfl rfl (by decide) rfl ?_
 rintro ⟨a0, _⟩ hwf hpre ⟨P, C, B, X, w0, M0, pv⟩ hG rfl rfl
 show Vc _ _ [(0, ⟨0, 0, .c Z65 a0⟩)] _
 have hp0 : _ ∧ _ := hpre
 refine Vq (Vr hG rfl (by trivial) (Vq (Vr hG rfl (by trivial) ?_)))
 refine Vq ?_
 refine Vr hG rfl ?_ ?_
 · exact hp0.1
 refine Vq ?_
 refine Vr hG rfl ?_ ?_
 · exact hp0.2
 refine Vq (Vr hG rfl (by trivial) (Vt ?_))
 refine ⟨?_, trivial⟩
 all_goals exact rfl
noncomputable def F67 : Fun := ⟨[.slice Y63], [.own Z69], fun x => Sm big20 Y66 x.1, fun x => (id x.1, ())⟩
theorem F67_ok : Meets Tryz.prog 67 F67 := by
 refine mV (C := mkC 23 [2] [0,2,3,4,11] [⟨104, _, F104_ok⟩]) (mkC_ok _ _ _ _) (fnOf_ok _) Tryz.func67 rfl rfl rfl (by decide) rfl ?_
 rintro ⟨a0, _⟩ hwf hpre ⟨P, C, B, X, w0, M0, pv⟩ hG rfl rfl
 show Vc _ _ [(0, ⟨0, 0, .c Z68 a0⟩)] _
 have hp : _ ∧ _ := hpre
 have hb : List.length a0 ≤ bigLen := hwf.1.1
 refine Vq (Vr hG rfl (by trivial) (Vq ?_))
 refine Vr hG rfl ?_ ?_
 · exact ⟨rfl, Int.natCast_nonneg _, mkSmall hp.1⟩
 refine Vq (Vq (Vr hG rfl (by trivial) (Vb ?_)))
 refine Vc.loopF [(3, false, .own Z69), (4, false, .pure (.int .i64))] [0, 2] (fun v => toInv a0 (dflt Y63) v.1 v.2.1) (fun v => ((List.length a0 : Int) - v.2.1).toNat) rfl ?_ ?_
 · exact toStart
 rintro ⟨ys, (i : Int), _⟩ hI
 have hI : toInv a0 (dflt Y63) ys i := hI
 refine Vq (Vq (Vr hG rfl (by trivial) ?_))
 refine Vk rfl (fun h0 => ?_) (fun h0 => ?_)
 · have hl : i < (List.length a0 : Int) := of_decide_eq_true h0
   refine Vs (Vq (Vb ?_))
   refine Vr hG rfl ?_ ?_
   · exact ⟨(toRange hI hl).1, hp.2 _ (toElem hI hl), (toRange hI hl).2⟩
   refine Vr hG rfl (by trivial) ?_
   refine ⟨rfl, ?_⟩
   exact ⟨toStep hI hl hb, toMu hI hl hb⟩
 · have hl : ¬ i < (List.length a0 : Int) := of_decide_eq_false h0
   refine Vx (Vq (Vr hG rfl (by trivial) (Vt ?_)))
   refine ⟨?_, trivial⟩
   exact toEnd hI hl
noncomputable def F68 : Fun := ⟨[.slice Y34], [.own Z35], fun x => Sm big20 Y37 x.1, fun x => (id x.1, ())⟩
theorem F68_ok : Meets Tryz.prog 68 F68 := by
 refine mV (C := mkC 23 [2] [0,2,3,4,11] [⟨143, _, F143_ok⟩]) (mkC_ok _ _ _ _) (fnOf_ok _) Tryz.func68 rfl rfl rfl (by decide) rfl ?_
 rintro ⟨a0, _⟩ hwf hpre ⟨P, C, B, X, w0, M0, pv⟩ hG rfl rfl
 show Vc _ _ [(0, ⟨0, 0, .c Z40 a0⟩)] _
 have hp : _ ∧ _ := hpre
 have hb : List.length a0 ≤ bigLen := hwf.1.1
 refine Vq (Vr hG rfl (by trivial) (Vq ?_))
 refine Vr hG rfl ?_ ?_
 · exact ⟨rfl, Int.natCast_nonneg _, mkSmall hp.1⟩
 refine Vq (Vq (Vr hG rfl (by trivial) (Vb ?_)))
 refine Vc.loopF [(3, false, .own Z35), (4, false, .pure (.int .i64))] [0, 2] (fun v => toInv a0 (dflt Y34) v.1 v.2.1) (fun v => ((List.length a0 : Int) - v.2.1).toNat) rfl ?_ ?_
 · exact toStart
 rintro ⟨ys, (i : Int), _⟩ hI
 have hI : toInv a0 (dflt Y34) ys i := hI
 refine Vq (Vq (Vr hG rfl (by trivial) ?_))
 refine Vk rfl (fun h0 => ?_) (fun h0 => ?_)
 · have hl : i < (List.length a0 : Int) := of_decide_eq_true h0
   refine Vs (Vq (Vb ?_))
   refine Vr hG rfl ?_ ?_
   · exact ⟨(toRange hI hl).1, hp.2 _ (toElem hI hl), (toRange hI hl).2⟩
   refine Vr hG rfl (by trivial) ?_
   refine ⟨rfl, ?_⟩
   exact ⟨toStep hI hl hb, toMu hI hl hb⟩
 · have hl : ¬ i < (List.length a0 : Int) := of_decide_eq_false h0
   refine Vx (Vq (Vr hG rfl (by trivial) (Vt ?_)))
   refine ⟨?_, trivial⟩
   exact toEnd hI hl
noncomputable def F15 : Fun := ⟨[.pair Y66 Y37], [.pair Z70 Z39], fun x => Sm big20 Y71 x.1, fun x => (id x.1, ())⟩
theorem F15_ok : Meets Tryz.prog 15 F15 := by
 refine mV (C := mkC 13 [2] [0,1,2,3] [⟨67, _, F67_ok⟩, ⟨68, _, F68_ok⟩]) (mkC_ok _ _ _ _) (fnOf_ok _) Tryz.func15 rfl rfl rfl (by decide) rfl ?_
 rintro ⟨a0, _⟩ hwf hpre ⟨P, C, B, X, w0, M0, pv⟩ hG rfl rfl
 show Vc _ _ [(0, ⟨0, 0, .c Z72 a0⟩)] _
 have hp0 : _ ∧ _ := hpre
 refine Vq (Vr hG rfl (by trivial) (Vq (Vr hG rfl (by trivial) ?_)))
 refine Vq ?_
 refine Vr hG rfl ?_ ?_
 · exact hp0.1
 refine Vq ?_
 refine Vr hG rfl ?_ ?_
 · exact hp0.2
 refine Vq (Vr hG rfl (by trivial) (Vt ?_))
 refine ⟨?_, trivial⟩
 all_goals exact rfl
noncomputable def F98 : Fun := ⟨[.slice (.str)], [.own (.pure (.str))], fun x => Sm big20 (.slice (.str)) x.1, fun x => (id x.1, ())⟩
theorem F98_ok : Meets Tryz.prog 98 F98 := by
 refine mV (C := mkC 22 [2] [0,2,3,4,11] []) (mkC_ok _ _ _ _) (fnOf_ok _) Tryz.func98 rfl rfl rfl (by decide) rfl ?_
 rintro ⟨a0, _⟩ hwf hpre ⟨P, C, B, X, w0, M0, pv⟩ hG rfl rfl
 show Vc _ _ [(0, ⟨0, 0, .c (.pure (.slice (.str))) a0⟩)] _
 have hp : _ ∧ _ := hpre
 have hb : List.length a0 ≤ bigLen := hwf.1.1
 refine Vq (Vr hG rfl (by trivial) (Vq ?_))
 refine Vr hG rfl ?_ ?_
 · exact ⟨rfl, Int.natCast_nonneg _, mkSmall hp.1⟩
 refine Vq (Vq (Vr hG rfl (by trivial) (Vb ?_)))
 refine Vc.loopF [(3, false, .own (.pure (.str))), (4, false, .pure (.int .i64))] [0, 2] (fun v => toInv a0 (dflt (.str)) v.1 v.2.1) (fun v => ((List.length a0 : Int) - v.2.1).toNat) rfl ?_ ?_
 · exact toStart
 rintro ⟨ys, (i : Int), _⟩ hI
 have hI : toInv a0 (dflt (.str)) ys i := hI
 refine Vq (Vq (Vr hG rfl (by trivial) ?_))
 refine Vk rfl (fun h0 => ?_) (fun h0 => ?_)
 · have hl : i < (List.length a0 : Int) := of_decide_eq_true h0
   refine Vs (Vq (Vb ?_))
   refine Vr hG rfl ?_ ?_
   · exact ⟨(toRange hI hl).1, (toRange hI hl).2⟩
   refine Vr hG rfl (by trivial) ?_
   refine ⟨rfl, ?_⟩
   exact ⟨toStep hI hl hb, toMu hI hl hb⟩
 · have hl : ¬ i < (List.length a0 : Int) := of_decide_eq_false h0
   refine Vx (Vq (Vr hG rfl (by trivial) (Vt ?_)))
   refine ⟨?_, trivial⟩
   exact toEnd hI hl
noncomputable def F25 : Fun := ⟨[.pair (.int .i64) Y13], [.pair (.pure (.int .i64)) (.pair (.own (.pure (.str))) Z0)], fun x => Sm big20 Y20 x.1, fun x => (id x.1, ())⟩
theorem F25_ok : Meets Tryz.prog 25 F25 := by
 refine mV (C := mkC 16 [2] [0,1,2,3] [⟨98, _, F98_ok⟩, ⟨69, _, F69_ok⟩]) (mkC_ok _ _ _ _) (fnOf_ok _) Tryz.func25 rfl rfl rfl (by decide) rfl ?_
 rintro ⟨a0, _⟩ hwf hpre ⟨P, C, B, X, w0, M0, pv⟩ hG rfl rfl
 show Vc _ _ [(0, ⟨0, 0, .c Z25 a0⟩)] _
 have hp0 : _ ∧ _ := hpre
 have hp1 : _ ∧ _ := hp0.2
 refine Vq (Vr hG rfl (by trivial) (Vq (Vr hG rfl (by trivial) ?_)))
 refine Vq (Vr hG rfl (by trivial) (Vq ?_))
 refine Vr hG rfl ?_ ?_
 · exact hp1.1
 refine Vq ?_
 refine Vr hG rfl ?_ ?_
 · exact hp1.2
 refine Vq (Vr hG rfl (by trivial) (Vt ?_))
 refine ⟨?_, trivial⟩
 all_goals exact rfl
noncomputable def F17 : Fun := ⟨[.pair (.int .i64) Y48], [.pure Y51], fun _ => True, fun x => (id x.1, ())⟩
theorem F17_ok : Meets Tryz.prog 17 F17 := by
 refine mV (C := mkC 32 [2] [0,1,2,3] []) (mkC_ok _ _ _ _) (fnOf_ok _) Tryz.func17 rfl rfl rfl (by decide) rfl ?_
 rintro ⟨a0, _⟩ hwf hpre ⟨P, C, B, X, w0, M0, pv⟩ hG rfl rfl
 show Vc _ _ [(0, ⟨0, 0, .c Z52 a0⟩)] _
 refine Vq (Vr hG rfl (by trivial) (Vq (Vr hG rfl (by trivial) ?_)))
 refine Vq (Vr hG rfl (by trivial) (Vq (Vr hG rfl (by trivial) ?_)))
 refine Vq (Vr hG rfl (by trivial) (Vq (Vr hG rfl (by trivial) ?_)))
 refine Vq (Vr hG rfl (by trivial) (Vq (Vr hG rfl (by trivial) ?_)))
 refine Vq (Vr hG rfl (by trivial) (Vq (Vr hG rfl (by trivial) ?_)))
 refine Vq (Vr hG rfl (by trivial) (Vq (Vr hG rfl (by trivial) ?_)))
 refine Vt ?_
 refine ⟨?_, trivial⟩
 all_goals exact rfl
noncomputable def F171 : Fun := ⟨[.pair (.int .i64) Y24, .pair (.int .i64) Y24], [.pure (.bool)], fun _ => True, fun x => (eqC x.1 x.2.1, ())⟩
theorem F171_ok : Meets Tryz.prog 171 F171 := by
 refine mV (C := mkC 30 [4] [0,1,2,3,4,9,14,19,24,29] []) (mkC_ok _ _ _ _) (fnOf_ok _) Tryz.func171 rfl rfl rfl (by decide) rfl ?_
 rintro ⟨a0, a1, _⟩ hwf hpre ⟨P, C, B, X, w0, M0, pv⟩ hG rfl rfl
 show Vc _ _ [(0, ⟨0, 0, .c Z33 a0⟩), (1, ⟨0, 0, .c Z33 a1⟩)] _
 refine Vq (Vr hG rfl (by trivial) (Vq (Vq ?_)))
 refine Vr hG rfl (by trivial) ?_
 refine Vk rfl (fun h0 => ?_) (fun h0 => ?_)
 · refine Vq (Vr hG rfl (by trivial) (Vt ?_))
   refine ⟨?_, trivial⟩
   exact eqC_no (fun e => absurd (show (a0.1 != a1.1) = true from h0) (by have e : a0 = a1 := e; rw [e]; simp))
 · have g0 : a0.1 = a1.1 := bneI h0
   refine Vs (Vq (Vq (Vr hG rfl (by trivial) ?_)))
   refine Vk rfl (fun h1 => ?_) (fun h1 => ?_)
   · refine Vq (Vr hG rfl (by trivial) (Vt ?_))
     refine ⟨?_, trivial⟩
     exact eqC_no (fun e => absurd (show (a0.2.1 != a1.2.1) = true from h1) (by have e : a0 = a1 := e; rw [e]; simp))
   · have g1 : a0.2.1 = a1.2.1 := bneI h1
     refine Vs (Vq (Vq (Vr hG rfl (by trivial) ?_)))
     refine Vk rfl (fun h2 => ?_) (fun h2 => ?_)
     · refine Vq (Vr hG rfl (by trivial) (Vt ?_))
       refine ⟨?_, trivial⟩
       exact eqC_no (fun e => absurd (show (a0.2.2.1 != a1.2.2.1) = true from h2) (by have e : a0 = a1 := e; rw [e]; simp))
     · have g2 : a0.2.2.1 = a1.2.2.1 := bneI h2
       refine Vs (Vq (Vq (Vr hG rfl (by trivial) ?_)))
       refine Vk rfl (fun h3 => ?_) (fun h3 => ?_)
       · refine Vq (Vr hG rfl (by trivial) (Vt ?_))
         refine ⟨?_, trivial⟩
         exact eqC_no (fun e => absurd (show (a0.2.2.2.1 != a1.2.2.2.1) = true from h3) (by have e : a0 = a1 := e; rw [e]; simp))
       · have g3 : a0.2.2.2.1 = a1.2.2.2.1 := bneI h3
         refine Vs (Vq (Vq (Vr hG rfl (by trivial) ?_)))
         refine Vk rfl (fun h4 => ?_) (fun h4 => ?_)
         · refine Vq (Vr hG rfl (by trivial) (Vt ?_))
           refine ⟨?_, trivial⟩
           exact eqC_no (fun e => absurd (show (a0.2.2.2.2 != a1.2.2.2.2) = true from h4) (by have e : a0 = a1 := e; rw [e]; simp))
         · have g4 : a0.2.2.2.2 = a1.2.2.2.2 := bneI h4
           refine Vs (Vq (Vr hG rfl (by trivial) (Vt ?_)))
           refine ⟨?_, trivial⟩
           exact eqC_yes (Prod.ext g0 (Prod.ext g1 (Prod.ext g2 (Prod.ext g3 g4))))
noncomputable def F89 : Fun := ⟨[.slice Y32, .slice Y32], [.pure (.bool)], fun _ => True, fun x => (eqC x.1 x.2.1, ())⟩
theorem F89_ok : Meets Tryz.prog 89 F89 := by
 refine mV (C := mkC 27 [4] [0,1,4,5,10,14,26] [⟨171, _, F171_ok⟩]) (mkC_ok _ _ _ _) (fnOf_ok _) Tryz.func89 rfl rfl rfl (by decide) rfl ?_
 rintro ⟨a0, a1, _⟩ hwf hpre ⟨P, C, B, X, w0, M0, pv⟩ hG rfl rfl
 show Vc _ _ [(0, ⟨0, 0, .c Z36 a0⟩), (1, ⟨0, 0, .c Z36 a1⟩)] _
 have hb : List.length a0 ≤ bigLen := hwf.1.1
 refine Vq (Vr hG rfl (by trivial) (Vq (Vq ?_)))
 refine Vr hG rfl (by trivial) ?_
 refine Vk rfl (fun h0 => ?_) (fun h0 => ?_)
 · refine Vq (Vr hG rfl (by trivial) (Vt ?_))
   refine ⟨?_, trivial⟩
   exact eqC_no (fun e => absurd (show ((List.length a0 : Int) != (List.length a1 : Int)) = true from h0) (by have e : a0 = a1 := e; rw [e]; simp))
 · have g0 : List.length a0 = List.length a1 := lenEq h0
   refine Vs (Vq (Vq (Vr hG rfl (by trivial) ?_)))
   refine Vb ?_
   refine Vc.loopF [(5, false, .pure (.int .i64))] [0, 1, 10] (fun v => eqInv a0 a1 v.1) (fun v => ((List.length a0 : Int) - v.1).toNat) rfl ?_ ?_
   · exact eqStart g0
   rintro ⟨(i : Int), _⟩ hI
   have hI : eqInv a0 a1 i := hI
   refine Vq (Vq (Vr hG rfl (by trivial) ?_))
   refine Vk rfl (fun h1 => ?_) (fun h1 => ?_)
   · have hl : i < (List.length a0 : Int) := of_decide_eq_true h1
     refine Vs (Vq (Vb (Vq ?_)))
     refine VrD mixed hG rfl (by kernel_rfl) ?_ ?_
     · exact ⟨(eqRange hI hl).1, (eqRange hI hl).2, trivial⟩
     refine Vk rfl (fun h2 => ?_) (fun h2 => ?_)
     · have g2 : (!(eqC (List.getD a0 i.toNat (dflt Y32)) (List.getD a1 i.toNat (dflt Y32)))) = true := h2
       refine Vq (Vr hG rfl (by trivial) (Vt ?_))
       refine ⟨?_, trivial⟩
       exact eqNo (d := dflt Y32) (i := i) (fun e => by rw [e, eqC_self] at g2; cases g2)
     · have g2 : (List.getD a0 i.toNat (dflt Y32)) = (List.getD a1 i.toNat (dflt Y32)) := notC h2
       refine Vs (Vr hG rfl (by trivial) ?_)
       refine ⟨rfl, ?_⟩
       exact ⟨eqStep (d := dflt Y32) hI hl hb g2, (upStep hI.1 hl hb).2.2⟩
   · have hl : ¬ i < (List.length a0 : Int) := of_decide_eq_false h1
     refine Vx (Vq (Vr hG rfl (by trivial) (Vt ?_)))
     refine ⟨?_, trivial⟩
     exact eqC_yes (eqEnd hI hl)
end Fw
