/- Walks of functions of the program: what each computes. Conditions: those that each contract names. -/
import Derived.Test.YtidodegkmafkhaaW25T
namespace Fw
open Go Go.Proofs
set_option linter.unusedSimpArgs false
set_option maxRecDepth 100000
noncomputable def F67 : Fun := ⟨[.slice (.int .i64), .int .i64], [.pure (.int .i64)], fun x => szPre x.1 x.2.1, fun x => (szF (.slice (.int .i64)) x.1 x.2.1, ())⟩
theorem F67_ok : Meets Try.prog 67 F67 := by
 refine meets_of_vc (C := mkC 12 [4] [0,1,4,10] []) (mkC_ok _ _ _ _) (fnOf_ok _) Try.func67 rfl rfl rfl (by decide) rfl ?_
 rintro ⟨a0, (a1 : Int), _⟩ hwf hpre ⟨P, C, B, X, w0, M0, pv⟩ hG rfl rfl
 show Vc _ _ [(0, ⟨0, 0, .c Z2 a0⟩), (1, ⟨0, 0, .c (.pure (.int .i64)) a1⟩)] _
 have q0 : (0 : Int) ≤ a1 ∧ a1 ≤ (big20 : Int) := hpre
 have hb : List.length a0 ≤ bigLen := hwf.1.1
 have hw : IntKind.i64.wrap (a1 - (List.length a0 : Int)) = a1 - (List.length a0 : Int) := subW hpre hb
 refine Vc.seq (Vc.region hG rfl (by trivial) (Vc.seq (Vc.region hG rfl (by trivial) ?_)))
 refine Vc.seq (Vc.seq (Vc.region hG rfl (by trivial) ?_))
 refine Vc.cond rfl (fun h0 => ?_) (fun h0 => ?_)
 · have g0 : a1 - (List.length a0 : Int) < 0 := by rw [← hw]; exact of_decide_eq_true h0
   refine Vc.seq (Vc.region hG rfl (by trivial) (Vc.ret ?_))
   refine ⟨?_, trivial⟩
   show (-1 : Int) = if a1 - (List.length a0 : Int) < 0 then -1 else szL (szF (.int .i64)) a0 (a1 - (List.length a0 : Int))
   rw [if_pos g0]
 · have g0 : ¬ a1 - (List.length a0 : Int) < 0 := by rw [← hw]; exact of_decide_eq_false h0
   refine Vc.skip (Vc.seq (Vc.region hG rfl (by trivial) (Vc.ret ?_)))
   refine ⟨?_, trivial⟩
   show IntKind.i64.wrap (a1 - (List.length a0 : Int)) = if a1 - (List.length a0 : Int) < 0 then -1 else szL (szF (.int .i64)) a0 (a1 - (List.length a0 : Int))
   rw [if_neg g0, hw, szL_id (fun x l hl => szF_id (.int .i64) rfl x l hl) a0 _ (show (0 : Int) ≤ a1 - (List.length a0 : Int) from by omega)]
noncomputable def F61 : Fun := ⟨[.pair (.int .i64) Y6, .int .i64], [.pure (.int .i64)], fun x => szPre x.1 x.2.1, fun x => (szF Y11 x.1 x.2.1, ())⟩
theorem F61_ok : Meets Try.prog 61 F61 := by
 refine meets_of_vc (C := mkC 12 [4] [0,1,2,4,10] [⟨67, _, F67_ok⟩]) (mkC_ok _ _ _ _) (fnOf_ok _) Try.func61 rfl rfl rfl (by decide) rfl ?_
 rintro ⟨a0, (a1 : Int), _⟩ hwf hpre ⟨P, C, B, X, w0, M0, pv⟩ hG rfl rfl
 show Vc _ _ [(0, ⟨0, 0, .c Z12 a0⟩), (1, ⟨0, 0, .c (.pure (.int .i64)) a1⟩)] _
 have q0 : (0 : Int) ≤ a1 ∧ a1 ≤ (big20 : Int) := hpre
 refine Vc.seq (Vc.region hG rfl (by trivial) (Vc.seq ?_))
 refine Vc.region hG rfl ?_ ?_
 · exact (show (0 : Int) ≤ a1 ∧ a1 ≤ (big20 : Int) from ⟨by omega, by omega⟩)
 refine Vc.seq (Vc.seq (Vc.region hG rfl (by trivial) ?_))
 refine Vc.cond rfl (fun h0 => ?_) (fun h0 => ?_)
 · have m0 := szF_m1 (.slice (.int .i64)) rfl a0.2.1 (a1) (show (0 : Int) ≤ a1 from by omega)
   have g0 : szF (.slice (.int .i64)) a0.2.1 (a1) < 0 := of_decide_eq_true h0
   refine Vc.seq (Vc.region hG rfl (by trivial) (Vc.ret ?_))
   refine ⟨?_, trivial⟩
   show (-1 : Int) = szF Y11 a0 a1
   refine Eq.trans ?_ (szSpine _ _ (show szF Y11 a0 a1 = (if szF (.int .i64) a0.1 (a1) < 0 then -1 else (if szF (.slice (.int .i64)) a0.2.1 (szF (.int .i64) a0.1 (a1)) < 0 then -1 else szF (.int .i64) a0.2.2 (szF (.slice (.int .i64)) a0.2.1 (szF (.int .i64) a0.1 (a1))))) from rfl))
   rw [szF_id (.int .i64) rfl a0.1 (a1) (show (0 : Int) ≤ a1 from by omega)]
   rw [if_neg (show ¬ a1 < 0 from by omega)]
   rw [if_pos g0]
 · have m0 := szF_m1 (.slice (.int .i64)) rfl a0.2.1 (a1) (show (0 : Int) ≤ a1 from by omega)
   have g0 : ¬ szF (.slice (.int .i64)) a0.2.1 (a1) < 0 := of_decide_eq_false h0
   have k0 := szF_le (.slice (.int .i64)) a0.2.1 (a1)
   refine Vc.skip (Vc.seq (Vc.region hG rfl (by trivial) (Vc.ret ?_)))
   refine ⟨?_, trivial⟩
   show szF (.slice (.int .i64)) a0.2.1 (a1) = szF Y11 a0 a1
   refine Eq.trans ?_ (szSpine _ _ (show szF Y11 a0 a1 = (if szF (.int .i64) a0.1 (a1) < 0 then -1 else (if szF (.slice (.int .i64)) a0.2.1 (szF (.int .i64) a0.1 (a1)) < 0 then -1 else szF (.int .i64) a0.2.2 (szF (.slice (.int .i64)) a0.2.1 (szF (.int .i64) a0.1 (a1))))) from rfl))
   rw [szF_id (.int .i64) rfl a0.1 (a1) (show (0 : Int) ≤ a1 from by omega)]
   rw [if_neg (show ¬ a1 < 0 from by omega)]
   rw [if_neg g0]
   rw [szF_id (.int .i64) rfl a0.2.2 (szF (.slice (.int .i64)) a0.2.1 (a1)) (show (0 : Int) ≤ szF (.slice (.int .i64)) a0.2.1 (a1) from by omega)]
noncomputable def F52 : Fun := ⟨[.slice Y11, .int .i64], [.pure (.int .i64)], fun x => szPre x.1 x.2.1, fun x => (szF Y13 x.1 x.2.1, ())⟩
theorem F52_ok : Meets Try.prog 52 F52 := by
 refine meets_of_vc (C := mkC 27 [4] [0,1,4,5,11,15,25] [⟨61, _, F61_ok⟩]) (mkC_ok _ _ _ _) (fnOf_ok _) Try.func52 rfl rfl rfl (by decide) rfl ?_
 rintro ⟨a0, (a1 : Int), _⟩ hwf hpre ⟨P, C, B, X, w0, M0, pv⟩ hG rfl rfl
 show Vc _ _ [(0, ⟨0, 0, .c Z15 a0⟩), (1, ⟨0, 0, .c (.pure (.int .i64)) a1⟩)] _
 have q0 : (0 : Int) ≤ a1 ∧ a1 ≤ (big20 : Int) := hpre
 have hb : List.length a0 ≤ bigLen := hwf.1.1
 have hw : IntKind.i64.wrap (a1 - (List.length a0 : Int)) = a1 - (List.length a0 : Int) := subW hpre hb
 refine Vc.seq (Vc.region hG rfl (by trivial) (Vc.seq (Vc.region hG rfl (by trivial) ?_)))
 refine Vc.seq (Vc.seq (Vc.region hG rfl (by trivial) ?_))
 refine Vc.cond rfl (fun h0 => ?_) (fun h0 => ?_)
 · have g0 : a1 - (List.length a0 : Int) < 0 := by rw [← hw]; exact of_decide_eq_true h0
   refine Vc.seq (Vc.region hG rfl (by trivial) (Vc.ret ?_))
   refine ⟨?_, trivial⟩
   show (-1 : Int) = if a1 - (List.length a0 : Int) < 0 then -1 else szL (szF Y11) a0 (a1 - (List.length a0 : Int))
   rw [if_pos g0]
 · have g0 : ¬ a1 - (List.length a0 : Int) < 0 := by rw [← hw]; exact of_decide_eq_false h0
   refine Vc.skip (Vc.seq (Vc.seq (Vc.region hG rfl (by trivial) ?_)))
   refine Vc.block ?_
   refine Vc.loopF [(1, false, .pure (.int .i64)), (5, false, .pure (.int .i64))] [0, 11] (fun v => szInv (szF Y11) a0 (a1 - (List.length a0 : Int)) v.1 v.2.1) (fun v => ((List.length a0 : Int) - v.2.1).toNat) rfl ?_ ?_
   · show szInv (szF Y11) a0 (a1 - (List.length a0 : Int)) (IntKind.i64.wrap (a1 - (List.length a0 : Int))) 0
     rw [hw]
     exact szStart (by omega) (by omega)
   rintro ⟨(l : Int), (i : Int), _⟩ hI
   have hI : szInv (szF Y11) a0 (a1 - (List.length a0 : Int)) l i := hI
   refine Vc.seq (Vc.seq (Vc.region hG rfl (by trivial) ?_))
   refine Vc.cond rfl (fun h1 => ?_) (fun h1 => ?_)
   · have hl : i < (List.length a0 : Int) := of_decide_eq_true h1
     refine Vc.skip (Vc.seq (Vc.block (Vc.seq ?_)))
     refine Vc.region hG rfl ?_ ?_
     · exact ⟨upRange hI.1 hl, ⟨hI.2.1, hI.2.2.1⟩⟩
     refine Vc.seq (Vc.region hG rfl (by trivial) ?_)
     refine Vc.cond rfl (fun h2 => ?_) (fun h2 => ?_)
     · have g2 : szF Y11 (List.getD a0 i.toNat (dflt Y11)) l < 0 := of_decide_eq_true h2
       refine Vc.seq (Vc.region hG rfl (by trivial) (Vc.ret ?_))
       refine ⟨?_, trivial⟩
       show (-1 : Int) = if a1 - (List.length a0 : Int) < 0 then -1 else szL (szF Y11) a0 (a1 - (List.length a0 : Int))
       rw [if_neg g0, (szStep (d := dflt Y11) hI (szF_le Y11) hl hb).1 g2]
     · have g2 : ¬ szF Y11 (List.getD a0 i.toNat (dflt Y11)) l < 0 := of_decide_eq_false h2
       refine Vc.skip (Vc.region hG rfl (by trivial) ?_)
       refine ⟨rfl, ?_⟩
       exact ⟨(szStep (d := dflt Y11) hI (szF_le Y11) hl hb).2 g2, (upStep hI.1 hl hb).2.2⟩
   · have hl : ¬ i < (List.length a0 : Int) := of_decide_eq_false h1
     refine Vc.exit (Vc.seq (Vc.region hG rfl (by trivial) (Vc.ret ?_)))
     refine ⟨?_, trivial⟩
     show l = if a1 - (List.length a0 : Int) < 0 then -1 else szL (szF Y11) a0 (a1 - (List.length a0 : Int))
     rw [if_neg g0, szEnd hI hl]
noncomputable def F68 : Fun := ⟨[.slice Y1, .int .i64], [.pure (.int .i64)], fun x => szPre x.1 x.2.1, fun x => (szF Y5 x.1 x.2.1, ())⟩
theorem F68_ok : Meets Try.prog 68 F68 := by
 refine meets_of_vc (C := mkC 12 [4] [0,1,4,10] []) (mkC_ok _ _ _ _) (fnOf_ok _) Try.func68 rfl rfl rfl (by decide) rfl ?_
 rintro ⟨a0, (a1 : Int), _⟩ hwf hpre ⟨P, C, B, X, w0, M0, pv⟩ hG rfl rfl
 show Vc _ _ [(0, ⟨0, 0, .c Z8 a0⟩), (1, ⟨0, 0, .c (.pure (.int .i64)) a1⟩)] _
 have q0 : (0 : Int) ≤ a1 ∧ a1 ≤ (big20 : Int) := hpre
 have hb : List.length a0 ≤ bigLen := hwf.1.1
 have hw : IntKind.i64.wrap (a1 - (List.length a0 : Int)) = a1 - (List.length a0 : Int) := subW hpre hb
 refine Vc.seq (Vc.region hG rfl (by trivial) (Vc.seq (Vc.region hG rfl (by trivial) ?_)))
 refine Vc.seq (Vc.seq (Vc.region hG rfl (by trivial) ?_))
 refine Vc.cond rfl (fun h0 => ?_) (fun h0 => ?_)
 · have g0 : a1 - (List.length a0 : Int) < 0 := by rw [← hw]; exact of_decide_eq_true h0
   refine Vc.seq (Vc.region hG rfl (by trivial) (Vc.ret ?_))
   refine ⟨?_, trivial⟩
   show (-1 : Int) = if a1 - (List.length a0 : Int) < 0 then -1 else szL (szF Y1) a0 (a1 - (List.length a0 : Int))
   rw [if_pos g0]
 · have g0 : ¬ a1 - (List.length a0 : Int) < 0 := by rw [← hw]; exact of_decide_eq_false h0
   refine Vc.skip (Vc.seq (Vc.region hG rfl (by trivial) (Vc.ret ?_)))
   refine ⟨?_, trivial⟩
   show IntKind.i64.wrap (a1 - (List.length a0 : Int)) = if a1 - (List.length a0 : Int) < 0 then -1 else szL (szF Y1) a0 (a1 - (List.length a0 : Int))
   rw [if_neg g0, hw, szL_id (fun x l hl => szF_id Y1 rfl x l hl) a0 _ (show (0 : Int) ≤ a1 - (List.length a0 : Int) from by omega)]
noncomputable def F44 : Fun := ⟨[.slice Y18, .int .i64], [.pure (.int .i64)], fun x => szPre x.1 x.2.1, fun x => (szF Y20 x.1 x.2.1, ())⟩
theorem F44_ok : Meets Try.prog 44 F44 := by
 refine meets_of_vc (C := mkC 12 [4] [0,1,4,10] []) (mkC_ok _ _ _ _) (fnOf_ok _) Try.func44 rfl rfl rfl (by decide) rfl ?_
 rintro ⟨a0, (a1 : Int), _⟩ hwf hpre ⟨P, C, B, X, w0, M0, pv⟩ hG rfl rfl
 show Vc _ _ [(0, ⟨0, 0, .c Z22 a0⟩), (1, ⟨0, 0, .c (.pure (.int .i64)) a1⟩)] _
 have q0 : (0 : Int) ≤ a1 ∧ a1 ≤ (big20 : Int) := hpre
 have hb : List.length a0 ≤ bigLen := hwf.1.1
 have hw : IntKind.i64.wrap (a1 - (List.length a0 : Int)) = a1 - (List.length a0 : Int) := subW hpre hb
 refine Vc.seq (Vc.region hG rfl (by trivial) (Vc.seq (Vc.region hG rfl (by trivial) ?_)))
 refine Vc.seq (Vc.seq (Vc.region hG rfl (by trivial) ?_))
 refine Vc.cond rfl (fun h0 => ?_) (fun h0 => ?_)
 · have g0 : a1 - (List.length a0 : Int) < 0 := by rw [← hw]; exact of_decide_eq_true h0
   refine Vc.seq (Vc.region hG rfl (by trivial) (Vc.ret ?_))
   refine ⟨?_, trivial⟩
   show (-1 : Int) = if a1 - (List.length a0 : Int) < 0 then -1 else szL (szF Y18) a0 (a1 - (List.length a0 : Int))
   rw [if_pos g0]
 · have g0 : ¬ a1 - (List.length a0 : Int) < 0 := by rw [← hw]; exact of_decide_eq_false h0
   refine Vc.skip (Vc.seq (Vc.region hG rfl (by trivial) (Vc.ret ?_)))
   refine ⟨?_, trivial⟩
   show IntKind.i64.wrap (a1 - (List.length a0 : Int)) = if a1 - (List.length a0 : Int) < 0 then -1 else szL (szF Y18) a0 (a1 - (List.length a0 : Int))
   rw [if_neg g0, hw, szL_id (fun x l hl => szF_id Y18 rfl x l hl) a0 _ (show (0 : Int) ≤ a1 - (List.length a0 : Int) from by omega)]
noncomputable def F62 : Fun := ⟨[.pair (.int .i64) Y28, .int .i64], [.pure (.int .i64)], fun x => szPre x.1 x.2.1, fun x => (szF Y30 x.1 x.2.1, ())⟩
theorem F62_ok : Meets Try.prog 62 F62 := by
 refine meets_of_vc (C := mkC 18 [4] [0,1,2,4,10,16] [⟨68, _, F68_ok⟩, ⟨44, _, F44_ok⟩]) (mkC_ok _ _ _ _) (fnOf_ok _) Try.func62 rfl rfl rfl (by decide) rfl ?_
 rintro ⟨a0, (a1 : Int), _⟩ hwf hpre ⟨P, C, B, X, w0, M0, pv⟩ hG rfl rfl
 show Vc _ _ [(0, ⟨0, 0, .c Z31 a0⟩), (1, ⟨0, 0, .c (.pure (.int .i64)) a1⟩)] _
 have q0 : (0 : Int) ≤ a1 ∧ a1 ≤ (big20 : Int) := hpre
 refine Vc.seq (Vc.region hG rfl (by trivial) (Vc.seq ?_))
 refine Vc.region hG rfl ?_ ?_
 · exact (show (0 : Int) ≤ a1 ∧ a1 ≤ (big20 : Int) from ⟨by omega, by omega⟩)
 refine Vc.seq (Vc.seq (Vc.region hG rfl (by trivial) ?_))
 refine Vc.cond rfl (fun h0 => ?_) (fun h0 => ?_)
 · have m0 := szF_m1 Y5 rfl a0.2.2.2.1 (a1) (show (0 : Int) ≤ a1 from by omega)
   have g0 : szF Y5 a0.2.2.2.1 (a1) < 0 := of_decide_eq_true h0
   refine Vc.seq (Vc.region hG rfl (by trivial) (Vc.ret ?_))
   refine ⟨?_, trivial⟩
   show (-1 : Int) = szF Y30 a0 a1
   refine Eq.trans ?_ (szSpine _ _ (show szF Y30 a0 a1 = (if szF (.int .i64) a0.1 (a1) < 0 then -1 else (if szF (.int .i64) a0.2.1 (szF (.int .i64) a0.1 (a1)) < 0 then -1 else (if szF (.int .i64) a0.2.2.1 (szF (.int .i64) a0.2.1 (szF (.int .i64) a0.1 (a1))) < 0 then -1 else (if szF Y5 a0.2.2.2.1 (szF (.int .i64) a0.2.2.1 (szF (.int .i64) a0.2.1 (szF (.int .i64) a0.1 (a1)))) < 0 then -1 else szF Y20 a0.2.2.2.2 (szF Y5 a0.2.2.2.1 (szF (.int .i64) a0.2.2.1 (szF (.int .i64) a0.2.1 (szF (.int .i64) a0.1 (a1))))))))) from rfl))
   rw [szF_id (.int .i64) rfl a0.1 (a1) (show (0 : Int) ≤ a1 from by omega)]
   rw [if_neg (show ¬ a1 < 0 from by omega)]
   rw [szF_id (.int .i64) rfl a0.2.1 (a1) (show (0 : Int) ≤ a1 from by omega)]
   rw [if_neg (show ¬ a1 < 0 from by omega)]
   rw [szF_id (.int .i64) rfl a0.2.2.1 (a1) (show (0 : Int) ≤ a1 from by omega)]
   rw [if_neg (show ¬ a1 < 0 from by omega)]
   rw [if_pos g0]
 · have m0 := szF_m1 Y5 rfl a0.2.2.2.1 (a1) (show (0 : Int) ≤ a1 from by omega)
   have g0 : ¬ szF Y5 a0.2.2.2.1 (a1) < 0 := of_decide_eq_false h0
   have k0 := szF_le Y5 a0.2.2.2.1 (a1)
   refine Vc.skip (Vc.seq ?_)
   refine Vc.region hG rfl ?_ ?_
   · exact (show (0 : Int) ≤ szF Y5 a0.2.2.2.1 (a1) ∧ szF Y5 a0.2.2.2.1 (a1) ≤ (big20 : Int) from ⟨by omega, by omega⟩)
   refine Vc.seq (Vc.seq (Vc.region hG rfl (by trivial) ?_))
   refine Vc.cond rfl (fun h1 => ?_) (fun h1 => ?_)
   · have m1 := szF_m1 Y20 rfl a0.2.2.2.2 (szF Y5 a0.2.2.2.1 (a1)) (show (0 : Int) ≤ szF Y5 a0.2.2.2.1 (a1) from by omega)
     have g1 : szF Y20 a0.2.2.2.2 (szF Y5 a0.2.2.2.1 (a1)) < 0 := of_decide_eq_true h1
     refine Vc.seq (Vc.region hG rfl (by trivial) (Vc.ret ?_))
     refine ⟨?_, trivial⟩
     show (-1 : Int) = szF Y30 a0 a1
     refine Eq.trans ?_ (szSpine _ _ (show szF Y30 a0 a1 = (if szF (.int .i64) a0.1 (a1) < 0 then -1 else (if szF (.int .i64) a0.2.1 (szF (.int .i64) a0.1 (a1)) < 0 then -1 else (if szF (.int .i64) a0.2.2.1 (szF (.int .i64) a0.2.1 (szF (.int .i64) a0.1 (a1))) < 0 then -1 else (if szF Y5 a0.2.2.2.1 (szF (.int .i64) a0.2.2.1 (szF (.int .i64) a0.2.1 (szF (.int .i64) a0.1 (a1)))) < 0 then -1 else szF Y20 a0.2.2.2.2 (szF Y5 a0.2.2.2.1 (szF (.int .i64) a0.2.2.1 (szF (.int .i64) a0.2.1 (szF (.int .i64) a0.1 (a1))))))))) from rfl))
     rw [szF_id (.int .i64) rfl a0.1 (a1) (show (0 : Int) ≤ a1 from by omega)]
     rw [if_neg (show ¬ a1 < 0 from by omega)]
     rw [szF_id (.int .i64) rfl a0.2.1 (a1) (show (0 : Int) ≤ a1 from by omega)]
     rw [if_neg (show ¬ a1 < 0 from by omega)]
     rw [szF_id (.int .i64) rfl a0.2.2.1 (a1) (show (0 : Int) ≤ a1 from by omega)]
     rw [if_neg (show ¬ a1 < 0 from by omega)]
     rw [if_neg g0]
     omega
   · have m1 := szF_m1 Y20 rfl a0.2.2.2.2 (szF Y5 a0.2.2.2.1 (a1)) (show (0 : Int) ≤ szF Y5 a0.2.2.2.1 (a1) from by omega)
     have g1 : ¬ szF Y20 a0.2.2.2.2 (szF Y5 a0.2.2.2.1 (a1)) < 0 := of_decide_eq_false h1
     have k1 := szF_le Y20 a0.2.2.2.2 (szF Y5 a0.2.2.2.1 (a1))
     refine Vc.skip (Vc.seq (Vc.region hG rfl (by trivial) (Vc.ret ?_)))
     refine ⟨?_, trivial⟩
     show szF Y20 a0.2.2.2.2 (szF Y5 a0.2.2.2.1 (a1)) = szF Y30 a0 a1
     refine Eq.trans ?_ (szSpine _ _ (show szF Y30 a0 a1 = (if szF (.int .i64) a0.1 (a1) < 0 then -1 else (if szF (.int .i64) a0.2.1 (szF (.int .i64) a0.1 (a1)) < 0 then -1 else (if szF (.int .i64) a0.2.2.1 (szF (.int .i64) a0.2.1 (szF (.int .i64) a0.1 (a1))) < 0 then -1 else (if szF Y5 a0.2.2.2.1 (szF (.int .i64) a0.2.2.1 (szF (.int .i64) a0.2.1 (szF (.int .i64) a0.1 (a1)))) < 0 then -1 else szF Y20 a0.2.2.2.2 (szF Y5 a0.2.2.2.1 (szF (.int .i64) a0.2.2.1 (szF (.int .i64) a0.2.1 (szF (.int .i64) a0.1 (a1))))))))) from rfl))
     rw [szF_id (.int .i64) rfl a0.1 (a1) (show (0 : Int) ≤ a1 from by omega)]
     rw [if_neg (show ¬ a1 < 0 from by omega)]
     rw [szF_id (.int .i64) rfl a0.2.1 (a1) (show (0 : Int) ≤ a1 from by omega)]
     rw [if_neg (show ¬ a1 < 0 from by omega)]
     rw [szF_id (.int .i64) rfl a0.2.2.1 (a1) (show (0 : Int) ≤ a1 from by omega)]
     rw [if_neg (show ¬ a1 < 0 from by omega)]
     rw [if_neg g0]
noncomputable def F53 : Fun := ⟨[.slice Y30, .int .i64], [.pure (.int .i64)], fun x => szPre x.1 x.2.1, fun x => (szF Y33 x.1 x.2.1, ())⟩
theorem F53_ok : Meets Try.prog 53 F53 := by
 refine meets_of_vc (C := mkC 27 [4] [0,1,4,5,11,15,25] [⟨62, _, F62_ok⟩]) (mkC_ok _ _ _ _) (fnOf_ok _) Try.func53 rfl rfl rfl (by decide) rfl ?_
 rintro ⟨a0, (a1 : Int), _⟩ hwf hpre ⟨P, C, B, X, w0, M0, pv⟩ hG rfl rfl
 show Vc _ _ [(0, ⟨0, 0, .c Z34 a0⟩), (1, ⟨0, 0, .c (.pure (.int .i64)) a1⟩)] _
 have q0 : (0 : Int) ≤ a1 ∧ a1 ≤ (big20 : Int) := hpre
 have hb : List.length a0 ≤ bigLen := hwf.1.1
 have hw : IntKind.i64.wrap (a1 - (List.length a0 : Int)) = a1 - (List.length a0 : Int) := subW hpre hb
 refine Vc.seq (Vc.region hG rfl (by trivial) (Vc.seq (Vc.region hG rfl (by trivial) ?_)))
 refine Vc.seq (Vc.seq (Vc.region hG rfl (by trivial) ?_))
 refine Vc.cond rfl (fun h0 => ?_) (fun h0 => ?_)
 · have g0 : a1 - (List.length a0 : Int) < 0 := by rw [← hw]; exact of_decide_eq_true h0
   refine Vc.seq (Vc.region hG rfl (by trivial) (Vc.ret ?_))
   refine ⟨?_, trivial⟩
   show (-1 : Int) = if a1 - (List.length a0 : Int) < 0 then -1 else szL (szF Y30) a0 (a1 - (List.length a0 : Int))
   rw [if_pos g0]
 · have g0 : ¬ a1 - (List.length a0 : Int) < 0 := by rw [← hw]; exact of_decide_eq_false h0
   refine Vc.skip (Vc.seq (Vc.seq (Vc.region hG rfl (by trivial) ?_)))
   refine Vc.block ?_
   refine Vc.loopF [(1, false, .pure (.int .i64)), (5, false, .pure (.int .i64))] [0, 11] (fun v => szInv (szF Y30) a0 (a1 - (List.length a0 : Int)) v.1 v.2.1) (fun v => ((List.length a0 : Int) - v.2.1).toNat) rfl ?_ ?_
   · show szInv (szF Y30) a0 (a1 - (List.length a0 : Int)) (IntKind.i64.wrap (a1 - (List.length a0 : Int))) 0
     rw [hw]
     exact szStart (by omega) (by omega)
   rintro ⟨(l : Int), (i : Int), _⟩ hI
   have hI : szInv (szF Y30) a0 (a1 - (List.length a0 : Int)) l i := hI
   refine Vc.seq (Vc.seq (Vc.region hG rfl (by trivial) ?_))
   refine Vc.cond rfl (fun h1 => ?_) (fun h1 => ?_)
   · have hl : i < (List.length a0 : Int) := of_decide_eq_true h1
     refine Vc.skip (Vc.seq (Vc.block (Vc.seq ?_)))
     refine Vc.region hG rfl ?_ ?_
     · exact ⟨upRange hI.1 hl, ⟨hI.2.1, hI.2.2.1⟩⟩
     refine Vc.seq (Vc.region hG rfl (by trivial) ?_)
     refine Vc.cond rfl (fun h2 => ?_) (fun h2 => ?_)
     · have g2 : szF Y30 (List.getD a0 i.toNat (dflt Y30)) l < 0 := of_decide_eq_true h2
       refine Vc.seq (Vc.region hG rfl (by trivial) (Vc.ret ?_))
       refine ⟨?_, trivial⟩
       show (-1 : Int) = if a1 - (List.length a0 : Int) < 0 then -1 else szL (szF Y30) a0 (a1 - (List.length a0 : Int))
       rw [if_neg g0, (szStep (d := dflt Y30) hI (szF_le Y30) hl hb).1 g2]
     · have g2 : ¬ szF Y30 (List.getD a0 i.toNat (dflt Y30)) l < 0 := of_decide_eq_false h2
       refine Vc.skip (Vc.region hG rfl (by trivial) ?_)
       refine ⟨rfl, ?_⟩
       exact ⟨(szStep (d := dflt Y30) hI (szF_le Y30) hl hb).2 g2, (upStep hI.1 hl hb).2.2⟩
   · have hl : ¬ i < (List.length a0 : Int) := of_decide_eq_false h1
     refine Vc.exit (Vc.seq (Vc.region hG rfl (by trivial) (Vc.ret ?_)))
     refine ⟨?_, trivial⟩
     show l = if a1 - (List.length a0 : Int) < 0 then -1 else szL (szF Y30) a0 (a1 - (List.length a0 : Int))
     rw [if_neg g0, szEnd hI hl]
noncomputable def F43 : Fun := ⟨[.pair Y13 Y33, .int .i64], [.pure (.int .i64)], fun x => szPre x.1 x.2.1, fun x => (szF Y37 x.1 x.2.1, ())⟩
theorem F43_ok : Meets Try.prog 43 F43 := by
 refine meets_of_vc (C := mkC 18 [4] [0,1,2,4,10,16] [⟨52, _, F52_ok⟩, ⟨53, _, F53_ok⟩]) (mkC_ok _ _ _ _) (fnOf_ok _) Try.func43 rfl rfl rfl (by decide) rfl ?_
 rintro ⟨a0, (a1 : Int), _⟩ hwf hpre ⟨P, C, B, X, w0, M0, pv⟩ hG rfl rfl
 show Vc _ _ [(0, ⟨0, 0, .c Z38 a0⟩), (1, ⟨0, 0, .c (.pure (.int .i64)) a1⟩)] _
 have q0 : (0 : Int) ≤ a1 ∧ a1 ≤ (big20 : Int) := hpre
 refine Vc.seq (Vc.region hG rfl (by trivial) (Vc.seq ?_))
 refine Vc.region hG rfl ?_ ?_
 · exact (show (0 : Int) ≤ a1 ∧ a1 ≤ (big20 : Int) from ⟨by omega, by omega⟩)
 refine Vc.seq (Vc.seq (Vc.region hG rfl (by trivial) ?_))
 refine Vc.cond rfl (fun h0 => ?_) (fun h0 => ?_)
 · have m0 := szF_m1 Y13 rfl a0.1 (a1) (show (0 : Int) ≤ a1 from by omega)
   have g0 : szF Y13 a0.1 (a1) < 0 := of_decide_eq_true h0
   refine Vc.seq (Vc.region hG rfl (by trivial) (Vc.ret ?_))
   refine ⟨?_, trivial⟩
   show (-1 : Int) = szF Y37 a0 a1
   refine Eq.trans ?_ (szSpine _ _ (show szF Y37 a0 a1 = (if szF Y13 a0.1 (a1) < 0 then -1 else szF Y33 a0.2 (szF Y13 a0.1 (a1))) from rfl))
   rw [if_pos g0]
 · have m0 := szF_m1 Y13 rfl a0.1 (a1) (show (0 : Int) ≤ a1 from by omega)
   have g0 : ¬ szF Y13 a0.1 (a1) < 0 := of_decide_eq_false h0
   have k0 := szF_le Y13 a0.1 (a1)
   refine Vc.skip (Vc.seq ?_)
   refine Vc.region hG rfl ?_ ?_
   · exact (show (0 : Int) ≤ szF Y13 a0.1 (a1) ∧ szF Y13 a0.1 (a1) ≤ (big20 : Int) from ⟨by omega, by omega⟩)
   refine Vc.seq (Vc.seq (Vc.region hG rfl (by trivial) ?_))
   refine Vc.cond rfl (fun h1 => ?_) (fun h1 => ?_)
   · have m1 := szF_m1 Y33 rfl a0.2 (szF Y13 a0.1 (a1)) (show (0 : Int) ≤ szF Y13 a0.1 (a1) from by omega)
     have g1 : szF Y33 a0.2 (szF Y13 a0.1 (a1)) < 0 := of_decide_eq_true h1
     refine Vc.seq (Vc.region hG rfl (by trivial) (Vc.ret ?_))
     refine ⟨?_, trivial⟩
     show (-1 : Int) = szF Y37 a0 a1
     refine Eq.trans ?_ (szSpine _ _ (show szF Y37 a0 a1 = (if szF Y13 a0.1 (a1) < 0 then -1 else szF Y33 a0.2 (szF Y13 a0.1 (a1))) from rfl))
     rw [if_neg g0]
     omega
   · have m1 := szF_m1 Y33 rfl a0.2 (szF Y13 a0.1 (a1)) (show (0 : Int) ≤ szF Y13 a0.1 (a1) from by omega)
     have g1 : ¬ szF Y33 a0.2 (szF Y13 a0.1 (a1)) < 0 := of_decide_eq_false h1
     have k1 := szF_le Y33 a0.2 (szF Y13 a0.1 (a1))
     refine Vc.skip (Vc.seq (Vc.region hG rfl (by trivial) (Vc.ret ?_)))
     refine ⟨?_, trivial⟩
     show szF Y33 a0.2 (szF Y13 a0.1 (a1)) = szF Y37 a0 a1
     refine Eq.trans ?_ (szSpine _ _ (show szF Y37 a0 a1 = (if szF Y13 a0.1 (a1) < 0 then -1 else szF Y33 a0.2 (szF Y13 a0.1 (a1))) from rfl))
     rw [if_neg g0]
noncomputable def F28 : Fun := ⟨[.slice Y37, .int .i64], [.pure (.int .i64)], fun x => szPre x.1 x.2.1, fun x => (szF Y39 x.1 x.2.1, ())⟩
theorem F28_ok : Meets Try.prog 28 F28 := by
 refine meets_of_vc (C := mkC 27 [4] [0,1,4,5,11,15,25] [⟨43, _, F43_ok⟩]) (mkC_ok _ _ _ _) (fnOf_ok _) Try.func28 rfl rfl rfl (by decide) rfl ?_
 rintro ⟨a0, (a1 : Int), _⟩ hwf hpre ⟨P, C, B, X, w0, M0, pv⟩ hG rfl rfl
 show Vc _ _ [(0, ⟨0, 0, .c Z40 a0⟩), (1, ⟨0, 0, .c (.pure (.int .i64)) a1⟩)] _
 have q0 : (0 : Int) ≤ a1 ∧ a1 ≤ (big20 : Int) := hpre
 have hb : List.length a0 ≤ bigLen := hwf.1.1
 have hw : IntKind.i64.wrap (a1 - (List.length a0 : Int)) = a1 - (List.length a0 : Int) := subW hpre hb
 refine Vc.seq (Vc.region hG rfl (by trivial) (Vc.seq (Vc.region hG rfl (by trivial) ?_)))
 refine Vc.seq (Vc.seq (Vc.region hG rfl (by trivial) ?_))
 refine Vc.cond rfl (fun h0 => ?_) (fun h0 => ?_)
 · have g0 : a1 - (List.length a0 : Int) < 0 := by rw [← hw]; exact of_decide_eq_true h0
   refine Vc.seq (Vc.region hG rfl (by trivial) (Vc.ret ?_))
   refine ⟨?_, trivial⟩
   show (-1 : Int) = if a1 - (List.length a0 : Int) < 0 then -1 else szL (szF Y37) a0 (a1 - (List.length a0 : Int))
   rw [if_pos g0]
 · have g0 : ¬ a1 - (List.length a0 : Int) < 0 := by rw [← hw]; exact of_decide_eq_false h0
   refine Vc.skip (Vc.seq (Vc.seq (Vc.region hG rfl (by trivial) ?_)))
   refine Vc.block ?_
   refine Vc.loopF [(1, false, .pure (.int .i64)), (5, false, .pure (.int .i64))] [0, 11] (fun v => szInv (szF Y37) a0 (a1 - (List.length a0 : Int)) v.1 v.2.1) (fun v => ((List.length a0 : Int) - v.2.1).toNat) rfl ?_ ?_
   · show szInv (szF Y37) a0 (a1 - (List.length a0 : Int)) (IntKind.i64.wrap (a1 - (List.length a0 : Int))) 0
     rw [hw]
     exact szStart (by omega) (by omega)
   rintro ⟨(l : Int), (i : Int), _⟩ hI
   have hI : szInv (szF Y37) a0 (a1 - (List.length a0 : Int)) l i := hI
   refine Vc.seq (Vc.seq (Vc.region hG rfl (by trivial) ?_))
   refine Vc.cond rfl (fun h1 => ?_) (fun h1 => ?_)
   · have hl : i < (List.length a0 : Int) := of_decide_eq_true h1
     refine Vc.skip (Vc.seq (Vc.block (Vc.seq ?_)))
     refine Vc.region hG rfl ?_ ?_
     · exact ⟨upRange hI.1 hl, ⟨hI.2.1, hI.2.2.1⟩⟩
     refine Vc.seq (Vc.region hG rfl (by trivial) ?_)
     refine Vc.cond rfl (fun h2 => ?_) (fun h2 => ?_)
     · have g2 : szF Y37 (List.getD a0 i.toNat (dflt Y37)) l < 0 := of_decide_eq_true h2
       refine Vc.seq (Vc.region hG rfl (by trivial) (Vc.ret ?_))
       refine ⟨?_, trivial⟩
       show (-1 : Int) = if a1 - (List.length a0 : Int) < 0 then -1 else szL (szF Y37) a0 (a1 - (List.length a0 : Int))
       rw [if_neg g0, (szStep (d := dflt Y37) hI (szF_le Y37) hl hb).1 g2]
     · have g2 : ¬ szF Y37 (List.getD a0 i.toNat (dflt Y37)) l < 0 := of_decide_eq_false h2
       refine Vc.skip (Vc.region hG rfl (by trivial) ?_)
       refine ⟨rfl, ?_⟩
       exact ⟨(szStep (d := dflt Y37) hI (szF_le Y37) hl hb).2 g2, (upStep hI.1 hl hb).2.2⟩
   · have hl : ¬ i < (List.length a0 : Int) := of_decide_eq_false h1
     refine Vc.exit (Vc.seq (Vc.region hG rfl (by trivial) (Vc.ret ?_)))
     refine ⟨?_, trivial⟩
     show l = if a1 - (List.length a0 : Int) < 0 then -1 else szL (szF Y37) a0 (a1 - (List.length a0 : Int))
     rw [if_neg g0, szEnd hI hl]
noncomputable def F29 : Fun := ⟨[.slice Y20, .int .i64], [.pure (.int .i64)], fun x => szPre x.1 x.2.1, fun x => (szF Y23 x.1 x.2.1, ())⟩
theorem F29_ok : Meets Try.prog 29 F29 := by
 refine meets_of_vc (C := mkC 27 [4] [0,1,4,5,11,15,25] [⟨44, _, F44_ok⟩]) (mkC_ok _ _ _ _) (fnOf_ok _) Try.func29 rfl rfl rfl (by decide) rfl ?_
 rintro ⟨a0, (a1 : Int), _⟩ hwf hpre ⟨P, C, B, X, w0, M0, pv⟩ hG rfl rfl
 show Vc _ _ [(0, ⟨0, 0, .c Z24 a0⟩), (1, ⟨0, 0, .c (.pure (.int .i64)) a1⟩)] _
 have q0 : (0 : Int) ≤ a1 ∧ a1 ≤ (big20 : Int) := hpre
 have hb : List.length a0 ≤ bigLen := hwf.1.1
 have hw : IntKind.i64.wrap (a1 - (List.length a0 : Int)) = a1 - (List.length a0 : Int) := subW hpre hb
 refine Vc.seq (Vc.region hG rfl (by trivial) (Vc.seq (Vc.region hG rfl (by trivial) ?_)))
 refine Vc.seq (Vc.seq (Vc.region hG rfl (by trivial) ?_))
 refine Vc.cond rfl (fun h0 => ?_) (fun h0 => ?_)
 · have g0 : a1 - (List.length a0 : Int) < 0 := by rw [← hw]; exact of_decide_eq_true h0
   refine Vc.seq (Vc.region hG rfl (by trivial) (Vc.ret ?_))
   refine ⟨?_, trivial⟩
   show (-1 : Int) = if a1 - (List.length a0 : Int) < 0 then -1 else szL (szF Y20) a0 (a1 - (List.length a0 : Int))
   rw [if_pos g0]
 · have g0 : ¬ a1 - (List.length a0 : Int) < 0 := by rw [← hw]; exact of_decide_eq_false h0
   refine Vc.skip (Vc.seq (Vc.seq (Vc.region hG rfl (by trivial) ?_)))
   refine Vc.block ?_
   refine Vc.loopF [(1, false, .pure (.int .i64)), (5, false, .pure (.int .i64))] [0, 11] (fun v => szInv (szF Y20) a0 (a1 - (List.length a0 : Int)) v.1 v.2.1) (fun v => ((List.length a0 : Int) - v.2.1).toNat) rfl ?_ ?_
   · show szInv (szF Y20) a0 (a1 - (List.length a0 : Int)) (IntKind.i64.wrap (a1 - (List.length a0 : Int))) 0
     rw [hw]
     exact szStart (by omega) (by omega)
   rintro ⟨(l : Int), (i : Int), _⟩ hI
   have hI : szInv (szF Y20) a0 (a1 - (List.length a0 : Int)) l i := hI
   refine Vc.seq (Vc.seq (Vc.region hG rfl (by trivial) ?_))
   refine Vc.cond rfl (fun h1 => ?_) (fun h1 => ?_)
   · have hl : i < (List.length a0 : Int) := of_decide_eq_true h1
     refine Vc.skip (Vc.seq (Vc.block (Vc.seq ?_)))
     refine Vc.region hG rfl ?_ ?_
     · exact ⟨upRange hI.1 hl, ⟨hI.2.1, hI.2.2.1⟩⟩
     refine Vc.seq (Vc.region hG rfl (by trivial) ?_)
     refine Vc.cond rfl (fun h2 => ?_) (fun h2 => ?_)
     · have g2 : szF Y20 (List.getD a0 i.toNat (dflt Y20)) l < 0 := of_decide_eq_true h2
       refine Vc.seq (Vc.region hG rfl (by trivial) (Vc.ret ?_))
       refine ⟨?_, trivial⟩
       show (-1 : Int) = if a1 - (List.length a0 : Int) < 0 then -1 else szL (szF Y20) a0 (a1 - (List.length a0 : Int))
       rw [if_neg g0, (szStep (d := dflt Y20) hI (szF_le Y20) hl hb).1 g2]
     · have g2 : ¬ szF Y20 (List.getD a0 i.toNat (dflt Y20)) l < 0 := of_decide_eq_false h2
       refine Vc.skip (Vc.region hG rfl (by trivial) ?_)
       refine ⟨rfl, ?_⟩
       exact ⟨(szStep (d := dflt Y20) hI (szF_le Y20) hl hb).2 g2, (upStep hI.1 hl hb).2.2⟩
   · have hl : ¬ i < (List.length a0 : Int) := of_decide_eq_false h1
     refine Vc.exit (Vc.seq (Vc.region hG rfl (by trivial) (Vc.ret ?_)))
     refine ⟨?_, trivial⟩
     show l = if a1 - (List.length a0 : Int) < 0 then -1 else szL (szF Y20) a0 (a1 - (List.length a0 : Int))
     rw [if_neg g0, szEnd hI hl]
noncomputable def F14 : Fun := ⟨[.pair Y39 Y23, .int .i64], [.pure (.int .i64)], fun x => szPre x.1 x.2.1, fun x => (szF Y42 x.1 x.2.1, ())⟩
theorem F14_ok : Meets Try.prog 14 F14 := by
 refine meets_of_vc (C := mkC 18 [4] [0,1,2,4,10,16] [⟨28, _, F28_ok⟩, ⟨29, _, F29_ok⟩]) (mkC_ok _ _ _ _) (fnOf_ok _) Try.func14 rfl rfl rfl (by decide) rfl ?_
 rintro ⟨a0, (a1 : Int), _⟩ hwf hpre ⟨P, C, B, X, w0, M0, pv⟩ hG rfl rfl
 show Vc _ _ [(0, ⟨0, 0, .c Z43 a0⟩), (1, ⟨0, 0, .c (.pure (.int .i64)) a1⟩)] _
 have q0 : (0 : Int) ≤ a1 ∧ a1 ≤ (big20 : Int) := hpre
 refine Vc.seq (Vc.region hG rfl (by trivial) (Vc.seq ?_))
 refine Vc.region hG rfl ?_ ?_
 · exact (show (0 : Int) ≤ a1 ∧ a1 ≤ (big20 : Int) from ⟨by omega, by omega⟩)
 refine Vc.seq (Vc.seq (Vc.region hG rfl (by trivial) ?_))
 refine Vc.cond rfl (fun h0 => ?_) (fun h0 => ?_)
 · have m0 := szF_m1 Y39 rfl a0.1 (a1) (show (0 : Int) ≤ a1 from by omega)
   have g0 : szF Y39 a0.1 (a1) < 0 := of_decide_eq_true h0
   refine Vc.seq (Vc.region hG rfl (by trivial) (Vc.ret ?_))
   refine ⟨?_, trivial⟩
   show (-1 : Int) = szF Y42 a0 a1
   refine Eq.trans ?_ (szSpine _ _ (show szF Y42 a0 a1 = (if szF Y39 a0.1 (a1) < 0 then -1 else szF Y23 a0.2 (szF Y39 a0.1 (a1))) from rfl))
   rw [if_pos g0]
 · have m0 := szF_m1 Y39 rfl a0.1 (a1) (show (0 : Int) ≤ a1 from by omega)
   have g0 : ¬ szF Y39 a0.1 (a1) < 0 := of_decide_eq_false h0
   have k0 := szF_le Y39 a0.1 (a1)
   refine Vc.skip (Vc.seq ?_)
   refine Vc.region hG rfl ?_ ?_
   · exact (show (0 : Int) ≤ szF Y39 a0.1 (a1) ∧ szF Y39 a0.1 (a1) ≤ (big20 : Int) from ⟨by omega, by omega⟩)
   refine Vc.seq (Vc.seq (Vc.region hG rfl (by trivial) ?_))
   refine Vc.cond rfl (fun h1 => ?_) (fun h1 => ?_)
   · have m1 := szF_m1 Y23 rfl a0.2 (szF Y39 a0.1 (a1)) (show (0 : Int) ≤ szF Y39 a0.1 (a1) from by omega)
     have g1 : szF Y23 a0.2 (szF Y39 a0.1 (a1)) < 0 := of_decide_eq_true h1
     refine Vc.seq (Vc.region hG rfl (by trivial) (Vc.ret ?_))
     refine ⟨?_, trivial⟩
     show (-1 : Int) = szF Y42 a0 a1
     refine Eq.trans ?_ (szSpine _ _ (show szF Y42 a0 a1 = (if szF Y39 a0.1 (a1) < 0 then -1 else szF Y23 a0.2 (szF Y39 a0.1 (a1))) from rfl))
     rw [if_neg g0]
     omega
   · have m1 := szF_m1 Y23 rfl a0.2 (szF Y39 a0.1 (a1)) (show (0 : Int) ≤ szF Y39 a0.1 (a1) from by omega)
     have g1 : ¬ szF Y23 a0.2 (szF Y39 a0.1 (a1)) < 0 := of_decide_eq_false h1
     have k1 := szF_le Y23 a0.2 (szF Y39 a0.1 (a1))
     refine Vc.skip (Vc.seq (Vc.region hG rfl (by trivial) (Vc.ret ?_)))
     refine ⟨?_, trivial⟩
     show szF Y23 a0.2 (szF Y39 a0.1 (a1)) = szF Y42 a0 a1
     refine Eq.trans ?_ (szSpine _ _ (show szF Y42 a0 a1 = (if szF Y39 a0.1 (a1) < 0 then -1 else szF Y23 a0.2 (szF Y39 a0.1 (a1))) from rfl))
     rw [if_neg g0]
noncomputable def F69 : Fun := ⟨[.slice (.int .i64)], [.own (.pure (.int .i64))], fun x => Sm big20 (.slice (.int .i64)) x.1, fun x => (id x.1, ())⟩
theorem F69_ok : Meets Try.prog 69 F69 := by
 refine meets_of_vc (C := mkC 22 [2] [0,2,3,4,11] []) (mkC_ok _ _ _ _) (fnOf_ok _) Try.func69 rfl rfl rfl (by decide) rfl ?_
 rintro ⟨a0, _⟩ hwf hpre ⟨P, C, B, X, w0, M0, pv⟩ hG rfl rfl
 show Vc _ _ [(0, ⟨0, 0, .c Z2 a0⟩)] _
 have hp : _ ∧ _ := hpre
 have hb : List.length a0 ≤ bigLen := hwf.1.1
 refine Vc.seq (Vc.region hG rfl (by trivial) (Vc.seq ?_))
 refine Vc.region hG rfl ?_ ?_
 · exact ⟨rfl, Int.natCast_nonneg _, mkSmall hp.1⟩
 refine Vc.seq (Vc.seq (Vc.region hG rfl (by trivial) (Vc.block ?_)))
 refine Vc.loopF [(3, false, .own (.pure (.int .i64))), (4, false, .pure (.int .i64))] [0, 2] (fun v => toInv a0 (dflt (.int .i64)) v.1 v.2.1) (fun v => ((List.length a0 : Int) - v.2.1).toNat) rfl ?_ ?_
 · exact toStart
 rintro ⟨ys, (i : Int), _⟩ hI
 have hI : toInv a0 (dflt (.int .i64)) ys i := hI
 refine Vc.seq (Vc.seq (Vc.region hG rfl (by trivial) ?_))
 refine Vc.cond rfl (fun h0 => ?_) (fun h0 => ?_)
 · have hl : i < (List.length a0 : Int) := of_decide_eq_true h0
   refine Vc.skip (Vc.seq (Vc.block ?_))
   refine Vc.region hG rfl ?_ ?_
   · exact ⟨(toRange hI hl).1, (toRange hI hl).2⟩
   refine Vc.region hG rfl (by trivial) ?_
   refine ⟨rfl, ?_⟩
   exact ⟨toStep hI hl hb, toMu hI hl hb⟩
 · have hl : ¬ i < (List.length a0 : Int) := of_decide_eq_false h0
   refine Vc.exit (Vc.seq (Vc.region hG rfl (by trivial) (Vc.ret ?_)))
   refine ⟨?_, trivial⟩
   exact toEnd hI hl
noncomputable def F63 : Fun := ⟨[.pair (.int .i64) Y6], [.pair (.pure (.int .i64)) Z10], fun x => Sm big20 Y11 x.1, fun x => (id x.1, ())⟩
theorem F63_ok : Meets Try.prog 63 F63 := by
 refine meets_of_vc (C := mkC 15 [2] [0,1,2,3] [⟨69, _, F69_ok⟩]) (mkC_ok _ _ _ _) (fnOf_ok _) Try.func63 rfl rfl rfl (by decide) rfl ?_
 rintro ⟨a0, _⟩ hwf hpre ⟨P, C, B, X, w0, M0, pv⟩ hG rfl rfl
 show Vc _ _ [(0, ⟨0, 0, .c Z12 a0⟩)] _
 have hp0 : _ ∧ _ := hpre
 have hp1 : _ ∧ _ := hp0.2
 refine Vc.seq (Vc.region hG rfl (by trivial) (Vc.seq (Vc.region hG rfl (by trivial) ?_)))
 refine Vc.seq (Vc.region hG rfl (by trivial) (Vc.seq ?_))
 refine Vc.region hG rfl ?_ ?_
 · exact hp1.1
 refine Vc.seq (Vc.region hG rfl (by trivial) (Vc.seq (Vc.region hG rfl (by trivial) ?_)))
 refine Vc.ret ?_
 refine ⟨?_, trivial⟩
 all_goals exact rfl
noncomputable def F54 : Fun := ⟨[.slice Y11], [.own Z16], fun x => Sm big20 Y13 x.1, fun x => (id x.1, ())⟩
theorem F54_ok : Meets Try.prog 54 F54 := by
 refine meets_of_vc (C := mkC 23 [2] [0,2,3,4,11] [⟨63, _, F63_ok⟩]) (mkC_ok _ _ _ _) (fnOf_ok _) Try.func54 rfl rfl rfl (by decide) rfl ?_
 rintro ⟨a0, _⟩ hwf hpre ⟨P, C, B, X, w0, M0, pv⟩ hG rfl rfl
 show Vc _ _ [(0, ⟨0, 0, .c Z15 a0⟩)] _
 have hp : _ ∧ _ := hpre
 have hb : List.length a0 ≤ bigLen := hwf.1.1
 refine Vc.seq (Vc.region hG rfl (by trivial) (Vc.seq ?_))
 refine Vc.region hG rfl ?_ ?_
 · exact ⟨rfl, Int.natCast_nonneg _, mkSmall hp.1⟩
 refine Vc.seq (Vc.seq (Vc.region hG rfl (by trivial) (Vc.block ?_)))
 refine Vc.loopF [(3, false, .own Z16), (4, false, .pure (.int .i64))] [0, 2] (fun v => toInv a0 (dflt Y11) v.1 v.2.1) (fun v => ((List.length a0 : Int) - v.2.1).toNat) rfl ?_ ?_
 · exact toStart
 rintro ⟨ys, (i : Int), _⟩ hI
 have hI : toInv a0 (dflt Y11) ys i := hI
 refine Vc.seq (Vc.seq (Vc.region hG rfl (by trivial) ?_))
 refine Vc.cond rfl (fun h0 => ?_) (fun h0 => ?_)
 · have hl : i < (List.length a0 : Int) := of_decide_eq_true h0
   refine Vc.skip (Vc.seq (Vc.block ?_))
   refine Vc.region hG rfl ?_ ?_
   · exact ⟨(toRange hI hl).1, hp.2 _ (toElem hI hl), (toRange hI hl).2⟩
   refine Vc.region hG rfl (by trivial) ?_
   refine ⟨rfl, ?_⟩
   exact ⟨toStep hI hl hb, toMu hI hl hb⟩
 · have hl : ¬ i < (List.length a0 : Int) := of_decide_eq_false h0
   refine Vc.exit (Vc.seq (Vc.region hG rfl (by trivial) (Vc.ret ?_)))
   refine ⟨?_, trivial⟩
   exact toEnd hI hl
noncomputable def F73 : Fun := ⟨[.pair (.int .i64) (.bool)], [.pure Y1], fun _ => True, fun x => (id x.1, ())⟩
theorem F73_ok : Meets Try.prog 73 F73 := by
 refine meets_of_vc (C := mkC 11 [2] [0,1,2,3] []) (mkC_ok _ _ _ _) (fnOf_ok _) Try.func73 rfl rfl rfl (by decide) rfl ?_
 rintro ⟨a0, _⟩ hwf hpre ⟨P, C, B, X, w0, M0, pv⟩ hG rfl rfl
 show Vc _ _ [(0, ⟨0, 0, .c Z4 a0⟩)] _
 refine Vc.seq (Vc.region hG rfl (by trivial) (Vc.seq (Vc.region hG rfl (by trivial) ?_)))
 refine Vc.seq (Vc.region hG rfl (by trivial) (Vc.seq (Vc.region hG rfl (by trivial) ?_)))
 refine Vc.seq (Vc.region hG rfl (by trivial) (Vc.ret ?_))
 refine ⟨?_, trivial⟩
 all_goals exact rfl
noncomputable def F70 : Fun := ⟨[.slice Y1], [.own Z4], fun x => Sm big20 Y5 x.1, fun x => (id x.1, ())⟩
theorem F70_ok : Meets Try.prog 70 F70 := by
 refine meets_of_vc (C := mkC 23 [2] [0,2,3,4,11] [⟨73, _, F73_ok⟩]) (mkC_ok _ _ _ _) (fnOf_ok _) Try.func70 rfl rfl rfl (by decide) rfl ?_
 rintro ⟨a0, _⟩ hwf hpre ⟨P, C, B, X, w0, M0, pv⟩ hG rfl rfl
 show Vc _ _ [(0, ⟨0, 0, .c Z8 a0⟩)] _
 have hp : _ ∧ _ := hpre
 have hb : List.length a0 ≤ bigLen := hwf.1.1
 refine Vc.seq (Vc.region hG rfl (by trivial) (Vc.seq ?_))
 refine Vc.region hG rfl ?_ ?_
 · exact ⟨rfl, Int.natCast_nonneg _, mkSmall hp.1⟩
 refine Vc.seq (Vc.seq (Vc.region hG rfl (by trivial) (Vc.block ?_)))
 refine Vc.loopF [(3, false, .own Z4), (4, false, .pure (.int .i64))] [0, 2] (fun v => toInv a0 (dflt Y1) v.1 v.2.1) (fun v => ((List.length a0 : Int) - v.2.1).toNat) rfl ?_ ?_
 · exact toStart
 rintro ⟨ys, (i : Int), _⟩ hI
 have hI : toInv a0 (dflt Y1) ys i := hI
 refine Vc.seq (Vc.seq (Vc.region hG rfl (by trivial) ?_))
 refine Vc.cond rfl (fun h0 => ?_) (fun h0 => ?_)
 · have hl : i < (List.length a0 : Int) := of_decide_eq_true h0
   refine Vc.skip (Vc.seq (Vc.block ?_))
   refine Vc.region hG rfl ?_ ?_
   · exact ⟨(toRange hI hl).1, trivial, (toRange hI hl).2⟩
   refine Vc.region hG rfl (by trivial) ?_
   refine ⟨rfl, ?_⟩
   exact ⟨toStep hI hl hb, toMu hI hl hb⟩
 · have hl : ¬ i < (List.length a0 : Int) := of_decide_eq_false h0
   refine Vc.exit (Vc.seq (Vc.region hG rfl (by trivial) (Vc.ret ?_)))
   refine ⟨?_, trivial⟩
   exact toEnd hI hl
noncomputable def F56 : Fun := ⟨[.pair (.int .i64) Y14], [.pure Y18], fun _ => True, fun x => (id x.1, ())⟩
theorem F56_ok : Meets Try.prog 56 F56 := by
 refine meets_of_vc (C := mkC 20 [2] [0,1,2,3] []) (mkC_ok _ _ _ _) (fnOf_ok _) Try.func56 rfl rfl rfl (by decide) rfl ?_
 rintro ⟨a0, _⟩ hwf hpre ⟨P, C, B, X, w0, M0, pv⟩ hG rfl rfl
 show Vc _ _ [(0, ⟨0, 0, .c Z19 a0⟩)] _
 refine Vc.seq (Vc.region hG rfl (by trivial) (Vc.seq (Vc.region hG rfl (by trivial) ?_)))
 refine Vc.seq (Vc.region hG rfl (by trivial) (Vc.seq (Vc.region hG rfl (by trivial) ?_)))
 refine Vc.seq (Vc.region hG rfl (by trivial) (Vc.seq (Vc.region hG rfl (by trivial) ?_)))
 refine Vc.seq (Vc.region hG rfl (by trivial) (Vc.seq (Vc.region hG rfl (by trivial) ?_)))
 refine Vc.ret ?_
 refine ⟨?_, trivial⟩
 all_goals exact rfl
noncomputable def F46 : Fun := ⟨[.slice Y18], [.own Z19], fun x => Sm big20 Y20 x.1, fun x => (id x.1, ())⟩
theorem F46_ok : Meets Try.prog 46 F46 := by
 refine meets_of_vc (C := mkC 23 [2] [0,2,3,4,11] [⟨56, _, F56_ok⟩]) (mkC_ok _ _ _ _) (fnOf_ok _) Try.func46 rfl rfl rfl (by decide) rfl ?_
 rintro ⟨a0, _⟩ hwf hpre ⟨P, C, B, X, w0, M0, pv⟩ hG rfl rfl
 show Vc _ _ [(0, ⟨0, 0, .c Z22 a0⟩)] _
 have hp : _ ∧ _ := hpre
 have hb : List.length a0 ≤ bigLen := hwf.1.1
 refine Vc.seq (Vc.region hG rfl (by trivial) (Vc.seq ?_))
 refine Vc.region hG rfl ?_ ?_
 · exact ⟨rfl, Int.natCast_nonneg _, mkSmall hp.1⟩
 refine Vc.seq (Vc.seq (Vc.region hG rfl (by trivial) (Vc.block ?_)))
 refine Vc.loopF [(3, false, .own Z19), (4, false, .pure (.int .i64))] [0, 2] (fun v => toInv a0 (dflt Y18) v.1 v.2.1) (fun v => ((List.length a0 : Int) - v.2.1).toNat) rfl ?_ ?_
 · exact toStart
 rintro ⟨ys, (i : Int), _⟩ hI
 have hI : toInv a0 (dflt Y18) ys i := hI
 refine Vc.seq (Vc.seq (Vc.region hG rfl (by trivial) ?_))
 refine Vc.cond rfl (fun h0 => ?_) (fun h0 => ?_)
 · have hl : i < (List.length a0 : Int) := of_decide_eq_true h0
   refine Vc.skip (Vc.seq (Vc.block ?_))
   refine Vc.region hG rfl ?_ ?_
   · exact ⟨(toRange hI hl).1, trivial, (toRange hI hl).2⟩
   refine Vc.region hG rfl (by trivial) ?_
   refine ⟨rfl, ?_⟩
   exact ⟨toStep hI hl hb, toMu hI hl hb⟩
 · have hl : ¬ i < (List.length a0 : Int) := of_decide_eq_false h0
   refine Vc.exit (Vc.seq (Vc.region hG rfl (by trivial) (Vc.ret ?_)))
   refine ⟨?_, trivial⟩
   exact toEnd hI hl
noncomputable def F64 : Fun := ⟨[.pair (.int .i64) Y28], [.pair (.pure (.int .i64)) Z32], fun x => Sm big20 Y30 x.1, fun x => (id x.1, ())⟩
theorem F64_ok : Meets Try.prog 64 F64 := by
 refine meets_of_vc (C := mkC 22 [2] [0,1,2,3] [⟨70, _, F70_ok⟩, ⟨46, _, F46_ok⟩]) (mkC_ok _ _ _ _) (fnOf_ok _) Try.func64 rfl rfl rfl (by decide) rfl ?_
 rintro ⟨a0, _⟩ hwf hpre ⟨P, C, B, X, w0, M0, pv⟩ hG rfl rfl
 show Vc _ _ [(0, ⟨0, 0, .c Z31 a0⟩)] _
 have hp0 : _ ∧ _ := hpre
 have hp1 : _ ∧ _ := hp0.2
 have hp2 : _ ∧ _ := hp1.2
 have hp3 : _ ∧ _ := hp2.2
 refine Vc.seq (Vc.region hG rfl (by trivial) (Vc.seq (Vc.region hG rfl (by trivial) ?_)))
 refine Vc.seq (Vc.region hG rfl (by trivial) (Vc.seq (Vc.region hG rfl (by trivial) ?_)))
 refine Vc.seq (Vc.region hG rfl (by trivial) (Vc.seq ?_))
 refine Vc.region hG rfl ?_ ?_
 · exact hp3.1
 refine Vc.seq ?_
 refine Vc.region hG rfl ?_ ?_
 · exact hp3.2
 refine Vc.seq (Vc.region hG rfl (by trivial) (Vc.ret ?_))
 refine ⟨?_, trivial⟩
 all_goals exact rfl
noncomputable def F55 : Fun := ⟨[.slice Y30], [.own Z35], fun x => Sm big20 Y33 x.1, fun x => (id x.1, ())⟩
theorem F55_ok : Meets Try.prog 55 F55 := by
 refine meets_of_vc (C := mkC 23 [2] [0,2,3,4,11] [⟨64, _, F64_ok⟩]) (mkC_ok _ _ _ _) (fnOf_ok _) Try.func55 rfl rfl rfl (by decide) rfl ?_
 rintro ⟨a0, _⟩ hwf hpre ⟨P, C, B, X, w0, M0, pv⟩ hG rfl rfl
 show Vc _ _ [(0, ⟨0, 0, .c Z34 a0⟩)] _
 have hp : _ ∧ _ := hpre
 have hb : List.length a0 ≤ bigLen := hwf.1.1
 refine Vc.seq (Vc.region hG rfl (by trivial) (Vc.seq ?_))
 refine Vc.region hG rfl ?_ ?_
 · exact ⟨rfl, Int.natCast_nonneg _, mkSmall hp.1⟩
 refine Vc.seq (Vc.seq (Vc.region hG rfl (by trivial) (Vc.block ?_)))
 refine Vc.loopF [(3, false, .own Z35), (4, false, .pure (.int .i64))] [0, 2] (fun v => toInv a0 (dflt Y30) v.1 v.2.1) (fun v => ((List.length a0 : Int) - v.2.1).toNat) rfl ?_ ?_
 · exact toStart
 rintro ⟨ys, (i : Int), _⟩ hI
 have hI : toInv a0 (dflt Y30) ys i := hI
 refine Vc.seq (Vc.seq (Vc.region hG rfl (by trivial) ?_))
 refine Vc.cond rfl (fun h0 => ?_) (fun h0 => ?_)
 · have hl : i < (List.length a0 : Int) := of_decide_eq_true h0
   refine Vc.skip (Vc.seq (Vc.block ?_))
   refine Vc.region hG rfl ?_ ?_
   · exact ⟨(toRange hI hl).1, hp.2 _ (toElem hI hl), (toRange hI hl).2⟩
   refine Vc.region hG rfl (by trivial) ?_
   refine ⟨rfl, ?_⟩
   exact ⟨toStep hI hl hb, toMu hI hl hb⟩
 · have hl : ¬ i < (List.length a0 : Int) := of_decide_eq_false h0
   refine Vc.exit (Vc.seq (Vc.region hG rfl (by trivial) (Vc.ret ?_)))
   refine ⟨?_, trivial⟩
   exact toEnd hI hl
noncomputable def F45 : Fun := ⟨[.pair Y13 Y33], [.pair Z17 Z36], fun x => Sm big20 Y37 x.1, fun x => (id x.1, ())⟩
theorem F45_ok : Meets Try.prog 45 F45 := by
 refine meets_of_vc (C := mkC 13 [2] [0,1,2,3] [⟨54, _, F54_ok⟩, ⟨55, _, F55_ok⟩]) (mkC_ok _ _ _ _) (fnOf_ok _) Try.func45 rfl rfl rfl (by decide) rfl ?_
 rintro ⟨a0, _⟩ hwf hpre ⟨P, C, B, X, w0, M0, pv⟩ hG rfl rfl
 show Vc _ _ [(0, ⟨0, 0, .c Z38 a0⟩)] _
 have hp0 : _ ∧ _ := hpre
 refine Vc.seq (Vc.region hG rfl (by trivial) (Vc.seq (Vc.region hG rfl (by trivial) ?_)))
 refine Vc.seq ?_
 refine Vc.region hG rfl ?_ ?_
 · exact hp0.1
 refine Vc.seq ?_
 refine Vc.region hG rfl ?_ ?_
 · exact hp0.2
 refine Vc.seq (Vc.region hG rfl (by trivial) (Vc.ret ?_))
 refine ⟨?_, trivial⟩
 all_goals exact rfl
noncomputable def F31 : Fun := ⟨[.slice Y37], [.own Z41], fun x => Sm big20 Y39 x.1, fun x => (id x.1, ())⟩
theorem F31_ok : Meets Try.prog 31 F31 := by
 refine meets_of_vc (C := mkC 23 [2] [0,2,3,4,11] [⟨45, _, F45_ok⟩]) (mkC_ok _ _ _ _) (fnOf_ok _) Try.func31 rfl rfl rfl (by decide) rfl ?_
 rintro ⟨a0, _⟩ hwf hpre ⟨P, C, B, X, w0, M0, pv⟩ hG rfl rfl
 show Vc _ _ [(0, ⟨0, 0, .c Z40 a0⟩)] _
 have hp : _ ∧ _ := hpre
 have hb : List.length a0 ≤ bigLen := hwf.1.1
 refine Vc.seq (Vc.region hG rfl (by trivial) (Vc.seq ?_))
 refine Vc.region hG rfl ?_ ?_
 · exact ⟨rfl, Int.natCast_nonneg _, mkSmall hp.1⟩
 refine Vc.seq (Vc.seq (Vc.region hG rfl (by trivial) (Vc.block ?_)))
 refine Vc.loopF [(3, false, .own Z41), (4, false, .pure (.int .i64))] [0, 2] (fun v => toInv a0 (dflt Y37) v.1 v.2.1) (fun v => ((List.length a0 : Int) - v.2.1).toNat) rfl ?_ ?_
 · exact toStart
 rintro ⟨ys, (i : Int), _⟩ hI
 have hI : toInv a0 (dflt Y37) ys i := hI
 refine Vc.seq (Vc.seq (Vc.region hG rfl (by trivial) ?_))
 refine Vc.cond rfl (fun h0 => ?_) (fun h0 => ?_)
 · have hl : i < (List.length a0 : Int) := of_decide_eq_true h0
   refine Vc.skip (Vc.seq (Vc.block ?_))
   refine Vc.region hG rfl ?_ ?_
   · exact ⟨(toRange hI hl).1, hp.2 _ (toElem hI hl), (toRange hI hl).2⟩
   refine Vc.region hG rfl (by trivial) ?_
   refine ⟨rfl, ?_⟩
   exact ⟨toStep hI hl hb, toMu hI hl hb⟩
 · have hl : ¬ i < (List.length a0 : Int) := of_decide_eq_false h0
   refine Vc.exit (Vc.seq (Vc.region hG rfl (by trivial) (Vc.ret ?_)))
   refine ⟨?_, trivial⟩
   exact toEnd hI hl
noncomputable def F32 : Fun := ⟨[.slice Y20], [.own Z21], fun x => Sm big20 Y23 x.1, fun x => (id x.1, ())⟩
theorem F32_ok : Meets Try.prog 32 F32 := by
 refine meets_of_vc (C := mkC 23 [2] [0,2,3,4,11] [⟨46, _, F46_ok⟩]) (mkC_ok _ _ _ _) (fnOf_ok _) Try.func32 rfl rfl rfl (by decide) rfl ?_
 rintro ⟨a0, _⟩ hwf hpre ⟨P, C, B, X, w0, M0, pv⟩ hG rfl rfl
 show Vc _ _ [(0, ⟨0, 0, .c Z24 a0⟩)] _
 have hp : _ ∧ _ := hpre
 have hb : List.length a0 ≤ bigLen := hwf.1.1
 refine Vc.seq (Vc.region hG rfl (by trivial) (Vc.seq ?_))
 refine Vc.region hG rfl ?_ ?_
 · exact ⟨rfl, Int.natCast_nonneg _, mkSmall hp.1⟩
 refine Vc.seq (Vc.seq (Vc.region hG rfl (by trivial) (Vc.block ?_)))
 refine Vc.loopF [(3, false, .own Z21), (4, false, .pure (.int .i64))] [0, 2] (fun v => toInv a0 (dflt Y20) v.1 v.2.1) (fun v => ((List.length a0 : Int) - v.2.1).toNat) rfl ?_ ?_
 · exact toStart
 rintro ⟨ys, (i : Int), _⟩ hI
 have hI : toInv a0 (dflt Y20) ys i := hI
 refine Vc.seq (Vc.seq (Vc.region hG rfl (by trivial) ?_))
 refine Vc.cond rfl (fun h0 => ?_) (fun h0 => ?_)
 · have hl : i < (List.length a0 : Int) := of_decide_eq_true h0
   refine Vc.skip (Vc.seq (Vc.block ?_))
   refine Vc.region hG rfl ?_ ?_
   · exact ⟨(toRange hI hl).1, hp.2 _ (toElem hI hl), (toRange hI hl).2⟩
   refine Vc.region hG rfl (by trivial) ?_
   refine ⟨rfl, ?_⟩
   exact ⟨toStep hI hl hb, toMu hI hl hb⟩
 · have hl : ¬ i < (List.length a0 : Int) := of_decide_eq_false h0
   refine Vc.exit (Vc.seq (Vc.region hG rfl (by trivial) (Vc.ret ?_)))
   refine ⟨?_, trivial⟩
   exact toEnd hI hl
noncomputable def F16 : Fun := ⟨[.pair Y39 Y23], [.pair (.own Z41) (.own Z21)], fun x => Sm big20 Y42 x.1, fun x => (id x.1, ())⟩
theorem F16_ok : Meets Try.prog 16 F16 := by
 refine meets_of_vc (C := mkC 13 [2] [0,1,2,3] [⟨31, _, F31_ok⟩, ⟨32, _, F32_ok⟩]) (mkC_ok _ _ _ _) (fnOf_ok _) Try.func16 rfl rfl rfl (by decide) rfl ?_
 rintro ⟨a0, _⟩ hwf hpre ⟨P, C, B, X, w0, M0, pv⟩ hG rfl rfl
 show Vc _ _ [(0, ⟨0, 0, .c Z43 a0⟩)] _
 have hp0 : _ ∧ _ := hpre
 refine Vc.seq (Vc.region hG rfl (by trivial) (Vc.seq (Vc.region hG rfl (by trivial) ?_)))
 refine Vc.seq ?_
 refine Vc.region hG rfl ?_ ?_
 · exact hp0.1
 refine Vc.seq ?_
 refine Vc.region hG rfl ?_ ?_
 · exact hp0.2
 refine Vc.seq (Vc.region hG rfl (by trivial) (Vc.ret ?_))
 refine ⟨?_, trivial⟩
 all_goals exact rfl
noncomputable def F34 : Fun := ⟨[.pair (.int .i64) Y14, .pair (.int .i64) Y14], [.pure (.bool)], fun _ => True, fun x => (eqC x.1 x.2.1, ())⟩
theorem F34_ok : Meets Try.prog 34 F34 := by
 refine meets_of_vc (C := mkC 30 [4] [0,1,2,3,4,9,14,19,24,29] []) (mkC_ok _ _ _ _) (fnOf_ok _) Try.func34 rfl rfl rfl (by decide) rfl ?_
 rintro ⟨a0, a1, _⟩ hwf hpre ⟨P, C, B, X, w0, M0, pv⟩ hG rfl rfl
 show Vc _ _ [(0, ⟨0, 0, .c Z19 a0⟩), (1, ⟨0, 0, .c Z19 a1⟩)] _
 refine Vc.seq (Vc.region hG rfl (by trivial) (Vc.seq (Vc.seq ?_)))
 refine Vc.region hG rfl (by trivial) ?_
 refine Vc.cond rfl (fun h0 => ?_) (fun h0 => ?_)
 · refine Vc.seq (Vc.region hG rfl (by trivial) (Vc.ret ?_))
   refine ⟨?_, trivial⟩
   exact eqC_no (fun e => absurd (show (a0.1 != a1.1) = true from h0) (by have e : a0 = a1 := e; rw [e]; simp))
 · have g0 : a0.1 = a1.1 := bneI h0
   refine Vc.skip (Vc.seq (Vc.seq (Vc.region hG rfl (by trivial) ?_)))
   refine Vc.cond rfl (fun h1 => ?_) (fun h1 => ?_)
   · refine Vc.seq (Vc.region hG rfl (by trivial) (Vc.ret ?_))
     refine ⟨?_, trivial⟩
     exact eqC_no (fun e => absurd (show (a0.2.1 != a1.2.1) = true from h1) (by have e : a0 = a1 := e; rw [e]; simp))
   · have g1 : a0.2.1 = a1.2.1 := bneI h1
     refine Vc.skip (Vc.seq (Vc.seq (Vc.region hG rfl (by trivial) ?_)))
     refine Vc.cond rfl (fun h2 => ?_) (fun h2 => ?_)
     · refine Vc.seq (Vc.region hG rfl (by trivial) (Vc.ret ?_))
       refine ⟨?_, trivial⟩
       exact eqC_no (fun e => absurd (show (a0.2.2.1 != a1.2.2.1) = true from h2) (by have e : a0 = a1 := e; rw [e]; simp))
     · have g2 : a0.2.2.1 = a1.2.2.1 := bneI h2
       refine Vc.skip (Vc.seq (Vc.seq (Vc.region hG rfl (by trivial) ?_)))
       refine Vc.cond rfl (fun h3 => ?_) (fun h3 => ?_)
       · refine Vc.seq (Vc.region hG rfl (by trivial) (Vc.ret ?_))
         refine ⟨?_, trivial⟩
         exact eqC_no (fun e => absurd (show (a0.2.2.2.1 != a1.2.2.2.1) = true from h3) (by have e : a0 = a1 := e; rw [e]; simp))
       · have g3 : a0.2.2.2.1 = a1.2.2.2.1 := bneI h3
         refine Vc.skip (Vc.seq (Vc.seq (Vc.region hG rfl (by trivial) ?_)))
         refine Vc.cond rfl (fun h4 => ?_) (fun h4 => ?_)
         · refine Vc.seq (Vc.region hG rfl (by trivial) (Vc.ret ?_))
           refine ⟨?_, trivial⟩
           exact eqC_no (fun e => absurd (show (a0.2.2.2.2 != a1.2.2.2.2) = true from h4) (by have e : a0 = a1 := e; rw [e]; simp))
         · have g4 : a0.2.2.2.2 = a1.2.2.2.2 := bneI h4
           refine Vc.skip (Vc.seq (Vc.region hG rfl (by trivial) (Vc.ret ?_)))
           refine ⟨?_, trivial⟩
           exact eqC_yes (Prod.ext g0 (Prod.ext g1 (Prod.ext g2 (Prod.ext g3 g4))))
noncomputable def F18 : Fun := ⟨[.slice Y18, .slice Y18], [.pure (.bool)], fun _ => True, fun x => (eqC x.1 x.2.1, ())⟩
theorem F18_ok : Meets Try.prog 18 F18 := by
 refine meets_of_vc (C := mkC 27 [4] [0,1,4,5,10,14,26] [⟨34, _, F34_ok⟩]) (mkC_ok _ _ _ _) (fnOf_ok _) Try.func18 rfl rfl rfl (by decide) rfl ?_
 rintro ⟨a0, a1, _⟩ hwf hpre ⟨P, C, B, X, w0, M0, pv⟩ hG rfl rfl
 show Vc _ _ [(0, ⟨0, 0, .c Z22 a0⟩), (1, ⟨0, 0, .c Z22 a1⟩)] _
 have hb : List.length a0 ≤ bigLen := hwf.1.1
 refine Vc.seq (Vc.region hG rfl (by trivial) (Vc.seq (Vc.seq ?_)))
 refine Vc.region hG rfl (by trivial) ?_
 refine Vc.cond rfl (fun h0 => ?_) (fun h0 => ?_)
 · refine Vc.seq (Vc.region hG rfl (by trivial) (Vc.ret ?_))
   refine ⟨?_, trivial⟩
   exact eqC_no (fun e => absurd (show ((List.length a0 : Int) != (List.length a1 : Int)) = true from h0) (by have e : a0 = a1 := e; rw [e]; simp))
 · have g0 : List.length a0 = List.length a1 := lenEq h0
   refine Vc.skip (Vc.seq (Vc.seq (Vc.region hG rfl (by trivial) ?_)))
   refine Vc.block ?_
   refine Vc.loopF [(5, false, .pure (.int .i64))] [0, 1, 10] (fun v => eqInv a0 a1 v.1) (fun v => ((List.length a0 : Int) - v.1).toNat) rfl ?_ ?_
   · exact eqStart g0
   rintro ⟨(i : Int), _⟩ hI
   have hI : eqInv a0 a1 i := hI
   refine Vc.seq (Vc.seq (Vc.region hG rfl (by trivial) ?_))
   refine Vc.cond rfl (fun h1 => ?_) (fun h1 => ?_)
   · have hl : i < (List.length a0 : Int) := of_decide_eq_true h1
     refine Vc.skip (Vc.seq (Vc.block (Vc.seq ?_)))
     refine Vc.regionD mixed hG rfl (by kernel_rfl) ?_ ?_
     · exact ⟨(eqRange hI hl).1, (eqRange hI hl).2, trivial⟩
     refine Vc.cond rfl (fun h2 => ?_) (fun h2 => ?_)
     · have g2 : (!(eqC (List.getD a0 i.toNat (dflt Y18)) (List.getD a1 i.toNat (dflt Y18)))) = true := h2
       refine Vc.seq (Vc.region hG rfl (by trivial) (Vc.ret ?_))
       refine ⟨?_, trivial⟩
       exact eqNo (d := dflt Y18) (i := i) (fun e => by rw [e, eqC_self] at g2; cases g2)
     · have g2 : (List.getD a0 i.toNat (dflt Y18)) = (List.getD a1 i.toNat (dflt Y18)) := notC h2
       refine Vc.skip (Vc.region hG rfl (by trivial) ?_)
       refine ⟨rfl, ?_⟩
       exact ⟨eqStep (d := dflt Y18) hI hl hb g2, (upStep hI.1 hl hb).2.2⟩
   · have hl : ¬ i < (List.length a0 : Int) := of_decide_eq_false h1
     refine Vc.exit (Vc.seq (Vc.region hG rfl (by trivial) (Vc.ret ?_)))
     refine ⟨?_, trivial⟩
     exact eqC_yes (eqEnd hI hl)
noncomputable def F71 : Fun := ⟨[.slice (.int .i64), .slice (.int .i64)], [.pure (.bool)], fun _ => True, fun x => (eqC x.1 x.2.1, ())⟩
theorem F71_ok : Meets Try.prog 71 F71 := by
 refine meets_of_vc (C := mkC 26 [4] [0,1,4,5,10,14,25] []) (mkC_ok _ _ _ _) (fnOf_ok _) Try.func71 rfl rfl rfl (by decide) rfl ?_
 rintro ⟨a0, a1, _⟩ hwf hpre ⟨P, C, B, X, w0, M0, pv⟩ hG rfl rfl
 show Vc _ _ [(0, ⟨0, 0, .c Z2 a0⟩), (1, ⟨0, 0, .c Z2 a1⟩)] _
 have hb : List.length a0 ≤ bigLen := hwf.1.1
 refine Vc.seq (Vc.region hG rfl (by trivial) (Vc.seq (Vc.seq ?_)))
 refine Vc.region hG rfl (by trivial) ?_
 refine Vc.cond rfl (fun h0 => ?_) (fun h0 => ?_)
 · refine Vc.seq (Vc.region hG rfl (by trivial) (Vc.ret ?_))
   refine ⟨?_, trivial⟩
   exact eqC_no (fun e => absurd (show ((List.length a0 : Int) != (List.length a1 : Int)) = true from h0) (by have e : a0 = a1 := e; rw [e]; simp))
 · have g0 : List.length a0 = List.length a1 := lenEq h0
   refine Vc.skip (Vc.seq (Vc.seq (Vc.region hG rfl (by trivial) ?_)))
   refine Vc.block ?_
   refine Vc.loopF [(5, false, .pure (.int .i64))] [0, 1, 10] (fun v => eqInv a0 a1 v.1) (fun v => ((List.length a0 : Int) - v.1).toNat) rfl ?_ ?_
   · exact eqStart g0
   rintro ⟨(i : Int), _⟩ hI
   have hI : eqInv a0 a1 i := hI
   refine Vc.seq (Vc.seq (Vc.region hG rfl (by trivial) ?_))
   refine Vc.cond rfl (fun h1 => ?_) (fun h1 => ?_)
   · have hl : i < (List.length a0 : Int) := of_decide_eq_true h1
     refine Vc.skip (Vc.seq (Vc.block (Vc.seq ?_)))
     refine Vc.regionD mixed hG rfl (by kernel_rfl) ?_ ?_
     · exact ⟨(eqRange hI hl).1, (eqRange hI hl).2⟩
     refine Vc.cond rfl (fun h2 => ?_) (fun h2 => ?_)
     · have g2 : ((List.getD a0 i.toNat (dflt (.int .i64))) != (List.getD a1 i.toNat (dflt (.int .i64)))) = true := h2
       refine Vc.seq (Vc.region hG rfl (by trivial) (Vc.ret ?_))
       refine ⟨?_, trivial⟩
       exact eqNo (d := dflt (.int .i64)) (i := i) (fun e => by rw [e] at g2; simp at g2)
     · have g2 : (List.getD a0 i.toNat (dflt (.int .i64))) = (List.getD a1 i.toNat (dflt (.int .i64))) := bneI h2
       refine Vc.skip (Vc.region hG rfl (by trivial) ?_)
       refine ⟨rfl, ?_⟩
       exact ⟨eqStep (d := dflt (.int .i64)) hI hl hb g2, (upStep hI.1 hl hb).2.2⟩
   · have hl : ¬ i < (List.length a0 : Int) := of_decide_eq_false h1
     refine Vc.exit (Vc.seq (Vc.region hG rfl (by trivial) (Vc.ret ?_)))
     refine ⟨?_, trivial⟩
     exact eqC_yes (eqEnd hI hl)
noncomputable def F65 : Fun := ⟨[.pair (.int .i64) Y6, .pair (.int .i64) Y6], [.pure (.bool)], fun _ => True, fun x => (eqC x.1 x.2.1, ())⟩
theorem F65_ok : Meets Try.prog 65 F65 := by
 refine meets_of_vc (C := mkC 21 [4] [0,1,2,3,4,9,15,20] [⟨71, _, F71_ok⟩]) (mkC_ok _ _ _ _) (fnOf_ok _) Try.func65 rfl rfl rfl (by decide) rfl ?_
 rintro ⟨a0, a1, _⟩ hwf hpre ⟨P, C, B, X, w0, M0, pv⟩ hG rfl rfl
 show Vc _ _ [(0, ⟨0, 0, .c Z12 a0⟩), (1, ⟨0, 0, .c Z12 a1⟩)] _
 refine Vc.seq (Vc.region hG rfl (by trivial) (Vc.seq (Vc.seq ?_)))
 refine Vc.region hG rfl (by trivial) ?_
 refine Vc.cond rfl (fun h0 => ?_) (fun h0 => ?_)
 · refine Vc.seq (Vc.region hG rfl (by trivial) (Vc.ret ?_))
   refine ⟨?_, trivial⟩
   exact eqC_no (fun e => absurd (show (a0.1 != a1.1) = true from h0) (by have e : a0 = a1 := e; rw [e]; simp))
 · have g0 : a0.1 = a1.1 := bneI h0
   refine Vc.skip (Vc.seq (Vc.seq (Vc.region hG rfl (by trivial) ?_)))
   refine Vc.cond rfl (fun h1 => ?_) (fun h1 => ?_)
   · refine Vc.seq (Vc.region hG rfl (by trivial) (Vc.ret ?_))
     refine ⟨?_, trivial⟩
     exact eqC_no (fun e => absurd (show (!(eqC a0.2.1 a1.2.1)) = true from h1) (by have e : a0 = a1 := e; rw [e, eqC_self]; decide))
   · have g1 : a0.2.1 = a1.2.1 := notC h1
     refine Vc.skip (Vc.seq (Vc.seq (Vc.region hG rfl (by trivial) ?_)))
     refine Vc.cond rfl (fun h2 => ?_) (fun h2 => ?_)
     · refine Vc.seq (Vc.region hG rfl (by trivial) (Vc.ret ?_))
       refine ⟨?_, trivial⟩
       exact eqC_no (fun e => absurd (show (a0.2.2 != a1.2.2) = true from h2) (by have e : a0 = a1 := e; rw [e]; simp))
     · have g2 : a0.2.2 = a1.2.2 := bneI h2
       refine Vc.skip (Vc.seq (Vc.region hG rfl (by trivial) (Vc.ret ?_)))
       refine ⟨?_, trivial⟩
       exact eqC_yes (Prod.ext g0 (Prod.ext g1 g2))
noncomputable def F57 : Fun := ⟨[.slice Y11, .slice Y11], [.pure (.bool)], fun _ => True, fun x => (eqC x.1 x.2.1, ())⟩
theorem F57_ok : Meets Try.prog 57 F57 := by
 refine meets_of_vc (C := mkC 27 [4] [0,1,4,5,10,14,26] [⟨65, _, F65_ok⟩]) (mkC_ok _ _ _ _) (fnOf_ok _) Try.func57 rfl rfl rfl (by decide) rfl ?_
 rintro ⟨a0, a1, _⟩ hwf hpre ⟨P, C, B, X, w0, M0, pv⟩ hG rfl rfl
 show Vc _ _ [(0, ⟨0, 0, .c Z15 a0⟩), (1, ⟨0, 0, .c Z15 a1⟩)] _
 have hb : List.length a0 ≤ bigLen := hwf.1.1
 refine Vc.seq (Vc.region hG rfl (by trivial) (Vc.seq (Vc.seq ?_)))
 refine Vc.region hG rfl (by trivial) ?_
 refine Vc.cond rfl (fun h0 => ?_) (fun h0 => ?_)
 · refine Vc.seq (Vc.region hG rfl (by trivial) (Vc.ret ?_))
   refine ⟨?_, trivial⟩
   exact eqC_no (fun e => absurd (show ((List.length a0 : Int) != (List.length a1 : Int)) = true from h0) (by have e : a0 = a1 := e; rw [e]; simp))
 · have g0 : List.length a0 = List.length a1 := lenEq h0
   refine Vc.skip (Vc.seq (Vc.seq (Vc.region hG rfl (by trivial) ?_)))
   refine Vc.block ?_
   refine Vc.loopF [(5, false, .pure (.int .i64))] [0, 1, 10] (fun v => eqInv a0 a1 v.1) (fun v => ((List.length a0 : Int) - v.1).toNat) rfl ?_ ?_
   · exact eqStart g0
   rintro ⟨(i : Int), _⟩ hI
   have hI : eqInv a0 a1 i := hI
   refine Vc.seq (Vc.seq (Vc.region hG rfl (by trivial) ?_))
   refine Vc.cond rfl (fun h1 => ?_) (fun h1 => ?_)
   · have hl : i < (List.length a0 : Int) := of_decide_eq_true h1
     refine Vc.skip (Vc.seq (Vc.block (Vc.seq ?_)))
     refine Vc.regionD mixed hG rfl (by kernel_rfl) ?_ ?_
     · exact ⟨(eqRange hI hl).1, (eqRange hI hl).2, trivial⟩
     refine Vc.cond rfl (fun h2 => ?_) (fun h2 => ?_)
     · have g2 : (!(eqC (List.getD a0 i.toNat (dflt Y11)) (List.getD a1 i.toNat (dflt Y11)))) = true := h2
       refine Vc.seq (Vc.region hG rfl (by trivial) (Vc.ret ?_))
       refine ⟨?_, trivial⟩
       exact eqNo (d := dflt Y11) (i := i) (fun e => by rw [e, eqC_self] at g2; cases g2)
     · have g2 : (List.getD a0 i.toNat (dflt Y11)) = (List.getD a1 i.toNat (dflt Y11)) := notC h2
       refine Vc.skip (Vc.region hG rfl (by trivial) ?_)
       refine ⟨rfl, ?_⟩
       exact ⟨eqStep (d := dflt Y11) hI hl hb g2, (upStep hI.1 hl hb).2.2⟩
   · have hl : ¬ i < (List.length a0 : Int) := of_decide_eq_false h1
     refine Vc.exit (Vc.seq (Vc.region hG rfl (by trivial) (Vc.ret ?_)))
     refine ⟨?_, trivial⟩
     exact eqC_yes (eqEnd hI hl)
noncomputable def F74 : Fun := ⟨[.pair (.int .i64) (.bool), .pair (.int .i64) (.bool)], [.pure (.bool)], fun _ => True, fun x => (eqC x.1 x.2.1, ())⟩
theorem F74_ok : Meets Try.prog 74 F74 := by
 refine meets_of_vc (C := mkC 15 [4] [0,1,2,3,4,9,14] []) (mkC_ok _ _ _ _) (fnOf_ok _) Try.func74 rfl rfl rfl (by decide) rfl ?_
 rintro ⟨a0, a1, _⟩ hwf hpre ⟨P, C, B, X, w0, M0, pv⟩ hG rfl rfl
 show Vc _ _ [(0, ⟨0, 0, .c Z4 a0⟩), (1, ⟨0, 0, .c Z4 a1⟩)] _
 refine Vc.seq (Vc.region hG rfl (by trivial) (Vc.seq (Vc.seq ?_)))
 refine Vc.region hG rfl (by trivial) ?_
 refine Vc.cond rfl (fun h0 => ?_) (fun h0 => ?_)
 · refine Vc.seq (Vc.region hG rfl (by trivial) (Vc.ret ?_))
   refine ⟨?_, trivial⟩
   exact eqC_no (fun e => absurd (show (a0.1 != a1.1) = true from h0) (by have e : a0 = a1 := e; rw [e]; simp))
 · have g0 : a0.1 = a1.1 := bneI h0
   refine Vc.skip (Vc.seq (Vc.seq (Vc.region hG rfl (by trivial) ?_)))
   refine Vc.cond rfl (fun h1 => ?_) (fun h1 => ?_)
   · refine Vc.seq (Vc.region hG rfl (by trivial) (Vc.ret ?_))
     refine ⟨?_, trivial⟩
     exact eqC_no (fun e => absurd (show (a0.2 != a1.2) = true from h1) (by have e : a0 = a1 := e; rw [e]; simp))
   · have g1 : a0.2 = a1.2 := bneB h1
     refine Vc.skip (Vc.seq (Vc.region hG rfl (by trivial) (Vc.ret ?_)))
     refine ⟨?_, trivial⟩
     exact eqC_yes (Prod.ext g0 g1)
noncomputable def F72 : Fun := ⟨[.slice Y1, .slice Y1], [.pure (.bool)], fun _ => True, fun x => (eqC x.1 x.2.1, ())⟩
theorem F72_ok : Meets Try.prog 72 F72 := by
 refine meets_of_vc (C := mkC 27 [4] [0,1,4,5,10,14,26] [⟨74, _, F74_ok⟩]) (mkC_ok _ _ _ _) (fnOf_ok _) Try.func72 rfl rfl rfl (by decide) rfl ?_
 rintro ⟨a0, a1, _⟩ hwf hpre ⟨P, C, B, X, w0, M0, pv⟩ hG rfl rfl
 show Vc _ _ [(0, ⟨0, 0, .c Z8 a0⟩), (1, ⟨0, 0, .c Z8 a1⟩)] _
 have hb : List.length a0 ≤ bigLen := hwf.1.1
 refine Vc.seq (Vc.region hG rfl (by trivial) (Vc.seq (Vc.seq ?_)))
 refine Vc.region hG rfl (by trivial) ?_
 refine Vc.cond rfl (fun h0 => ?_) (fun h0 => ?_)
 · refine Vc.seq (Vc.region hG rfl (by trivial) (Vc.ret ?_))
   refine ⟨?_, trivial⟩
   exact eqC_no (fun e => absurd (show ((List.length a0 : Int) != (List.length a1 : Int)) = true from h0) (by have e : a0 = a1 := e; rw [e]; simp))
 · have g0 : List.length a0 = List.length a1 := lenEq h0
   refine Vc.skip (Vc.seq (Vc.seq (Vc.region hG rfl (by trivial) ?_)))
   refine Vc.block ?_
   refine Vc.loopF [(5, false, .pure (.int .i64))] [0, 1, 10] (fun v => eqInv a0 a1 v.1) (fun v => ((List.length a0 : Int) - v.1).toNat) rfl ?_ ?_
   · exact eqStart g0
   rintro ⟨(i : Int), _⟩ hI
   have hI : eqInv a0 a1 i := hI
   refine Vc.seq (Vc.seq (Vc.region hG rfl (by trivial) ?_))
   refine Vc.cond rfl (fun h1 => ?_) (fun h1 => ?_)
   · have hl : i < (List.length a0 : Int) := of_decide_eq_true h1
     refine Vc.skip (Vc.seq (Vc.block (Vc.seq ?_)))
     refine Vc.regionD mixed hG rfl (by kernel_rfl) ?_ ?_
     · exact ⟨(eqRange hI hl).1, (eqRange hI hl).2, trivial⟩
     refine Vc.cond rfl (fun h2 => ?_) (fun h2 => ?_)
     · have g2 : (!(eqC (List.getD a0 i.toNat (dflt Y1)) (List.getD a1 i.toNat (dflt Y1)))) = true := h2
       refine Vc.seq (Vc.region hG rfl (by trivial) (Vc.ret ?_))
       refine ⟨?_, trivial⟩
       exact eqNo (d := dflt Y1) (i := i) (fun e => by rw [e, eqC_self] at g2; cases g2)
     · have g2 : (List.getD a0 i.toNat (dflt Y1)) = (List.getD a1 i.toNat (dflt Y1)) := notC h2
       refine Vc.skip (Vc.region hG rfl (by trivial) ?_)
       refine ⟨rfl, ?_⟩
       exact ⟨eqStep (d := dflt Y1) hI hl hb g2, (upStep hI.1 hl hb).2.2⟩
   · have hl : ¬ i < (List.length a0 : Int) := of_decide_eq_false h1
     refine Vc.exit (Vc.seq (Vc.region hG rfl (by trivial) (Vc.ret ?_)))
     refine ⟨?_, trivial⟩
     exact eqC_yes (eqEnd hI hl)
noncomputable def F66 : Fun := ⟨[.pair (.int .i64) Y28, .pair (.int .i64) Y28], [.pure (.bool)], fun _ => True, fun x => (eqC x.1 x.2.1, ())⟩
theorem F66_ok : Meets Try.prog 66 F66 := by
 refine meets_of_vc (C := mkC 32 [4] [0,1,2,3,4,9,14,19,25,31] [⟨72, _, F72_ok⟩, ⟨18, _, F18_ok⟩]) (mkC_ok _ _ _ _) (fnOf_ok _) Try.func66 rfl rfl rfl (by decide) rfl ?_
 rintro ⟨a0, a1, _⟩ hwf hpre ⟨P, C, B, X, w0, M0, pv⟩ hG rfl rfl
 show Vc _ _ [(0, ⟨0, 0, .c Z31 a0⟩), (1, ⟨0, 0, .c Z31 a1⟩)] _
 refine Vc.seq (Vc.region hG rfl (by trivial) (Vc.seq (Vc.seq ?_)))
 refine Vc.region hG rfl (by trivial) ?_
 refine Vc.cond rfl (fun h0 => ?_) (fun h0 => ?_)
 · refine Vc.seq (Vc.region hG rfl (by trivial) (Vc.ret ?_))
   refine ⟨?_, trivial⟩
   exact eqC_no (fun e => absurd (show (a0.1 != a1.1) = true from h0) (by have e : a0 = a1 := e; rw [e]; simp))
 · have g0 : a0.1 = a1.1 := bneI h0
   refine Vc.skip (Vc.seq (Vc.seq (Vc.region hG rfl (by trivial) ?_)))
   refine Vc.cond rfl (fun h1 => ?_) (fun h1 => ?_)
   · refine Vc.seq (Vc.region hG rfl (by trivial) (Vc.ret ?_))
     refine ⟨?_, trivial⟩
     exact eqC_no (fun e => absurd (show (a0.2.1 != a1.2.1) = true from h1) (by have e : a0 = a1 := e; rw [e]; simp))
   · have g1 : a0.2.1 = a1.2.1 := bneI h1
     refine Vc.skip (Vc.seq (Vc.seq (Vc.region hG rfl (by trivial) ?_)))
     refine Vc.cond rfl (fun h2 => ?_) (fun h2 => ?_)
     · refine Vc.seq (Vc.region hG rfl (by trivial) (Vc.ret ?_))
       refine ⟨?_, trivial⟩
       exact eqC_no (fun e => absurd (show (a0.2.2.1 != a1.2.2.1) = true from h2) (by have e : a0 = a1 := e; rw [e]; simp))
     · have g2 : a0.2.2.1 = a1.2.2.1 := bneI h2
       refine Vc.skip (Vc.seq (Vc.seq (Vc.region hG rfl (by trivial) ?_)))
       refine Vc.cond rfl (fun h3 => ?_) (fun h3 => ?_)
       · refine Vc.seq (Vc.region hG rfl (by trivial) (Vc.ret ?_))
         refine ⟨?_, trivial⟩
         exact eqC_no (fun e => absurd (show (!(eqC a0.2.2.2.1 a1.2.2.2.1)) = true from h3) (by have e : a0 = a1 := e; rw [e, eqC_self]; decide))
       · have g3 : a0.2.2.2.1 = a1.2.2.2.1 := notC h3
         refine Vc.skip (Vc.seq (Vc.seq (Vc.region hG rfl (by trivial) ?_)))
         refine Vc.cond rfl (fun h4 => ?_) (fun h4 => ?_)
         · refine Vc.seq (Vc.region hG rfl (by trivial) (Vc.ret ?_))
           refine ⟨?_, trivial⟩
           exact eqC_no (fun e => absurd (show (!(eqC a0.2.2.2.2 a1.2.2.2.2)) = true from h4) (by have e : a0 = a1 := e; rw [e, eqC_self]; decide))
         · have g4 : a0.2.2.2.2 = a1.2.2.2.2 := notC h4
           refine Vc.skip (Vc.seq (Vc.region hG rfl (by trivial) (Vc.ret ?_)))
           refine ⟨?_, trivial⟩
           exact eqC_yes (Prod.ext g0 (Prod.ext g1 (Prod.ext g2 (Prod.ext g3 g4))))
noncomputable def F58 : Fun := ⟨[.slice Y30, .slice Y30], [.pure (.bool)], fun _ => True, fun x => (eqC x.1 x.2.1, ())⟩
theorem F58_ok : Meets Try.prog 58 F58 := by
 refine meets_of_vc (C := mkC 27 [4] [0,1,4,5,10,14,26] [⟨66, _, F66_ok⟩]) (mkC_ok _ _ _ _) (fnOf_ok _) Try.func58 rfl rfl rfl (by decide) rfl ?_
 rintro ⟨a0, a1, _⟩ hwf hpre ⟨P, C, B, X, w0, M0, pv⟩ hG rfl rfl
 show Vc _ _ [(0, ⟨0, 0, .c Z34 a0⟩), (1, ⟨0, 0, .c Z34 a1⟩)] _
 have hb : List.length a0 ≤ bigLen := hwf.1.1
 refine Vc.seq (Vc.region hG rfl (by trivial) (Vc.seq (Vc.seq ?_)))
 refine Vc.region hG rfl (by trivial) ?_
 refine Vc.cond rfl (fun h0 => ?_) (fun h0 => ?_)
 · refine Vc.seq (Vc.region hG rfl (by trivial) (Vc.ret ?_))
   refine ⟨?_, trivial⟩
   exact eqC_no (fun e => absurd (show ((List.length a0 : Int) != (List.length a1 : Int)) = true from h0) (by have e : a0 = a1 := e; rw [e]; simp))
 · have g0 : List.length a0 = List.length a1 := lenEq h0
   refine Vc.skip (Vc.seq (Vc.seq (Vc.region hG rfl (by trivial) ?_)))
   refine Vc.block ?_
   refine Vc.loopF [(5, false, .pure (.int .i64))] [0, 1, 10] (fun v => eqInv a0 a1 v.1) (fun v => ((List.length a0 : Int) - v.1).toNat) rfl ?_ ?_
   · exact eqStart g0
   rintro ⟨(i : Int), _⟩ hI
   have hI : eqInv a0 a1 i := hI
   refine Vc.seq (Vc.seq (Vc.region hG rfl (by trivial) ?_))
   refine Vc.cond rfl (fun h1 => ?_) (fun h1 => ?_)
   · have hl : i < (List.length a0 : Int) := of_decide_eq_true h1
     refine Vc.skip (Vc.seq (Vc.block (Vc.seq ?_)))
     refine Vc.regionD mixed hG rfl (by kernel_rfl) ?_ ?_
     · exact ⟨(eqRange hI hl).1, (eqRange hI hl).2, trivial⟩
     refine Vc.cond rfl (fun h2 => ?_) (fun h2 => ?_)
     · have g2 : (!(eqC (List.getD a0 i.toNat (dflt Y30)) (List.getD a1 i.toNat (dflt Y30)))) = true := h2
       refine Vc.seq (Vc.region hG rfl (by trivial) (Vc.ret ?_))
       refine ⟨?_, trivial⟩
       exact eqNo (d := dflt Y30) (i := i) (fun e => by rw [e, eqC_self] at g2; cases g2)
     · have g2 : (List.getD a0 i.toNat (dflt Y30)) = (List.getD a1 i.toNat (dflt Y30)) := notC h2
       refine Vc.skip (Vc.region hG rfl (by trivial) ?_)
       refine ⟨rfl, ?_⟩
       exact ⟨eqStep (d := dflt Y30) hI hl hb g2, (upStep hI.1 hl hb).2.2⟩
   · have hl : ¬ i < (List.length a0 : Int) := of_decide_eq_false h1
     refine Vc.exit (Vc.seq (Vc.region hG rfl (by trivial) (Vc.ret ?_)))
     refine ⟨?_, trivial⟩
     exact eqC_yes (eqEnd hI hl)
noncomputable def F47 : Fun := ⟨[.pair Y13 Y33, .pair Y13 Y33], [.pure (.bool)], fun _ => True, fun x => (eqC x.1 x.2.1, ())⟩
theorem F47_ok : Meets Try.prog 47 F47 := by
 refine meets_of_vc (C := mkC 17 [4] [0,1,2,3,4,10,16] [⟨57, _, F57_ok⟩, ⟨58, _, F58_ok⟩]) (mkC_ok _ _ _ _) (fnOf_ok _) Try.func47 rfl rfl rfl (by decide) rfl ?_
 rintro ⟨a0, a1, _⟩ hwf hpre ⟨P, C, B, X, w0, M0, pv⟩ hG rfl rfl
 show Vc _ _ [(0, ⟨0, 0, .c Z38 a0⟩), (1, ⟨0, 0, .c Z38 a1⟩)] _
 refine Vc.seq (Vc.region hG rfl (by trivial) (Vc.seq (Vc.seq ?_)))
 refine Vc.region hG rfl (by trivial) ?_
 refine Vc.cond rfl (fun h0 => ?_) (fun h0 => ?_)
 · refine Vc.seq (Vc.region hG rfl (by trivial) (Vc.ret ?_))
   refine ⟨?_, trivial⟩
   exact eqC_no (fun e => absurd (show (!(eqC a0.1 a1.1)) = true from h0) (by have e : a0 = a1 := e; rw [e, eqC_self]; decide))
 · have g0 : a0.1 = a1.1 := notC h0
   refine Vc.skip (Vc.seq (Vc.seq (Vc.region hG rfl (by trivial) ?_)))
   refine Vc.cond rfl (fun h1 => ?_) (fun h1 => ?_)
   · refine Vc.seq (Vc.region hG rfl (by trivial) (Vc.ret ?_))
     refine ⟨?_, trivial⟩
     exact eqC_no (fun e => absurd (show (!(eqC a0.2 a1.2)) = true from h1) (by have e : a0 = a1 := e; rw [e, eqC_self]; decide))
   · have g1 : a0.2 = a1.2 := notC h1
     refine Vc.skip (Vc.seq (Vc.region hG rfl (by trivial) (Vc.ret ?_)))
     refine ⟨?_, trivial⟩
     exact eqC_yes (Prod.ext g0 g1)
noncomputable def F35 : Fun := ⟨[.slice Y37, .slice Y37], [.pure (.bool)], fun _ => True, fun x => (eqC x.1 x.2.1, ())⟩
theorem F35_ok : Meets Try.prog 35 F35 := by
 refine meets_of_vc (C := mkC 27 [4] [0,1,4,5,10,14,26] [⟨47, _, F47_ok⟩]) (mkC_ok _ _ _ _) (fnOf_ok _) Try.func35 rfl rfl rfl (by decide) rfl ?_
 rintro ⟨a0, a1, _⟩ hwf hpre ⟨P, C, B, X, w0, M0, pv⟩ hG rfl rfl
 show Vc _ _ [(0, ⟨0, 0, .c Z40 a0⟩), (1, ⟨0, 0, .c Z40 a1⟩)] _
 have hb : List.length a0 ≤ bigLen := hwf.1.1
 refine Vc.seq (Vc.region hG rfl (by trivial) (Vc.seq (Vc.seq ?_)))
 refine Vc.region hG rfl (by trivial) ?_
 refine Vc.cond rfl (fun h0 => ?_) (fun h0 => ?_)
 · refine Vc.seq (Vc.region hG rfl (by trivial) (Vc.ret ?_))
   refine ⟨?_, trivial⟩
   exact eqC_no (fun e => absurd (show ((List.length a0 : Int) != (List.length a1 : Int)) = true from h0) (by have e : a0 = a1 := e; rw [e]; simp))
 · have g0 : List.length a0 = List.length a1 := lenEq h0
   refine Vc.skip (Vc.seq (Vc.seq (Vc.region hG rfl (by trivial) ?_)))
   refine Vc.block ?_
   refine Vc.loopF [(5, false, .pure (.int .i64))] [0, 1, 10] (fun v => eqInv a0 a1 v.1) (fun v => ((List.length a0 : Int) - v.1).toNat) rfl ?_ ?_
   · exact eqStart g0
   rintro ⟨(i : Int), _⟩ hI
   have hI : eqInv a0 a1 i := hI
   refine Vc.seq (Vc.seq (Vc.region hG rfl (by trivial) ?_))
   refine Vc.cond rfl (fun h1 => ?_) (fun h1 => ?_)
   · have hl : i < (List.length a0 : Int) := of_decide_eq_true h1
     refine Vc.skip (Vc.seq (Vc.block (Vc.seq ?_)))
     refine Vc.regionD mixed hG rfl (by kernel_rfl) ?_ ?_
     · exact ⟨(eqRange hI hl).1, (eqRange hI hl).2, trivial⟩
     refine Vc.cond rfl (fun h2 => ?_) (fun h2 => ?_)
     · have g2 : (!(eqC (List.getD a0 i.toNat (dflt Y37)) (List.getD a1 i.toNat (dflt Y37)))) = true := h2
       refine Vc.seq (Vc.region hG rfl (by trivial) (Vc.ret ?_))
       refine ⟨?_, trivial⟩
       exact eqNo (d := dflt Y37) (i := i) (fun e => by rw [e, eqC_self] at g2; cases g2)
     · have g2 : (List.getD a0 i.toNat (dflt Y37)) = (List.getD a1 i.toNat (dflt Y37)) := notC h2
       refine Vc.skip (Vc.region hG rfl (by trivial) ?_)
       refine ⟨rfl, ?_⟩
       exact ⟨eqStep (d := dflt Y37) hI hl hb g2, (upStep hI.1 hl hb).2.2⟩
   · have hl : ¬ i < (List.length a0 : Int) := of_decide_eq_false h1
     refine Vc.exit (Vc.seq (Vc.region hG rfl (by trivial) (Vc.ret ?_)))
     refine ⟨?_, trivial⟩
     exact eqC_yes (eqEnd hI hl)
noncomputable def F36 : Fun := ⟨[.slice Y20, .slice Y20], [.pure (.bool)], fun _ => True, fun x => (eqC x.1 x.2.1, ())⟩
theorem F36_ok : Meets Try.prog 36 F36 := by
 refine meets_of_vc (C := mkC 27 [4] [0,1,4,5,10,14,26] [⟨18, _, F18_ok⟩]) (mkC_ok _ _ _ _) (fnOf_ok _) Try.func36 rfl rfl rfl (by decide) rfl ?_
 rintro ⟨a0, a1, _⟩ hwf hpre ⟨P, C, B, X, w0, M0, pv⟩ hG rfl rfl
 show Vc _ _ [(0, ⟨0, 0, .c Z24 a0⟩), (1, ⟨0, 0, .c Z24 a1⟩)] _
 have hb : List.length a0 ≤ bigLen := hwf.1.1
 refine Vc.seq (Vc.region hG rfl (by trivial) (Vc.seq (Vc.seq ?_)))
 refine Vc.region hG rfl (by trivial) ?_
 refine Vc.cond rfl (fun h0 => ?_) (fun h0 => ?_)
 · refine Vc.seq (Vc.region hG rfl (by trivial) (Vc.ret ?_))
   refine ⟨?_, trivial⟩
   exact eqC_no (fun e => absurd (show ((List.length a0 : Int) != (List.length a1 : Int)) = true from h0) (by have e : a0 = a1 := e; rw [e]; simp))
 · have g0 : List.length a0 = List.length a1 := lenEq h0
   refine Vc.skip (Vc.seq (Vc.seq (Vc.region hG rfl (by trivial) ?_)))
   refine Vc.block ?_
   refine Vc.loopF [(5, false, .pure (.int .i64))] [0, 1, 10] (fun v => eqInv a0 a1 v.1) (fun v => ((List.length a0 : Int) - v.1).toNat) rfl ?_ ?_
   · exact eqStart g0
   rintro ⟨(i : Int), _⟩ hI
   have hI : eqInv a0 a1 i := hI
   refine Vc.seq (Vc.seq (Vc.region hG rfl (by trivial) ?_))
   refine Vc.cond rfl (fun h1 => ?_) (fun h1 => ?_)
   · have hl : i < (List.length a0 : Int) := of_decide_eq_true h1
     refine Vc.skip (Vc.seq (Vc.block (Vc.seq ?_)))
     refine Vc.regionD mixed hG rfl (by kernel_rfl) ?_ ?_
     · exact ⟨(eqRange hI hl).1, (eqRange hI hl).2, trivial⟩
     refine Vc.cond rfl (fun h2 => ?_) (fun h2 => ?_)
     · have g2 : (!(eqC (List.getD a0 i.toNat (dflt Y20)) (List.getD a1 i.toNat (dflt Y20)))) = true := h2
       refine Vc.seq (Vc.region hG rfl (by trivial) (Vc.ret ?_))
       refine ⟨?_, trivial⟩
       exact eqNo (d := dflt Y20) (i := i) (fun e => by rw [e, eqC_self] at g2; cases g2)
     · have g2 : (List.getD a0 i.toNat (dflt Y20)) = (List.getD a1 i.toNat (dflt Y20)) := notC h2
       refine Vc.skip (Vc.region hG rfl (by trivial) ?_)
       refine ⟨rfl, ?_⟩
       exact ⟨eqStep (d := dflt Y20) hI hl hb g2, (upStep hI.1 hl hb).2.2⟩
   · have hl : ¬ i < (List.length a0 : Int) := of_decide_eq_false h1
     refine Vc.exit (Vc.seq (Vc.region hG rfl (by trivial) (Vc.ret ?_)))
     refine ⟨?_, trivial⟩
     exact eqC_yes (eqEnd hI hl)
noncomputable def F19 : Fun := ⟨[.pair Y39 Y23, .pair Y39 Y23], [.pure (.bool)], fun _ => True, fun x => (eqC x.1 x.2.1, ())⟩
theorem F19_ok : Meets Try.prog 19 F19 := by
 refine meets_of_vc (C := mkC 17 [4] [0,1,2,3,4,10,16] [⟨35, _, F35_ok⟩, ⟨36, _, F36_ok⟩]) (mkC_ok _ _ _ _) (fnOf_ok _) Try.func19 rfl rfl rfl (by decide) rfl ?_
 rintro ⟨a0, a1, _⟩ hwf hpre ⟨P, C, B, X, w0, M0, pv⟩ hG rfl rfl
 show Vc _ _ [(0, ⟨0, 0, .c Z43 a0⟩), (1, ⟨0, 0, .c Z43 a1⟩)] _
 refine Vc.seq (Vc.region hG rfl (by trivial) (Vc.seq (Vc.seq ?_)))
 refine Vc.region hG rfl (by trivial) ?_
 refine Vc.cond rfl (fun h0 => ?_) (fun h0 => ?_)
 · refine Vc.seq (Vc.region hG rfl (by trivial) (Vc.ret ?_))
   refine ⟨?_, trivial⟩
   exact eqC_no (fun e => absurd (show (!(eqC a0.1 a1.1)) = true from h0) (by have e : a0 = a1 := e; rw [e, eqC_self]; decide))
 · have g0 : a0.1 = a1.1 := notC h0
   refine Vc.skip (Vc.seq (Vc.seq (Vc.region hG rfl (by trivial) ?_)))
   refine Vc.cond rfl (fun h1 => ?_) (fun h1 => ?_)
   · refine Vc.seq (Vc.region hG rfl (by trivial) (Vc.ret ?_))
     refine ⟨?_, trivial⟩
     exact eqC_no (fun e => absurd (show (!(eqC a0.2 a1.2)) = true from h1) (by have e : a0 = a1 := e; rw [e, eqC_self]; decide))
   · have g1 : a0.2 = a1.2 := notC h1
     refine Vc.skip (Vc.seq (Vc.region hG rfl (by trivial) (Vc.ret ?_)))
     refine ⟨?_, trivial⟩
     exact eqC_yes (Prod.ext g0 g1)
@[reducible] noncomputable def M59 : MFun := mF (.own (.pure (.int .i64)))
set_option maxHeartbeats 2000000 in
theorem M59_ok : MeetsM Try.prog 59 M59 := by
 refine meetsM_of_vc (C := mkCM 19 [4] [0,1,4,5,9] [] [] [] [0]) (mkCM_ok _ _ _ _ _ _ _) (fnOf_ok _) Try.func59 rfl rfl rfl (by decide) rfl rfl rfl rfl ?_
 rintro a0 (a1 : Int) hwf hin hpre ⟨P, C, B, X, w0, M0, pv⟩ hG rfl rfl
 show Vc _ _ [(0, ⟨0, 0, .c (.own (.pure (.int .i64))) a0⟩), (1, ⟨0, 0, .c (.pure (.int .i64)) a1⟩)] _
 have hb : List.length a0 ≤ bigLen := hwf.1
 have hp0 : 0 ≤ a1 := hpre.1
 have hp1 : a1 + ((cellsL (cellsC (.int .i64)) a0 : Nat) : Int) ≤ bnd := hpre.2
 refine Vc.seq (Vc.region hG rfl (by trivial) (Vc.seq (Vc.seq ?_)))
 refine Vc.region hG rfl (by trivial) (Vc.block ?_)
 refine Vc.loopF [(0, false, .own (.pure (.int .i64))), (1, false, .pure (.int .i64)), (5, false, .pure (.int .i64))] [4] (fun v => mkInv (cellsC (.int .i64)) (markC (.int .i64)) a0 a1 v.1 v.2.1 v.2.2.1) (fun v => ((List.length v.1 : Int) - v.2.2.1).toNat) rfl ?_ ?_
 · exact mkStart
 rintro ⟨v, (k : Int), (i : Int), _⟩ hI
 have hI : mkInv (cellsC (.int .i64)) (markC (.int .i64)) a0 a1 v k i := hI
 have hbv : v.length ≤ bigLen := by rw [mkLen hI]; exact hb
 refine Vc.seq (Vc.seq (Vc.region hG rfl (by trivial) ?_))
 refine Vc.cond rfl (fun h0 => ?_) (fun h0 => ?_)
 · have hl : i < (List.length v : Int) := of_decide_eq_true h0
   have hln : i.toNat < v.length := by have := hI.1; omega
   have hk := mkBound hI hl (dflt (.int .i64)) hp0 hp1
   generalize hX : List.getD v i.toNat (dflt (.int .i64)) = X at hk
   have hk : 0 ≤ k ∧ k + ((1 : Nat) : Int) ≤ bnd := hk
   have w0 : IntKind.i64.wrap (k + 1) = k + 1 := wrapB (by omega) (by omega)
   refine Vc.skip (Vc.seq (Vc.block (Vc.seq ?_)))
   refine Vc.region hG rfl ?_ ?_
   · show inRange i _
     exact mkRange hI hl
   refine Vc.region hG rfl (by trivial) (Vc.region hG rfl (by trivial) ?_)
   refine ⟨rfl, ?_⟩
   refine mkStep hI hl hbv (dflt (.int .i64)) ?_ ?_
   · rw [hX]
     try simp only [List.length_set, List.set_set, getD_setS hln, hX, cntF_eq, Sh.ty, w0]
     try rfl
   · rw [hX]
     show _ = k + ((1 : Nat) : Int)
     try simp only [List.length_set, List.set_set, getD_setS hln, hX, cntF_eq, Sh.ty, w0]
     try omega
 · have hl : ¬ i < (List.length v : Int) := of_decide_eq_false h0
   refine Vc.exit (Vc.seq (Vc.region hG rfl (by trivial) (Vc.ret ?_)))
   have e := mkEnd hI hl
   refine ⟨?_, ?_, trivial⟩
   · show k = cntF (.slice (.int .i64)) a0 a1
     rw [cntF_eq]; exact e.1
   · exact e.2
@[reducible] noncomputable def M48 : MFun := mF (.own (.pair (.pure (.int .i64)) (.pair (.own (.pure (.int .i64))) (.pure (.int .i64)))))
set_option maxHeartbeats 2000000 in
theorem M48_ok : MeetsM Try.prog 48 M48 := by
 refine meetsM_of_vc (C := mkCM 34 [4] [0,1,4,5,9] [] [⟨59, _, M59_ok⟩] [] [0]) (mkCM_ok _ _ _ _ _ _ _) (fnOf_ok _) Try.func48 rfl rfl rfl (by decide) rfl rfl rfl rfl ?_
 rintro a0 (a1 : Int) hwf hin hpre ⟨P, C, B, X, w0, M0, pv⟩ hG rfl rfl
 show Vc _ _ [(0, ⟨0, 0, .c (.own (.pair (.pure (.int .i64)) (.pair (.own (.pure (.int .i64))) (.pure (.int .i64))))) a0⟩), (1, ⟨0, 0, .c (.pure (.int .i64)) a1⟩)] _
 have hb : List.length a0 ≤ bigLen := hwf.1
 have hp0 : 0 ≤ a1 := hpre.1
 have hp1 : a1 + ((cellsL (cellsC (.pair (.int .i64) (.pair (.slice (.int .i64)) (.int .i64)))) a0 : Nat) : Int) ≤ bnd := hpre.2
 refine Vc.seq (Vc.region hG rfl (by trivial) (Vc.seq (Vc.seq ?_)))
 refine Vc.region hG rfl (by trivial) (Vc.block ?_)
 refine Vc.loopF [(0, false, .own (.pair (.pure (.int .i64)) (.pair (.own (.pure (.int .i64))) (.pure (.int .i64))))), (1, false, .pure (.int .i64)), (5, false, .pure (.int .i64))] [4] (fun v => mkInv (cellsC (.pair (.int .i64) (.pair (.slice (.int .i64)) (.int .i64)))) (markC (.pair (.int .i64) (.pair (.slice (.int .i64)) (.int .i64)))) a0 a1 v.1 v.2.1 v.2.2.1) (fun v => ((List.length v.1 : Int) - v.2.2.1).toNat) rfl ?_ ?_
 · exact mkStart
 rintro ⟨v, (k : Int), (i : Int), _⟩ hI
 have hI : mkInv (cellsC (.pair (.int .i64) (.pair (.slice (.int .i64)) (.int .i64)))) (markC (.pair (.int .i64) (.pair (.slice (.int .i64)) (.int .i64)))) a0 a1 v k i := hI
 have hbv : v.length ≤ bigLen := by rw [mkLen hI]; exact hb
 refine Vc.seq (Vc.seq (Vc.region hG rfl (by trivial) ?_))
 refine Vc.cond rfl (fun h0 => ?_) (fun h0 => ?_)
 · have hl : i < (List.length v : Int) := of_decide_eq_true h0
   have hln : i.toNat < v.length := by have := hI.1; omega
   have hk := mkBound hI hl (dflt (.pair (.int .i64) (.pair (.slice (.int .i64)) (.int .i64)))) hp0 hp1
   generalize hX : List.getD v i.toNat (dflt (.pair (.int .i64) (.pair (.slice (.int .i64)) (.int .i64)))) = X at hk
   have hk : 0 ≤ k ∧ k + (((1 + ((cellsC (.slice (.int .i64)) X.2.1) + 1)) : Nat) : Int) ≤ bnd := hk
   have w0 : IntKind.i64.wrap (k + 1) = k + 1 := wrapB (by omega) (by omega)
   have w1 : IntKind.i64.wrap (k + 1 + ((cellsC (.slice (.int .i64)) X.2.1 : Nat) : Int) + 1) = k + 1 + ((cellsC (.slice (.int .i64)) X.2.1 : Nat) : Int) + 1 := wrapB (by omega) (by omega)
   refine Vc.skip (Vc.seq (Vc.block (Vc.seq ?_)))
   refine Vc.region hG rfl ?_ ?_
   · show inRange i _
     exact mkRange hI hl
   refine Vc.seq (Vc.region hG rfl (by trivial) (Vc.seq ?_))
   refine Vc.region hG rfl ?_ ?_
   · refine ⟨?_, ?_⟩
     · show inRange i _
       simp only [List.length_set]
       exact mkRange hI hl
     · show markPre (.slice (.int .i64)) _ _
       try simp only [List.length_set, List.set_set, getD_setS hln, hX, cntF_eq, Sh.ty, w0, w1]
       exact ⟨by omega, by omega⟩
   refine Vc.seq ?_
   refine Vc.region hG rfl ?_ ?_
   · show inRange i _
     simp only [List.length_set]
     exact mkRange hI hl
   refine Vc.region hG rfl (by trivial) (Vc.region hG rfl (by trivial) ?_)
   refine ⟨rfl, ?_⟩
   refine mkStep hI hl hbv (dflt (.pair (.int .i64) (.pair (.slice (.int .i64)) (.int .i64)))) ?_ ?_
   · rw [hX]
     try simp only [List.length_set, List.set_set, getD_setS hln, hX, cntF_eq, Sh.ty, w0, w1]
     try rfl
   · rw [hX]
     show _ = k + (((1 + ((cellsC (.slice (.int .i64)) X.2.1) + 1)) : Nat) : Int)
     try simp only [List.length_set, List.set_set, getD_setS hln, hX, cntF_eq, Sh.ty, w0, w1]
     try omega
 · have hl : ¬ i < (List.length v : Int) := of_decide_eq_false h0
   refine Vc.exit (Vc.seq (Vc.region hG rfl (by trivial) (Vc.ret ?_)))
   have e := mkEnd hI hl
   refine ⟨?_, ?_, trivial⟩
   · show k = cntF (.slice (.pair (.int .i64) (.pair (.slice (.int .i64)) (.int .i64)))) a0 a1
     rw [cntF_eq]; exact e.1
   · exact e.2
end Fw
