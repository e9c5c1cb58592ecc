/- Walks of functions of the program: what each computes. Conditions: those that each contract names. -/
import Derived.Test.YtidodegkmafkhaaW25T
import Derived.Test.YtidodegkmafkhaaW25m0
namespace Fw
open Go Go.Proofs
set_option linter.unusedSimpArgs false
set_option maxRecDepth 100000
@[reducible] noncomputable def M60 : MFun := mF (.own (.pure (.pair (.int .i64) (.bool))))
set_option maxHeartbeats 2000000 in
theorem M60_ok : MeetsM Try.prog 60 M60 := by
 refine meetsM_of_vc (C := mkCM 29 [4] [0,1,4,5,9] [] [] [] [0]) (mkCM_ok _ _ _ _ _ _ _) (fnOf_ok _) Try.func60 rfl rfl rfl (by decide) rfl rfl rfl rfl ?_
 rintro a0 (a1 : Int) hwf hin hpre ⟨P, C, B, X, w0, M0, pv⟩ hG rfl rfl
 show Vc _ _ [(0, ⟨0, 0, .c (.own (.pure (.pair (.int .i64) (.bool)))) a0⟩), (1, ⟨0, 0, .c (.pure (.int .i64)) a1⟩)] _
 have hb : List.length a0 ≤ bigLen := hwf.1
 have hp0 : 0 ≤ a1 := hpre.1
 have hp1 : a1 + ((cellsL (cellsC (.pair (.int .i64) (.bool))) a0 : Nat) : Int) ≤ bnd := hpre.2
 refine Vc.seq (Vc.region hG rfl (by trivial) (Vc.seq (Vc.seq ?_)))
 refine Vc.region hG rfl (by trivial) (Vc.block ?_)
 refine Vc.loopF [(0, false, .own (.pure (.pair (.int .i64) (.bool)))), (1, false, .pure (.int .i64)), (5, false, .pure (.int .i64))] [4] (fun v => mkInv (cellsC (.pair (.int .i64) (.bool))) (markC (.pair (.int .i64) (.bool))) a0 a1 v.1 v.2.1 v.2.2.1) (fun v => ((List.length v.1 : Int) - v.2.2.1).toNat) rfl ?_ ?_
 · exact mkStart
 rintro ⟨v, (k : Int), (i : Int), _⟩ hI
 have hI : mkInv (cellsC (.pair (.int .i64) (.bool))) (markC (.pair (.int .i64) (.bool))) a0 a1 v k i := hI
 have hbv : v.length ≤ bigLen := by rw [mkLen hI]; exact hb
 refine Vc.seq (Vc.seq (Vc.region hG rfl (by trivial) ?_))
 refine Vc.cond rfl (fun h0 => ?_) (fun h0 => ?_)
 · have hl : i < (List.length v : Int) := of_decide_eq_true h0
   have hln : i.toNat < v.length := by have := hI.1; omega
   have hk := mkBound hI hl (dflt (.pair (.int .i64) (.bool))) hp0 hp1
   generalize hX : List.getD v i.toNat (dflt (.pair (.int .i64) (.bool))) = X at hk
   have hk : 0 ≤ k ∧ k + (((1 + 1) : Nat) : Int) ≤ bnd := hk
   have w0 : IntKind.i64.wrap (k + 1) = k + 1 := wrapB (by omega) (by omega)
   have w1 : IntKind.i64.wrap (k + 1 + 1) = k + 1 + 1 := wrapB (by omega) (by omega)
   refine Vc.skip (Vc.seq (Vc.block (Vc.seq ?_)))
   refine Vc.region hG rfl ?_ ?_
   · show inRange i _
     exact mkRange hI hl
   refine Vc.seq (Vc.region hG rfl (by trivial) (Vc.seq ?_))
   refine Vc.region hG rfl ?_ ?_
   · refine ⟨by decide, ?_⟩
     show inRange i _
     simp only [List.length_set]
     exact mkRange hI hl
   refine Vc.region hG rfl (by trivial) (Vc.region hG rfl (by trivial) ?_)
   refine ⟨rfl, ?_⟩
   refine mkStep hI hl hbv (dflt (.pair (.int .i64) (.bool))) ?_ ?_
   · rw [hX]
     try simp only [List.length_set, List.set_set, getD_setS hln, hX, cntF_eq, Sh.ty, w0, w1]
     try rfl
   · rw [hX]
     show _ = k + (((1 + 1) : Nat) : Int)
     try simp only [List.length_set, List.set_set, getD_setS hln, hX, cntF_eq, Sh.ty, w0, w1]
     try omega
 · have hl : ¬ i < (List.length v : Int) := of_decide_eq_false h0
   refine Vc.exit (Vc.seq (Vc.region hG rfl (by trivial) (Vc.ret ?_)))
   have e := mkEnd hI hl
   refine ⟨?_, ?_, trivial⟩
   · show k = cntF (.slice (.pair (.int .i64) (.bool))) a0 a1
     rw [cntF_eq]; exact e.1
   · exact e.2
@[reducible] noncomputable def M21 : MFun := mF (.own (.pure (.pair (.int .i64) (.pair (.int .i64) (.pair (.int .i64) (.pair (.int .i64) (.int .i64)))))))
set_option maxHeartbeats 2000000 in
theorem M21_ok : MeetsM Try.prog 21 M21 := by
 refine meetsM_of_vc (C := mkCM 48 [4] [0,1,4,5,9] [] [] [] [0]) (mkCM_ok _ _ _ _ _ _ _) (fnOf_ok _) Try.func21 rfl rfl rfl (by decide) rfl rfl rfl rfl ?_
 rintro a0 (a1 : Int) hwf hin hpre ⟨P, C, B, X, w0, M0, pv⟩ hG rfl rfl
 show Vc _ _ [(0, ⟨0, 0, .c (.own (.pure (.pair (.int .i64) (.pair (.int .i64) (.pair (.int .i64) (.pair (.int .i64) (.int .i64))))))) a0⟩), (1, ⟨0, 0, .c (.pure (.int .i64)) a1⟩)] _
 have hb : List.length a0 ≤ bigLen := hwf.1
 have hp0 : 0 ≤ a1 := hpre.1
 have hp1 : a1 + ((cellsL (cellsC (.pair (.int .i64) (.pair (.int .i64) (.pair (.int .i64) (.pair (.int .i64) (.int .i64)))))) a0 : Nat) : Int) ≤ bnd := hpre.2
 refine Vc.seq (Vc.region hG rfl (by trivial) (Vc.seq (Vc.seq ?_)))
 refine Vc.region hG rfl (by trivial) (Vc.block ?_)
 refine Vc.loopF [(0, false, .own (.pure (.pair (.int .i64) (.pair (.int .i64) (.pair (.int .i64) (.pair (.int .i64) (.int .i64))))))), (1, false, .pure (.int .i64)), (5, false, .pure (.int .i64))] [4] (fun v => mkInv (cellsC (.pair (.int .i64) (.pair (.int .i64) (.pair (.int .i64) (.pair (.int .i64) (.int .i64)))))) (markC (.pair (.int .i64) (.pair (.int .i64) (.pair (.int .i64) (.pair (.int .i64) (.int .i64)))))) a0 a1 v.1 v.2.1 v.2.2.1) (fun v => ((List.length v.1 : Int) - v.2.2.1).toNat) rfl ?_ ?_
 · exact mkStart
 rintro ⟨v, (k : Int), (i : Int), _⟩ hI
 have hI : mkInv (cellsC (.pair (.int .i64) (.pair (.int .i64) (.pair (.int .i64) (.pair (.int .i64) (.int .i64)))))) (markC (.pair (.int .i64) (.pair (.int .i64) (.pair (.int .i64) (.pair (.int .i64) (.int .i64)))))) a0 a1 v k i := hI
 have hbv : v.length ≤ bigLen := by rw [mkLen hI]; exact hb
 refine Vc.seq (Vc.seq (Vc.region hG rfl (by trivial) ?_))
 refine Vc.cond rfl (fun h0 => ?_) (fun h0 => ?_)
 · have hl : i < (List.length v : Int) := of_decide_eq_true h0
   have hln : i.toNat < v.length := by have := hI.1; omega
   have hk := mkBound hI hl (dflt (.pair (.int .i64) (.pair (.int .i64) (.pair (.int .i64) (.pair (.int .i64) (.int .i64)))))) hp0 hp1
   generalize hX : List.getD v i.toNat (dflt (.pair (.int .i64) (.pair (.int .i64) (.pair (.int .i64) (.pair (.int .i64) (.int .i64)))))) = X at hk
   have hk : 0 ≤ k ∧ k + (((1 + (1 + (1 + (1 + 1)))) : Nat) : Int) ≤ bnd := hk
   have w0 : IntKind.i64.wrap (k + 1) = k + 1 := wrapB (by omega) (by omega)
   have w1 : IntKind.i64.wrap (k + 1 + 1) = k + 1 + 1 := wrapB (by omega) (by omega)
   have w2 : IntKind.i64.wrap (k + 1 + 1 + 1) = k + 1 + 1 + 1 := wrapB (by omega) (by omega)
   have w3 : IntKind.i64.wrap (k + 1 + 1 + 1 + 1) = k + 1 + 1 + 1 + 1 := wrapB (by omega) (by omega)
   have w4 : IntKind.i64.wrap (k + 1 + 1 + 1 + 1 + 1) = k + 1 + 1 + 1 + 1 + 1 := wrapB (by omega) (by omega)
   refine Vc.skip (Vc.seq (Vc.block (Vc.seq ?_)))
   refine Vc.region hG rfl ?_ ?_
   · show inRange i _
     exact mkRange hI hl
   refine Vc.seq (Vc.region hG rfl (by trivial) (Vc.seq ?_))
   refine Vc.region hG rfl ?_ ?_
   · show inRange i _
     simp only [List.length_set]
     exact mkRange hI hl
   refine Vc.seq (Vc.region hG rfl (by trivial) (Vc.seq ?_))
   refine Vc.region hG rfl ?_ ?_
   · show inRange i _
     simp only [List.length_set]
     exact mkRange hI hl
   refine Vc.seq (Vc.region hG rfl (by trivial) (Vc.seq ?_))
   refine Vc.region hG rfl ?_ ?_
   · show inRange i _
     simp only [List.length_set]
     exact mkRange hI hl
   refine Vc.seq (Vc.region hG rfl (by trivial) (Vc.seq ?_))
   refine Vc.region hG rfl ?_ ?_
   · show inRange i _
     simp only [List.length_set]
     exact mkRange hI hl
   refine Vc.region hG rfl (by trivial) (Vc.region hG rfl (by trivial) ?_)
   refine ⟨rfl, ?_⟩
   refine mkStep hI hl hbv (dflt (.pair (.int .i64) (.pair (.int .i64) (.pair (.int .i64) (.pair (.int .i64) (.int .i64)))))) ?_ ?_
   · rw [hX]
     try simp only [List.length_set, List.set_set, getD_setS hln, hX, cntF_eq, Sh.ty, w0, w1, w2, w3, w4]
     try rfl
   · rw [hX]
     show _ = k + (((1 + (1 + (1 + (1 + 1)))) : Nat) : Int)
     try simp only [List.length_set, List.set_set, getD_setS hln, hX, cntF_eq, Sh.ty, w0, w1, w2, w3, w4]
     try omega
 · have hl : ¬ i < (List.length v : Int) := of_decide_eq_false h0
   refine Vc.exit (Vc.seq (Vc.region hG rfl (by trivial) (Vc.ret ?_)))
   have e := mkEnd hI hl
   refine ⟨?_, ?_, trivial⟩
   · show k = cntF (.slice (.pair (.int .i64) (.pair (.int .i64) (.pair (.int .i64) (.pair (.int .i64) (.int .i64)))))) a0 a1
     rw [cntF_eq]; exact e.1
   · exact e.2
@[reducible] noncomputable def M49 : MFun := mF (.own (.pair (.pure (.int .i64)) (.pair (.pure (.int .i64)) (.pair (.pure (.int .i64)) (.pair (.own (.pure (.pair (.int .i64) (.bool)))) (.own (.pure (.pair (.int .i64) (.pair (.int .i64) (.pair (.int .i64) (.pair (.int .i64) (.int .i64))))))))))))
set_option maxHeartbeats 2000000 in
theorem M49_ok : MeetsM Try.prog 49 M49 := by
 refine meetsM_of_vc (C := mkCM 48 [4] [0,1,4,5,9] [] [⟨60, _, M60_ok⟩, ⟨21, _, M21_ok⟩] [] [0]) (mkCM_ok _ _ _ _ _ _ _) (fnOf_ok _) Try.func49 rfl rfl rfl (by decide) rfl rfl rfl rfl ?_
 rintro a0 (a1 : Int) hwf hin hpre ⟨P, C, B, X, w0, M0, pv⟩ hG rfl rfl
 show Vc _ _ [(0, ⟨0, 0, .c (.own (.pair (.pure (.int .i64)) (.pair (.pure (.int .i64)) (.pair (.pure (.int .i64)) (.pair (.own (.pure (.pair (.int .i64) (.bool)))) (.own (.pure (.pair (.int .i64) (.pair (.int .i64) (.pair (.int .i64) (.pair (.int .i64) (.int .i64)))))))))))) a0⟩), (1, ⟨0, 0, .c (.pure (.int .i64)) a1⟩)] _
 have hb : List.length a0 ≤ bigLen := hwf.1
 have hp0 : 0 ≤ a1 := hpre.1
 have hp1 : a1 + ((cellsL (cellsC (.pair (.int .i64) (.pair (.int .i64) (.pair (.int .i64) (.pair (.slice (.pair (.int .i64) (.bool))) (.slice (.pair (.int .i64) (.pair (.int .i64) (.pair (.int .i64) (.pair (.int .i64) (.int .i64))))))))))) a0 : Nat) : Int) ≤ bnd := hpre.2
 refine Vc.seq (Vc.region hG rfl (by trivial) (Vc.seq (Vc.seq ?_)))
 refine Vc.region hG rfl (by trivial) (Vc.block ?_)
 refine Vc.loopF [(0, false, .own (.pair (.pure (.int .i64)) (.pair (.pure (.int .i64)) (.pair (.pure (.int .i64)) (.pair (.own (.pure (.pair (.int .i64) (.bool)))) (.own (.pure (.pair (.int .i64) (.pair (.int .i64) (.pair (.int .i64) (.pair (.int .i64) (.int .i64)))))))))))), (1, false, .pure (.int .i64)), (5, false, .pure (.int .i64))] [4] (fun v => mkInv (cellsC (.pair (.int .i64) (.pair (.int .i64) (.pair (.int .i64) (.pair (.slice (.pair (.int .i64) (.bool))) (.slice (.pair (.int .i64) (.pair (.int .i64) (.pair (.int .i64) (.pair (.int .i64) (.int .i64))))))))))) (markC (.pair (.int .i64) (.pair (.int .i64) (.pair (.int .i64) (.pair (.slice (.pair (.int .i64) (.bool))) (.slice (.pair (.int .i64) (.pair (.int .i64) (.pair (.int .i64) (.pair (.int .i64) (.int .i64))))))))))) a0 a1 v.1 v.2.1 v.2.2.1) (fun v => ((List.length v.1 : Int) - v.2.2.1).toNat) rfl ?_ ?_
 · exact mkStart
 rintro ⟨v, (k : Int), (i : Int), _⟩ hI
 have hI : mkInv (cellsC (.pair (.int .i64) (.pair (.int .i64) (.pair (.int .i64) (.pair (.slice (.pair (.int .i64) (.bool))) (.slice (.pair (.int .i64) (.pair (.int .i64) (.pair (.int .i64) (.pair (.int .i64) (.int .i64))))))))))) (markC (.pair (.int .i64) (.pair (.int .i64) (.pair (.int .i64) (.pair (.slice (.pair (.int .i64) (.bool))) (.slice (.pair (.int .i64) (.pair (.int .i64) (.pair (.int .i64) (.pair (.int .i64) (.int .i64))))))))))) a0 a1 v k i := hI
 have hbv : v.length ≤ bigLen := by rw [mkLen hI]; exact hb
 refine Vc.seq (Vc.seq (Vc.region hG rfl (by trivial) ?_))
 refine Vc.cond rfl (fun h0 => ?_) (fun h0 => ?_)
 · have hl : i < (List.length v : Int) := of_decide_eq_true h0
   have hln : i.toNat < v.length := by have := hI.1; omega
   have hk := mkBound hI hl (dflt (.pair (.int .i64) (.pair (.int .i64) (.pair (.int .i64) (.pair (.slice (.pair (.int .i64) (.bool))) (.slice (.pair (.int .i64) (.pair (.int .i64) (.pair (.int .i64) (.pair (.int .i64) (.int .i64))))))))))) hp0 hp1
   generalize hX : List.getD v i.toNat (dflt (.pair (.int .i64) (.pair (.int .i64) (.pair (.int .i64) (.pair (.slice (.pair (.int .i64) (.bool))) (.slice (.pair (.int .i64) (.pair (.int .i64) (.pair (.int .i64) (.pair (.int .i64) (.int .i64))))))))))) = X at hk
   have hk : 0 ≤ k ∧ k + (((1 + (1 + (1 + ((cellsC (.slice (.pair (.int .i64) (.bool))) X.2.2.2.1) + (cellsC (.slice (.pair (.int .i64) (.pair (.int .i64) (.pair (.int .i64) (.pair (.int .i64) (.int .i64)))))) X.2.2.2.2))))) : Nat) : Int) ≤ bnd := hk
   have w0 : IntKind.i64.wrap (k + 1) = k + 1 := wrapB (by omega) (by omega)
   have w1 : IntKind.i64.wrap (k + 1 + 1) = k + 1 + 1 := wrapB (by omega) (by omega)
   have w2 : IntKind.i64.wrap (k + 1 + 1 + 1) = k + 1 + 1 + 1 := wrapB (by omega) (by omega)
   refine Vc.skip (Vc.seq (Vc.block (Vc.seq ?_)))
   refine Vc.region hG rfl ?_ ?_
   · show inRange i _
     exact mkRange hI hl
   refine Vc.seq (Vc.region hG rfl (by trivial) (Vc.seq ?_))
   refine Vc.region hG rfl ?_ ?_
   · show inRange i _
     simp only [List.length_set]
     exact mkRange hI hl
   refine Vc.seq (Vc.region hG rfl (by trivial) (Vc.seq ?_))
   refine Vc.region hG rfl ?_ ?_
   · show inRange i _
     simp only [List.length_set]
     exact mkRange hI hl
   refine Vc.seq (Vc.region hG rfl (by trivial) (Vc.seq ?_))
   refine Vc.region hG rfl ?_ ?_
   · refine ⟨?_, ?_⟩
     · show inRange i _
       simp only [List.length_set]
       exact mkRange hI hl
     · show markPre (.slice (.pair (.int .i64) (.bool))) _ _
       try simp only [List.length_set, List.set_set, getD_setS hln, hX, cntF_eq, Sh.ty, w0, w1, w2]
       exact ⟨by omega, by omega⟩
   refine Vc.region hG rfl ?_ ?_
   · refine ⟨?_, ?_⟩
     · show inRange i _
       simp only [List.length_set]
       exact mkRange hI hl
     · show markPre (.slice (.pair (.int .i64) (.pair (.int .i64) (.pair (.int .i64) (.pair (.int .i64) (.int .i64)))))) _ _
       try simp only [List.length_set, List.set_set, getD_setS hln, hX, cntF_eq, Sh.ty, w0, w1, w2]
       exact ⟨by omega, by omega⟩
   refine Vc.region hG rfl (by trivial) ?_
   refine ⟨rfl, ?_⟩
   refine mkStep hI hl hbv (dflt (.pair (.int .i64) (.pair (.int .i64) (.pair (.int .i64) (.pair (.slice (.pair (.int .i64) (.bool))) (.slice (.pair (.int .i64) (.pair (.int .i64) (.pair (.int .i64) (.pair (.int .i64) (.int .i64))))))))))) ?_ ?_
   · rw [hX]
     try simp only [List.length_set, List.set_set, getD_setS hln, hX, cntF_eq, Sh.ty, w0, w1, w2]
     try rfl
   · rw [hX]
     show _ = k + (((1 + (1 + (1 + ((cellsC (.slice (.pair (.int .i64) (.bool))) X.2.2.2.1) + (cellsC (.slice (.pair (.int .i64) (.pair (.int .i64) (.pair (.int .i64) (.pair (.int .i64) (.int .i64)))))) X.2.2.2.2))))) : Nat) : Int)
     try simp only [List.length_set, List.set_set, getD_setS hln, hX, cntF_eq, Sh.ty, w0, w1, w2]
     try omega
 · have hl : ¬ i < (List.length v : Int) := of_decide_eq_false h0
   refine Vc.exit (Vc.seq (Vc.region hG rfl (by trivial) (Vc.ret ?_)))
   have e := mkEnd hI hl
   refine ⟨?_, ?_, trivial⟩
   · show k = cntF (.slice (.pair (.int .i64) (.pair (.int .i64) (.pair (.int .i64) (.pair (.slice (.pair (.int .i64) (.bool))) (.slice (.pair (.int .i64) (.pair (.int .i64) (.pair (.int .i64) (.pair (.int .i64) (.int .i64))))))))))) a0 a1
     rw [cntF_eq]; exact e.1
   · exact e.2
@[reducible] noncomputable def M37 : MFun := mF (.own (.pair (.own (.pair (.pure (.int .i64)) (.pair (.own (.pure (.int .i64))) (.pure (.int .i64))))) (.own (.pair (.pure (.int .i64)) (.pair (.pure (.int .i64)) (.pair (.pure (.int .i64)) (.pair (.own (.pure (.pair (.int .i64) (.bool)))) (.own (.pure (.pair (.int .i64) (.pair (.int .i64) (.pair (.int .i64) (.pair (.int .i64) (.int .i64))))))))))))))
set_option maxHeartbeats 2000000 in
theorem M37_ok : MeetsM Try.prog 37 M37 := by
 refine meetsM_of_vc (C := mkCM 27 [4] [0,1,4,5,9] [] [⟨48, _, M48_ok⟩, ⟨49, _, M49_ok⟩] [] [0]) (mkCM_ok _ _ _ _ _ _ _) (fnOf_ok _) Try.func37 rfl rfl rfl (by decide) rfl rfl rfl rfl ?_
 rintro a0 (a1 : Int) hwf hin hpre ⟨P, C, B, X, w0, M0, pv⟩ hG rfl rfl
 show Vc _ _ [(0, ⟨0, 0, .c (.own (.pair (.own (.pair (.pure (.int .i64)) (.pair (.own (.pure (.int .i64))) (.pure (.int .i64))))) (.own (.pair (.pure (.int .i64)) (.pair (.pure (.int .i64)) (.pair (.pure (.int .i64)) (.pair (.own (.pure (.pair (.int .i64) (.bool)))) (.own (.pure (.pair (.int .i64) (.pair (.int .i64) (.pair (.int .i64) (.pair (.int .i64) (.int .i64)))))))))))))) a0⟩), (1, ⟨0, 0, .c (.pure (.int .i64)) a1⟩)] _
 have hb : List.length a0 ≤ bigLen := hwf.1
 have hp0 : 0 ≤ a1 := hpre.1
 have hp1 : a1 + ((cellsL (cellsC (.pair (.slice (.pair (.int .i64) (.pair (.slice (.int .i64)) (.int .i64)))) (.slice (.pair (.int .i64) (.pair (.int .i64) (.pair (.int .i64) (.pair (.slice (.pair (.int .i64) (.bool))) (.slice (.pair (.int .i64) (.pair (.int .i64) (.pair (.int .i64) (.pair (.int .i64) (.int .i64))))))))))))) a0 : Nat) : Int) ≤ bnd := hpre.2
 refine Vc.seq (Vc.region hG rfl (by trivial) (Vc.seq (Vc.seq ?_)))
 refine Vc.region hG rfl (by trivial) (Vc.block ?_)
 refine Vc.loopF [(0, false, .own (.pair (.own (.pair (.pure (.int .i64)) (.pair (.own (.pure (.int .i64))) (.pure (.int .i64))))) (.own (.pair (.pure (.int .i64)) (.pair (.pure (.int .i64)) (.pair (.pure (.int .i64)) (.pair (.own (.pure (.pair (.int .i64) (.bool)))) (.own (.pure (.pair (.int .i64) (.pair (.int .i64) (.pair (.int .i64) (.pair (.int .i64) (.int .i64)))))))))))))), (1, false, .pure (.int .i64)), (5, false, .pure (.int .i64))] [4] (fun v => mkInv (cellsC (.pair (.slice (.pair (.int .i64) (.pair (.slice (.int .i64)) (.int .i64)))) (.slice (.pair (.int .i64) (.pair (.int .i64) (.pair (.int .i64) (.pair (.slice (.pair (.int .i64) (.bool))) (.slice (.pair (.int .i64) (.pair (.int .i64) (.pair (.int .i64) (.pair (.int .i64) (.int .i64))))))))))))) (markC (.pair (.slice (.pair (.int .i64) (.pair (.slice (.int .i64)) (.int .i64)))) (.slice (.pair (.int .i64) (.pair (.int .i64) (.pair (.int .i64) (.pair (.slice (.pair (.int .i64) (.bool))) (.slice (.pair (.int .i64) (.pair (.int .i64) (.pair (.int .i64) (.pair (.int .i64) (.int .i64))))))))))))) a0 a1 v.1 v.2.1 v.2.2.1) (fun v => ((List.length v.1 : Int) - v.2.2.1).toNat) rfl ?_ ?_
 · exact mkStart
 rintro ⟨v, (k : Int), (i : Int), _⟩ hI
 have hI : mkInv (cellsC (.pair (.slice (.pair (.int .i64) (.pair (.slice (.int .i64)) (.int .i64)))) (.slice (.pair (.int .i64) (.pair (.int .i64) (.pair (.int .i64) (.pair (.slice (.pair (.int .i64) (.bool))) (.slice (.pair (.int .i64) (.pair (.int .i64) (.pair (.int .i64) (.pair (.int .i64) (.int .i64))))))))))))) (markC (.pair (.slice (.pair (.int .i64) (.pair (.slice (.int .i64)) (.int .i64)))) (.slice (.pair (.int .i64) (.pair (.int .i64) (.pair (.int .i64) (.pair (.slice (.pair (.int .i64) (.bool))) (.slice (.pair (.int .i64) (.pair (.int .i64) (.pair (.int .i64) (.pair (.int .i64) (.int .i64))))))))))))) a0 a1 v k i := hI
 have hbv : v.length ≤ bigLen := by rw [mkLen hI]; exact hb
 refine Vc.seq (Vc.seq (Vc.region hG rfl (by trivial) ?_))
 refine Vc.cond rfl (fun h0 => ?_) (fun h0 => ?_)
 · have hl : i < (List.length v : Int) := of_decide_eq_true h0
   have hln : i.toNat < v.length := by have := hI.1; omega
   have hk := mkBound hI hl (dflt (.pair (.slice (.pair (.int .i64) (.pair (.slice (.int .i64)) (.int .i64)))) (.slice (.pair (.int .i64) (.pair (.int .i64) (.pair (.int .i64) (.pair (.slice (.pair (.int .i64) (.bool))) (.slice (.pair (.int .i64) (.pair (.int .i64) (.pair (.int .i64) (.pair (.int .i64) (.int .i64))))))))))))) hp0 hp1
   generalize hX : List.getD v i.toNat (dflt (.pair (.slice (.pair (.int .i64) (.pair (.slice (.int .i64)) (.int .i64)))) (.slice (.pair (.int .i64) (.pair (.int .i64) (.pair (.int .i64) (.pair (.slice (.pair (.int .i64) (.bool))) (.slice (.pair (.int .i64) (.pair (.int .i64) (.pair (.int .i64) (.pair (.int .i64) (.int .i64))))))))))))) = X at hk
   have hk : 0 ≤ k ∧ k + ((((cellsC (.slice (.pair (.int .i64) (.pair (.slice (.int .i64)) (.int .i64)))) X.1) + (cellsC (.slice (.pair (.int .i64) (.pair (.int .i64) (.pair (.int .i64) (.pair (.slice (.pair (.int .i64) (.bool))) (.slice (.pair (.int .i64) (.pair (.int .i64) (.pair (.int .i64) (.pair (.int .i64) (.int .i64))))))))))) X.2)) : Nat) : Int) ≤ bnd := hk
   refine Vc.skip (Vc.seq (Vc.block (Vc.seq ?_)))
   refine Vc.region hG rfl ?_ ?_
   · refine ⟨?_, ?_⟩
     · show inRange i _
       simp only [List.length_set]
       exact mkRange hI hl
     · show markPre (.slice (.pair (.int .i64) (.pair (.slice (.int .i64)) (.int .i64)))) _ _
       try simp only [List.length_set, List.set_set, getD_setS hln, hX, cntF_eq, Sh.ty]
       exact ⟨by omega, by omega⟩
   refine Vc.region hG rfl ?_ ?_
   · refine ⟨?_, ?_⟩
     · show inRange i _
       simp only [List.length_set]
       exact mkRange hI hl
     · show markPre (.slice (.pair (.int .i64) (.pair (.int .i64) (.pair (.int .i64) (.pair (.slice (.pair (.int .i64) (.bool))) (.slice (.pair (.int .i64) (.pair (.int .i64) (.pair (.int .i64) (.pair (.int .i64) (.int .i64))))))))))) _ _
       try simp only [List.length_set, List.set_set, getD_setS hln, hX, cntF_eq, Sh.ty]
       exact ⟨by omega, by omega⟩
   refine Vc.region hG rfl (by trivial) ?_
   refine ⟨rfl, ?_⟩
   refine mkStep hI hl hbv (dflt (.pair (.slice (.pair (.int .i64) (.pair (.slice (.int .i64)) (.int .i64)))) (.slice (.pair (.int .i64) (.pair (.int .i64) (.pair (.int .i64) (.pair (.slice (.pair (.int .i64) (.bool))) (.slice (.pair (.int .i64) (.pair (.int .i64) (.pair (.int .i64) (.pair (.int .i64) (.int .i64))))))))))))) ?_ ?_
   · rw [hX]
     try simp only [List.length_set, List.set_set, getD_setS hln, hX, cntF_eq, Sh.ty]
     try rfl
   · rw [hX]
     show _ = k + ((((cellsC (.slice (.pair (.int .i64) (.pair (.slice (.int .i64)) (.int .i64)))) X.1) + (cellsC (.slice (.pair (.int .i64) (.pair (.int .i64) (.pair (.int .i64) (.pair (.slice (.pair (.int .i64) (.bool))) (.slice (.pair (.int .i64) (.pair (.int .i64) (.pair (.int .i64) (.pair (.int .i64) (.int .i64))))))))))) X.2)) : Nat) : Int)
     try simp only [List.length_set, List.set_set, getD_setS hln, hX, cntF_eq, Sh.ty]
     try omega
 · have hl : ¬ i < (List.length v : Int) := of_decide_eq_false h0
   refine Vc.exit (Vc.seq (Vc.region hG rfl (by trivial) (Vc.ret ?_)))
   have e := mkEnd hI hl
   refine ⟨?_, ?_, trivial⟩
   · show k = cntF (.slice (.pair (.slice (.pair (.int .i64) (.pair (.slice (.int .i64)) (.int .i64)))) (.slice (.pair (.int .i64) (.pair (.int .i64) (.pair (.int .i64) (.pair (.slice (.pair (.int .i64) (.bool))) (.slice (.pair (.int .i64) (.pair (.int .i64) (.pair (.int .i64) (.pair (.int .i64) (.int .i64))))))))))))) a0 a1
     rw [cntF_eq]; exact e.1
   · exact e.2
@[reducible] noncomputable def M38 : MFun := mF (.own (.own (.pure (.pair (.int .i64) (.pair (.int .i64) (.pair (.int .i64) (.pair (.int .i64) (.int .i64))))))))
set_option maxHeartbeats 2000000 in
theorem M38_ok : MeetsM Try.prog 38 M38 := by
 refine meetsM_of_vc (C := mkCM 19 [4] [0,1,4,5,9] [] [⟨21, _, M21_ok⟩] [] [0]) (mkCM_ok _ _ _ _ _ _ _) (fnOf_ok _) Try.func38 rfl rfl rfl (by decide) rfl rfl rfl rfl ?_
 rintro a0 (a1 : Int) hwf hin hpre ⟨P, C, B, X, w0, M0, pv⟩ hG rfl rfl
 show Vc _ _ [(0, ⟨0, 0, .c (.own (.own (.pure (.pair (.int .i64) (.pair (.int .i64) (.pair (.int .i64) (.pair (.int .i64) (.int .i64)))))))) a0⟩), (1, ⟨0, 0, .c (.pure (.int .i64)) a1⟩)] _
 have hb : List.length a0 ≤ bigLen := hwf.1
 have hp0 : 0 ≤ a1 := hpre.1
 have hp1 : a1 + ((cellsL (cellsC (.slice (.pair (.int .i64) (.pair (.int .i64) (.pair (.int .i64) (.pair (.int .i64) (.int .i64))))))) a0 : Nat) : Int) ≤ bnd := hpre.2
 refine Vc.seq (Vc.region hG rfl (by trivial) (Vc.seq (Vc.seq ?_)))
 refine Vc.region hG rfl (by trivial) (Vc.block ?_)
 refine Vc.loopF [(0, false, .own (.own (.pure (.pair (.int .i64) (.pair (.int .i64) (.pair (.int .i64) (.pair (.int .i64) (.int .i64)))))))), (1, false, .pure (.int .i64)), (5, false, .pure (.int .i64))] [4] (fun v => mkInv (cellsC (.slice (.pair (.int .i64) (.pair (.int .i64) (.pair (.int .i64) (.pair (.int .i64) (.int .i64))))))) (markC (.slice (.pair (.int .i64) (.pair (.int .i64) (.pair (.int .i64) (.pair (.int .i64) (.int .i64))))))) a0 a1 v.1 v.2.1 v.2.2.1) (fun v => ((List.length v.1 : Int) - v.2.2.1).toNat) rfl ?_ ?_
 · exact mkStart
 rintro ⟨v, (k : Int), (i : Int), _⟩ hI
 have hI : mkInv (cellsC (.slice (.pair (.int .i64) (.pair (.int .i64) (.pair (.int .i64) (.pair (.int .i64) (.int .i64))))))) (markC (.slice (.pair (.int .i64) (.pair (.int .i64) (.pair (.int .i64) (.pair (.int .i64) (.int .i64))))))) a0 a1 v k i := hI
 have hbv : v.length ≤ bigLen := by rw [mkLen hI]; exact hb
 refine Vc.seq (Vc.seq (Vc.region hG rfl (by trivial) ?_))
 refine Vc.cond rfl (fun h0 => ?_) (fun h0 => ?_)
 · have hl : i < (List.length v : Int) := of_decide_eq_true h0
   have hln : i.toNat < v.length := by have := hI.1; omega
   have hk := mkBound hI hl (dflt (.slice (.pair (.int .i64) (.pair (.int .i64) (.pair (.int .i64) (.pair (.int .i64) (.int .i64))))))) hp0 hp1
   generalize hX : List.getD v i.toNat (dflt (.slice (.pair (.int .i64) (.pair (.int .i64) (.pair (.int .i64) (.pair (.int .i64) (.int .i64))))))) = X at hk
   have hk : 0 ≤ k ∧ k + (((cellsC (.slice (.pair (.int .i64) (.pair (.int .i64) (.pair (.int .i64) (.pair (.int .i64) (.int .i64)))))) X) : Nat) : Int) ≤ bnd := hk
   refine Vc.skip (Vc.seq (Vc.block ?_))
   refine Vc.region hG rfl ?_ ?_
   · refine ⟨?_, ?_⟩
     · show inRange i _
       simp only [List.length_set]
       exact mkRange hI hl
     · show markPre (.slice (.pair (.int .i64) (.pair (.int .i64) (.pair (.int .i64) (.pair (.int .i64) (.int .i64)))))) _ _
       try simp only [List.length_set, List.set_set, getD_setS hln, hX, cntF_eq, Sh.ty]
       exact ⟨by omega, by omega⟩
   refine Vc.region hG rfl (by trivial) ?_
   refine ⟨rfl, ?_⟩
   refine mkStep hI hl hbv (dflt (.slice (.pair (.int .i64) (.pair (.int .i64) (.pair (.int .i64) (.pair (.int .i64) (.int .i64))))))) ?_ ?_
   · rw [hX]
     try simp only [List.length_set, List.set_set, getD_setS hln, hX, cntF_eq, Sh.ty]
     try rfl
   · rw [hX]
     show _ = k + (((cellsC (.slice (.pair (.int .i64) (.pair (.int .i64) (.pair (.int .i64) (.pair (.int .i64) (.int .i64)))))) X) : Nat) : Int)
     try simp only [List.length_set, List.set_set, getD_setS hln, hX, cntF_eq, Sh.ty]
     try omega
 · have hl : ¬ i < (List.length v : Int) := of_decide_eq_false h0
   refine Vc.exit (Vc.seq (Vc.region hG rfl (by trivial) (Vc.ret ?_)))
   have e := mkEnd hI hl
   refine ⟨?_, ?_, trivial⟩
   · show k = cntF (.slice (.slice (.pair (.int .i64) (.pair (.int .i64) (.pair (.int .i64) (.pair (.int .i64) (.int .i64))))))) a0 a1
     rw [cntF_eq]; exact e.1
   · exact e.2
@[reducible] noncomputable def M20 : MFun := mV (.pair (.own (.pair (.own (.pair (.pure (.int .i64)) (.pair (.own (.pure (.int .i64))) (.pure (.int .i64))))) (.own (.pair (.pure (.int .i64)) (.pair (.pure (.int .i64)) (.pair (.pure (.int .i64)) (.pair (.own (.pure (.pair (.int .i64) (.bool)))) (.own (.pure (.pair (.int .i64) (.pair (.int .i64) (.pair (.int .i64) (.pair (.int .i64) (.int .i64)))))))))))))) (.own (.own (.pure (.pair (.int .i64) (.pair (.int .i64) (.pair (.int .i64) (.pair (.int .i64) (.int .i64)))))))))
theorem M20_ok : MeetsM Try.prog 20 M20 := by
 refine meetsM_of_vc (C := mkCM 14 [4] [0,1,2,4] [] [⟨37, _, M37_ok⟩, ⟨38, _, M38_ok⟩] [] [0]) (mkCM_ok _ _ _ _ _ _ _) (fnOf_ok _) Try.func20 rfl rfl rfl (by decide) rfl rfl rfl rfl ?_
 rintro a0 (a1 : Int) hwf hin hpre ⟨P, C, B, X, w0, M0, pv⟩ hG rfl rfl
 show Vc _ _ [(0, ⟨0, 0, .c (.pair (.own (.pair (.own (.pair (.pure (.int .i64)) (.pair (.own (.pure (.int .i64))) (.pure (.int .i64))))) (.own (.pair (.pure (.int .i64)) (.pair (.pure (.int .i64)) (.pair (.pure (.int .i64)) (.pair (.own (.pure (.pair (.int .i64) (.bool)))) (.own (.pure (.pair (.int .i64) (.pair (.int .i64) (.pair (.int .i64) (.pair (.int .i64) (.int .i64)))))))))))))) (.own (.own (.pure (.pair (.int .i64) (.pair (.int .i64) (.pair (.int .i64) (.pair (.int .i64) (.int .i64))))))))) a0⟩), (1, ⟨0, 0, .c (.pure (.int .i64)) a1⟩)] _
 have hp0 : 0 ≤ a1 := hpre.1
 have hp1 : a1 + ((cellsV (.pair (.slice (.pair (.slice (.pair (.int .i64) (.pair (.slice (.int .i64)) (.int .i64)))) (.slice (.pair (.int .i64) (.pair (.int .i64) (.pair (.int .i64) (.pair (.slice (.pair (.int .i64) (.bool))) (.slice (.pair (.int .i64) (.pair (.int .i64) (.pair (.int .i64) (.pair (.int .i64) (.int .i64))))))))))))) (.slice (.slice (.pair (.int .i64) (.pair (.int .i64) (.pair (.int .i64) (.pair (.int .i64) (.int .i64)))))))) a0 : Nat) : Int) ≤ bnd := hpre.2
 have hc : ((cellsV (.pair (.slice (.pair (.slice (.pair (.int .i64) (.pair (.slice (.int .i64)) (.int .i64)))) (.slice (.pair (.int .i64) (.pair (.int .i64) (.pair (.int .i64) (.pair (.slice (.pair (.int .i64) (.bool))) (.slice (.pair (.int .i64) (.pair (.int .i64) (.pair (.int .i64) (.pair (.int .i64) (.int .i64))))))))))))) (.slice (.slice (.pair (.int .i64) (.pair (.int .i64) (.pair (.int .i64) (.pair (.int .i64) (.int .i64)))))))) a0 : Nat) : Int) = ((cellsC (.slice (.pair (.slice (.pair (.int .i64) (.pair (.slice (.int .i64)) (.int .i64)))) (.slice (.pair (.int .i64) (.pair (.int .i64) (.pair (.int .i64) (.pair (.slice (.pair (.int .i64) (.bool))) (.slice (.pair (.int .i64) (.pair (.int .i64) (.pair (.int .i64) (.pair (.int .i64) (.int .i64))))))))))))) a0.1 : Nat) : Int) + ((cellsC (.slice (.slice (.pair (.int .i64) (.pair (.int .i64) (.pair (.int .i64) (.pair (.int .i64) (.int .i64))))))) a0.2 : Nat) : Int) := by
   show (((cellsC (.slice (.pair (.slice (.pair (.int .i64) (.pair (.slice (.int .i64)) (.int .i64)))) (.slice (.pair (.int .i64) (.pair (.int .i64) (.pair (.int .i64) (.pair (.slice (.pair (.int .i64) (.bool))) (.slice (.pair (.int .i64) (.pair (.int .i64) (.pair (.int .i64) (.pair (.int .i64) (.int .i64))))))))))))) a0.1 + cellsC (.slice (.slice (.pair (.int .i64) (.pair (.int .i64) (.pair (.int .i64) (.pair (.int .i64) (.int .i64))))))) a0.2) : Nat) : Int) = _
   omega
 refine Vc.seq (Vc.region hG rfl (by trivial) (Vc.seq ?_))
 refine Vc.region hG rfl ?_ ?_
 · exact (show markPre (.slice (.pair (.slice (.pair (.int .i64) (.pair (.slice (.int .i64)) (.int .i64)))) (.slice (.pair (.int .i64) (.pair (.int .i64) (.pair (.int .i64) (.pair (.slice (.pair (.int .i64) (.bool))) (.slice (.pair (.int .i64) (.pair (.int .i64) (.pair (.int .i64) (.pair (.int .i64) (.int .i64))))))))))))) a0.1 (a1) from ⟨by omega, by omega⟩)
 refine Vc.seq ?_
 refine Vc.region hG rfl ?_ ?_
 · have ce0 := cntF_eq (.slice (.pair (.slice (.pair (.int .i64) (.pair (.slice (.int .i64)) (.int .i64)))) (.slice (.pair (.int .i64) (.pair (.int .i64) (.pair (.int .i64) (.pair (.slice (.pair (.int .i64) (.bool))) (.slice (.pair (.int .i64) (.pair (.int .i64) (.pair (.int .i64) (.pair (.int .i64) (.int .i64))))))))))))) a0.1 (a1)
   exact (show markPre (.slice (.slice (.pair (.int .i64) (.pair (.int .i64) (.pair (.int .i64) (.pair (.int .i64) (.int .i64))))))) a0.2 (cntF (.slice (.pair (.slice (.pair (.int .i64) (.pair (.slice (.int .i64)) (.int .i64)))) (.slice (.pair (.int .i64) (.pair (.int .i64) (.pair (.int .i64) (.pair (.slice (.pair (.int .i64) (.bool))) (.slice (.pair (.int .i64) (.pair (.int .i64) (.pair (.int .i64) (.pair (.int .i64) (.int .i64))))))))))))) a0.1 (a1)) from ⟨by omega, by omega⟩)
 refine Vc.seq (Vc.region hG rfl (by trivial) (Vc.ret ?_))
 have ce0 := cntF_eq (.slice (.pair (.slice (.pair (.int .i64) (.pair (.slice (.int .i64)) (.int .i64)))) (.slice (.pair (.int .i64) (.pair (.int .i64) (.pair (.int .i64) (.pair (.slice (.pair (.int .i64) (.bool))) (.slice (.pair (.int .i64) (.pair (.int .i64) (.pair (.int .i64) (.pair (.int .i64) (.int .i64))))))))))))) a0.1 (a1)
 have ce1 := cntF_eq (.slice (.slice (.pair (.int .i64) (.pair (.int .i64) (.pair (.int .i64) (.pair (.int .i64) (.int .i64))))))) a0.2 (cntF (.slice (.pair (.slice (.pair (.int .i64) (.pair (.slice (.int .i64)) (.int .i64)))) (.slice (.pair (.int .i64) (.pair (.int .i64) (.pair (.int .i64) (.pair (.slice (.pair (.int .i64) (.bool))) (.slice (.pair (.int .i64) (.pair (.int .i64) (.pair (.int .i64) (.pair (.int .i64) (.int .i64))))))))))))) a0.1 (a1))
 refine ⟨?_, ?_, trivial⟩
 · show cntF (.slice (.slice (.pair (.int .i64) (.pair (.int .i64) (.pair (.int .i64) (.pair (.int .i64) (.int .i64))))))) a0.2 (cntF (.slice (.pair (.slice (.pair (.int .i64) (.pair (.slice (.int .i64)) (.int .i64)))) (.slice (.pair (.int .i64) (.pair (.int .i64) (.pair (.int .i64) (.pair (.slice (.pair (.int .i64) (.bool))) (.slice (.pair (.int .i64) (.pair (.int .i64) (.pair (.int .i64) (.pair (.int .i64) (.int .i64))))))))))))) a0.1 (a1)) = cntV (.pair (.slice (.pair (.slice (.pair (.int .i64) (.pair (.slice (.int .i64)) (.int .i64)))) (.slice (.pair (.int .i64) (.pair (.int .i64) (.pair (.int .i64) (.pair (.slice (.pair (.int .i64) (.bool))) (.slice (.pair (.int .i64) (.pair (.int .i64) (.pair (.int .i64) (.pair (.int .i64) (.int .i64))))))))))))) (.slice (.slice (.pair (.int .i64) (.pair (.int .i64) (.pair (.int .i64) (.pair (.int .i64) (.int .i64)))))))) a0 a1
   rw [cntV_eq (.pair (.slice (.pair (.slice (.pair (.int .i64) (.pair (.slice (.int .i64)) (.int .i64)))) (.slice (.pair (.int .i64) (.pair (.int .i64) (.pair (.int .i64) (.pair (.slice (.pair (.int .i64) (.bool))) (.slice (.pair (.int .i64) (.pair (.int .i64) (.pair (.int .i64) (.pair (.int .i64) (.int .i64))))))))))))) (.slice (.slice (.pair (.int .i64) (.pair (.int .i64) (.pair (.int .i64) (.pair (.int .i64) (.int .i64)))))))) a0 a1]
   omega
 · exact (Prod.ext (congrArg (markC (.slice (.pair (.slice (.pair (.int .i64) (.pair (.slice (.int .i64)) (.int .i64)))) (.slice (.pair (.int .i64) (.pair (.int .i64) (.pair (.int .i64) (.pair (.slice (.pair (.int .i64) (.bool))) (.slice (.pair (.int .i64) (.pair (.int .i64) (.pair (.int .i64) (.pair (.int .i64) (.int .i64))))))))))))) a0.1) (show a1 = a1 from by omega)) (congrArg (markC (.slice (.slice (.pair (.int .i64) (.pair (.int .i64) (.pair (.int .i64) (.pair (.int .i64) (.int .i64))))))) a0.2) (show cntF (.slice (.pair (.slice (.pair (.int .i64) (.pair (.slice (.int .i64)) (.int .i64)))) (.slice (.pair (.int .i64) (.pair (.int .i64) (.pair (.int .i64) (.pair (.slice (.pair (.int .i64) (.bool))) (.slice (.pair (.int .i64) (.pair (.int .i64) (.pair (.int .i64) (.pair (.int .i64) (.int .i64))))))))))))) a0.1 (a1) = a1 + ((cellsC (.slice (.pair (.slice (.pair (.int .i64) (.pair (.slice (.int .i64)) (.int .i64)))) (.slice (.pair (.int .i64) (.pair (.int .i64) (.pair (.int .i64) (.pair (.slice (.pair (.int .i64) (.bool))) (.slice (.pair (.int .i64) (.pair (.int .i64) (.pair (.int .i64) (.pair (.int .i64) (.int .i64))))))))))))) a0.1 : Nat) : Int) from by omega)))
noncomputable def F22 : Fun := ⟨[.slice (.pair (.int .i64) (.pair (.int .i64) (.pair (.int .i64) (.pair (.int .i64) (.int .i64))))), .int .i64], [.pure (.int .i64)], fun x => (fun a0 a1 => markPre (.slice (.pair (.int .i64) (.pair (.int .i64) (.pair (.int .i64) (.pair (.int .i64) (.int .i64)))))) a0 a1) x.1 x.2.1, fun x => ((fun a0 a1 => heldF (.slice (.pair (.int .i64) (.pair (.int .i64) (.pair (.int .i64) (.pair (.int .i64) (.int .i64)))))) a0 a1) x.1 x.2.1, ())⟩
set_option maxHeartbeats 6000000 in
theorem F22_ok : Meets Try.prog 22 F22 := by
 refine meets_of_vc (C := mkC 58 [4] [0,1,4,5,9,18,27,36,45,54] []) (mkC_ok _ _ _ _) (fnOf_ok _) Try.func22 rfl rfl rfl (by decide) rfl ?_
 rintro ⟨a0, (a1 : Int), _⟩ hwf hpre ⟨P, C, B, X, w0, M0, pv⟩ hG rfl rfl
 show Vc _ _ [(0, ⟨0, 0, .c (.pure (.slice (.pair (.int .i64) (.pair (.int .i64) (.pair (.int .i64) (.pair (.int .i64) (.int .i64))))))) a0⟩), (1, ⟨0, 0, .c (.pure (.int .i64)) a1⟩)] _
 have hb : List.length a0 ≤ bigLen := hwf.1.1
 have hp0 : 0 ≤ a1 := hpre.1
 have hp1 : a1 + ((cellsL (cellsC (.pair (.int .i64) (.pair (.int .i64) (.pair (.int .i64) (.pair (.int .i64) (.int .i64)))))) a0 : Nat) : Int) ≤ bnd := hpre.2
 refine Vc.seq (Vc.region hG rfl (by trivial) (Vc.seq (Vc.seq ?_)))
 refine Vc.region hG rfl (by trivial) (Vc.block ?_)
 refine Vc.loopF [(1, false, .pure (.int .i64)), (5, false, .pure (.int .i64))] [0] (fun v => hdInv (cellsC (.pair (.int .i64) (.pair (.int .i64) (.pair (.int .i64) (.pair (.int .i64) (.int .i64)))))) (okC (.pair (.int .i64) (.pair (.int .i64) (.pair (.int .i64) (.pair (.int .i64) (.int .i64)))))) a0 a1 v.1 v.2.1) (fun v => ((List.length a0 : Int) - v.2.1).toNat) rfl ?_ ?_
 · exact hdStart
 rintro ⟨(k : Int), (i : Int), _⟩ hI
 have hI : hdInv (cellsC (.pair (.int .i64) (.pair (.int .i64) (.pair (.int .i64) (.pair (.int .i64) (.int .i64)))))) (okC (.pair (.int .i64) (.pair (.int .i64) (.pair (.int .i64) (.pair (.int .i64) (.int .i64)))))) a0 a1 k i := hI
 refine Vc.seq (Vc.seq (Vc.region hG rfl (by trivial) ?_))
 refine Vc.cond rfl (fun h0 => ?_) (fun h0 => ?_)
 · have hl : i < (List.length a0 : Int) := of_decide_eq_true h0
   have hk := hdBound hI hl (dflt (.pair (.int .i64) (.pair (.int .i64) (.pair (.int .i64) (.pair (.int .i64) (.int .i64)))))) hp0 hp1
   generalize hX : List.getD a0 i.toNat (dflt (.pair (.int .i64) (.pair (.int .i64) (.pair (.int .i64) (.pair (.int .i64) (.int .i64)))))) = X at hk
   have hk : 0 ≤ k ∧ k + (((1 + (1 + (1 + (1 + 1)))) : Nat) : Int) ≤ bnd := hk
   have w0 : IntKind.i64.wrap (k + 1) = k + 1 := wrapB (by omega) (by omega)
   have w1 : IntKind.i64.wrap (k + 1 + 1) = k + 1 + 1 := wrapB (by omega) (by omega)
   have w2 : IntKind.i64.wrap (k + 1 + 1 + 1) = k + 1 + 1 + 1 := wrapB (by omega) (by omega)
   have w3 : IntKind.i64.wrap (k + 1 + 1 + 1 + 1) = k + 1 + 1 + 1 + 1 := wrapB (by omega) (by omega)
   have w4 : IntKind.i64.wrap (k + 1 + 1 + 1 + 1 + 1) = k + 1 + 1 + 1 + 1 + 1 := wrapB (by omega) (by omega)
   refine Vc.skip (Vc.seq (Vc.block (Vc.seq ?_)))
   refine Vc.seq ?_
   refine Vc.region hG rfl ?_ ?_
   · exact hdRange hI hl
   refine Vc.cond rfl (fun h1 => ?_) (fun h1 => ?_)
   · have g1 : okC (.int .i64) X.1 (k) = false := by
       have h : ((List.getD a0 i.toNat (dflt (.pair (.int .i64) (.pair (.int .i64) (.pair (.int .i64) (.pair (.int .i64) (.int .i64))))))).1 != k) = true := h1
       try simp only [hX, w0, w1, w2, w3, w4] at h
       exact ok_ne h
     refine Vc.seq (Vc.region hG rfl (by trivial) (Vc.ret ?_))
     refine ⟨?_, trivial⟩
     refine hdNo hI hl (dflt (.pair (.int .i64) (.pair (.int .i64) (.pair (.int .i64) (.pair (.int .i64) (.int .i64)))))) ?_
     rw [hX]
     show (okC (.int .i64) X.1 (k) && (okC (.int .i64) X.2.1 (k + 1) && (okC (.int .i64) X.2.2.1 (k + 1 + 1) && (okC (.int .i64) X.2.2.2.1 (k + 1 + 1 + 1) && okC (.int .i64) X.2.2.2.2 (k + 1 + 1 + 1 + 1))))) = false
     simp only [g1, Bool.and_false, Bool.false_and, Bool.and_true, Bool.true_and]
   · have g1 : okC (.int .i64) X.1 (k) = true := by
       have h : ((List.getD a0 i.toNat (dflt (.pair (.int .i64) (.pair (.int .i64) (.pair (.int .i64) (.pair (.int .i64) (.int .i64))))))).1 != k) = false := h1
       try simp only [hX, w0, w1, w2, w3, w4] at h
       exact ok_eq h
     refine Vc.skip (Vc.seq (Vc.region hG rfl (by trivial) (Vc.seq ?_)))
     refine Vc.seq ?_
     refine Vc.region hG rfl ?_ ?_
     · exact hdRange hI hl
     refine Vc.cond rfl (fun h2 => ?_) (fun h2 => ?_)
     · have g2 : okC (.int .i64) X.2.1 (k + 1) = false := by
         have h : ((List.getD a0 i.toNat (dflt (.pair (.int .i64) (.pair (.int .i64) (.pair (.int .i64) (.pair (.int .i64) (.int .i64))))))).2.1 != IntKind.i64.wrap (k + 1)) = true := h2
         try simp only [hX, w0, w1, w2, w3, w4] at h
         exact ok_ne h
       refine Vc.seq (Vc.region hG rfl (by trivial) (Vc.ret ?_))
       refine ⟨?_, trivial⟩
       refine hdNo hI hl (dflt (.pair (.int .i64) (.pair (.int .i64) (.pair (.int .i64) (.pair (.int .i64) (.int .i64)))))) ?_
       rw [hX]
       show (okC (.int .i64) X.1 (k) && (okC (.int .i64) X.2.1 (k + 1) && (okC (.int .i64) X.2.2.1 (k + 1 + 1) && (okC (.int .i64) X.2.2.2.1 (k + 1 + 1 + 1) && okC (.int .i64) X.2.2.2.2 (k + 1 + 1 + 1 + 1))))) = false
       simp only [g1, g2, Bool.and_false, Bool.false_and, Bool.and_true, Bool.true_and]
     · have g2 : okC (.int .i64) X.2.1 (k + 1) = true := by
         have h : ((List.getD a0 i.toNat (dflt (.pair (.int .i64) (.pair (.int .i64) (.pair (.int .i64) (.pair (.int .i64) (.int .i64))))))).2.1 != IntKind.i64.wrap (k + 1)) = false := h2
         try simp only [hX, w0, w1, w2, w3, w4] at h
         exact ok_eq h
       refine Vc.skip (Vc.seq (Vc.region hG rfl (by trivial) (Vc.seq ?_)))
       refine Vc.seq ?_
       refine Vc.region hG rfl ?_ ?_
       · exact hdRange hI hl
       refine Vc.cond rfl (fun h3 => ?_) (fun h3 => ?_)
       · have g3 : okC (.int .i64) X.2.2.1 (k + 1 + 1) = false := by
           have h : ((List.getD a0 i.toNat (dflt (.pair (.int .i64) (.pair (.int .i64) (.pair (.int .i64) (.pair (.int .i64) (.int .i64))))))).2.2.1 != IntKind.i64.wrap (IntKind.i64.wrap (k + 1) + 1)) = true := h3
           try simp only [hX, w0, w1, w2, w3, w4] at h
           exact ok_ne h
         refine Vc.seq (Vc.region hG rfl (by trivial) (Vc.ret ?_))
         refine ⟨?_, trivial⟩
         refine hdNo hI hl (dflt (.pair (.int .i64) (.pair (.int .i64) (.pair (.int .i64) (.pair (.int .i64) (.int .i64)))))) ?_
         rw [hX]
         show (okC (.int .i64) X.1 (k) && (okC (.int .i64) X.2.1 (k + 1) && (okC (.int .i64) X.2.2.1 (k + 1 + 1) && (okC (.int .i64) X.2.2.2.1 (k + 1 + 1 + 1) && okC (.int .i64) X.2.2.2.2 (k + 1 + 1 + 1 + 1))))) = false
         simp only [g1, g2, g3, Bool.and_false, Bool.false_and, Bool.and_true, Bool.true_and]
       · have g3 : okC (.int .i64) X.2.2.1 (k + 1 + 1) = true := by
           have h : ((List.getD a0 i.toNat (dflt (.pair (.int .i64) (.pair (.int .i64) (.pair (.int .i64) (.pair (.int .i64) (.int .i64))))))).2.2.1 != IntKind.i64.wrap (IntKind.i64.wrap (k + 1) + 1)) = false := h3
           try simp only [hX, w0, w1, w2, w3, w4] at h
           exact ok_eq h
         refine Vc.skip (Vc.seq (Vc.region hG rfl (by trivial) (Vc.seq ?_)))
         refine Vc.seq ?_
         refine Vc.region hG rfl ?_ ?_
         · exact hdRange hI hl
         refine Vc.cond rfl (fun h4 => ?_) (fun h4 => ?_)
         · have g4 : okC (.int .i64) X.2.2.2.1 (k + 1 + 1 + 1) = false := by
             have h : ((List.getD a0 i.toNat (dflt (.pair (.int .i64) (.pair (.int .i64) (.pair (.int .i64) (.pair (.int .i64) (.int .i64))))))).2.2.2.1 != IntKind.i64.wrap (IntKind.i64.wrap (IntKind.i64.wrap (k + 1) + 1) + 1)) = true := h4
             try simp only [hX, w0, w1, w2, w3, w4] at h
             exact ok_ne h
           refine Vc.seq (Vc.region hG rfl (by trivial) (Vc.ret ?_))
           refine ⟨?_, trivial⟩
           refine hdNo hI hl (dflt (.pair (.int .i64) (.pair (.int .i64) (.pair (.int .i64) (.pair (.int .i64) (.int .i64)))))) ?_
           rw [hX]
           show (okC (.int .i64) X.1 (k) && (okC (.int .i64) X.2.1 (k + 1) && (okC (.int .i64) X.2.2.1 (k + 1 + 1) && (okC (.int .i64) X.2.2.2.1 (k + 1 + 1 + 1) && okC (.int .i64) X.2.2.2.2 (k + 1 + 1 + 1 + 1))))) = false
           simp only [g1, g2, g3, g4, Bool.and_false, Bool.false_and, Bool.and_true, Bool.true_and]
         · have g4 : okC (.int .i64) X.2.2.2.1 (k + 1 + 1 + 1) = true := by
             have h : ((List.getD a0 i.toNat (dflt (.pair (.int .i64) (.pair (.int .i64) (.pair (.int .i64) (.pair (.int .i64) (.int .i64))))))).2.2.2.1 != IntKind.i64.wrap (IntKind.i64.wrap (IntKind.i64.wrap (k + 1) + 1) + 1)) = false := h4
             try simp only [hX, w0, w1, w2, w3, w4] at h
             exact ok_eq h
           refine Vc.skip (Vc.seq (Vc.region hG rfl (by trivial) (Vc.seq ?_)))
           refine Vc.seq ?_
           refine Vc.region hG rfl ?_ ?_
           · exact hdRange hI hl
           refine Vc.cond rfl (fun h5 => ?_) (fun h5 => ?_)
           · have g5 : okC (.int .i64) X.2.2.2.2 (k + 1 + 1 + 1 + 1) = false := by
               have h : ((List.getD a0 i.toNat (dflt (.pair (.int .i64) (.pair (.int .i64) (.pair (.int .i64) (.pair (.int .i64) (.int .i64))))))).2.2.2.2 != IntKind.i64.wrap (IntKind.i64.wrap (IntKind.i64.wrap (IntKind.i64.wrap (k + 1) + 1) + 1) + 1)) = true := h5
               try simp only [hX, w0, w1, w2, w3, w4] at h
               exact ok_ne h
             refine Vc.seq (Vc.region hG rfl (by trivial) (Vc.ret ?_))
             refine ⟨?_, trivial⟩
             refine hdNo hI hl (dflt (.pair (.int .i64) (.pair (.int .i64) (.pair (.int .i64) (.pair (.int .i64) (.int .i64)))))) ?_
             rw [hX]
             show (okC (.int .i64) X.1 (k) && (okC (.int .i64) X.2.1 (k + 1) && (okC (.int .i64) X.2.2.1 (k + 1 + 1) && (okC (.int .i64) X.2.2.2.1 (k + 1 + 1 + 1) && okC (.int .i64) X.2.2.2.2 (k + 1 + 1 + 1 + 1))))) = false
             simp only [g1, g2, g3, g4, g5, Bool.and_false, Bool.false_and, Bool.and_true, Bool.true_and]
           · have g5 : okC (.int .i64) X.2.2.2.2 (k + 1 + 1 + 1 + 1) = true := by
               have h : ((List.getD a0 i.toNat (dflt (.pair (.int .i64) (.pair (.int .i64) (.pair (.int .i64) (.pair (.int .i64) (.int .i64))))))).2.2.2.2 != IntKind.i64.wrap (IntKind.i64.wrap (IntKind.i64.wrap (IntKind.i64.wrap (k + 1) + 1) + 1) + 1)) = false := h5
               try simp only [hX, w0, w1, w2, w3, w4] at h
               exact ok_eq h
             refine Vc.skip (Vc.region hG rfl (by trivial) (Vc.region hG rfl (by trivial) ?_))
             refine ⟨rfl, ?_⟩
             refine hdStep hI hl hb (dflt (.pair (.int .i64) (.pair (.int .i64) (.pair (.int .i64) (.pair (.int .i64) (.int .i64)))))) ?_ ?_
             · rw [hX]
               show (okC (.int .i64) X.1 (k) && (okC (.int .i64) X.2.1 (k + 1) && (okC (.int .i64) X.2.2.1 (k + 1 + 1) && (okC (.int .i64) X.2.2.2.1 (k + 1 + 1 + 1) && okC (.int .i64) X.2.2.2.2 (k + 1 + 1 + 1 + 1))))) = true
               simp only [g1, g2, g3, g4, g5, Bool.and_true]
             · show IntKind.i64.wrap (IntKind.i64.wrap (IntKind.i64.wrap (IntKind.i64.wrap (IntKind.i64.wrap (k + 1) + 1) + 1) + 1) + 1) = k + ((cellsC (.pair (.int .i64) (.pair (.int .i64) (.pair (.int .i64) (.pair (.int .i64) (.int .i64))))) (List.getD a0 i.toNat (dflt (.pair (.int .i64) (.pair (.int .i64) (.pair (.int .i64) (.pair (.int .i64) (.int .i64))))))) : Nat) : Int)
               rw [hX]
               show _ = k + (((1 + (1 + (1 + (1 + 1)))) : Nat) : Int)
               try simp only [hX, w0, w1, w2, w3, w4]
               try omega
 · have hl : ¬ i < (List.length a0 : Int) := of_decide_eq_false h0
   refine Vc.exit (Vc.seq (Vc.region hG rfl (by trivial) (Vc.ret ?_)))
   refine ⟨?_, trivial⟩
   exact hdEnd hI hl
end Fw
