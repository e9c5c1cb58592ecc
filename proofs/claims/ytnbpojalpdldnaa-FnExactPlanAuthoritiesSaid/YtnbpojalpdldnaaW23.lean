/- Walks of functions of the program: what each computes. Conditions: those that each contract names. -/
import Derived.Test.YtnbpojalpdldnaaLawsP
import Derived.Test.YtnbpojalpdldnaaProg
namespace Fw
open Go Go.Proofs
set_option linter.unusedSimpArgs false
def tys : List (Nat × Ty) := [(2, .int .i64), (3, .int .i64), (4, .bool), (5, .int .u8), (6, .int .u8), (8, .pair (.int .i64) (.pair (.int .i64) (.pair (.bool) (.int .u8)))), (9, .str), (10, .str), (11, .str), (12, .int .u64), (14, .pair (.str) (.int .u64)), (21, .int .i32), (22, .slice (.pair (.int .i64) (.pair (.slice (.int .i64)) (.int .i64)))), (24, .slice (.pair (.int .i64) (.pair (.int .i64) (.pair (.int .i64) (.pair (.int .i64) (.pair (.int .i64) (.int .i64))))))), (26, .slice (.pair (.int .i64) (.pair (.slice (.int .i64)) (.int .i64)))), (34, .pair (.int .i64) (.pair (.int .i64) (.pair (.int .i64) (.pair (.int .i64) (.pair (.int .i64) (.pair (.int .i64) (.int .i64))))))), (35, .slice (.pair (.int .i64) (.pair (.int .i64) (.pair (.int .i64) (.pair (.int .i64) (.int .i64)))))), (37, .pair (.int .i64) (.pair (.int .i64) (.pair (.int .i64) (.pair (.int .i64) (.pair (.int .i64) (.pair (.int .i64) (.int .i64))))))), (42, .slice (.pair (.int .i64) (.pair (.int .i64) (.pair (.int .i64) (.pair (.int .i64) (.int .i64)))))), (43, .slice (.pair (.int .i64) (.pair (.int .i64) (.int .i64)))), (44, .slice (.pair (.int .i64) (.pair (.int .i64) (.pair (.int .i64) (.int .i64))))), (46, .pair (.slice (.pair (.int .i64) (.pair (.int .i64) (.pair (.int .i64) (.pair (.int .i64) (.int .i64)))))) (.pair (.slice (.pair (.int .i64) (.pair (.int .i64) (.int .i64)))) (.pair (.slice (.pair (.int .i64) (.pair (.int .i64) (.pair (.int .i64) (.int .i64))))) (.pair (.int .i64) (.int .i64))))), (48, .slice (.int .i64)), (50, .slice (.pair (.int .i64) (.pair (.int .i64) (.pair (.int .i64) (.pair (.int .i64) (.int .i64)))))), (51, .slice (.pair (.int .i64) (.pair (.int .i64) (.int .i64)))), (52, .slice (.pair (.int .i64) (.pair (.int .i64) (.pair (.int .i64) (.int .i64))))), (54, .pair (.slice (.pair (.int .i64) (.pair (.int .i64) (.pair (.int .i64) (.pair (.int .i64) (.int .i64)))))) (.pair (.slice (.pair (.int .i64) (.pair (.int .i64) (.int .i64)))) (.pair (.slice (.pair (.int .i64) (.pair (.int .i64) (.pair (.int .i64) (.int .i64))))) (.pair (.int .i64) (.int .i64))))), (63, .slice (.pair (.int .i64) (.pair (.int .i64) (.pair (.int .i64) (.pair (.int .i64) (.int .i64)))))), (75, .slice (.pair (.int .i64) (.pair (.int .i64) (.pair (.int .i64) (.pair (.int .i64) (.int .i64)))))), (80, .slice (.pair (.int .i64) (.bool))), (82, .pair (.int .i64) (.pair (.int .i64) (.pair (.int .i64) (.pair (.slice (.pair (.int .i64) (.bool))) (.slice (.pair (.int .i64) (.pair (.int .i64) (.pair (.int .i64) (.pair (.int .i64) (.int .i64)))))))))), (85, .slice (.pair (.int .i64) (.bool))), (87, .pair (.int .i64) (.pair (.int .i64) (.pair (.int .i64) (.pair (.slice (.pair (.int .i64) (.bool))) (.slice (.pair (.int .i64) (.pair (.int .i64) (.pair (.int .i64) (.pair (.int .i64) (.int .i64)))))))))), (91, .slice (.pair (.slice (.pair (.int .i64) (.pair (.slice (.int .i64)) (.int .i64)))) (.slice (.pair (.int .i64) (.pair (.int .i64) (.pair (.int .i64) (.pair (.slice (.pair (.int .i64) (.bool))) (.slice (.pair (.int .i64) (.pair (.int .i64) (.pair (.int .i64) (.pair (.int .i64) (.int .i64))))))))))))), (92, .slice (.slice (.pair (.int .i64) (.pair (.int .i64) (.pair (.int .i64) (.pair (.int .i64) (.int .i64))))))), (94, .pair (.slice (.pair (.slice (.pair (.int .i64) (.pair (.slice (.int .i64)) (.int .i64)))) (.slice (.pair (.int .i64) (.pair (.int .i64) (.pair (.int .i64) (.pair (.slice (.pair (.int .i64) (.bool))) (.slice (.pair (.int .i64) (.pair (.int .i64) (.pair (.int .i64) (.pair (.int .i64) (.int .i64))))))))))))) (.slice (.slice (.pair (.int .i64) (.pair (.int .i64) (.pair (.int .i64) (.pair (.int .i64) (.int .i64)))))))), (97, .slice (.pair (.slice (.pair (.int .i64) (.pair (.slice (.int .i64)) (.int .i64)))) (.slice (.pair (.int .i64) (.pair (.int .i64) (.pair (.int .i64) (.pair (.slice (.pair (.int .i64) (.bool))) (.slice (.pair (.int .i64) (.pair (.int .i64) (.pair (.int .i64) (.pair (.int .i64) (.int .i64))))))))))))), (98, .slice (.slice (.pair (.int .i64) (.pair (.int .i64) (.pair (.int .i64) (.pair (.int .i64) (.int .i64))))))), (100, .pair (.slice (.pair (.slice (.pair (.int .i64) (.pair (.slice (.int .i64)) (.int .i64)))) (.slice (.pair (.int .i64) (.pair (.int .i64) (.pair (.int .i64) (.pair (.slice (.pair (.int .i64) (.bool))) (.slice (.pair (.int .i64) (.pair (.int .i64) (.pair (.int .i64) (.pair (.int .i64) (.int .i64))))))))))))) (.slice (.slice (.pair (.int .i64) (.pair (.int .i64) (.pair (.int .i64) (.pair (.int .i64) (.int .i64)))))))), (105, .slice (.str)), (107, .pair (.int .i64) (.pair (.slice (.str)) (.slice (.int .i64)))), (109, .pair (.int .i64) (.pair (.int .i64) (.pair (.int .i64) (.pair (.int .i64) (.pair (.int .i64) (.pair (.int .i64) (.pair (.int .i64) (.pair (.int .i64) (.int .i64))))))))), (110, .slice (.pair (.int .i64) (.pair (.int .i64) (.pair (.int .i64) (.pair (.slice (.pair (.int .i64) (.bool))) (.slice (.pair (.int .i64) (.pair (.int .i64) (.pair (.int .i64) (.pair (.int .i64) (.int .i64))))))))))), (112, .pair (.slice (.pair (.int .i64) (.pair (.slice (.int .i64)) (.int .i64)))) (.slice (.pair (.int .i64) (.pair (.int .i64) (.pair (.int .i64) (.pair (.slice (.pair (.int .i64) (.bool))) (.slice (.pair (.int .i64) (.pair (.int .i64) (.pair (.int .i64) (.pair (.int .i64) (.int .i64)))))))))))), (114, .pair (.int .i64) (.pair (.int .i64) (.pair (.pair (.int .i64) (.pair (.slice (.str)) (.slice (.int .i64)))) (.pair (.pair (.int .i64) (.pair (.int .i64) (.pair (.int .i64) (.pair (.int .i64) (.pair (.int .i64) (.pair (.int .i64) (.pair (.int .i64) (.pair (.int .i64) (.int .i64))))))))) (.pair (.slice (.pair (.int .i64) (.pair (.slice (.int .i64)) (.int .i64)))) (.slice (.pair (.int .i64) (.pair (.int .i64) (.pair (.int .i64) (.pair (.slice (.pair (.int .i64) (.bool))) (.slice (.pair (.int .i64) (.pair (.int .i64) (.pair (.int .i64) (.pair (.int .i64) (.int .i64)))))))))))))))), (117, .pair (.int .i64) (.pair (.slice (.str)) (.slice (.int .i64)))), (118, .pair (.int .i64) (.pair (.int .i64) (.pair (.int .i64) (.pair (.int .i64) (.pair (.int .i64) (.pair (.int .i64) (.pair (.int .i64) (.pair (.int .i64) (.int .i64))))))))), (119, .slice (.pair (.int .i64) (.pair (.int .i64) (.pair (.int .i64) (.pair (.slice (.pair (.int .i64) (.bool))) (.slice (.pair (.int .i64) (.pair (.int .i64) (.pair (.int .i64) (.pair (.int .i64) (.int .i64))))))))))), (121, .pair (.slice (.pair (.int .i64) (.pair (.slice (.int .i64)) (.int .i64)))) (.slice (.pair (.int .i64) (.pair (.int .i64) (.pair (.int .i64) (.pair (.slice (.pair (.int .i64) (.bool))) (.slice (.pair (.int .i64) (.pair (.int .i64) (.pair (.int .i64) (.pair (.int .i64) (.int .i64)))))))))))), (123, .pair (.int .i64) (.pair (.int .i64) (.pair (.pair (.int .i64) (.pair (.slice (.str)) (.slice (.int .i64)))) (.pair (.pair (.int .i64) (.pair (.int .i64) (.pair (.int .i64) (.pair (.int .i64) (.pair (.int .i64) (.pair (.int .i64) (.pair (.int .i64) (.pair (.int .i64) (.int .i64))))))))) (.pair (.slice (.pair (.int .i64) (.pair (.slice (.int .i64)) (.int .i64)))) (.slice (.pair (.int .i64) (.pair (.int .i64) (.pair (.int .i64) (.pair (.slice (.pair (.int .i64) (.bool))) (.slice (.pair (.int .i64) (.pair (.int .i64) (.pair (.int .i64) (.pair (.int .i64) (.int .i64)))))))))))))))), (130, .pair (.int .i64) (.pair (.slice (.int .i64)) (.int .i64))), (132, .pair (.int .i64) (.pair (.int .i64) (.pair (.int .i64) (.pair (.int .i64) (.pair (.int .i64) (.int .i64)))))), (135, .pair (.int .i64) (.pair (.slice (.int .i64)) (.int .i64))), (140, .pair (.int .i64) (.pair (.int .i64) (.pair (.int .i64) (.pair (.int .i64) (.int .i64))))), (146, .pair (.int .i64) (.pair (.int .i64) (.int .i64))), (148, .pair (.int .i64) (.pair (.int .i64) (.pair (.int .i64) (.pair (.int .i64) (.int .i64))))), (154, .pair (.int .i64) (.pair (.int .i64) (.pair (.int .i64) (.pair (.int .i64) (.int .i64))))), (158, .pair (.int .i64) (.pair (.int .i64) (.pair (.int .i64) (.pair (.int .i64) (.int .i64))))), (160, .pair (.int .i64) (.pair (.int .i64) (.int .i64))), (166, .pair (.int .i64) (.pair (.int .i64) (.pair (.int .i64) (.pair (.int .i64) (.int .i64))))), (167, .arr 100 (.bool)), (198, .pair (.int .i64) (.pair (.int .i64) (.pair (.int .i64) (.int .i64)))), (200, .pair (.int .i64) (.pair (.int .i64) (.pair (.int .i64) (.int .i64)))), (209, .pair (.int .i64) (.bool)), (211, .pair (.int .i64) (.bool)), (220, .arr 5 (.int .i64)), (225, .slice (.int .u8)), (233, .int .u32), (234, .int .u8), (235, .int .u8), (238, .int .i32), (239, .int .i32), (245, .pair (.int .i64) (.int .i64))]
def flds : List (Nat × List (Nat × Ty)) := [(8, [(0, .int .i64), (1, .int .i64), (2, .bool), (3, .int .u8)]), (14, [(0, .str), (1, .int .u64)]), (34, [(0, .int .i64), (1, .int .i64), (2, .int .i64), (3, .int .i64), (4, .int .i64), (5, .int .i64), (6, .int .i64)]), (37, [(0, .int .i64), (1, .int .i64), (2, .int .i64), (3, .int .i64), (4, .int .i64), (5, .int .i64), (6, .int .i64)]), (46, [(0, .slice (.pair (.int .i64) (.pair (.int .i64) (.pair (.int .i64) (.pair (.int .i64) (.int .i64)))))), (1, .slice (.pair (.int .i64) (.pair (.int .i64) (.int .i64)))), (2, .slice (.pair (.int .i64) (.pair (.int .i64) (.pair (.int .i64) (.int .i64))))), (3, .int .i64), (4, .int .i64)]), (54, [(0, .slice (.pair (.int .i64) (.pair (.int .i64) (.pair (.int .i64) (.pair (.int .i64) (.int .i64)))))), (1, .slice (.pair (.int .i64) (.pair (.int .i64) (.int .i64)))), (2, .slice (.pair (.int .i64) (.pair (.int .i64) (.pair (.int .i64) (.int .i64))))), (3, .int .i64), (4, .int .i64)]), (82, [(0, .int .i64), (1, .int .i64), (2, .int .i64), (3, .slice (.pair (.int .i64) (.bool))), (4, .slice (.pair (.int .i64) (.pair (.int .i64) (.pair (.int .i64) (.pair (.int .i64) (.int .i64))))))]), (87, [(0, .int .i64), (1, .int .i64), (2, .int .i64), (3, .slice (.pair (.int .i64) (.bool))), (4, .slice (.pair (.int .i64) (.pair (.int .i64) (.pair (.int .i64) (.pair (.int .i64) (.int .i64))))))]), (94, [(0, .slice (.pair (.slice (.pair (.int .i64) (.pair (.slice (.int .i64)) (.int .i64)))) (.slice (.pair (.int .i64) (.pair (.int .i64) (.pair (.int .i64) (.pair (.slice (.pair (.int .i64) (.bool))) (.slice (.pair (.int .i64) (.pair (.int .i64) (.pair (.int .i64) (.pair (.int .i64) (.int .i64))))))))))))), (1, .slice (.slice (.pair (.int .i64) (.pair (.int .i64) (.pair (.int .i64) (.pair (.int .i64) (.int .i64)))))))]), (100, [(0, .slice (.pair (.slice (.pair (.int .i64) (.pair (.slice (.int .i64)) (.int .i64)))) (.slice (.pair (.int .i64) (.pair (.int .i64) (.pair (.int .i64) (.pair (.slice (.pair (.int .i64) (.bool))) (.slice (.pair (.int .i64) (.pair (.int .i64) (.pair (.int .i64) (.pair (.int .i64) (.int .i64))))))))))))), (1, .slice (.slice (.pair (.int .i64) (.pair (.int .i64) (.pair (.int .i64) (.pair (.int .i64) (.int .i64)))))))]), (107, [(0, .int .i64), (1, .slice (.str)), (2, .slice (.int .i64))]), (109, [(0, .int .i64), (1, .int .i64), (2, .int .i64), (3, .int .i64), (4, .int .i64), (5, .int .i64), (6, .int .i64), (7, .int .i64), (8, .int .i64)]), (112, [(0, .slice (.pair (.int .i64) (.pair (.slice (.int .i64)) (.int .i64)))), (1, .slice (.pair (.int .i64) (.pair (.int .i64) (.pair (.int .i64) (.pair (.slice (.pair (.int .i64) (.bool))) (.slice (.pair (.int .i64) (.pair (.int .i64) (.pair (.int .i64) (.pair (.int .i64) (.int .i64)))))))))))]), (114, [(0, .int .i64), (1, .int .i64), (2, .pair (.int .i64) (.pair (.slice (.str)) (.slice (.int .i64)))), (5, .pair (.int .i64) (.pair (.int .i64) (.pair (.int .i64) (.pair (.int .i64) (.pair (.int .i64) (.pair (.int .i64) (.pair (.int .i64) (.pair (.int .i64) (.int .i64))))))))), (14, .pair (.slice (.pair (.int .i64) (.pair (.slice (.int .i64)) (.int .i64)))) (.slice (.pair (.int .i64) (.pair (.int .i64) (.pair (.int .i64) (.pair (.slice (.pair (.int .i64) (.bool))) (.slice (.pair (.int .i64) (.pair (.int .i64) (.pair (.int .i64) (.pair (.int .i64) (.int .i64))))))))))))]), (117, [(0, .int .i64), (1, .slice (.str)), (2, .slice (.int .i64))]), (118, [(0, .int .i64), (1, .int .i64), (2, .int .i64), (3, .int .i64), (4, .int .i64), (5, .int .i64), (6, .int .i64), (7, .int .i64), (8, .int .i64)]), (121, [(0, .slice (.pair (.int .i64) (.pair (.slice (.int .i64)) (.int .i64)))), (1, .slice (.pair (.int .i64) (.pair (.int .i64) (.pair (.int .i64) (.pair (.slice (.pair (.int .i64) (.bool))) (.slice (.pair (.int .i64) (.pair (.int .i64) (.pair (.int .i64) (.pair (.int .i64) (.int .i64)))))))))))]), (123, [(0, .int .i64), (1, .int .i64), (2, .pair (.int .i64) (.pair (.slice (.str)) (.slice (.int .i64)))), (5, .pair (.int .i64) (.pair (.int .i64) (.pair (.int .i64) (.pair (.int .i64) (.pair (.int .i64) (.pair (.int .i64) (.pair (.int .i64) (.pair (.int .i64) (.int .i64))))))))), (14, .pair (.slice (.pair (.int .i64) (.pair (.slice (.int .i64)) (.int .i64)))) (.slice (.pair (.int .i64) (.pair (.int .i64) (.pair (.int .i64) (.pair (.slice (.pair (.int .i64) (.bool))) (.slice (.pair (.int .i64) (.pair (.int .i64) (.pair (.int .i64) (.pair (.int .i64) (.int .i64))))))))))))]), (130, [(0, .int .i64), (1, .slice (.int .i64)), (2, .int .i64)]), (132, [(0, .int .i64), (1, .int .i64), (2, .int .i64), (3, .int .i64), (4, .int .i64), (5, .int .i64)]), (135, [(0, .int .i64), (1, .slice (.int .i64)), (2, .int .i64)]), (140, [(0, .int .i64), (1, .int .i64), (2, .int .i64), (3, .int .i64), (4, .int .i64)]), (146, [(0, .int .i64), (1, .int .i64), (2, .int .i64)]), (148, [(0, .int .i64), (1, .int .i64), (2, .int .i64), (3, .int .i64), (4, .int .i64)]), (154, [(0, .int .i64), (1, .int .i64), (2, .int .i64), (3, .int .i64), (4, .int .i64)]), (158, [(0, .int .i64), (1, .int .i64), (2, .int .i64), (3, .int .i64), (4, .int .i64)]), (160, [(0, .int .i64), (1, .int .i64), (2, .int .i64)]), (166, [(0, .int .i64), (1, .int .i64), (2, .int .i64), (3, .int .i64), (4, .int .i64)]), (198, [(0, .int .i64), (1, .int .i64), (2, .int .i64), (3, .int .i64)]), (200, [(0, .int .i64), (1, .int .i64), (2, .int .i64), (3, .int .i64)]), (209, [(0, .int .i64), (1, .bool)]), (211, [(0, .int .i64), (1, .bool)]), (245, [(0, .int .i64), (1, .int .i64)])]
def eqs : List Nat := [34, 37, 109, 118, 132, 140, 146, 148, 154, 158, 160, 166, 198, 200, 209, 211, 245]
set_option maxRecDepth 100000 in
theorem tys_ok : tysB Try.prog tys = true := by kernel_rfl
set_option maxRecDepth 100000 in
theorem flds_ok : allFldsB Try.prog flds = true := by kernel_rfl
set_option maxRecDepth 100000 in
theorem eqs_ok : eqsB Try.prog tys eqs = true := by kernel_rfl
theorem mixed : Try.prog.follows .mixedOrders = true := by kernel_rfl
noncomputable def mkC (n : Nat) (res keep : List Nat) (l : List (Known Try.prog)) : Ctx := ⟨n, tys, flds, res, keep, fnOf l, eqs, fun _ => none, []⟩
theorem mkC_ok (n : Nat) (res keep : List Nat) (l : List (Known Try.prog)) : CtxOk Try.prog (mkC n res keep l) := ctxOk tys_ok flds_ok eqs_ok (fun _ _ h => by cases h)
noncomputable def mkCM (n : Nat) (res keep : List Nat) (l : List (Known Try.prog)) (lm : List (KnownM Try.prog)) (pins : List Nat) : Ctx := ⟨n, tys, flds, res, keep, fnOf l, eqs, fnOfM lm, pins⟩
theorem mkCM_ok (n : Nat) (res keep : List Nat) (l : List (Known Try.prog)) (lm : List (KnownM Try.prog)) (pins : List Nat) : CtxOk Try.prog (mkCM n res keep l lm pins) := ctxOk tys_ok flds_ok eqs_ok (fnOfM_ok lm)
noncomputable def F35 : Fun := ⟨[.slice (.pair (.int .i64) (.pair (.int .i64) (.pair (.int .i64) (.pair (.int .i64) (.int .i64))))), .int .i64], [.pure (.int .i64)], fun x => szPre x.1 x.2.1, fun x => (szF (.slice (.pair (.int .i64) (.pair (.int .i64) (.pair (.int .i64) (.pair (.int .i64) (.int .i64)))))) x.1 x.2.1, ())⟩
set_option maxRecDepth 100000 in
/-- loop.example.g00597.laws.szKeyS -/
theorem F35_ok : Meets Try.prog 35 F35 := by
  refine meets_of_vc (C := mkC 12 [4] [0,1,4,10] []) (mkC_ok _ _ _ _) (fnOf_ok _) Try.func35 rfl rfl rfl (by decide) rfl ?_
  rintro ⟨a0, (a1 : Int), _⟩ hwf hpre ⟨P, C, B, X, w0, M0, pv⟩ hG rfl rfl
  show Vc _ _ [(0, ⟨0, 0, .c (.pure (.slice (.pair (.int .i64) (.pair (.int .i64) (.pair (.int .i64) (.pair (.int .i64) (.int .i64))))))) a0⟩), (1, ⟨0, 0, .c (.pure (.int .i64)) a1⟩)] _
  have q0 : (0 : Int) ≤ a1 ∧ a1 ≤ (big20 : Int) := hpre
  have hb : List.length a0 ≤ bigLen := hwf.1.1
  have hw : IntKind.i64.wrap (a1 - (List.length a0 : Int)) = a1 - (List.length a0 : Int) := subW hpre hb
  refine Vc.seq ?_
  refine Vc.region hG rfl ?_ ?_
  · trivial
  refine Vc.seq ?_
  refine Vc.region hG rfl ?_ ?_
  · trivial
  refine Vc.seq ?_
  refine Vc.seq ?_
  refine Vc.region hG rfl ?_ ?_
  · trivial
  refine Vc.cond rfl (fun h0 => ?_) (fun h0 => ?_)
  · skip
    have g0 : a1 - (List.length a0 : Int) < 0 := by rw [← hw]; exact of_decide_eq_true h0
    refine Vc.seq ?_
    refine Vc.region hG rfl ?_ ?_
    · trivial
    refine Vc.ret ?_
    refine ⟨?_, trivial⟩
    show (-1 : Int) = if a1 - (List.length a0 : Int) < 0 then -1 else szL (szF (.pair (.int .i64) (.pair (.int .i64) (.pair (.int .i64) (.pair (.int .i64) (.int .i64)))))) a0 (a1 - (List.length a0 : Int))
    rw [if_pos g0]
  · skip
    have g0 : ¬ a1 - (List.length a0 : Int) < 0 := by rw [← hw]; exact of_decide_eq_false h0
    refine Vc.skip ?_
    refine Vc.seq ?_
    refine Vc.region hG rfl ?_ ?_
    · trivial
    refine Vc.ret ?_
    refine ⟨?_, trivial⟩
    show IntKind.i64.wrap (a1 - (List.length a0 : Int)) = if a1 - (List.length a0 : Int) < 0 then -1 else szL (szF (.pair (.int .i64) (.pair (.int .i64) (.pair (.int .i64) (.pair (.int .i64) (.int .i64)))))) a0 (a1 - (List.length a0 : Int))
    rw [if_neg g0, hw, szL_id (fun x l hl => szF_id (.pair (.int .i64) (.pair (.int .i64) (.pair (.int .i64) (.pair (.int .i64) (.int .i64))))) rfl x l hl) a0 _ (show (0 : Int) ≤ a1 - (List.length a0 : Int) from by omega)]
noncomputable def F36 : Fun := ⟨[.slice (.pair (.int .i64) (.pair (.int .i64) (.int .i64))), .int .i64], [.pure (.int .i64)], fun x => szPre x.1 x.2.1, fun x => (szF (.slice (.pair (.int .i64) (.pair (.int .i64) (.int .i64)))) x.1 x.2.1, ())⟩
set_option maxRecDepth 100000 in
/-- loop.example.g00597.laws.szAuthorityS -/
theorem F36_ok : Meets Try.prog 36 F36 := by
  refine meets_of_vc (C := mkC 12 [4] [0,1,4,10] []) (mkC_ok _ _ _ _) (fnOf_ok _) Try.func36 rfl rfl rfl (by decide) rfl ?_
  rintro ⟨a0, (a1 : Int), _⟩ hwf hpre ⟨P, C, B, X, w0, M0, pv⟩ hG rfl rfl
  show Vc _ _ [(0, ⟨0, 0, .c (.pure (.slice (.pair (.int .i64) (.pair (.int .i64) (.int .i64))))) a0⟩), (1, ⟨0, 0, .c (.pure (.int .i64)) a1⟩)] _
  have q0 : (0 : Int) ≤ a1 ∧ a1 ≤ (big20 : Int) := hpre
  have hb : List.length a0 ≤ bigLen := hwf.1.1
  have hw : IntKind.i64.wrap (a1 - (List.length a0 : Int)) = a1 - (List.length a0 : Int) := subW hpre hb
  refine Vc.seq ?_
  refine Vc.region hG rfl ?_ ?_
  · trivial
  refine Vc.seq ?_
  refine Vc.region hG rfl ?_ ?_
  · trivial
  refine Vc.seq ?_
  refine Vc.seq ?_
  refine Vc.region hG rfl ?_ ?_
  · trivial
  refine Vc.cond rfl (fun h0 => ?_) (fun h0 => ?_)
  · skip
    have g0 : a1 - (List.length a0 : Int) < 0 := by rw [← hw]; exact of_decide_eq_true h0
    refine Vc.seq ?_
    refine Vc.region hG rfl ?_ ?_
    · trivial
    refine Vc.ret ?_
    refine ⟨?_, trivial⟩
    show (-1 : Int) = if a1 - (List.length a0 : Int) < 0 then -1 else szL (szF (.pair (.int .i64) (.pair (.int .i64) (.int .i64)))) a0 (a1 - (List.length a0 : Int))
    rw [if_pos g0]
  · skip
    have g0 : ¬ a1 - (List.length a0 : Int) < 0 := by rw [← hw]; exact of_decide_eq_false h0
    refine Vc.skip ?_
    refine Vc.seq ?_
    refine Vc.region hG rfl ?_ ?_
    · trivial
    refine Vc.ret ?_
    refine ⟨?_, trivial⟩
    show IntKind.i64.wrap (a1 - (List.length a0 : Int)) = if a1 - (List.length a0 : Int) < 0 then -1 else szL (szF (.pair (.int .i64) (.pair (.int .i64) (.int .i64)))) a0 (a1 - (List.length a0 : Int))
    rw [if_neg g0, hw, szL_id (fun x l hl => szF_id (.pair (.int .i64) (.pair (.int .i64) (.int .i64))) rfl x l hl) a0 _ (show (0 : Int) ≤ a1 - (List.length a0 : Int) from by omega)]
noncomputable def F79 : Fun := ⟨[.slice (.pair (.int .i64) (.pair (.int .i64) (.pair (.int .i64) (.int .i64)))), .int .i64], [.pure (.int .i64)], fun x => szPre x.1 x.2.1, fun x => (szF (.slice (.pair (.int .i64) (.pair (.int .i64) (.pair (.int .i64) (.int .i64))))) x.1 x.2.1, ())⟩
set_option maxRecDepth 100000 in
/-- loop.example.g00597.laws.szMethodS -/
theorem F79_ok : Meets Try.prog 79 F79 := by
  refine meets_of_vc (C := mkC 12 [4] [0,1,4,10] []) (mkC_ok _ _ _ _) (fnOf_ok _) Try.func79 rfl rfl rfl (by decide) rfl ?_
  rintro ⟨a0, (a1 : Int), _⟩ hwf hpre ⟨P, C, B, X, w0, M0, pv⟩ hG rfl rfl
  show Vc _ _ [(0, ⟨0, 0, .c (.pure (.slice (.pair (.int .i64) (.pair (.int .i64) (.pair (.int .i64) (.int .i64)))))) a0⟩), (1, ⟨0, 0, .c (.pure (.int .i64)) a1⟩)] _
  have q0 : (0 : Int) ≤ a1 ∧ a1 ≤ (big20 : Int) := hpre
  have hb : List.length a0 ≤ bigLen := hwf.1.1
  have hw : IntKind.i64.wrap (a1 - (List.length a0 : Int)) = a1 - (List.length a0 : Int) := subW hpre hb
  refine Vc.seq ?_
  refine Vc.region hG rfl ?_ ?_
  · trivial
  refine Vc.seq ?_
  refine Vc.region hG rfl ?_ ?_
  · trivial
  refine Vc.seq ?_
  refine Vc.seq ?_
  refine Vc.region hG rfl ?_ ?_
  · trivial
  refine Vc.cond rfl (fun h0 => ?_) (fun h0 => ?_)
  · skip
    have g0 : a1 - (List.length a0 : Int) < 0 := by rw [← hw]; exact of_decide_eq_true h0
    refine Vc.seq ?_
    refine Vc.region hG rfl ?_ ?_
    · trivial
    refine Vc.ret ?_
    refine ⟨?_, trivial⟩
    show (-1 : Int) = if a1 - (List.length a0 : Int) < 0 then -1 else szL (szF (.pair (.int .i64) (.pair (.int .i64) (.pair (.int .i64) (.int .i64))))) a0 (a1 - (List.length a0 : Int))
    rw [if_pos g0]
  · skip
    have g0 : ¬ a1 - (List.length a0 : Int) < 0 := by rw [← hw]; exact of_decide_eq_false h0
    refine Vc.skip ?_
    refine Vc.seq ?_
    refine Vc.region hG rfl ?_ ?_
    · trivial
    refine Vc.ret ?_
    refine ⟨?_, trivial⟩
    show IntKind.i64.wrap (a1 - (List.length a0 : Int)) = if a1 - (List.length a0 : Int) < 0 then -1 else szL (szF (.pair (.int .i64) (.pair (.int .i64) (.pair (.int .i64) (.int .i64))))) a0 (a1 - (List.length a0 : Int))
    rw [if_neg g0, hw, szL_id (fun x l hl => szF_id (.pair (.int .i64) (.pair (.int .i64) (.pair (.int .i64) (.int .i64)))) rfl x l hl) a0 _ (show (0 : Int) ≤ a1 - (List.length a0 : Int) from by omega)]
noncomputable def F26 : Fun := ⟨[.pair (.slice (.pair (.int .i64) (.pair (.int .i64) (.pair (.int .i64) (.pair (.int .i64) (.int .i64)))))) (.pair (.slice (.pair (.int .i64) (.pair (.int .i64) (.int .i64)))) (.pair (.slice (.pair (.int .i64) (.pair (.int .i64) (.pair (.int .i64) (.int .i64))))) (.pair (.int .i64) (.int .i64)))), .int .i64], [.pure (.int .i64)], fun x => szPre x.1 x.2.1, fun x => (szF (.pair (.slice (.pair (.int .i64) (.pair (.int .i64) (.pair (.int .i64) (.pair (.int .i64) (.int .i64)))))) (.pair (.slice (.pair (.int .i64) (.pair (.int .i64) (.int .i64)))) (.pair (.slice (.pair (.int .i64) (.pair (.int .i64) (.pair (.int .i64) (.int .i64))))) (.pair (.int .i64) (.int .i64))))) x.1 x.2.1, ())⟩
set_option maxRecDepth 100000 in
/-- loop.example.g00597.laws.szFrame -/
theorem F26_ok : Meets Try.prog 26 F26 := by
  refine meets_of_vc (C := mkC 24 [4] [0,1,2,4,10,16,22] [⟨35, _, F35_ok⟩, ⟨36, _, F36_ok⟩, ⟨79, _, F79_ok⟩]) (mkC_ok _ _ _ _) (fnOf_ok _) Try.func26 rfl rfl rfl (by decide) rfl ?_
  rintro ⟨a0, (a1 : Int), _⟩ hwf hpre ⟨P, C, B, X, w0, M0, pv⟩ hG rfl rfl
  show Vc _ _ [(0, ⟨0, 0, .c (.pure (.pair (.slice (.pair (.int .i64) (.pair (.int .i64) (.pair (.int .i64) (.pair (.int .i64) (.int .i64)))))) (.pair (.slice (.pair (.int .i64) (.pair (.int .i64) (.int .i64)))) (.pair (.slice (.pair (.int .i64) (.pair (.int .i64) (.pair (.int .i64) (.int .i64))))) (.pair (.int .i64) (.int .i64)))))) a0⟩), (1, ⟨0, 0, .c (.pure (.int .i64)) a1⟩)] _
  have q0 : (0 : Int) ≤ a1 ∧ a1 ≤ (big20 : Int) := hpre
  refine Vc.seq ?_
  refine Vc.region hG rfl ?_ ?_
  · trivial
  refine Vc.seq ?_
  refine Vc.region hG rfl ?_ ?_
  · exact (show (0 : Int) ≤ a1 ∧ a1 ≤ (big20 : Int) from ⟨by omega, by omega⟩)
  refine Vc.seq ?_
  refine Vc.seq ?_
  refine Vc.region hG rfl ?_ ?_
  · trivial
  refine Vc.cond rfl (fun h0 => ?_) (fun h0 => ?_)
  · skip
    have m0 := szF_m1 (.slice (.pair (.int .i64) (.pair (.int .i64) (.pair (.int .i64) (.pair (.int .i64) (.int .i64)))))) rfl a0.1 (a1) (show (0 : Int) ≤ a1 from by omega)
    have g0 : szF (.slice (.pair (.int .i64) (.pair (.int .i64) (.pair (.int .i64) (.pair (.int .i64) (.int .i64)))))) a0.1 (a1) < 0 := of_decide_eq_true h0
    refine Vc.seq ?_
    refine Vc.region hG rfl ?_ ?_
    · trivial
    refine Vc.ret ?_
    refine ⟨?_, trivial⟩
    show (-1 : Int) = szF (.pair (.slice (.pair (.int .i64) (.pair (.int .i64) (.pair (.int .i64) (.pair (.int .i64) (.int .i64)))))) (.pair (.slice (.pair (.int .i64) (.pair (.int .i64) (.int .i64)))) (.pair (.slice (.pair (.int .i64) (.pair (.int .i64) (.pair (.int .i64) (.int .i64))))) (.pair (.int .i64) (.int .i64))))) a0 a1
    refine Eq.trans ?_ (szSpine _ _ (show szF (.pair (.slice (.pair (.int .i64) (.pair (.int .i64) (.pair (.int .i64) (.pair (.int .i64) (.int .i64)))))) (.pair (.slice (.pair (.int .i64) (.pair (.int .i64) (.int .i64)))) (.pair (.slice (.pair (.int .i64) (.pair (.int .i64) (.pair (.int .i64) (.int .i64))))) (.pair (.int .i64) (.int .i64))))) a0 a1 = (if szF (.slice (.pair (.int .i64) (.pair (.int .i64) (.pair (.int .i64) (.pair (.int .i64) (.int .i64)))))) a0.1 (a1) < 0 then -1 else (if szF (.slice (.pair (.int .i64) (.pair (.int .i64) (.int .i64)))) a0.2.1 (szF (.slice (.pair (.int .i64) (.pair (.int .i64) (.pair (.int .i64) (.pair (.int .i64) (.int .i64)))))) a0.1 (a1)) < 0 then -1 else (if szF (.slice (.pair (.int .i64) (.pair (.int .i64) (.pair (.int .i64) (.int .i64))))) a0.2.2.1 (szF (.slice (.pair (.int .i64) (.pair (.int .i64) (.int .i64)))) a0.2.1 (szF (.slice (.pair (.int .i64) (.pair (.int .i64) (.pair (.int .i64) (.pair (.int .i64) (.int .i64)))))) a0.1 (a1))) < 0 then -1 else (if szF (.int .i64) a0.2.2.2.1 (szF (.slice (.pair (.int .i64) (.pair (.int .i64) (.pair (.int .i64) (.int .i64))))) a0.2.2.1 (szF (.slice (.pair (.int .i64) (.pair (.int .i64) (.int .i64)))) a0.2.1 (szF (.slice (.pair (.int .i64) (.pair (.int .i64) (.pair (.int .i64) (.pair (.int .i64) (.int .i64)))))) a0.1 (a1)))) < 0 then -1 else szF (.int .i64) a0.2.2.2.2 (szF (.int .i64) a0.2.2.2.1 (szF (.slice (.pair (.int .i64) (.pair (.int .i64) (.pair (.int .i64) (.int .i64))))) a0.2.2.1 (szF (.slice (.pair (.int .i64) (.pair (.int .i64) (.int .i64)))) a0.2.1 (szF (.slice (.pair (.int .i64) (.pair (.int .i64) (.pair (.int .i64) (.pair (.int .i64) (.int .i64)))))) a0.1 (a1))))))))) from rfl))
    rw [if_pos g0]
  · skip
    have m0 := szF_m1 (.slice (.pair (.int .i64) (.pair (.int .i64) (.pair (.int .i64) (.pair (.int .i64) (.int .i64)))))) rfl a0.1 (a1) (show (0 : Int) ≤ a1 from by omega)
    have g0 : ¬ szF (.slice (.pair (.int .i64) (.pair (.int .i64) (.pair (.int .i64) (.pair (.int .i64) (.int .i64)))))) a0.1 (a1) < 0 := of_decide_eq_false h0
    have k0 := szF_le (.slice (.pair (.int .i64) (.pair (.int .i64) (.pair (.int .i64) (.pair (.int .i64) (.int .i64)))))) a0.1 (a1)
    refine Vc.skip ?_
    refine Vc.seq ?_
    refine Vc.region hG rfl ?_ ?_
    · exact (show (0 : Int) ≤ szF (.slice (.pair (.int .i64) (.pair (.int .i64) (.pair (.int .i64) (.pair (.int .i64) (.int .i64)))))) a0.1 (a1) ∧ szF (.slice (.pair (.int .i64) (.pair (.int .i64) (.pair (.int .i64) (.pair (.int .i64) (.int .i64)))))) a0.1 (a1) ≤ (big20 : Int) from ⟨by omega, by omega⟩)
    refine Vc.seq ?_
    refine Vc.seq ?_
    refine Vc.region hG rfl ?_ ?_
    · trivial
    refine Vc.cond rfl (fun h1 => ?_) (fun h1 => ?_)
    · skip
      have m1 := szF_m1 (.slice (.pair (.int .i64) (.pair (.int .i64) (.int .i64)))) rfl a0.2.1 (szF (.slice (.pair (.int .i64) (.pair (.int .i64) (.pair (.int .i64) (.pair (.int .i64) (.int .i64)))))) a0.1 (a1)) (show (0 : Int) ≤ szF (.slice (.pair (.int .i64) (.pair (.int .i64) (.pair (.int .i64) (.pair (.int .i64) (.int .i64)))))) a0.1 (a1) from by omega)
      have g1 : szF (.slice (.pair (.int .i64) (.pair (.int .i64) (.int .i64)))) a0.2.1 (szF (.slice (.pair (.int .i64) (.pair (.int .i64) (.pair (.int .i64) (.pair (.int .i64) (.int .i64)))))) a0.1 (a1)) < 0 := of_decide_eq_true h1
      refine Vc.seq ?_
      refine Vc.region hG rfl ?_ ?_
      · trivial
      refine Vc.ret ?_
      refine ⟨?_, trivial⟩
      show (-1 : Int) = szF (.pair (.slice (.pair (.int .i64) (.pair (.int .i64) (.pair (.int .i64) (.pair (.int .i64) (.int .i64)))))) (.pair (.slice (.pair (.int .i64) (.pair (.int .i64) (.int .i64)))) (.pair (.slice (.pair (.int .i64) (.pair (.int .i64) (.pair (.int .i64) (.int .i64))))) (.pair (.int .i64) (.int .i64))))) a0 a1
      refine Eq.trans ?_ (szSpine _ _ (show szF (.pair (.slice (.pair (.int .i64) (.pair (.int .i64) (.pair (.int .i64) (.pair (.int .i64) (.int .i64)))))) (.pair (.slice (.pair (.int .i64) (.pair (.int .i64) (.int .i64)))) (.pair (.slice (.pair (.int .i64) (.pair (.int .i64) (.pair (.int .i64) (.int .i64))))) (.pair (.int .i64) (.int .i64))))) a0 a1 = (if szF (.slice (.pair (.int .i64) (.pair (.int .i64) (.pair (.int .i64) (.pair (.int .i64) (.int .i64)))))) a0.1 (a1) < 0 then -1 else (if szF (.slice (.pair (.int .i64) (.pair (.int .i64) (.int .i64)))) a0.2.1 (szF (.slice (.pair (.int .i64) (.pair (.int .i64) (.pair (.int .i64) (.pair (.int .i64) (.int .i64)))))) a0.1 (a1)) < 0 then -1 else (if szF (.slice (.pair (.int .i64) (.pair (.int .i64) (.pair (.int .i64) (.int .i64))))) a0.2.2.1 (szF (.slice (.pair (.int .i64) (.pair (.int .i64) (.int .i64)))) a0.2.1 (szF (.slice (.pair (.int .i64) (.pair (.int .i64) (.pair (.int .i64) (.pair (.int .i64) (.int .i64)))))) a0.1 (a1))) < 0 then -1 else (if szF (.int .i64) a0.2.2.2.1 (szF (.slice (.pair (.int .i64) (.pair (.int .i64) (.pair (.int .i64) (.int .i64))))) a0.2.2.1 (szF (.slice (.pair (.int .i64) (.pair (.int .i64) (.int .i64)))) a0.2.1 (szF (.slice (.pair (.int .i64) (.pair (.int .i64) (.pair (.int .i64) (.pair (.int .i64) (.int .i64)))))) a0.1 (a1)))) < 0 then -1 else szF (.int .i64) a0.2.2.2.2 (szF (.int .i64) a0.2.2.2.1 (szF (.slice (.pair (.int .i64) (.pair (.int .i64) (.pair (.int .i64) (.int .i64))))) a0.2.2.1 (szF (.slice (.pair (.int .i64) (.pair (.int .i64) (.int .i64)))) a0.2.1 (szF (.slice (.pair (.int .i64) (.pair (.int .i64) (.pair (.int .i64) (.pair (.int .i64) (.int .i64)))))) a0.1 (a1))))))))) from rfl))
      rw [if_neg g0]
      rw [if_pos g1]
    · skip
      have m1 := szF_m1 (.slice (.pair (.int .i64) (.pair (.int .i64) (.int .i64)))) rfl a0.2.1 (szF (.slice (.pair (.int .i64) (.pair (.int .i64) (.pair (.int .i64) (.pair (.int .i64) (.int .i64)))))) a0.1 (a1)) (show (0 : Int) ≤ szF (.slice (.pair (.int .i64) (.pair (.int .i64) (.pair (.int .i64) (.pair (.int .i64) (.int .i64)))))) a0.1 (a1) from by omega)
      have g1 : ¬ szF (.slice (.pair (.int .i64) (.pair (.int .i64) (.int .i64)))) a0.2.1 (szF (.slice (.pair (.int .i64) (.pair (.int .i64) (.pair (.int .i64) (.pair (.int .i64) (.int .i64)))))) a0.1 (a1)) < 0 := of_decide_eq_false h1
      have k1 := szF_le (.slice (.pair (.int .i64) (.pair (.int .i64) (.int .i64)))) a0.2.1 (szF (.slice (.pair (.int .i64) (.pair (.int .i64) (.pair (.int .i64) (.pair (.int .i64) (.int .i64)))))) a0.1 (a1))
      refine Vc.skip ?_
      refine Vc.seq ?_
      refine Vc.region hG rfl ?_ ?_
      · exact (show (0 : Int) ≤ szF (.slice (.pair (.int .i64) (.pair (.int .i64) (.int .i64)))) a0.2.1 (szF (.slice (.pair (.int .i64) (.pair (.int .i64) (.pair (.int .i64) (.pair (.int .i64) (.int .i64)))))) a0.1 (a1)) ∧ szF (.slice (.pair (.int .i64) (.pair (.int .i64) (.int .i64)))) a0.2.1 (szF (.slice (.pair (.int .i64) (.pair (.int .i64) (.pair (.int .i64) (.pair (.int .i64) (.int .i64)))))) a0.1 (a1)) ≤ (big20 : Int) from ⟨by omega, by omega⟩)
      refine Vc.seq ?_
      refine Vc.seq ?_
      refine Vc.region hG rfl ?_ ?_
      · trivial
      refine Vc.cond rfl (fun h2 => ?_) (fun h2 => ?_)
      · skip
        have m2 := szF_m1 (.slice (.pair (.int .i64) (.pair (.int .i64) (.pair (.int .i64) (.int .i64))))) rfl a0.2.2.1 (szF (.slice (.pair (.int .i64) (.pair (.int .i64) (.int .i64)))) a0.2.1 (szF (.slice (.pair (.int .i64) (.pair (.int .i64) (.pair (.int .i64) (.pair (.int .i64) (.int .i64)))))) a0.1 (a1))) (show (0 : Int) ≤ szF (.slice (.pair (.int .i64) (.pair (.int .i64) (.int .i64)))) a0.2.1 (szF (.slice (.pair (.int .i64) (.pair (.int .i64) (.pair (.int .i64) (.pair (.int .i64) (.int .i64)))))) a0.1 (a1)) from by omega)
        have g2 : szF (.slice (.pair (.int .i64) (.pair (.int .i64) (.pair (.int .i64) (.int .i64))))) a0.2.2.1 (szF (.slice (.pair (.int .i64) (.pair (.int .i64) (.int .i64)))) a0.2.1 (szF (.slice (.pair (.int .i64) (.pair (.int .i64) (.pair (.int .i64) (.pair (.int .i64) (.int .i64)))))) a0.1 (a1))) < 0 := of_decide_eq_true h2
        refine Vc.seq ?_
        refine Vc.region hG rfl ?_ ?_
        · trivial
        refine Vc.ret ?_
        refine ⟨?_, trivial⟩
        show (-1 : Int) = szF (.pair (.slice (.pair (.int .i64) (.pair (.int .i64) (.pair (.int .i64) (.pair (.int .i64) (.int .i64)))))) (.pair (.slice (.pair (.int .i64) (.pair (.int .i64) (.int .i64)))) (.pair (.slice (.pair (.int .i64) (.pair (.int .i64) (.pair (.int .i64) (.int .i64))))) (.pair (.int .i64) (.int .i64))))) a0 a1
        refine Eq.trans ?_ (szSpine _ _ (show szF (.pair (.slice (.pair (.int .i64) (.pair (.int .i64) (.pair (.int .i64) (.pair (.int .i64) (.int .i64)))))) (.pair (.slice (.pair (.int .i64) (.pair (.int .i64) (.int .i64)))) (.pair (.slice (.pair (.int .i64) (.pair (.int .i64) (.pair (.int .i64) (.int .i64))))) (.pair (.int .i64) (.int .i64))))) a0 a1 = (if szF (.slice (.pair (.int .i64) (.pair (.int .i64) (.pair (.int .i64) (.pair (.int .i64) (.int .i64)))))) a0.1 (a1) < 0 then -1 else (if szF (.slice (.pair (.int .i64) (.pair (.int .i64) (.int .i64)))) a0.2.1 (szF (.slice (.pair (.int .i64) (.pair (.int .i64) (.pair (.int .i64) (.pair (.int .i64) (.int .i64)))))) a0.1 (a1)) < 0 then -1 else (if szF (.slice (.pair (.int .i64) (.pair (.int .i64) (.pair (.int .i64) (.int .i64))))) a0.2.2.1 (szF (.slice (.pair (.int .i64) (.pair (.int .i64) (.int .i64)))) a0.2.1 (szF (.slice (.pair (.int .i64) (.pair (.int .i64) (.pair (.int .i64) (.pair (.int .i64) (.int .i64)))))) a0.1 (a1))) < 0 then -1 else (if szF (.int .i64) a0.2.2.2.1 (szF (.slice (.pair (.int .i64) (.pair (.int .i64) (.pair (.int .i64) (.int .i64))))) a0.2.2.1 (szF (.slice (.pair (.int .i64) (.pair (.int .i64) (.int .i64)))) a0.2.1 (szF (.slice (.pair (.int .i64) (.pair (.int .i64) (.pair (.int .i64) (.pair (.int .i64) (.int .i64)))))) a0.1 (a1)))) < 0 then -1 else szF (.int .i64) a0.2.2.2.2 (szF (.int .i64) a0.2.2.2.1 (szF (.slice (.pair (.int .i64) (.pair (.int .i64) (.pair (.int .i64) (.int .i64))))) a0.2.2.1 (szF (.slice (.pair (.int .i64) (.pair (.int .i64) (.int .i64)))) a0.2.1 (szF (.slice (.pair (.int .i64) (.pair (.int .i64) (.pair (.int .i64) (.pair (.int .i64) (.int .i64)))))) a0.1 (a1))))))))) from rfl))
        rw [if_neg g0]
        rw [if_neg g1]
        rw [if_pos g2]
      · skip
        have m2 := szF_m1 (.slice (.pair (.int .i64) (.pair (.int .i64) (.pair (.int .i64) (.int .i64))))) rfl a0.2.2.1 (szF (.slice (.pair (.int .i64) (.pair (.int .i64) (.int .i64)))) a0.2.1 (szF (.slice (.pair (.int .i64) (.pair (.int .i64) (.pair (.int .i64) (.pair (.int .i64) (.int .i64)))))) a0.1 (a1))) (show (0 : Int) ≤ szF (.slice (.pair (.int .i64) (.pair (.int .i64) (.int .i64)))) a0.2.1 (szF (.slice (.pair (.int .i64) (.pair (.int .i64) (.pair (.int .i64) (.pair (.int .i64) (.int .i64)))))) a0.1 (a1)) from by omega)
        have g2 : ¬ szF (.slice (.pair (.int .i64) (.pair (.int .i64) (.pair (.int .i64) (.int .i64))))) a0.2.2.1 (szF (.slice (.pair (.int .i64) (.pair (.int .i64) (.int .i64)))) a0.2.1 (szF (.slice (.pair (.int .i64) (.pair (.int .i64) (.pair (.int .i64) (.pair (.int .i64) (.int .i64)))))) a0.1 (a1))) < 0 := of_decide_eq_false h2
        have k2 := szF_le (.slice (.pair (.int .i64) (.pair (.int .i64) (.pair (.int .i64) (.int .i64))))) a0.2.2.1 (szF (.slice (.pair (.int .i64) (.pair (.int .i64) (.int .i64)))) a0.2.1 (szF (.slice (.pair (.int .i64) (.pair (.int .i64) (.pair (.int .i64) (.pair (.int .i64) (.int .i64)))))) a0.1 (a1)))
        refine Vc.skip ?_
        refine Vc.seq ?_
        refine Vc.region hG rfl ?_ ?_
        · trivial
        refine Vc.ret ?_
        refine ⟨?_, trivial⟩
        show szF (.slice (.pair (.int .i64) (.pair (.int .i64) (.pair (.int .i64) (.int .i64))))) a0.2.2.1 (szF (.slice (.pair (.int .i64) (.pair (.int .i64) (.int .i64)))) a0.2.1 (szF (.slice (.pair (.int .i64) (.pair (.int .i64) (.pair (.int .i64) (.pair (.int .i64) (.int .i64)))))) a0.1 (a1))) = szF (.pair (.slice (.pair (.int .i64) (.pair (.int .i64) (.pair (.int .i64) (.pair (.int .i64) (.int .i64)))))) (.pair (.slice (.pair (.int .i64) (.pair (.int .i64) (.int .i64)))) (.pair (.slice (.pair (.int .i64) (.pair (.int .i64) (.pair (.int .i64) (.int .i64))))) (.pair (.int .i64) (.int .i64))))) a0 a1
        refine Eq.trans ?_ (szSpine _ _ (show szF (.pair (.slice (.pair (.int .i64) (.pair (.int .i64) (.pair (.int .i64) (.pair (.int .i64) (.int .i64)))))) (.pair (.slice (.pair (.int .i64) (.pair (.int .i64) (.int .i64)))) (.pair (.slice (.pair (.int .i64) (.pair (.int .i64) (.pair (.int .i64) (.int .i64))))) (.pair (.int .i64) (.int .i64))))) a0 a1 = (if szF (.slice (.pair (.int .i64) (.pair (.int .i64) (.pair (.int .i64) (.pair (.int .i64) (.int .i64)))))) a0.1 (a1) < 0 then -1 else (if szF (.slice (.pair (.int .i64) (.pair (.int .i64) (.int .i64)))) a0.2.1 (szF (.slice (.pair (.int .i64) (.pair (.int .i64) (.pair (.int .i64) (.pair (.int .i64) (.int .i64)))))) a0.1 (a1)) < 0 then -1 else (if szF (.slice (.pair (.int .i64) (.pair (.int .i64) (.pair (.int .i64) (.int .i64))))) a0.2.2.1 (szF (.slice (.pair (.int .i64) (.pair (.int .i64) (.int .i64)))) a0.2.1 (szF (.slice (.pair (.int .i64) (.pair (.int .i64) (.pair (.int .i64) (.pair (.int .i64) (.int .i64)))))) a0.1 (a1))) < 0 then -1 else (if szF (.int .i64) a0.2.2.2.1 (szF (.slice (.pair (.int .i64) (.pair (.int .i64) (.pair (.int .i64) (.int .i64))))) a0.2.2.1 (szF (.slice (.pair (.int .i64) (.pair (.int .i64) (.int .i64)))) a0.2.1 (szF (.slice (.pair (.int .i64) (.pair (.int .i64) (.pair (.int .i64) (.pair (.int .i64) (.int .i64)))))) a0.1 (a1)))) < 0 then -1 else szF (.int .i64) a0.2.2.2.2 (szF (.int .i64) a0.2.2.2.1 (szF (.slice (.pair (.int .i64) (.pair (.int .i64) (.pair (.int .i64) (.int .i64))))) a0.2.2.1 (szF (.slice (.pair (.int .i64) (.pair (.int .i64) (.int .i64)))) a0.2.1 (szF (.slice (.pair (.int .i64) (.pair (.int .i64) (.pair (.int .i64) (.pair (.int .i64) (.int .i64)))))) a0.1 (a1))))))))) from rfl))
        rw [if_neg g0]
        rw [if_neg g1]
        rw [if_neg g2]
        rw [szF_id (.int .i64) rfl a0.2.2.2.1 (szF (.slice (.pair (.int .i64) (.pair (.int .i64) (.pair (.int .i64) (.int .i64))))) a0.2.2.1 (szF (.slice (.pair (.int .i64) (.pair (.int .i64) (.int .i64)))) a0.2.1 (szF (.slice (.pair (.int .i64) (.pair (.int .i64) (.pair (.int .i64) (.pair (.int .i64) (.int .i64)))))) a0.1 (a1)))) (show (0 : Int) ≤ szF (.slice (.pair (.int .i64) (.pair (.int .i64) (.pair (.int .i64) (.int .i64))))) a0.2.2.1 (szF (.slice (.pair (.int .i64) (.pair (.int .i64) (.int .i64)))) a0.2.1 (szF (.slice (.pair (.int .i64) (.pair (.int .i64) (.pair (.int .i64) (.pair (.int .i64) (.int .i64)))))) a0.1 (a1))) from by omega)]
        rw [if_neg (show ¬ szF (.slice (.pair (.int .i64) (.pair (.int .i64) (.pair (.int .i64) (.int .i64))))) a0.2.2.1 (szF (.slice (.pair (.int .i64) (.pair (.int .i64) (.int .i64)))) a0.2.1 (szF (.slice (.pair (.int .i64) (.pair (.int .i64) (.pair (.int .i64) (.pair (.int .i64) (.int .i64)))))) a0.1 (a1))) < 0 from by omega)]
        rw [szF_id (.int .i64) rfl a0.2.2.2.2 (szF (.slice (.pair (.int .i64) (.pair (.int .i64) (.pair (.int .i64) (.int .i64))))) a0.2.2.1 (szF (.slice (.pair (.int .i64) (.pair (.int .i64) (.int .i64)))) a0.2.1 (szF (.slice (.pair (.int .i64) (.pair (.int .i64) (.pair (.int .i64) (.pair (.int .i64) (.int .i64)))))) a0.1 (a1)))) (show (0 : Int) ≤ szF (.slice (.pair (.int .i64) (.pair (.int .i64) (.pair (.int .i64) (.int .i64))))) a0.2.2.1 (szF (.slice (.pair (.int .i64) (.pair (.int .i64) (.int .i64)))) a0.2.1 (szF (.slice (.pair (.int .i64) (.pair (.int .i64) (.pair (.int .i64) (.pair (.int .i64) (.int .i64)))))) a0.1 (a1))) from by omega)]
noncomputable def F90 : Fun := ⟨[.pair (.int .i64) (.pair (.int .i64) (.pair (.int .i64) (.pair (.int .i64) (.int .i64))))], [.pure (.pair (.int .i64) (.pair (.int .i64) (.pair (.int .i64) (.pair (.int .i64) (.int .i64)))))], fun _ => True, fun x => (id x.1, ())⟩
set_option maxRecDepth 100000 in
/-- loop.example.g00597.laws.toKey -/
theorem F90_ok : Meets Try.prog 90 F90 := by
  refine meets_of_vc (C := mkC 20 [2] [0,1,2,3] []) (mkC_ok _ _ _ _) (fnOf_ok _) Try.func90 rfl rfl rfl (by decide) rfl ?_
  rintro ⟨a0, _⟩ hwf hpre ⟨P, C, B, X, w0, M0, pv⟩ hG rfl rfl
  show Vc _ _ [(0, ⟨0, 0, .c (.pure (.pair (.int .i64) (.pair (.int .i64) (.pair (.int .i64) (.pair (.int .i64) (.int .i64)))))) a0⟩)] _
  refine Vc.seq ?_
  refine Vc.region hG rfl ?_ ?_
  · trivial
  refine Vc.seq ?_
  refine Vc.region hG rfl ?_ ?_
  · trivial
  refine Vc.seq ?_
  refine Vc.region hG rfl ?_ ?_
  · trivial
  refine Vc.seq ?_
  refine Vc.region hG rfl ?_ ?_
  · trivial
  refine Vc.seq ?_
  refine Vc.region hG rfl ?_ ?_
  · trivial
  refine Vc.seq ?_
  refine Vc.region hG rfl ?_ ?_
  · trivial
  refine Vc.seq ?_
  refine Vc.region hG rfl ?_ ?_
  · trivial
  refine Vc.seq ?_
  refine Vc.region hG rfl ?_ ?_
  · trivial
  refine Vc.ret ?_
  refine ⟨?_, trivial⟩
  all_goals exact rfl
noncomputable def F38 : Fun := ⟨[.slice (.pair (.int .i64) (.pair (.int .i64) (.pair (.int .i64) (.pair (.int .i64) (.int .i64)))))], [.own (.pure (.pair (.int .i64) (.pair (.int .i64) (.pair (.int .i64) (.pair (.int .i64) (.int .i64))))))], fun x => Sm big20 (.slice (.pair (.int .i64) (.pair (.int .i64) (.pair (.int .i64) (.pair (.int .i64) (.int .i64)))))) x.1, fun x => (id x.1, ())⟩
set_option maxRecDepth 100000 in
/-- loop.example.g00597.laws.toKeyS -/
theorem F38_ok : Meets Try.prog 38 F38 := by
  refine meets_of_vc (C := mkC 23 [2] [0,2,3,4,11] [⟨90, _, F90_ok⟩]) (mkC_ok _ _ _ _) (fnOf_ok _) Try.func38 rfl rfl rfl (by decide) rfl ?_
  rintro ⟨a0, _⟩ hwf hpre ⟨P, C, B, X, w0, M0, pv⟩ hG rfl rfl
  show Vc _ _ [(0, ⟨0, 0, .c (.pure (.slice (.pair (.int .i64) (.pair (.int .i64) (.pair (.int .i64) (.pair (.int .i64) (.int .i64))))))) a0⟩)] _
  have hp : _ ∧ _ := hpre
  have hb : List.length a0 ≤ bigLen := hwf.1.1
  refine Vc.seq ?_
  refine Vc.region hG rfl ?_ ?_
  · trivial
  refine Vc.seq ?_
  refine Vc.region hG rfl ?_ ?_
  · exact ⟨rfl, Int.natCast_nonneg _, mkSmall hp.1⟩
  refine Vc.seq ?_
  refine Vc.seq ?_
  refine Vc.region hG rfl ?_ ?_
  · trivial
  refine Vc.block ?_
  -- slots [3, 4]; frame [0, 2]
  refine Vc.loopF [(3, false, .own (.pure (.pair (.int .i64) (.pair (.int .i64) (.pair (.int .i64) (.pair (.int .i64) (.int .i64))))))), (4, false, .pure (.int .i64))] [0, 2] (fun v => toInv a0 (dflt (.pair (.int .i64) (.pair (.int .i64) (.pair (.int .i64) (.pair (.int .i64) (.int .i64)))))) v.1 v.2.1) (fun v => ((List.length a0 : Int) - v.2.1).toNat) rfl ?_ ?_
  · exact toStart
  rintro ⟨ys, (i : Int), _⟩ hI
  have hI : toInv a0 (dflt (.pair (.int .i64) (.pair (.int .i64) (.pair (.int .i64) (.pair (.int .i64) (.int .i64)))))) ys i := hI
  refine Vc.seq ?_
  refine Vc.seq ?_
  refine Vc.region hG rfl ?_ ?_
  · trivial
  refine Vc.cond rfl (fun h0 => ?_) (fun h0 => ?_)
  · skip
    have hl : i < (List.length a0 : Int) := of_decide_eq_true h0
    refine Vc.skip ?_
    refine Vc.seq ?_
    refine Vc.block ?_
    refine Vc.region hG rfl ?_ ?_
    · exact ⟨(toRange hI hl).1, trivial, (toRange hI hl).2⟩
    refine Vc.region hG rfl ?_ ?_
    · trivial
    refine ⟨rfl, ?_⟩
    exact ⟨toStep hI hl hb, toMu hI hl hb⟩
  · skip
    have hl : ¬ i < (List.length a0 : Int) := of_decide_eq_false h0
    refine Vc.exit ?_
    refine Vc.seq ?_
    refine Vc.region hG rfl ?_ ?_
    · trivial
    refine Vc.ret ?_
    refine ⟨?_, trivial⟩
    exact toEnd hI hl
noncomputable def F91 : Fun := ⟨[.pair (.int .i64) (.pair (.int .i64) (.int .i64))], [.pure (.pair (.int .i64) (.pair (.int .i64) (.int .i64)))], fun _ => True, fun x => (id x.1, ())⟩
set_option maxRecDepth 100000 in
/-- loop.example.g00597.laws.toAuthority -/
theorem F91_ok : Meets Try.prog 91 F91 := by
  refine meets_of_vc (C := mkC 14 [2] [0,1,2,3] []) (mkC_ok _ _ _ _) (fnOf_ok _) Try.func91 rfl rfl rfl (by decide) rfl ?_
  rintro ⟨a0, _⟩ hwf hpre ⟨P, C, B, X, w0, M0, pv⟩ hG rfl rfl
  show Vc _ _ [(0, ⟨0, 0, .c (.pure (.pair (.int .i64) (.pair (.int .i64) (.int .i64)))) a0⟩)] _
  refine Vc.seq ?_
  refine Vc.region hG rfl ?_ ?_
  · trivial
  refine Vc.seq ?_
  refine Vc.region hG rfl ?_ ?_
  · trivial
  refine Vc.seq ?_
  refine Vc.region hG rfl ?_ ?_
  · trivial
  refine Vc.seq ?_
  refine Vc.region hG rfl ?_ ?_
  · trivial
  refine Vc.seq ?_
  refine Vc.region hG rfl ?_ ?_
  · trivial
  refine Vc.seq ?_
  refine Vc.region hG rfl ?_ ?_
  · trivial
  refine Vc.ret ?_
  refine ⟨?_, trivial⟩
  all_goals exact rfl
noncomputable def F39 : Fun := ⟨[.slice (.pair (.int .i64) (.pair (.int .i64) (.int .i64)))], [.own (.pure (.pair (.int .i64) (.pair (.int .i64) (.int .i64))))], fun x => Sm big20 (.slice (.pair (.int .i64) (.pair (.int .i64) (.int .i64)))) x.1, fun x => (id x.1, ())⟩
set_option maxRecDepth 100000 in
/-- loop.example.g00597.laws.toAuthorityS -/
theorem F39_ok : Meets Try.prog 39 F39 := by
  refine meets_of_vc (C := mkC 23 [2] [0,2,3,4,11] [⟨91, _, F91_ok⟩]) (mkC_ok _ _ _ _) (fnOf_ok _) Try.func39 rfl rfl rfl (by decide) rfl ?_
  rintro ⟨a0, _⟩ hwf hpre ⟨P, C, B, X, w0, M0, pv⟩ hG rfl rfl
  show Vc _ _ [(0, ⟨0, 0, .c (.pure (.slice (.pair (.int .i64) (.pair (.int .i64) (.int .i64))))) a0⟩)] _
  have hp : _ ∧ _ := hpre
  have hb : List.length a0 ≤ bigLen := hwf.1.1
  refine Vc.seq ?_
  refine Vc.region hG rfl ?_ ?_
  · trivial
  refine Vc.seq ?_
  refine Vc.region hG rfl ?_ ?_
  · exact ⟨rfl, Int.natCast_nonneg _, mkSmall hp.1⟩
  refine Vc.seq ?_
  refine Vc.seq ?_
  refine Vc.region hG rfl ?_ ?_
  · trivial
  refine Vc.block ?_
  -- slots [3, 4]; frame [0, 2]
  refine Vc.loopF [(3, false, .own (.pure (.pair (.int .i64) (.pair (.int .i64) (.int .i64))))), (4, false, .pure (.int .i64))] [0, 2] (fun v => toInv a0 (dflt (.pair (.int .i64) (.pair (.int .i64) (.int .i64)))) v.1 v.2.1) (fun v => ((List.length a0 : Int) - v.2.1).toNat) rfl ?_ ?_
  · exact toStart
  rintro ⟨ys, (i : Int), _⟩ hI
  have hI : toInv a0 (dflt (.pair (.int .i64) (.pair (.int .i64) (.int .i64)))) ys i := hI
  refine Vc.seq ?_
  refine Vc.seq ?_
  refine Vc.region hG rfl ?_ ?_
  · trivial
  refine Vc.cond rfl (fun h0 => ?_) (fun h0 => ?_)
  · skip
    have hl : i < (List.length a0 : Int) := of_decide_eq_true h0
    refine Vc.skip ?_
    refine Vc.seq ?_
    refine Vc.block ?_
    refine Vc.region hG rfl ?_ ?_
    · exact ⟨(toRange hI hl).1, trivial, (toRange hI hl).2⟩
    refine Vc.region hG rfl ?_ ?_
    · trivial
    refine ⟨rfl, ?_⟩
    exact ⟨toStep hI hl hb, toMu hI hl hb⟩
  · skip
    have hl : ¬ i < (List.length a0 : Int) := of_decide_eq_false h0
    refine Vc.exit ?_
    refine Vc.seq ?_
    refine Vc.region hG rfl ?_ ?_
    · trivial
    refine Vc.ret ?_
    refine ⟨?_, trivial⟩
    exact toEnd hI hl
noncomputable def F132 : Fun := ⟨[.pair (.int .i64) (.pair (.int .i64) (.pair (.int .i64) (.int .i64)))], [.pure (.pair (.int .i64) (.pair (.int .i64) (.pair (.int .i64) (.int .i64))))], fun _ => True, fun x => (id x.1, ())⟩
set_option maxRecDepth 100000 in
/-- loop.example.g00597.laws.toMethod -/
theorem F132_ok : Meets Try.prog 132 F132 := by
  refine meets_of_vc (C := mkC 17 [2] [0,1,2,3] []) (mkC_ok _ _ _ _) (fnOf_ok _) Try.func132 rfl rfl rfl (by decide) rfl ?_
  rintro ⟨a0, _⟩ hwf hpre ⟨P, C, B, X, w0, M0, pv⟩ hG rfl rfl
  show Vc _ _ [(0, ⟨0, 0, .c (.pure (.pair (.int .i64) (.pair (.int .i64) (.pair (.int .i64) (.int .i64))))) a0⟩)] _
  refine Vc.seq ?_
  refine Vc.region hG rfl ?_ ?_
  · trivial
  refine Vc.seq ?_
  refine Vc.region hG rfl ?_ ?_
  · trivial
  refine Vc.seq ?_
  refine Vc.region hG rfl ?_ ?_
  · trivial
  refine Vc.seq ?_
  refine Vc.region hG rfl ?_ ?_
  · trivial
  refine Vc.seq ?_
  refine Vc.region hG rfl ?_ ?_
  · trivial
  refine Vc.seq ?_
  refine Vc.region hG rfl ?_ ?_
  · trivial
  refine Vc.seq ?_
  refine Vc.region hG rfl ?_ ?_
  · trivial
  refine Vc.ret ?_
  refine ⟨?_, trivial⟩
  all_goals exact rfl
noncomputable def F83 : Fun := ⟨[.slice (.pair (.int .i64) (.pair (.int .i64) (.pair (.int .i64) (.int .i64))))], [.own (.pure (.pair (.int .i64) (.pair (.int .i64) (.pair (.int .i64) (.int .i64)))))], fun x => Sm big20 (.slice (.pair (.int .i64) (.pair (.int .i64) (.pair (.int .i64) (.int .i64))))) x.1, fun x => (id x.1, ())⟩
set_option maxRecDepth 100000 in
/-- loop.example.g00597.laws.toMethodS -/
theorem F83_ok : Meets Try.prog 83 F83 := by
  refine meets_of_vc (C := mkC 23 [2] [0,2,3,4,11] [⟨132, _, F132_ok⟩]) (mkC_ok _ _ _ _) (fnOf_ok _) Try.func83 rfl rfl rfl (by decide) rfl ?_
  rintro ⟨a0, _⟩ hwf hpre ⟨P, C, B, X, w0, M0, pv⟩ hG rfl rfl
  show Vc _ _ [(0, ⟨0, 0, .c (.pure (.slice (.pair (.int .i64) (.pair (.int .i64) (.pair (.int .i64) (.int .i64)))))) a0⟩)] _
  have hp : _ ∧ _ := hpre
  have hb : List.length a0 ≤ bigLen := hwf.1.1
  refine Vc.seq ?_
  refine Vc.region hG rfl ?_ ?_
  · trivial
  refine Vc.seq ?_
  refine Vc.region hG rfl ?_ ?_
  · exact ⟨rfl, Int.natCast_nonneg _, mkSmall hp.1⟩
  refine Vc.seq ?_
  refine Vc.seq ?_
  refine Vc.region hG rfl ?_ ?_
  · trivial
  refine Vc.block ?_
  -- slots [3, 4]; frame [0, 2]
  refine Vc.loopF [(3, false, .own (.pure (.pair (.int .i64) (.pair (.int .i64) (.pair (.int .i64) (.int .i64)))))), (4, false, .pure (.int .i64))] [0, 2] (fun v => toInv a0 (dflt (.pair (.int .i64) (.pair (.int .i64) (.pair (.int .i64) (.int .i64))))) v.1 v.2.1) (fun v => ((List.length a0 : Int) - v.2.1).toNat) rfl ?_ ?_
  · exact toStart
  rintro ⟨ys, (i : Int), _⟩ hI
  have hI : toInv a0 (dflt (.pair (.int .i64) (.pair (.int .i64) (.pair (.int .i64) (.int .i64))))) ys i := hI
  refine Vc.seq ?_
  refine Vc.seq ?_
  refine Vc.region hG rfl ?_ ?_
  · trivial
  refine Vc.cond rfl (fun h0 => ?_) (fun h0 => ?_)
  · skip
    have hl : i < (List.length a0 : Int) := of_decide_eq_true h0
    refine Vc.skip ?_
    refine Vc.seq ?_
    refine Vc.block ?_
    refine Vc.region hG rfl ?_ ?_
    · exact ⟨(toRange hI hl).1, trivial, (toRange hI hl).2⟩
    refine Vc.region hG rfl ?_ ?_
    · trivial
    refine ⟨rfl, ?_⟩
    exact ⟨toStep hI hl hb, toMu hI hl hb⟩
  · skip
    have hl : ¬ i < (List.length a0 : Int) := of_decide_eq_false h0
    refine Vc.exit ?_
    refine Vc.seq ?_
    refine Vc.region hG rfl ?_ ?_
    · trivial
    refine Vc.ret ?_
    refine ⟨?_, trivial⟩
    exact toEnd hI hl
noncomputable def F28 : Fun := ⟨[.pair (.slice (.pair (.int .i64) (.pair (.int .i64) (.pair (.int .i64) (.pair (.int .i64) (.int .i64)))))) (.pair (.slice (.pair (.int .i64) (.pair (.int .i64) (.int .i64)))) (.pair (.slice (.pair (.int .i64) (.pair (.int .i64) (.pair (.int .i64) (.int .i64))))) (.pair (.int .i64) (.int .i64))))], [.pair (.own (.pure (.pair (.int .i64) (.pair (.int .i64) (.pair (.int .i64) (.pair (.int .i64) (.int .i64))))))) (.pair (.own (.pure (.pair (.int .i64) (.pair (.int .i64) (.int .i64))))) (.pair (.own (.pure (.pair (.int .i64) (.pair (.int .i64) (.pair (.int .i64) (.int .i64)))))) (.pure (.pair (.int .i64) (.int .i64)))))], fun x => Sm big20 (.pair (.slice (.pair (.int .i64) (.pair (.int .i64) (.pair (.int .i64) (.pair (.int .i64) (.int .i64)))))) (.pair (.slice (.pair (.int .i64) (.pair (.int .i64) (.int .i64)))) (.pair (.slice (.pair (.int .i64) (.pair (.int .i64) (.pair (.int .i64) (.int .i64))))) (.pair (.int .i64) (.int .i64))))) x.1, fun x => (id x.1, ())⟩
set_option maxRecDepth 100000 in
/-- loop.example.g00597.laws.toFrame -/
theorem F28_ok : Meets Try.prog 28 F28 := by
  refine meets_of_vc (C := mkC 23 [2] [0,1,2,3] [⟨38, _, F38_ok⟩, ⟨39, _, F39_ok⟩, ⟨83, _, F83_ok⟩]) (mkC_ok _ _ _ _) (fnOf_ok _) Try.func28 rfl rfl rfl (by decide) rfl ?_
  rintro ⟨a0, _⟩ hwf hpre ⟨P, C, B, X, w0, M0, pv⟩ hG rfl rfl
  show Vc _ _ [(0, ⟨0, 0, .c (.pure (.pair (.slice (.pair (.int .i64) (.pair (.int .i64) (.pair (.int .i64) (.pair (.int .i64) (.int .i64)))))) (.pair (.slice (.pair (.int .i64) (.pair (.int .i64) (.int .i64)))) (.pair (.slice (.pair (.int .i64) (.pair (.int .i64) (.pair (.int .i64) (.int .i64))))) (.pair (.int .i64) (.int .i64)))))) a0⟩)] _
  have hp0 : _ ∧ _ := hpre
  have hp1 : _ ∧ _ := hp0.2
  have hp2 : _ ∧ _ := hp1.2
  have hp3 : _ ∧ _ := hp2.2
  refine Vc.seq ?_
  refine Vc.region hG rfl ?_ ?_
  · trivial
  refine Vc.seq ?_
  refine Vc.region hG rfl ?_ ?_
  · trivial
  refine Vc.seq ?_
  refine Vc.region hG rfl ?_ ?_
  · exact hp0.1
  refine Vc.seq ?_
  refine Vc.region hG rfl ?_ ?_
  · exact hp1.1
  refine Vc.seq ?_
  refine Vc.region hG rfl ?_ ?_
  · exact hp2.1
  refine Vc.seq ?_
  refine Vc.region hG rfl ?_ ?_
  · trivial
  refine Vc.seq ?_
  refine Vc.region hG rfl ?_ ?_
  · trivial
  refine Vc.seq ?_
  refine Vc.region hG rfl ?_ ?_
  · trivial
  refine Vc.ret ?_
  refine ⟨?_, trivial⟩
  all_goals exact rfl
noncomputable def F80 : Fun := ⟨[.slice (.pair (.int .i64) (.pair (.int .i64) (.pair (.int .i64) (.pair (.int .i64) (.int .i64))))), .int .i64], [.pure (.int .i64)], fun _ => True, fun x => ((fun a0 a1 => findI (fun x => x.1 == a1) a0) x.1 x.2.1, ())⟩
set_option maxRecDepth 100000 in
/-- loop.example.g00597.spec.FindKey -/
theorem F80_ok : Meets Try.prog 80 F80 := by
  refine meets_of_vc (C := mkC 20 [4] [0,1,4,5,9,18] []) (mkC_ok _ _ _ _) (fnOf_ok _) Try.func80 rfl rfl rfl (by decide) rfl ?_
  rintro ⟨a0, (a1 : Int), _⟩ hwf hpre ⟨P, C, B, X, w0, M0, pv⟩ hG rfl rfl
  show Vc _ _ [(0, ⟨0, 0, .c (.pure (.slice (.pair (.int .i64) (.pair (.int .i64) (.pair (.int .i64) (.pair (.int .i64) (.int .i64))))))) a0⟩), (1, ⟨0, 0, .c (.pure (.int .i64)) a1⟩)] _
  have hb : List.length a0 ≤ bigLen := hwf.1.1
  refine Vc.seq ?_
  refine Vc.region hG rfl ?_ ?_
  · trivial
  refine Vc.seq ?_
  refine Vc.seq ?_
  refine Vc.region hG rfl ?_ ?_
  · trivial
  refine Vc.block ?_
  -- slots [5]; frame [0, 1]
  refine Vc.loopF [(5, false, .pure (.int .i64))] [0, 1] (fun v => fInv (fun x => x.1 == a1) a0 v.1) (fun v => ((List.length a0 : Int) - v.1).toNat) rfl ?_ ?_
  · exact fStart
  rintro ⟨(i : Int), _⟩ hI
  have hI : fInv (fun x => x.1 == a1) a0 i := hI
  refine Vc.seq ?_
  refine Vc.seq ?_
  refine Vc.region hG rfl ?_ ?_
  · trivial
  refine Vc.cond rfl (fun h0 => ?_) (fun h0 => ?_)
  · skip
    have hl : i < (List.length a0 : Int) := of_decide_eq_true h0
    refine Vc.skip ?_
    refine Vc.seq ?_
    refine Vc.block ?_
    refine Vc.seq ?_
    refine Vc.region hG rfl ?_ ?_
    · exact fRange hI hl
    refine Vc.cond rfl (fun h1 => ?_) (fun h1 => ?_)
    · skip
      have g1 : (fun x => x.1 == a1) (List.getD a0 i.toNat (dflt (.pair (.int .i64) (.pair (.int .i64) (.pair (.int .i64) (.pair (.int .i64) (.int .i64))))))) = true := h1
      refine Vc.seq ?_
      refine Vc.region hG rfl ?_ ?_
      · trivial
      refine Vc.ret ?_
      refine ⟨?_, trivial⟩
      exact fHit hI hl g1
    · skip
      have g1 : (fun x => x.1 == a1) (List.getD a0 i.toNat (dflt (.pair (.int .i64) (.pair (.int .i64) (.pair (.int .i64) (.pair (.int .i64) (.int .i64))))))) = false := h1
      refine Vc.skip ?_
      refine Vc.region hG rfl ?_ ?_
      · trivial
      refine ⟨rfl, ?_⟩
      exact fStep hI hl hb g1
  · skip
    have hl : ¬ i < (List.length a0 : Int) := of_decide_eq_false h0
    refine Vc.exit ?_
    refine Vc.seq ?_
    refine Vc.region hG rfl ?_ ?_
    · trivial
    refine Vc.ret ?_
    refine ⟨?_, trivial⟩
    exact fEnd hI hl
noncomputable def F131 : Fun := ⟨[.slice (.pair (.int .i64) (.pair (.int .i64) (.pair (.int .i64) (.int .i64)))), .int .i64], [.pure (.int .i64)], fun _ => True, fun x => ((fun a0 a1 => findI (fun x => x.1 == a1) a0) x.1 x.2.1, ())⟩
set_option maxRecDepth 100000 in
/-- loop.example.g00597.spec.FindMethod -/
theorem F131_ok : Meets Try.prog 131 F131 := by
  refine meets_of_vc (C := mkC 20 [4] [0,1,4,5,9,18] []) (mkC_ok _ _ _ _) (fnOf_ok _) Try.func131 rfl rfl rfl (by decide) rfl ?_
  rintro ⟨a0, (a1 : Int), _⟩ hwf hpre ⟨P, C, B, X, w0, M0, pv⟩ hG rfl rfl
  show Vc _ _ [(0, ⟨0, 0, .c (.pure (.slice (.pair (.int .i64) (.pair (.int .i64) (.pair (.int .i64) (.int .i64)))))) a0⟩), (1, ⟨0, 0, .c (.pure (.int .i64)) a1⟩)] _
  have hb : List.length a0 ≤ bigLen := hwf.1.1
  refine Vc.seq ?_
  refine Vc.region hG rfl ?_ ?_
  · trivial
  refine Vc.seq ?_
  refine Vc.seq ?_
  refine Vc.region hG rfl ?_ ?_
  · trivial
  refine Vc.block ?_
  -- slots [5]; frame [0, 1]
  refine Vc.loopF [(5, false, .pure (.int .i64))] [0, 1] (fun v => fInv (fun x => x.1 == a1) a0 v.1) (fun v => ((List.length a0 : Int) - v.1).toNat) rfl ?_ ?_
  · exact fStart
  rintro ⟨(i : Int), _⟩ hI
  have hI : fInv (fun x => x.1 == a1) a0 i := hI
  refine Vc.seq ?_
  refine Vc.seq ?_
  refine Vc.region hG rfl ?_ ?_
  · trivial
  refine Vc.cond rfl (fun h0 => ?_) (fun h0 => ?_)
  · skip
    have hl : i < (List.length a0 : Int) := of_decide_eq_true h0
    refine Vc.skip ?_
    refine Vc.seq ?_
    refine Vc.block ?_
    refine Vc.seq ?_
    refine Vc.region hG rfl ?_ ?_
    · exact fRange hI hl
    refine Vc.cond rfl (fun h1 => ?_) (fun h1 => ?_)
    · skip
      have g1 : (fun x => x.1 == a1) (List.getD a0 i.toNat (dflt (.pair (.int .i64) (.pair (.int .i64) (.pair (.int .i64) (.int .i64)))))) = true := h1
      refine Vc.seq ?_
      refine Vc.region hG rfl ?_ ?_
      · trivial
      refine Vc.ret ?_
      refine ⟨?_, trivial⟩
      exact fHit hI hl g1
    · skip
      have g1 : (fun x => x.1 == a1) (List.getD a0 i.toNat (dflt (.pair (.int .i64) (.pair (.int .i64) (.pair (.int .i64) (.int .i64)))))) = false := h1
      refine Vc.skip ?_
      refine Vc.region hG rfl ?_ ?_
      · trivial
      refine ⟨rfl, ?_⟩
      exact fStep hI hl hb g1
  · skip
    have hl : ¬ i < (List.length a0 : Int) := of_decide_eq_false h0
    refine Vc.exit ?_
    refine Vc.seq ?_
    refine Vc.region hG rfl ?_ ?_
    · trivial
    refine Vc.ret ?_
    refine ⟨?_, trivial⟩
    exact fEnd hI hl
noncomputable def F81 : Fun := ⟨[.slice (.pair (.int .i64) (.pair (.int .i64) (.pair (.int .i64) (.int .i64)))), .int .i64, .int .i64], [.pure (.bool)], fun _ => True, fun x => (aliveF x.1 x.2.1 x.2.2.1, ())⟩
set_option maxRecDepth 100000 in
/-- loop.example.g00597.spec.IsAlive -/
theorem F81_ok : Meets Try.prog 81 F81 := by
  refine meets_of_vc (C := mkC 31 [6] [0,1,2,6,7] [⟨131, _, F131_ok⟩]) (mkC_ok _ _ _ _) (fnOf_ok _) Try.func81 rfl rfl rfl (by decide) rfl ?_
  rintro ⟨a0, (a1 : Int), (a2 : Int), _⟩ hwf hpre ⟨P, C, B, X, w0, M0, pv⟩ hG rfl rfl
  show Vc _ _ [(0, ⟨0, 0, .c (.pure (.slice (.pair (.int .i64) (.pair (.int .i64) (.pair (.int .i64) (.int .i64)))))) a0⟩), (1, ⟨0, 0, .c (.pure (.int .i64)) a1⟩), (2, ⟨0, 0, .c (.pure (.int .i64)) a2⟩)] _
  refine Vc.seq ?_
  refine Vc.region hG rfl ?_ ?_
  · trivial
  refine Vc.seq ?_
  refine Vc.region hG rfl ?_ ?_
  · trivial
  refine Vc.seq ?_
  refine Vc.region hG rfl ?_ ?_
  · exact ⟨fun h => findRange (geNot h), fun h => findRange (geNot (andT h).1)⟩
  refine Vc.ret ?_
  refine ⟨?_, trivial⟩
  all_goals exact rfl
noncomputable def F82 : Fun := ⟨[.slice (.pair (.int .i64) (.pair (.int .i64) (.pair (.int .i64) (.int .i64)))), .int .i64], [.pure (.int .i64)], fun _ => True, fun x => (mEnds x.1 x.2.1, ())⟩
set_option maxRecDepth 100000 in
/-- loop.example.g00597.spec.l32Ends -/
theorem F82_ok : Meets Try.prog 82 F82 := by
  refine meets_of_vc (C := mkC 16 [4] [0,1,4,5,10] [⟨131, _, F131_ok⟩]) (mkC_ok _ _ _ _) (fnOf_ok _) Try.func82 rfl rfl rfl (by decide) rfl ?_
  rintro ⟨a0, (a1 : Int), _⟩ hwf hpre ⟨P, C, B, X, w0, M0, pv⟩ hG rfl rfl
  show Vc _ _ [(0, ⟨0, 0, .c (.pure (.slice (.pair (.int .i64) (.pair (.int .i64) (.pair (.int .i64) (.int .i64)))))) a0⟩), (1, ⟨0, 0, .c (.pure (.int .i64)) a1⟩)] _
  refine Vc.seq ?_
  refine Vc.region hG rfl ?_ ?_
  · trivial
  refine Vc.seq ?_
  refine Vc.region hG rfl ?_ ?_
  · trivial
  refine Vc.seq ?_
  refine Vc.seq ?_
  refine Vc.region hG rfl ?_ ?_
  · trivial
  refine Vc.cond rfl (fun h0 => ?_) (fun h0 => ?_)
  · skip
    have g0 : methI a0 a1 < 0 := of_decide_eq_true h0
    refine Vc.seq ?_
    refine Vc.region hG rfl ?_ ?_
    · trivial
    refine Vc.ret ?_
    refine ⟨?_, trivial⟩
    exact mEnds0 g0
  · skip
    have g0 : ¬ methI a0 a1 < 0 := of_decide_eq_false h0
    refine Vc.skip ?_
    refine Vc.seq ?_
    refine Vc.region hG rfl ?_ ?_
    · exact findRange g0
    refine Vc.ret ?_
    refine ⟨?_, trivial⟩
    exact mEnds1 g0
noncomputable def F27 : Fun := ⟨[.pair (.slice (.pair (.int .i64) (.pair (.int .i64) (.pair (.int .i64) (.pair (.int .i64) (.int .i64)))))) (.pair (.slice (.pair (.int .i64) (.pair (.int .i64) (.int .i64)))) (.pair (.slice (.pair (.int .i64) (.pair (.int .i64) (.pair (.int .i64) (.int .i64))))) (.pair (.int .i64) (.int .i64))))], [.own (.pure (.int .i64))], fun x => (fun (f : Frame) => List.length f.2.1 ≤ 1048576) x.1, fun x => (planF x.1, ())⟩
set_option maxRecDepth 100000 in
/-- loop.example.g00597.spec.PlanAuthorities -/
theorem F27_ok : Meets Try.prog 27 F27 := by
  refine meets_of_vc (C := mkC 73 [2] [0,1,2,3,4,5,11,62] [⟨80, _, F80_ok⟩, ⟨81, _, F81_ok⟩, ⟨82, _, F82_ok⟩]) (mkC_ok _ _ _ _) (fnOf_ok _) Try.func27 rfl rfl rfl (by decide) rfl ?_
  rintro ⟨a0, _⟩ hwf hpre ⟨P, C, B, X, w0, M0, pv⟩ hG rfl rfl
  show Vc _ _ [(0, ⟨0, 0, .c (.pure (.pair (.slice (.pair (.int .i64) (.pair (.int .i64) (.pair (.int .i64) (.pair (.int .i64) (.int .i64)))))) (.pair (.slice (.pair (.int .i64) (.pair (.int .i64) (.int .i64)))) (.pair (.slice (.pair (.int .i64) (.pair (.int .i64) (.pair (.int .i64) (.int .i64))))) (.pair (.int .i64) (.int .i64)))))) a0⟩)] _
  have hb : List.length a0.2.1 ≤ bigLen := hwf.1.2.1.1
  have hs : List.length a0.2.1 ≤ 1048576 := hpre
  refine Vc.seq ?_
  refine Vc.region hG rfl ?_ ?_
  · trivial
  refine Vc.seq ?_
  refine Vc.region hG rfl ?_ ?_
  · trivial
  refine Vc.seq ?_
  refine Vc.seq ?_
  refine Vc.region hG rfl ?_ ?_
  · trivial
  refine Vc.block ?_
  -- slots [3, 4]; frame [0, 1, 2]
  refine Vc.loopF [(3, false, .own (.pure (.int .i64))), (4, false, .pure (.int .i64))] [0, 1, 2] (fun v => pkInv (paF a0) a0.2.1 v.1 v.2.1) (fun v => ((List.length a0.2.1 : Int) - v.2.1).toNat) rfl ?_ ?_
  · exact pkStart
  rintro ⟨acc, (i : Int), _⟩ hI
  have hI : pkInv (paF a0) a0.2.1 acc i := hI
  refine Vc.seq ?_
  refine Vc.seq ?_
  refine Vc.region hG rfl ?_ ?_
  · trivial
  refine Vc.cond rfl (fun h0 => ?_) (fun h0 => ?_)
  · skip
    have hl : i < (List.length a0.2.1 : Int) := of_decide_eq_true h0
    refine Vc.skip ?_
    refine Vc.seq ?_
    refine Vc.block ?_
    refine Vc.seq ?_
    refine Vc.regionD mixed hG rfl (by kernel_rfl) ?_ ?_
    · exact ⟨pkRange hI hl, trivial⟩
    refine Vc.seq ?_
    refine Vc.regionD mixed hG rfl (by kernel_rfl) ?_ ?_
    · exact ⟨fun h => findRange (geNot h), fun h => findRange (geNot (andT h).1), fun _ => trivial, fun h => findRange (geNot (andT (andT h).1).1), fun _ => trivial⟩
    refine Vc.cond rfl (fun h1 => ?_) (fun h1 => ?_)
    · skip
      have g1 : (paF a0 (List.getD a0.2.1 i.toNat (dflt (.pair (.int .i64) (.pair (.int .i64) (.int .i64)))))).2 = true := h1
      refine Vc.region hG rfl ?_ ?_
      · exact ⟨pkRange hI hl, pkLen hI hs⟩
      refine Vc.region hG rfl ?_ ?_
      · trivial
      refine ⟨rfl, ?_⟩
      first
        | exact pkYes (d := dflt (.pair (.int .i64) (.pair (.int .i64) (.int .i64)))) hI hl hb g1
        | exact pkNo (d := dflt (.pair (.int .i64) (.pair (.int .i64) (.int .i64)))) hI hl hb g1
    · skip
      have g1 : (paF a0 (List.getD a0.2.1 i.toNat (dflt (.pair (.int .i64) (.pair (.int .i64) (.int .i64)))))).2 = false := h1
      refine Vc.skip ?_
      refine Vc.region hG rfl ?_ ?_
      · trivial
      refine ⟨rfl, ?_⟩
      first
        | exact pkYes (d := dflt (.pair (.int .i64) (.pair (.int .i64) (.int .i64)))) hI hl hb g1
        | exact pkNo (d := dflt (.pair (.int .i64) (.pair (.int .i64) (.int .i64)))) hI hl hb g1
  · skip
    have hl : ¬ i < (List.length a0.2.1 : Int) := of_decide_eq_false h0
    refine Vc.exit ?_
    refine Vc.seq ?_
    refine Vc.region hG rfl ?_ ?_
    · trivial
    refine Vc.ret ?_
    refine ⟨?_, trivial⟩
    exact pkEnd hI hl
noncomputable def F84 : Fun := ⟨[.slice (.pair (.int .i64) (.pair (.int .i64) (.pair (.int .i64) (.pair (.int .i64) (.int .i64))))), .int .i64], [.pure (.int .i64)], fun _ => True, fun x => ((fun a0 a1 => findI (fun x => x.1 == a1) a0) x.1 x.2.1, ())⟩
set_option maxRecDepth 100000 in
/-- loop.example.g00597.impl.FindKey -/
theorem F84_ok : Meets Try.prog 84 F84 := by
  refine meets_of_vc (C := mkC 20 [4] [0,1,4,5,6,7,8,9,10,17] []) (mkC_ok _ _ _ _) (fnOf_ok _) Try.func84 rfl rfl rfl (by decide) rfl ?_
  rintro ⟨a0, (a1 : Int), _⟩ hwf hpre ⟨P, C, B, X, w0, M0, pv⟩ hG rfl rfl
  show Vc _ _ [(0, ⟨0, 0, .c (.pure (.slice (.pair (.int .i64) (.pair (.int .i64) (.pair (.int .i64) (.pair (.int .i64) (.int .i64))))))) a0⟩), (1, ⟨0, 0, .c (.pure (.int .i64)) a1⟩)] _
  have hb : List.length a0 ≤ bigLen := hwf.1.1
  refine Vc.seq ?_
  refine Vc.region hG rfl ?_ ?_
  · trivial
  refine Vc.seq ?_
  refine Vc.seq ?_
  refine Vc.region hG rfl ?_ ?_
  · trivial
  refine Vc.block ?_
  -- slots [9]; frame [0, 1, 7, 8]
  refine Vc.loopF [(9, false, .pure (.int .i64))] [0, 1, 7, 8] (fun v => fInv (fun x => x.1 == a1) a0 v.1) (fun v => ((List.length a0 : Int) - v.1).toNat) rfl ?_ ?_
  · exact fStart
  rintro ⟨(i : Int), _⟩ hI
  have hI : fInv (fun x => x.1 == a1) a0 i := hI
  refine Vc.seq ?_
  refine Vc.region hG rfl ?_ ?_
  · trivial
  refine Vc.seq ?_
  refine Vc.cond rfl (fun h0 => ?_) (fun h0 => ?_)
  · skip
    have hl : i < (List.length a0 : Int) := of_decide_eq_true h0
    refine Vc.skip ?_
    refine Vc.seq ?_
    refine Vc.block ?_
    refine Vc.seq ?_
    refine Vc.region hG rfl ?_ ?_
    · exact fRange hI hl
    refine Vc.seq ?_
    refine Vc.region hG rfl ?_ ?_
    · trivial
    refine Vc.cond rfl (fun h1 => ?_) (fun h1 => ?_)
    · skip
      have g1 : (fun x => x.1 == a1) (List.getD a0 i.toNat (dflt (.pair (.int .i64) (.pair (.int .i64) (.pair (.int .i64) (.pair (.int .i64) (.int .i64))))))) = true := h1
      refine Vc.seq ?_
      refine Vc.region hG rfl ?_ ?_
      · trivial
      refine Vc.ret ?_
      refine ⟨?_, trivial⟩
      exact fHit hI hl g1
    · skip
      have g1 : (fun x => x.1 == a1) (List.getD a0 i.toNat (dflt (.pair (.int .i64) (.pair (.int .i64) (.pair (.int .i64) (.pair (.int .i64) (.int .i64))))))) = false := h1
      refine Vc.skip ?_
      refine Vc.region hG rfl ?_ ?_
      · trivial
      refine ⟨rfl, ?_⟩
      exact fStep hI hl hb g1
  · skip
    have hl : ¬ i < (List.length a0 : Int) := of_decide_eq_false h0
    refine Vc.exit ?_
    refine Vc.seq ?_
    refine Vc.region hG rfl ?_ ?_
    · trivial
    refine Vc.ret ?_
    refine ⟨?_, trivial⟩
    exact fEnd hI hl
noncomputable def F133 : Fun := ⟨[.slice (.pair (.int .i64) (.pair (.int .i64) (.pair (.int .i64) (.int .i64)))), .int .i64], [.pure (.int .i64)], fun _ => True, fun x => ((fun a0 a1 => findI (fun x => x.1 == a1) a0) x.1 x.2.1, ())⟩
set_option maxRecDepth 100000 in
/-- loop.example.g00597.impl.FindMethod -/
theorem F133_ok : Meets Try.prog 133 F133 := by
  refine meets_of_vc (C := mkC 20 [4] [0,1,4,5,6,7,8,9,10,17] []) (mkC_ok _ _ _ _) (fnOf_ok _) Try.func133 rfl rfl rfl (by decide) rfl ?_
  rintro ⟨a0, (a1 : Int), _⟩ hwf hpre ⟨P, C, B, X, w0, M0, pv⟩ hG rfl rfl
  show Vc _ _ [(0, ⟨0, 0, .c (.pure (.slice (.pair (.int .i64) (.pair (.int .i64) (.pair (.int .i64) (.int .i64)))))) a0⟩), (1, ⟨0, 0, .c (.pure (.int .i64)) a1⟩)] _
  have hb : List.length a0 ≤ bigLen := hwf.1.1
  refine Vc.seq ?_
  refine Vc.region hG rfl ?_ ?_
  · trivial
  refine Vc.seq ?_
  refine Vc.seq ?_
  refine Vc.region hG rfl ?_ ?_
  · trivial
  refine Vc.block ?_
  -- slots [9]; frame [0, 1, 7, 8]
  refine Vc.loopF [(9, false, .pure (.int .i64))] [0, 1, 7, 8] (fun v => fInv (fun x => x.1 == a1) a0 v.1) (fun v => ((List.length a0 : Int) - v.1).toNat) rfl ?_ ?_
  · exact fStart
  rintro ⟨(i : Int), _⟩ hI
  have hI : fInv (fun x => x.1 == a1) a0 i := hI
  refine Vc.seq ?_
  refine Vc.region hG rfl ?_ ?_
  · trivial
  refine Vc.seq ?_
  refine Vc.cond rfl (fun h0 => ?_) (fun h0 => ?_)
  · skip
    have hl : i < (List.length a0 : Int) := of_decide_eq_true h0
    refine Vc.skip ?_
    refine Vc.seq ?_
    refine Vc.block ?_
    refine Vc.seq ?_
    refine Vc.region hG rfl ?_ ?_
    · exact fRange hI hl
    refine Vc.seq ?_
    refine Vc.region hG rfl ?_ ?_
    · trivial
    refine Vc.cond rfl (fun h1 => ?_) (fun h1 => ?_)
    · skip
      have g1 : (fun x => x.1 == a1) (List.getD a0 i.toNat (dflt (.pair (.int .i64) (.pair (.int .i64) (.pair (.int .i64) (.int .i64)))))) = true := h1
      refine Vc.seq ?_
      refine Vc.region hG rfl ?_ ?_
      · trivial
      refine Vc.ret ?_
      refine ⟨?_, trivial⟩
      exact fHit hI hl g1
    · skip
      have g1 : (fun x => x.1 == a1) (List.getD a0 i.toNat (dflt (.pair (.int .i64) (.pair (.int .i64) (.pair (.int .i64) (.int .i64)))))) = false := h1
      refine Vc.skip ?_
      refine Vc.region hG rfl ?_ ?_
      · trivial
      refine ⟨rfl, ?_⟩
      exact fStep hI hl hb g1
  · skip
    have hl : ¬ i < (List.length a0 : Int) := of_decide_eq_false h0
    refine Vc.exit ?_
    refine Vc.seq ?_
    refine Vc.region hG rfl ?_ ?_
    · trivial
    refine Vc.ret ?_
    refine ⟨?_, trivial⟩
    exact fEnd hI hl
noncomputable def F85 : Fun := ⟨[.slice (.pair (.int .i64) (.pair (.int .i64) (.pair (.int .i64) (.int .i64)))), .int .i64, .int .i64], [.pure (.bool)], fun _ => True, fun x => (aliveF x.1 x.2.1 x.2.2.1, ())⟩
set_option maxRecDepth 100000 in
/-- loop.example.g00597.impl.IsAlive -/
theorem F85_ok : Meets Try.prog 85 F85 := by
  refine meets_of_vc (C := mkC 31 [6] [0,1,2,6,7] [⟨133, _, F133_ok⟩]) (mkC_ok _ _ _ _) (fnOf_ok _) Try.func85 rfl rfl rfl (by decide) rfl ?_
  rintro ⟨a0, (a1 : Int), (a2 : Int), _⟩ hwf hpre ⟨P, C, B, X, w0, M0, pv⟩ hG rfl rfl
  show Vc _ _ [(0, ⟨0, 0, .c (.pure (.slice (.pair (.int .i64) (.pair (.int .i64) (.pair (.int .i64) (.int .i64)))))) a0⟩), (1, ⟨0, 0, .c (.pure (.int .i64)) a1⟩), (2, ⟨0, 0, .c (.pure (.int .i64)) a2⟩)] _
  refine Vc.seq ?_
  refine Vc.region hG rfl ?_ ?_
  · trivial
  refine Vc.seq ?_
  refine Vc.region hG rfl ?_ ?_
  · trivial
  refine Vc.seq ?_
  refine Vc.region hG rfl ?_ ?_
  · exact ⟨fun h => findRange (geNot h), fun h => findRange (geNot (andT h).1)⟩
  refine Vc.ret ?_
  refine ⟨?_, trivial⟩
  all_goals exact rfl
noncomputable def F86 : Fun := ⟨[.pair (.slice (.pair (.int .i64) (.pair (.int .i64) (.pair (.int .i64) (.pair (.int .i64) (.int .i64)))))) (.pair (.slice (.pair (.int .i64) (.pair (.int .i64) (.int .i64)))) (.pair (.slice (.pair (.int .i64) (.pair (.int .i64) (.pair (.int .i64) (.int .i64))))) (.pair (.int .i64) (.int .i64)))), .int .i64], [.pure (.int .i64)], fun _ => True, fun x => ((fun a0 a1 => mEnds a0.2.2.1 a1) x.1 x.2.1, ())⟩
set_option maxRecDepth 100000 in
/-- loop.example.g00597.impl.endOf -/
theorem F86_ok : Meets Try.prog 86 F86 := by
  refine meets_of_vc (C := mkC 18 [4] [0,1,2,4,5,11] [⟨133, _, F133_ok⟩]) (mkC_ok _ _ _ _) (fnOf_ok _) Try.func86 rfl rfl rfl (by decide) rfl ?_
  rintro ⟨a0, (a1 : Int), _⟩ hwf hpre ⟨P, C, B, X, w0, M0, pv⟩ hG rfl rfl
  show Vc _ _ [(0, ⟨0, 0, .c (.pure (.pair (.slice (.pair (.int .i64) (.pair (.int .i64) (.pair (.int .i64) (.pair (.int .i64) (.int .i64)))))) (.pair (.slice (.pair (.int .i64) (.pair (.int .i64) (.int .i64)))) (.pair (.slice (.pair (.int .i64) (.pair (.int .i64) (.pair (.int .i64) (.int .i64))))) (.pair (.int .i64) (.int .i64)))))) a0⟩), (1, ⟨0, 0, .c (.pure (.int .i64)) a1⟩)] _
  refine Vc.seq ?_
  refine Vc.region hG rfl ?_ ?_
  · trivial
  refine Vc.seq ?_
  refine Vc.seq ?_
  refine Vc.region hG rfl ?_ ?_
  · trivial
  refine Vc.seq ?_
  refine Vc.region hG rfl ?_ ?_
  · trivial
  refine Vc.cond rfl (fun h0 => ?_) (fun h0 => ?_)
  · skip
    have g0 : ¬ methI a0.2.2.1 a1 < 0 := Int.not_lt.2 (of_decide_eq_true h0)
    refine Vc.seq ?_
    refine Vc.region hG rfl ?_ ?_
    · exact findRange g0
    refine Vc.ret ?_
    refine ⟨?_, trivial⟩
    exact mEnds1 g0
  · skip
    have g0 : methI a0.2.2.1 a1 < 0 := Int.not_le.1 (of_decide_eq_false h0)
    refine Vc.skip ?_
    refine Vc.seq ?_
    refine Vc.region hG rfl ?_ ?_
    · trivial
    refine Vc.ret ?_
    refine ⟨?_, trivial⟩
    exact mEnds0 g0
noncomputable def F29 : Fun := ⟨[.pair (.slice (.pair (.int .i64) (.pair (.int .i64) (.pair (.int .i64) (.pair (.int .i64) (.int .i64)))))) (.pair (.slice (.pair (.int .i64) (.pair (.int .i64) (.int .i64)))) (.pair (.slice (.pair (.int .i64) (.pair (.int .i64) (.pair (.int .i64) (.int .i64))))) (.pair (.int .i64) (.int .i64))))], [.own (.pure (.int .i64))], fun x => (fun (f : Frame) => List.length f.2.1 ≤ 1048576) x.1, fun x => (planF x.1, ())⟩
set_option maxRecDepth 100000 in
/-- loop.example.g00597.impl.PlanAuthorities -/
theorem F29_ok : Meets Try.prog 29 F29 := by
  refine meets_of_vc (C := mkC 57 [2] [0,1,2,3,5,6,7,9,10,11,12,21,49] [⟨84, _, F84_ok⟩, ⟨85, _, F85_ok⟩, ⟨86, _, F86_ok⟩]) (mkC_ok _ _ _ _) (fnOf_ok _) Try.func29 rfl rfl rfl (by decide) rfl ?_
  rintro ⟨a0, _⟩ hwf hpre ⟨P, C, B, X, w0, M0, pv⟩ hG rfl rfl
  show Vc _ _ [(0, ⟨0, 0, .c (.pure (.pair (.slice (.pair (.int .i64) (.pair (.int .i64) (.pair (.int .i64) (.pair (.int .i64) (.int .i64)))))) (.pair (.slice (.pair (.int .i64) (.pair (.int .i64) (.int .i64)))) (.pair (.slice (.pair (.int .i64) (.pair (.int .i64) (.pair (.int .i64) (.int .i64))))) (.pair (.int .i64) (.int .i64)))))) a0⟩)] _
  have hb : List.length a0.2.1 ≤ bigLen := hwf.1.2.1.1
  have hs : List.length a0.2.1 ≤ 1048576 := hpre
  refine Vc.seq ?_
  refine Vc.region hG rfl ?_ ?_
  · trivial
  refine Vc.seq ?_
  refine Vc.region hG rfl ?_ ?_
  · trivial
  refine Vc.seq ?_
  refine Vc.seq ?_
  refine Vc.region hG rfl ?_ ?_
  · trivial
  refine Vc.block ?_
  -- slots [3, 11]; frame [0, 1, 2, 9, 10]
  refine Vc.loopF [(3, false, .own (.pure (.int .i64))), (11, false, .pure (.int .i64))] [0, 1, 2, 9, 10] (fun v => pkInv (paF a0) a0.2.1 v.1 v.2.1) (fun v => ((List.length a0.2.1 : Int) - v.2.1).toNat) rfl ?_ ?_
  · exact pkStart
  rintro ⟨acc, (i : Int), _⟩ hI
  have hI : pkInv (paF a0) a0.2.1 acc i := hI
  refine Vc.seq ?_
  refine Vc.region hG rfl ?_ ?_
  · trivial
  refine Vc.seq ?_
  refine Vc.cond rfl (fun h0 => ?_) (fun h0 => ?_)
  · skip
    have hl : i < (List.length a0.2.1 : Int) := of_decide_eq_true h0
    refine Vc.skip ?_
    refine Vc.seq ?_
    refine Vc.block ?_
    refine Vc.seq ?_
    refine Vc.region hG rfl ?_ ?_
    · exact pkRange hI hl
    refine Vc.seq ?_
    refine Vc.region hG rfl ?_ ?_
    · trivial
    refine Vc.seq ?_
    refine Vc.seq ?_
    refine Vc.region hG rfl ?_ ?_
    · trivial
    refine Vc.cond rfl (fun h1 => ?_) (fun h1 => ?_)
    · skip
      have g1 : (paF a0 (List.getD a0.2.1 i.toNat (dflt (.pair (.int .i64) (.pair (.int .i64) (.int .i64)))))).2 = false := paNo (of_decide_eq_true h1)
      refine Vc.exit ?_
      refine Vc.region hG rfl ?_ ?_
      · trivial
      refine ⟨rfl, ?_⟩
      first
        | exact pkYes (d := dflt (.pair (.int .i64) (.pair (.int .i64) (.int .i64)))) hI hl hb g1
        | exact pkNo (d := dflt (.pair (.int .i64) (.pair (.int .i64) (.int .i64)))) hI hl hb g1
    · skip
      have n1 : ¬ keyI a0.1 (List.getD a0.2.1 i.toNat (dflt (.pair (.int .i64) (.pair (.int .i64) (.int .i64))))).2.1 < 0 := of_decide_eq_false h1
      refine Vc.skip ?_
      refine Vc.seq ?_
      refine Vc.region hG rfl ?_ ?_
      · exact findRange n1
      refine Vc.seq ?_
      refine Vc.regionD mixed hG rfl (by kernel_rfl) ?_ ?_
      · exact ⟨fun _ => trivial, fun _ => trivial⟩
      refine Vc.cond rfl (fun h2 => ?_) (fun h2 => ?_)
      · skip
        have g1 : (paF a0 (List.getD a0.2.1 i.toNat (dflt (.pair (.int .i64) (.pair (.int .i64) (.int .i64)))))).2 = true := (paRest n1).trans h2
        refine Vc.region hG rfl ?_ ?_
        · exact pkLen hI hs
        refine Vc.region hG rfl ?_ ?_
        · trivial
        refine ⟨rfl, ?_⟩
        first
          | exact pkYes (d := dflt (.pair (.int .i64) (.pair (.int .i64) (.int .i64)))) hI hl hb g1
          | exact pkNo (d := dflt (.pair (.int .i64) (.pair (.int .i64) (.int .i64)))) hI hl hb g1
      · skip
        have g1 : (paF a0 (List.getD a0.2.1 i.toNat (dflt (.pair (.int .i64) (.pair (.int .i64) (.int .i64)))))).2 = false := (paRest n1).trans h2
        refine Vc.skip ?_
        refine Vc.region hG rfl ?_ ?_
        · trivial
        refine ⟨rfl, ?_⟩
        first
          | exact pkYes (d := dflt (.pair (.int .i64) (.pair (.int .i64) (.int .i64)))) hI hl hb g1
          | exact pkNo (d := dflt (.pair (.int .i64) (.pair (.int .i64) (.int .i64)))) hI hl hb g1
  · skip
    have hl : ¬ i < (List.length a0.2.1 : Int) := of_decide_eq_false h0
    refine Vc.exit ?_
    refine Vc.seq ?_
    refine Vc.region hG rfl ?_ ?_
    · trivial
    refine Vc.ret ?_
    refine ⟨?_, trivial⟩
    exact pkEnd hI hl
noncomputable def F30 : Fun := ⟨[.slice (.int .i64), .slice (.int .i64)], [.pure (.bool)], fun _ => True, fun x => (eqC x.1 x.2.1, ())⟩
set_option maxRecDepth 100000 in
/-- loop.example.g00597.laws.eqIntS -/
theorem F30_ok : Meets Try.prog 30 F30 := by
  refine meets_of_vc (C := mkC 26 [4] [0,1,4,5,10,14,25] []) (mkC_ok _ _ _ _) (fnOf_ok _) Try.func30 rfl rfl rfl (by decide) rfl ?_
  rintro ⟨a0, a1, _⟩ hwf hpre ⟨P, C, B, X, w0, M0, pv⟩ hG rfl rfl
  show Vc _ _ [(0, ⟨0, 0, .c (.pure (.slice (.int .i64))) a0⟩), (1, ⟨0, 0, .c (.pure (.slice (.int .i64))) a1⟩)] _
  have hb : List.length a0 ≤ bigLen := hwf.1.1
  refine Vc.seq ?_
  refine Vc.region hG rfl ?_ ?_
  · trivial
  refine Vc.seq ?_
  refine Vc.seq ?_
  refine Vc.region hG rfl ?_ ?_
  · trivial
  refine Vc.cond rfl (fun h0 => ?_) (fun h0 => ?_)
  · skip
    refine Vc.seq ?_
    refine Vc.region hG rfl ?_ ?_
    · trivial
    refine Vc.ret ?_
    refine ⟨?_, trivial⟩
    exact eqC_no (fun e => absurd (show ((List.length a0 : Int) != (List.length a1 : Int)) = true from h0) (by have e : a0 = a1 := e; rw [e]; simp))
  · skip
    have g0 : List.length a0 = List.length a1 := lenEq h0
    refine Vc.skip ?_
    refine Vc.seq ?_
    refine Vc.seq ?_
    refine Vc.region hG rfl ?_ ?_
    · trivial
    refine Vc.block ?_
    -- slots [5]; frame [0, 1, 10]
    refine Vc.loopF [(5, false, .pure (.int .i64))] [0, 1, 10] (fun v => eqInv a0 a1 v.1) (fun v => ((List.length a0 : Int) - v.1).toNat) rfl ?_ ?_
    · exact eqStart g0
    rintro ⟨(i : Int), _⟩ hI
    have hI : eqInv a0 a1 i := hI
    refine Vc.seq ?_
    refine Vc.seq ?_
    refine Vc.region hG rfl ?_ ?_
    · trivial
    refine Vc.cond rfl (fun h1 => ?_) (fun h1 => ?_)
    · skip
      have hl : i < (List.length a0 : Int) := of_decide_eq_true h1
      refine Vc.skip ?_
      refine Vc.seq ?_
      refine Vc.block ?_
      refine Vc.seq ?_
      refine Vc.regionD mixed hG rfl (by kernel_rfl) ?_ ?_
      · exact ⟨(eqRange hI hl).1, (eqRange hI hl).2⟩
      refine Vc.cond rfl (fun h2 => ?_) (fun h2 => ?_)
      · skip
        have g2 : ((List.getD a0 i.toNat (dflt (.int .i64))) != (List.getD a1 i.toNat (dflt (.int .i64)))) = true := h2
        refine Vc.seq ?_
        refine Vc.region hG rfl ?_ ?_
        · trivial
        refine Vc.ret ?_
        refine ⟨?_, trivial⟩
        exact eqNo (d := dflt (.int .i64)) (i := i) (fun e => by rw [e] at g2; simp at g2)
      · skip
        have g2 : (List.getD a0 i.toNat (dflt (.int .i64))) = (List.getD a1 i.toNat (dflt (.int .i64))) := bneI h2
        refine Vc.skip ?_
        refine Vc.region hG rfl ?_ ?_
        · trivial
        refine ⟨rfl, ?_⟩
        exact ⟨eqStep (d := dflt (.int .i64)) hI hl hb g2, (upStep hI.1 hl hb).2.2⟩
    · skip
      have hl : ¬ i < (List.length a0 : Int) := of_decide_eq_false h1
      refine Vc.exit ?_
      refine Vc.seq ?_
      refine Vc.region hG rfl ?_ ?_
      · trivial
      refine Vc.ret ?_
      refine ⟨?_, trivial⟩
      exact eqC_yes (eqEnd hI hl)
noncomputable def F94 : Fun := ⟨[.pair (.int .i64) (.pair (.int .i64) (.pair (.int .i64) (.pair (.int .i64) (.int .i64)))), .pair (.int .i64) (.pair (.int .i64) (.pair (.int .i64) (.pair (.int .i64) (.int .i64))))], [.pure (.bool)], fun _ => True, fun x => (eqC x.1 x.2.1, ())⟩
set_option maxRecDepth 100000 in
/-- loop.example.g00597.laws.eqKey -/
theorem F94_ok : Meets Try.prog 94 F94 := by
  refine meets_of_vc (C := mkC 30 [4] [0,1,2,3,4,9,14,19,24,29] []) (mkC_ok _ _ _ _) (fnOf_ok _) Try.func94 rfl rfl rfl (by decide) rfl ?_
  rintro ⟨a0, a1, _⟩ hwf hpre ⟨P, C, B, X, w0, M0, pv⟩ hG rfl rfl
  show Vc _ _ [(0, ⟨0, 0, .c (.pure (.pair (.int .i64) (.pair (.int .i64) (.pair (.int .i64) (.pair (.int .i64) (.int .i64)))))) a0⟩), (1, ⟨0, 0, .c (.pure (.pair (.int .i64) (.pair (.int .i64) (.pair (.int .i64) (.pair (.int .i64) (.int .i64)))))) a1⟩)] _
  refine Vc.seq ?_
  refine Vc.region hG rfl ?_ ?_
  · trivial
  refine Vc.seq ?_
  refine Vc.seq ?_
  refine Vc.region hG rfl ?_ ?_
  · trivial
  refine Vc.cond rfl (fun h0 => ?_) (fun h0 => ?_)
  · skip
    refine Vc.seq ?_
    refine Vc.region hG rfl ?_ ?_
    · trivial
    refine Vc.ret ?_
    refine ⟨?_, trivial⟩
    exact eqC_no (fun e => absurd (show (a0.1 != a1.1) = true from h0) (by have e : a0 = a1 := e; rw [e]; simp))
  · skip
    have g0 : a0.1 = a1.1 := bneI h0
    refine Vc.skip ?_
    refine Vc.seq ?_
    refine Vc.seq ?_
    refine Vc.region hG rfl ?_ ?_
    · trivial
    refine Vc.cond rfl (fun h1 => ?_) (fun h1 => ?_)
    · skip
      refine Vc.seq ?_
      refine Vc.region hG rfl ?_ ?_
      · trivial
      refine Vc.ret ?_
      refine ⟨?_, trivial⟩
      exact eqC_no (fun e => absurd (show (a0.2.1 != a1.2.1) = true from h1) (by have e : a0 = a1 := e; rw [e]; simp))
    · skip
      have g1 : a0.2.1 = a1.2.1 := bneI h1
      refine Vc.skip ?_
      refine Vc.seq ?_
      refine Vc.seq ?_
      refine Vc.region hG rfl ?_ ?_
      · trivial
      refine Vc.cond rfl (fun h2 => ?_) (fun h2 => ?_)
      · skip
        refine Vc.seq ?_
        refine Vc.region hG rfl ?_ ?_
        · trivial
        refine Vc.ret ?_
        refine ⟨?_, trivial⟩
        exact eqC_no (fun e => absurd (show (a0.2.2.1 != a1.2.2.1) = true from h2) (by have e : a0 = a1 := e; rw [e]; simp))
      · skip
        have g2 : a0.2.2.1 = a1.2.2.1 := bneI h2
        refine Vc.skip ?_
        refine Vc.seq ?_
        refine Vc.seq ?_
        refine Vc.region hG rfl ?_ ?_
        · trivial
        refine Vc.cond rfl (fun h3 => ?_) (fun h3 => ?_)
        · skip
          refine Vc.seq ?_
          refine Vc.region hG rfl ?_ ?_
          · trivial
          refine Vc.ret ?_
          refine ⟨?_, trivial⟩
          exact eqC_no (fun e => absurd (show (a0.2.2.2.1 != a1.2.2.2.1) = true from h3) (by have e : a0 = a1 := e; rw [e]; simp))
        · skip
          have g3 : a0.2.2.2.1 = a1.2.2.2.1 := bneI h3
          refine Vc.skip ?_
          refine Vc.seq ?_
          refine Vc.seq ?_
          refine Vc.region hG rfl ?_ ?_
          · trivial
          refine Vc.cond rfl (fun h4 => ?_) (fun h4 => ?_)
          · skip
            refine Vc.seq ?_
            refine Vc.region hG rfl ?_ ?_
            · trivial
            refine Vc.ret ?_
            refine ⟨?_, trivial⟩
            exact eqC_no (fun e => absurd (show (a0.2.2.2.2 != a1.2.2.2.2) = true from h4) (by have e : a0 = a1 := e; rw [e]; simp))
          · skip
            have g4 : a0.2.2.2.2 = a1.2.2.2.2 := bneI h4
            refine Vc.skip ?_
            refine Vc.seq ?_
            refine Vc.region hG rfl ?_ ?_
            · trivial
            refine Vc.ret ?_
            refine ⟨?_, trivial⟩
            exact eqC_yes (Prod.ext g0 (Prod.ext g1 (Prod.ext g2 (Prod.ext g3 g4))))
noncomputable def F43 : Fun := ⟨[.slice (.pair (.int .i64) (.pair (.int .i64) (.pair (.int .i64) (.pair (.int .i64) (.int .i64))))), .slice (.pair (.int .i64) (.pair (.int .i64) (.pair (.int .i64) (.pair (.int .i64) (.int .i64)))))], [.pure (.bool)], fun _ => True, fun x => (eqC x.1 x.2.1, ())⟩
set_option maxRecDepth 100000 in
/-- loop.example.g00597.laws.eqKeyS -/
theorem F43_ok : Meets Try.prog 43 F43 := by
  refine meets_of_vc (C := mkC 27 [4] [0,1,4,5,10,14,26] [⟨94, _, F94_ok⟩]) (mkC_ok _ _ _ _) (fnOf_ok _) Try.func43 rfl rfl rfl (by decide) rfl ?_
  rintro ⟨a0, a1, _⟩ hwf hpre ⟨P, C, B, X, w0, M0, pv⟩ hG rfl rfl
  show Vc _ _ [(0, ⟨0, 0, .c (.pure (.slice (.pair (.int .i64) (.pair (.int .i64) (.pair (.int .i64) (.pair (.int .i64) (.int .i64))))))) a0⟩), (1, ⟨0, 0, .c (.pure (.slice (.pair (.int .i64) (.pair (.int .i64) (.pair (.int .i64) (.pair (.int .i64) (.int .i64))))))) a1⟩)] _
  have hb : List.length a0 ≤ bigLen := hwf.1.1
  refine Vc.seq ?_
  refine Vc.region hG rfl ?_ ?_
  · trivial
  refine Vc.seq ?_
  refine Vc.seq ?_
  refine Vc.region hG rfl ?_ ?_
  · trivial
  refine Vc.cond rfl (fun h0 => ?_) (fun h0 => ?_)
  · skip
    refine Vc.seq ?_
    refine Vc.region hG rfl ?_ ?_
    · trivial
    refine Vc.ret ?_
    refine ⟨?_, trivial⟩
    exact eqC_no (fun e => absurd (show ((List.length a0 : Int) != (List.length a1 : Int)) = true from h0) (by have e : a0 = a1 := e; rw [e]; simp))
  · skip
    have g0 : List.length a0 = List.length a1 := lenEq h0
    refine Vc.skip ?_
    refine Vc.seq ?_
    refine Vc.seq ?_
    refine Vc.region hG rfl ?_ ?_
    · trivial
    refine Vc.block ?_
    -- slots [5]; frame [0, 1, 10]
    refine Vc.loopF [(5, false, .pure (.int .i64))] [0, 1, 10] (fun v => eqInv a0 a1 v.1) (fun v => ((List.length a0 : Int) - v.1).toNat) rfl ?_ ?_
    · exact eqStart g0
    rintro ⟨(i : Int), _⟩ hI
    have hI : eqInv a0 a1 i := hI
    refine Vc.seq ?_
    refine Vc.seq ?_
    refine Vc.region hG rfl ?_ ?_
    · trivial
    refine Vc.cond rfl (fun h1 => ?_) (fun h1 => ?_)
    · skip
      have hl : i < (List.length a0 : Int) := of_decide_eq_true h1
      refine Vc.skip ?_
      refine Vc.seq ?_
      refine Vc.block ?_
      refine Vc.seq ?_
      refine Vc.regionD mixed hG rfl (by kernel_rfl) ?_ ?_
      · exact ⟨(eqRange hI hl).1, (eqRange hI hl).2, trivial⟩
      refine Vc.cond rfl (fun h2 => ?_) (fun h2 => ?_)
      · skip
        have g2 : (!(eqC (List.getD a0 i.toNat (dflt (.pair (.int .i64) (.pair (.int .i64) (.pair (.int .i64) (.pair (.int .i64) (.int .i64))))))) (List.getD a1 i.toNat (dflt (.pair (.int .i64) (.pair (.int .i64) (.pair (.int .i64) (.pair (.int .i64) (.int .i64))))))))) = true := h2
        refine Vc.seq ?_
        refine Vc.region hG rfl ?_ ?_
        · trivial
        refine Vc.ret ?_
        refine ⟨?_, trivial⟩
        exact eqNo (d := dflt (.pair (.int .i64) (.pair (.int .i64) (.pair (.int .i64) (.pair (.int .i64) (.int .i64)))))) (i := i) (fun e => by rw [e, eqC_self] at g2; cases g2)
      · skip
        have g2 : (List.getD a0 i.toNat (dflt (.pair (.int .i64) (.pair (.int .i64) (.pair (.int .i64) (.pair (.int .i64) (.int .i64))))))) = (List.getD a1 i.toNat (dflt (.pair (.int .i64) (.pair (.int .i64) (.pair (.int .i64) (.pair (.int .i64) (.int .i64))))))) := notC h2
        refine Vc.skip ?_
        refine Vc.region hG rfl ?_ ?_
        · trivial
        refine ⟨rfl, ?_⟩
        exact ⟨eqStep (d := dflt (.pair (.int .i64) (.pair (.int .i64) (.pair (.int .i64) (.pair (.int .i64) (.int .i64)))))) hI hl hb g2, (upStep hI.1 hl hb).2.2⟩
    · skip
      have hl : ¬ i < (List.length a0 : Int) := of_decide_eq_false h1
      refine Vc.exit ?_
      refine Vc.seq ?_
      refine Vc.region hG rfl ?_ ?_
      · trivial
      refine Vc.ret ?_
      refine ⟨?_, trivial⟩
      exact eqC_yes (eqEnd hI hl)
noncomputable def F95 : Fun := ⟨[.pair (.int .i64) (.pair (.int .i64) (.int .i64)), .pair (.int .i64) (.pair (.int .i64) (.int .i64))], [.pure (.bool)], fun _ => True, fun x => (eqC x.1 x.2.1, ())⟩
set_option maxRecDepth 100000 in
/-- loop.example.g00597.laws.eqAuthority -/
theorem F95_ok : Meets Try.prog 95 F95 := by
  refine meets_of_vc (C := mkC 20 [4] [0,1,2,3,4,9,14,19] []) (mkC_ok _ _ _ _) (fnOf_ok _) Try.func95 rfl rfl rfl (by decide) rfl ?_
  rintro ⟨a0, a1, _⟩ hwf hpre ⟨P, C, B, X, w0, M0, pv⟩ hG rfl rfl
  show Vc _ _ [(0, ⟨0, 0, .c (.pure (.pair (.int .i64) (.pair (.int .i64) (.int .i64)))) a0⟩), (1, ⟨0, 0, .c (.pure (.pair (.int .i64) (.pair (.int .i64) (.int .i64)))) a1⟩)] _
  refine Vc.seq ?_
  refine Vc.region hG rfl ?_ ?_
  · trivial
  refine Vc.seq ?_
  refine Vc.seq ?_
  refine Vc.region hG rfl ?_ ?_
  · trivial
  refine Vc.cond rfl (fun h0 => ?_) (fun h0 => ?_)
  · skip
    refine Vc.seq ?_
    refine Vc.region hG rfl ?_ ?_
    · trivial
    refine Vc.ret ?_
    refine ⟨?_, trivial⟩
    exact eqC_no (fun e => absurd (show (a0.1 != a1.1) = true from h0) (by have e : a0 = a1 := e; rw [e]; simp))
  · skip
    have g0 : a0.1 = a1.1 := bneI h0
    refine Vc.skip ?_
    refine Vc.seq ?_
    refine Vc.seq ?_
    refine Vc.region hG rfl ?_ ?_
    · trivial
    refine Vc.cond rfl (fun h1 => ?_) (fun h1 => ?_)
    · skip
      refine Vc.seq ?_
      refine Vc.region hG rfl ?_ ?_
      · trivial
      refine Vc.ret ?_
      refine ⟨?_, trivial⟩
      exact eqC_no (fun e => absurd (show (a0.2.1 != a1.2.1) = true from h1) (by have e : a0 = a1 := e; rw [e]; simp))
    · skip
      have g1 : a0.2.1 = a1.2.1 := bneI h1
      refine Vc.skip ?_
      refine Vc.seq ?_
      refine Vc.seq ?_
      refine Vc.region hG rfl ?_ ?_
      · trivial
      refine Vc.cond rfl (fun h2 => ?_) (fun h2 => ?_)
      · skip
        refine Vc.seq ?_
        refine Vc.region hG rfl ?_ ?_
        · trivial
        refine Vc.ret ?_
        refine ⟨?_, trivial⟩
        exact eqC_no (fun e => absurd (show (a0.2.2 != a1.2.2) = true from h2) (by have e : a0 = a1 := e; rw [e]; simp))
      · skip
        have g2 : a0.2.2 = a1.2.2 := bneI h2
        refine Vc.skip ?_
        refine Vc.seq ?_
        refine Vc.region hG rfl ?_ ?_
        · trivial
        refine Vc.ret ?_
        refine ⟨?_, trivial⟩
        exact eqC_yes (Prod.ext g0 (Prod.ext g1 g2))
noncomputable def F44 : Fun := ⟨[.slice (.pair (.int .i64) (.pair (.int .i64) (.int .i64))), .slice (.pair (.int .i64) (.pair (.int .i64) (.int .i64)))], [.pure (.bool)], fun _ => True, fun x => (eqC x.1 x.2.1, ())⟩
set_option maxRecDepth 100000 in
/-- loop.example.g00597.laws.eqAuthorityS -/
theorem F44_ok : Meets Try.prog 44 F44 := by
  refine meets_of_vc (C := mkC 27 [4] [0,1,4,5,10,14,26] [⟨95, _, F95_ok⟩]) (mkC_ok _ _ _ _) (fnOf_ok _) Try.func44 rfl rfl rfl (by decide) rfl ?_
  rintro ⟨a0, a1, _⟩ hwf hpre ⟨P, C, B, X, w0, M0, pv⟩ hG rfl rfl
  show Vc _ _ [(0, ⟨0, 0, .c (.pure (.slice (.pair (.int .i64) (.pair (.int .i64) (.int .i64))))) a0⟩), (1, ⟨0, 0, .c (.pure (.slice (.pair (.int .i64) (.pair (.int .i64) (.int .i64))))) a1⟩)] _
  have hb : List.length a0 ≤ bigLen := hwf.1.1
  refine Vc.seq ?_
  refine Vc.region hG rfl ?_ ?_
  · trivial
  refine Vc.seq ?_
  refine Vc.seq ?_
  refine Vc.region hG rfl ?_ ?_
  · trivial
  refine Vc.cond rfl (fun h0 => ?_) (fun h0 => ?_)
  · skip
    refine Vc.seq ?_
    refine Vc.region hG rfl ?_ ?_
    · trivial
    refine Vc.ret ?_
    refine ⟨?_, trivial⟩
    exact eqC_no (fun e => absurd (show ((List.length a0 : Int) != (List.length a1 : Int)) = true from h0) (by have e : a0 = a1 := e; rw [e]; simp))
  · skip
    have g0 : List.length a0 = List.length a1 := lenEq h0
    refine Vc.skip ?_
    refine Vc.seq ?_
    refine Vc.seq ?_
    refine Vc.region hG rfl ?_ ?_
    · trivial
    refine Vc.block ?_
    -- slots [5]; frame [0, 1, 10]
    refine Vc.loopF [(5, false, .pure (.int .i64))] [0, 1, 10] (fun v => eqInv a0 a1 v.1) (fun v => ((List.length a0 : Int) - v.1).toNat) rfl ?_ ?_
    · exact eqStart g0
    rintro ⟨(i : Int), _⟩ hI
    have hI : eqInv a0 a1 i := hI
    refine Vc.seq ?_
    refine Vc.seq ?_
    refine Vc.region hG rfl ?_ ?_
    · trivial
    refine Vc.cond rfl (fun h1 => ?_) (fun h1 => ?_)
    · skip
      have hl : i < (List.length a0 : Int) := of_decide_eq_true h1
      refine Vc.skip ?_
      refine Vc.seq ?_
      refine Vc.block ?_
      refine Vc.seq ?_
      refine Vc.regionD mixed hG rfl (by kernel_rfl) ?_ ?_
      · exact ⟨(eqRange hI hl).1, (eqRange hI hl).2, trivial⟩
      refine Vc.cond rfl (fun h2 => ?_) (fun h2 => ?_)
      · skip
        have g2 : (!(eqC (List.getD a0 i.toNat (dflt (.pair (.int .i64) (.pair (.int .i64) (.int .i64))))) (List.getD a1 i.toNat (dflt (.pair (.int .i64) (.pair (.int .i64) (.int .i64))))))) = true := h2
        refine Vc.seq ?_
        refine Vc.region hG rfl ?_ ?_
        · trivial
        refine Vc.ret ?_
        refine ⟨?_, trivial⟩
        exact eqNo (d := dflt (.pair (.int .i64) (.pair (.int .i64) (.int .i64)))) (i := i) (fun e => by rw [e, eqC_self] at g2; cases g2)
      · skip
        have g2 : (List.getD a0 i.toNat (dflt (.pair (.int .i64) (.pair (.int .i64) (.int .i64))))) = (List.getD a1 i.toNat (dflt (.pair (.int .i64) (.pair (.int .i64) (.int .i64))))) := notC h2
        refine Vc.skip ?_
        refine Vc.region hG rfl ?_ ?_
        · trivial
        refine ⟨rfl, ?_⟩
        exact ⟨eqStep (d := dflt (.pair (.int .i64) (.pair (.int .i64) (.int .i64)))) hI hl hb g2, (upStep hI.1 hl hb).2.2⟩
    · skip
      have hl : ¬ i < (List.length a0 : Int) := of_decide_eq_false h1
      refine Vc.exit ?_
      refine Vc.seq ?_
      refine Vc.region hG rfl ?_ ?_
      · trivial
      refine Vc.ret ?_
      refine ⟨?_, trivial⟩
      exact eqC_yes (eqEnd hI hl)
noncomputable def F134 : Fun := ⟨[.pair (.int .i64) (.pair (.int .i64) (.pair (.int .i64) (.int .i64))), .pair (.int .i64) (.pair (.int .i64) (.pair (.int .i64) (.int .i64)))], [.pure (.bool)], fun _ => True, fun x => (eqC x.1 x.2.1, ())⟩
set_option maxRecDepth 100000 in
/-- loop.example.g00597.laws.eqMethod -/
theorem F134_ok : Meets Try.prog 134 F134 := by
  refine meets_of_vc (C := mkC 25 [4] [0,1,2,3,4,9,14,19,24] []) (mkC_ok _ _ _ _) (fnOf_ok _) Try.func134 rfl rfl rfl (by decide) rfl ?_
  rintro ⟨a0, a1, _⟩ hwf hpre ⟨P, C, B, X, w0, M0, pv⟩ hG rfl rfl
  show Vc _ _ [(0, ⟨0, 0, .c (.pure (.pair (.int .i64) (.pair (.int .i64) (.pair (.int .i64) (.int .i64))))) a0⟩), (1, ⟨0, 0, .c (.pure (.pair (.int .i64) (.pair (.int .i64) (.pair (.int .i64) (.int .i64))))) a1⟩)] _
  refine Vc.seq ?_
  refine Vc.region hG rfl ?_ ?_
  · trivial
  refine Vc.seq ?_
  refine Vc.seq ?_
  refine Vc.region hG rfl ?_ ?_
  · trivial
  refine Vc.cond rfl (fun h0 => ?_) (fun h0 => ?_)
  · skip
    refine Vc.seq ?_
    refine Vc.region hG rfl ?_ ?_
    · trivial
    refine Vc.ret ?_
    refine ⟨?_, trivial⟩
    exact eqC_no (fun e => absurd (show (a0.1 != a1.1) = true from h0) (by have e : a0 = a1 := e; rw [e]; simp))
  · skip
    have g0 : a0.1 = a1.1 := bneI h0
    refine Vc.skip ?_
    refine Vc.seq ?_
    refine Vc.seq ?_
    refine Vc.region hG rfl ?_ ?_
    · trivial
    refine Vc.cond rfl (fun h1 => ?_) (fun h1 => ?_)
    · skip
      refine Vc.seq ?_
      refine Vc.region hG rfl ?_ ?_
      · trivial
      refine Vc.ret ?_
      refine ⟨?_, trivial⟩
      exact eqC_no (fun e => absurd (show (a0.2.1 != a1.2.1) = true from h1) (by have e : a0 = a1 := e; rw [e]; simp))
    · skip
      have g1 : a0.2.1 = a1.2.1 := bneI h1
      refine Vc.skip ?_
      refine Vc.seq ?_
      refine Vc.seq ?_
      refine Vc.region hG rfl ?_ ?_
      · trivial
      refine Vc.cond rfl (fun h2 => ?_) (fun h2 => ?_)
      · skip
        refine Vc.seq ?_
        refine Vc.region hG rfl ?_ ?_
        · trivial
        refine Vc.ret ?_
        refine ⟨?_, trivial⟩
        exact eqC_no (fun e => absurd (show (a0.2.2.1 != a1.2.2.1) = true from h2) (by have e : a0 = a1 := e; rw [e]; simp))
      · skip
        have g2 : a0.2.2.1 = a1.2.2.1 := bneI h2
        refine Vc.skip ?_
        refine Vc.seq ?_
        refine Vc.seq ?_
        refine Vc.region hG rfl ?_ ?_
        · trivial
        refine Vc.cond rfl (fun h3 => ?_) (fun h3 => ?_)
        · skip
          refine Vc.seq ?_
          refine Vc.region hG rfl ?_ ?_
          · trivial
          refine Vc.ret ?_
          refine ⟨?_, trivial⟩
          exact eqC_no (fun e => absurd (show (a0.2.2.2 != a1.2.2.2) = true from h3) (by have e : a0 = a1 := e; rw [e]; simp))
        · skip
          have g3 : a0.2.2.2 = a1.2.2.2 := bneI h3
          refine Vc.skip ?_
          refine Vc.seq ?_
          refine Vc.region hG rfl ?_ ?_
          · trivial
          refine Vc.ret ?_
          refine ⟨?_, trivial⟩
          exact eqC_yes (Prod.ext g0 (Prod.ext g1 (Prod.ext g2 g3)))
noncomputable def F87 : Fun := ⟨[.slice (.pair (.int .i64) (.pair (.int .i64) (.pair (.int .i64) (.int .i64)))), .slice (.pair (.int .i64) (.pair (.int .i64) (.pair (.int .i64) (.int .i64))))], [.pure (.bool)], fun _ => True, fun x => (eqC x.1 x.2.1, ())⟩
set_option maxRecDepth 100000 in
/-- loop.example.g00597.laws.eqMethodS -/
theorem F87_ok : Meets Try.prog 87 F87 := by
  refine meets_of_vc (C := mkC 27 [4] [0,1,4,5,10,14,26] [⟨134, _, F134_ok⟩]) (mkC_ok _ _ _ _) (fnOf_ok _) Try.func87 rfl rfl rfl (by decide) rfl ?_
  rintro ⟨a0, a1, _⟩ hwf hpre ⟨P, C, B, X, w0, M0, pv⟩ hG rfl rfl
  show Vc _ _ [(0, ⟨0, 0, .c (.pure (.slice (.pair (.int .i64) (.pair (.int .i64) (.pair (.int .i64) (.int .i64)))))) a0⟩), (1, ⟨0, 0, .c (.pure (.slice (.pair (.int .i64) (.pair (.int .i64) (.pair (.int .i64) (.int .i64)))))) a1⟩)] _
  have hb : List.length a0 ≤ bigLen := hwf.1.1
  refine Vc.seq ?_
  refine Vc.region hG rfl ?_ ?_
  · trivial
  refine Vc.seq ?_
  refine Vc.seq ?_
  refine Vc.region hG rfl ?_ ?_
  · trivial
  refine Vc.cond rfl (fun h0 => ?_) (fun h0 => ?_)
  · skip
    refine Vc.seq ?_
    refine Vc.region hG rfl ?_ ?_
    · trivial
    refine Vc.ret ?_
    refine ⟨?_, trivial⟩
    exact eqC_no (fun e => absurd (show ((List.length a0 : Int) != (List.length a1 : Int)) = true from h0) (by have e : a0 = a1 := e; rw [e]; simp))
  · skip
    have g0 : List.length a0 = List.length a1 := lenEq h0
    refine Vc.skip ?_
    refine Vc.seq ?_
    refine Vc.seq ?_
    refine Vc.region hG rfl ?_ ?_
    · trivial
    refine Vc.block ?_
    -- slots [5]; frame [0, 1, 10]
    refine Vc.loopF [(5, false, .pure (.int .i64))] [0, 1, 10] (fun v => eqInv a0 a1 v.1) (fun v => ((List.length a0 : Int) - v.1).toNat) rfl ?_ ?_
    · exact eqStart g0
    rintro ⟨(i : Int), _⟩ hI
    have hI : eqInv a0 a1 i := hI
    refine Vc.seq ?_
    refine Vc.seq ?_
    refine Vc.region hG rfl ?_ ?_
    · trivial
    refine Vc.cond rfl (fun h1 => ?_) (fun h1 => ?_)
    · skip
      have hl : i < (List.length a0 : Int) := of_decide_eq_true h1
      refine Vc.skip ?_
      refine Vc.seq ?_
      refine Vc.block ?_
      refine Vc.seq ?_
      refine Vc.regionD mixed hG rfl (by kernel_rfl) ?_ ?_
      · exact ⟨(eqRange hI hl).1, (eqRange hI hl).2, trivial⟩
      refine Vc.cond rfl (fun h2 => ?_) (fun h2 => ?_)
      · skip
        have g2 : (!(eqC (List.getD a0 i.toNat (dflt (.pair (.int .i64) (.pair (.int .i64) (.pair (.int .i64) (.int .i64)))))) (List.getD a1 i.toNat (dflt (.pair (.int .i64) (.pair (.int .i64) (.pair (.int .i64) (.int .i64)))))))) = true := h2
        refine Vc.seq ?_
        refine Vc.region hG rfl ?_ ?_
        · trivial
        refine Vc.ret ?_
        refine ⟨?_, trivial⟩
        exact eqNo (d := dflt (.pair (.int .i64) (.pair (.int .i64) (.pair (.int .i64) (.int .i64))))) (i := i) (fun e => by rw [e, eqC_self] at g2; cases g2)
      · skip
        have g2 : (List.getD a0 i.toNat (dflt (.pair (.int .i64) (.pair (.int .i64) (.pair (.int .i64) (.int .i64)))))) = (List.getD a1 i.toNat (dflt (.pair (.int .i64) (.pair (.int .i64) (.pair (.int .i64) (.int .i64)))))) := notC h2
        refine Vc.skip ?_
        refine Vc.region hG rfl ?_ ?_
        · trivial
        refine ⟨rfl, ?_⟩
        exact ⟨eqStep (d := dflt (.pair (.int .i64) (.pair (.int .i64) (.pair (.int .i64) (.int .i64))))) hI hl hb g2, (upStep hI.1 hl hb).2.2⟩
    · skip
      have hl : ¬ i < (List.length a0 : Int) := of_decide_eq_false h1
      refine Vc.exit ?_
      refine Vc.seq ?_
      refine Vc.region hG rfl ?_ ?_
      · trivial
      refine Vc.ret ?_
      refine ⟨?_, trivial⟩
      exact eqC_yes (eqEnd hI hl)
noncomputable def F31 : Fun := ⟨[.pair (.slice (.pair (.int .i64) (.pair (.int .i64) (.pair (.int .i64) (.pair (.int .i64) (.int .i64)))))) (.pair (.slice (.pair (.int .i64) (.pair (.int .i64) (.int .i64)))) (.pair (.slice (.pair (.int .i64) (.pair (.int .i64) (.pair (.int .i64) (.int .i64))))) (.pair (.int .i64) (.int .i64)))), .pair (.slice (.pair (.int .i64) (.pair (.int .i64) (.pair (.int .i64) (.pair (.int .i64) (.int .i64)))))) (.pair (.slice (.pair (.int .i64) (.pair (.int .i64) (.int .i64)))) (.pair (.slice (.pair (.int .i64) (.pair (.int .i64) (.pair (.int .i64) (.int .i64))))) (.pair (.int .i64) (.int .i64))))], [.pure (.bool)], fun _ => True, fun x => (eqC x.1 x.2.1, ())⟩
set_option maxRecDepth 100000 in
/-- loop.example.g00597.laws.eqFrame -/
theorem F31_ok : Meets Try.prog 31 F31 := by
  refine meets_of_vc (C := mkC 33 [4] [0,1,2,3,4,10,16,22,27,32] [⟨43, _, F43_ok⟩, ⟨44, _, F44_ok⟩, ⟨87, _, F87_ok⟩]) (mkC_ok _ _ _ _) (fnOf_ok _) Try.func31 rfl rfl rfl (by decide) rfl ?_
  rintro ⟨a0, a1, _⟩ hwf hpre ⟨P, C, B, X, w0, M0, pv⟩ hG rfl rfl
  show Vc _ _ [(0, ⟨0, 0, .c (.pure (.pair (.slice (.pair (.int .i64) (.pair (.int .i64) (.pair (.int .i64) (.pair (.int .i64) (.int .i64)))))) (.pair (.slice (.pair (.int .i64) (.pair (.int .i64) (.int .i64)))) (.pair (.slice (.pair (.int .i64) (.pair (.int .i64) (.pair (.int .i64) (.int .i64))))) (.pair (.int .i64) (.int .i64)))))) a0⟩), (1, ⟨0, 0, .c (.pure (.pair (.slice (.pair (.int .i64) (.pair (.int .i64) (.pair (.int .i64) (.pair (.int .i64) (.int .i64)))))) (.pair (.slice (.pair (.int .i64) (.pair (.int .i64) (.int .i64)))) (.pair (.slice (.pair (.int .i64) (.pair (.int .i64) (.pair (.int .i64) (.int .i64))))) (.pair (.int .i64) (.int .i64)))))) a1⟩)] _
  refine Vc.seq ?_
  refine Vc.region hG rfl ?_ ?_
  · trivial
  refine Vc.seq ?_
  refine Vc.seq ?_
  refine Vc.region hG rfl ?_ ?_
  · trivial
  refine Vc.cond rfl (fun h0 => ?_) (fun h0 => ?_)
  · skip
    refine Vc.seq ?_
    refine Vc.region hG rfl ?_ ?_
    · trivial
    refine Vc.ret ?_
    refine ⟨?_, trivial⟩
    exact eqC_no (fun e => absurd (show (!(eqC a0.1 a1.1)) = true from h0) (by have e : a0 = a1 := e; rw [e, eqC_self]; decide))
  · skip
    have g0 : a0.1 = a1.1 := notC h0
    refine Vc.skip ?_
    refine Vc.seq ?_
    refine Vc.seq ?_
    refine Vc.region hG rfl ?_ ?_
    · trivial
    refine Vc.cond rfl (fun h1 => ?_) (fun h1 => ?_)
    · skip
      refine Vc.seq ?_
      refine Vc.region hG rfl ?_ ?_
      · trivial
      refine Vc.ret ?_
      refine ⟨?_, trivial⟩
      exact eqC_no (fun e => absurd (show (!(eqC a0.2.1 a1.2.1)) = true from h1) (by have e : a0 = a1 := e; rw [e, eqC_self]; decide))
    · skip
      have g1 : a0.2.1 = a1.2.1 := notC h1
      refine Vc.skip ?_
      refine Vc.seq ?_
      refine Vc.seq ?_
      refine Vc.region hG rfl ?_ ?_
      · trivial
      refine Vc.cond rfl (fun h2 => ?_) (fun h2 => ?_)
      · skip
        refine Vc.seq ?_
        refine Vc.region hG rfl ?_ ?_
        · trivial
        refine Vc.ret ?_
        refine ⟨?_, trivial⟩
        exact eqC_no (fun e => absurd (show (!(eqC a0.2.2.1 a1.2.2.1)) = true from h2) (by have e : a0 = a1 := e; rw [e, eqC_self]; decide))
      · skip
        have g2 : a0.2.2.1 = a1.2.2.1 := notC h2
        refine Vc.skip ?_
        refine Vc.seq ?_
        refine Vc.seq ?_
        refine Vc.region hG rfl ?_ ?_
        · trivial
        refine Vc.cond rfl (fun h3 => ?_) (fun h3 => ?_)
        · skip
          refine Vc.seq ?_
          refine Vc.region hG rfl ?_ ?_
          · trivial
          refine Vc.ret ?_
          refine ⟨?_, trivial⟩
          exact eqC_no (fun e => absurd (show (a0.2.2.2.1 != a1.2.2.2.1) = true from h3) (by have e : a0 = a1 := e; rw [e]; simp))
        · skip
          have g3 : a0.2.2.2.1 = a1.2.2.2.1 := bneI h3
          refine Vc.skip ?_
          refine Vc.seq ?_
          refine Vc.seq ?_
          refine Vc.region hG rfl ?_ ?_
          · trivial
          refine Vc.cond rfl (fun h4 => ?_) (fun h4 => ?_)
          · skip
            refine Vc.seq ?_
            refine Vc.region hG rfl ?_ ?_
            · trivial
            refine Vc.ret ?_
            refine ⟨?_, trivial⟩
            exact eqC_no (fun e => absurd (show (a0.2.2.2.2 != a1.2.2.2.2) = true from h4) (by have e : a0 = a1 := e; rw [e]; simp))
          · skip
            have g4 : a0.2.2.2.2 = a1.2.2.2.2 := bneI h4
            refine Vc.skip ?_
            refine Vc.seq ?_
            refine Vc.region hG rfl ?_ ?_
            · trivial
            refine Vc.ret ?_
            refine ⟨?_, trivial⟩
            exact eqC_yes (Prod.ext g0 (Prod.ext g1 (Prod.ext g2 (Prod.ext g3 g4))))
@[reducible] noncomputable def M45 : MFun := mF (.own (.pure (.pair (.int .i64) (.pair (.int .i64) (.pair (.int .i64) (.pair (.int .i64) (.int .i64)))))))
set_option maxRecDepth 100000 in
set_option maxHeartbeats 2000000 in
/-- loop.example.g00597.laws.markKeyS -/
theorem M45_ok : MeetsM Try.prog 45 M45 := by
  refine meetsM_of_vc (C := mkCM 48 [4] [0,1,4,5,9] [] [] [0]) (mkCM_ok _ _ _ _ _ _) (fnOf_ok _) Try.func45 rfl rfl rfl (by decide) rfl rfl rfl rfl ?_
  rintro a0 (a1 : Int) hwf hin hpre ⟨P, C, B, X, w0, M0, pv⟩ hG rfl rfl
  show Vc _ _ [(0, ⟨0, 0, .c (.own (.pure (.pair (.int .i64) (.pair (.int .i64) (.pair (.int .i64) (.pair (.int .i64) (.int .i64))))))) a0⟩), (1, ⟨0, 0, .c (.pure (.int .i64)) a1⟩)] _
  have hb : List.length a0 ≤ bigLen := hwf.1
  have hp0 : 0 ≤ a1 := hpre.1
  have hp1 : a1 + ((cellsL (cellsC (.pair (.int .i64) (.pair (.int .i64) (.pair (.int .i64) (.pair (.int .i64) (.int .i64)))))) a0 : Nat) : Int) ≤ bnd := hpre.2
  refine Vc.seq ?_
  refine Vc.region hG rfl ?_ ?_
  · trivial
  refine Vc.seq ?_
  refine Vc.seq ?_
  refine Vc.region hG rfl ?_ ?_
  · trivial
  refine Vc.block ?_
  -- slots [0, 1, 5]; frame [4]
  refine Vc.loopF [(0, false, .own (.pure (.pair (.int .i64) (.pair (.int .i64) (.pair (.int .i64) (.pair (.int .i64) (.int .i64))))))), (1, false, .pure (.int .i64)), (5, false, .pure (.int .i64))] [4] (fun v => mkInv (cellsC (.pair (.int .i64) (.pair (.int .i64) (.pair (.int .i64) (.pair (.int .i64) (.int .i64)))))) (markC (.pair (.int .i64) (.pair (.int .i64) (.pair (.int .i64) (.pair (.int .i64) (.int .i64)))))) a0 a1 v.1 v.2.1 v.2.2.1) (fun v => ((List.length v.1 : Int) - v.2.2.1).toNat) rfl ?_ ?_
  · exact mkStart
  rintro ⟨v, (k : Int), (i : Int), _⟩ hI
  have hI : mkInv (cellsC (.pair (.int .i64) (.pair (.int .i64) (.pair (.int .i64) (.pair (.int .i64) (.int .i64)))))) (markC (.pair (.int .i64) (.pair (.int .i64) (.pair (.int .i64) (.pair (.int .i64) (.int .i64)))))) a0 a1 v k i := hI
  have hbv : v.length ≤ bigLen := by rw [mkLen hI]; exact hb
  refine Vc.seq ?_
  refine Vc.seq ?_
  refine Vc.region hG rfl ?_ ?_
  · trivial
  refine Vc.cond rfl (fun h0 => ?_) (fun h0 => ?_)
  · skip
    have hl : i < (List.length v : Int) := of_decide_eq_true h0
    have hln : i.toNat < v.length := by have := hI.1; omega
    have hk := mkBound hI hl (dflt (.pair (.int .i64) (.pair (.int .i64) (.pair (.int .i64) (.pair (.int .i64) (.int .i64)))))) hp0 hp1
    generalize hX : List.getD v i.toNat (dflt (.pair (.int .i64) (.pair (.int .i64) (.pair (.int .i64) (.pair (.int .i64) (.int .i64)))))) = X at hk
    have hk : 0 ≤ k ∧ k + (((1 + (1 + (1 + (1 + 1)))) : Nat) : Int) ≤ bnd := hk
    have w0 : IntKind.i64.wrap (k + 1) = k + 1 := wrapB (by omega) (by omega)
    have w1 : IntKind.i64.wrap (k + 1 + 1) = k + 1 + 1 := wrapB (by omega) (by omega)
    have w2 : IntKind.i64.wrap (k + 1 + 1 + 1) = k + 1 + 1 + 1 := wrapB (by omega) (by omega)
    have w3 : IntKind.i64.wrap (k + 1 + 1 + 1 + 1) = k + 1 + 1 + 1 + 1 := wrapB (by omega) (by omega)
    have w4 : IntKind.i64.wrap (k + 1 + 1 + 1 + 1 + 1) = k + 1 + 1 + 1 + 1 + 1 := wrapB (by omega) (by omega)
    refine Vc.skip ?_
    refine Vc.seq ?_
    refine Vc.block ?_
    refine Vc.seq ?_
    refine Vc.region hG rfl ?_ ?_
    · show inRange i _
      exact mkRange hI hl
    refine Vc.seq ?_
    refine Vc.region hG rfl ?_ ?_
    · trivial
    refine Vc.seq ?_
    refine Vc.region hG rfl ?_ ?_
    · show inRange i _
      simp only [List.length_set]
      exact mkRange hI hl
    refine Vc.seq ?_
    refine Vc.region hG rfl ?_ ?_
    · trivial
    refine Vc.seq ?_
    refine Vc.region hG rfl ?_ ?_
    · show inRange i _
      simp only [List.length_set]
      exact mkRange hI hl
    refine Vc.seq ?_
    refine Vc.region hG rfl ?_ ?_
    · trivial
    refine Vc.seq ?_
    refine Vc.region hG rfl ?_ ?_
    · show inRange i _
      simp only [List.length_set]
      exact mkRange hI hl
    refine Vc.seq ?_
    refine Vc.region hG rfl ?_ ?_
    · trivial
    refine Vc.seq ?_
    refine Vc.region hG rfl ?_ ?_
    · show inRange i _
      simp only [List.length_set]
      exact mkRange hI hl
    refine Vc.region hG rfl ?_ ?_
    · trivial
    refine Vc.region hG rfl ?_ ?_
    · trivial
    refine ⟨rfl, ?_⟩
    refine mkStep hI hl hbv (dflt (.pair (.int .i64) (.pair (.int .i64) (.pair (.int .i64) (.pair (.int .i64) (.int .i64)))))) ?_ ?_
    · rw [hX]
      try simp only [List.length_set, List.set_set, getD_setS hln, hX, cntF_eq, Sh.ty, w0, w1, w2, w3, w4]
      try rfl
    · rw [hX]
      show _ = k + (((1 + (1 + (1 + (1 + 1)))) : Nat) : Int)
      try simp only [List.length_set, List.set_set, getD_setS hln, hX, cntF_eq, Sh.ty, w0, w1, w2, w3, w4]
      try omega
  · skip
    have hl : ¬ i < (List.length v : Int) := of_decide_eq_false h0
    refine Vc.exit ?_
    refine Vc.seq ?_
    refine Vc.region hG rfl ?_ ?_
    · trivial
    refine Vc.ret ?_
    have e := mkEnd hI hl
    refine ⟨?_, ?_, trivial⟩
    · show k = cntF (.slice (.pair (.int .i64) (.pair (.int .i64) (.pair (.int .i64) (.pair (.int .i64) (.int .i64)))))) a0 a1
      rw [cntF_eq]; exact e.1
    · exact e.2
@[reducible] noncomputable def M46 : MFun := mF (.own (.pure (.pair (.int .i64) (.pair (.int .i64) (.int .i64)))))
set_option maxRecDepth 100000 in
set_option maxHeartbeats 2000000 in
/-- loop.example.g00597.laws.markAuthorityS -/
theorem M46_ok : MeetsM Try.prog 46 M46 := by
  refine meetsM_of_vc (C := mkCM 34 [4] [0,1,4,5,9] [] [] [0]) (mkCM_ok _ _ _ _ _ _) (fnOf_ok _) Try.func46 rfl rfl rfl (by decide) rfl rfl rfl rfl ?_
  rintro a0 (a1 : Int) hwf hin hpre ⟨P, C, B, X, w0, M0, pv⟩ hG rfl rfl
  show Vc _ _ [(0, ⟨0, 0, .c (.own (.pure (.pair (.int .i64) (.pair (.int .i64) (.int .i64))))) a0⟩), (1, ⟨0, 0, .c (.pure (.int .i64)) a1⟩)] _
  have hb : List.length a0 ≤ bigLen := hwf.1
  have hp0 : 0 ≤ a1 := hpre.1
  have hp1 : a1 + ((cellsL (cellsC (.pair (.int .i64) (.pair (.int .i64) (.int .i64)))) a0 : Nat) : Int) ≤ bnd := hpre.2
  refine Vc.seq ?_
  refine Vc.region hG rfl ?_ ?_
  · trivial
  refine Vc.seq ?_
  refine Vc.seq ?_
  refine Vc.region hG rfl ?_ ?_
  · trivial
  refine Vc.block ?_
  -- slots [0, 1, 5]; frame [4]
  refine Vc.loopF [(0, false, .own (.pure (.pair (.int .i64) (.pair (.int .i64) (.int .i64))))), (1, false, .pure (.int .i64)), (5, false, .pure (.int .i64))] [4] (fun v => mkInv (cellsC (.pair (.int .i64) (.pair (.int .i64) (.int .i64)))) (markC (.pair (.int .i64) (.pair (.int .i64) (.int .i64)))) a0 a1 v.1 v.2.1 v.2.2.1) (fun v => ((List.length v.1 : Int) - v.2.2.1).toNat) rfl ?_ ?_
  · exact mkStart
  rintro ⟨v, (k : Int), (i : Int), _⟩ hI
  have hI : mkInv (cellsC (.pair (.int .i64) (.pair (.int .i64) (.int .i64)))) (markC (.pair (.int .i64) (.pair (.int .i64) (.int .i64)))) a0 a1 v k i := hI
  have hbv : v.length ≤ bigLen := by rw [mkLen hI]; exact hb
  refine Vc.seq ?_
  refine Vc.seq ?_
  refine Vc.region hG rfl ?_ ?_
  · trivial
  refine Vc.cond rfl (fun h0 => ?_) (fun h0 => ?_)
  · skip
    have hl : i < (List.length v : Int) := of_decide_eq_true h0
    have hln : i.toNat < v.length := by have := hI.1; omega
    have hk := mkBound hI hl (dflt (.pair (.int .i64) (.pair (.int .i64) (.int .i64)))) hp0 hp1
    generalize hX : List.getD v i.toNat (dflt (.pair (.int .i64) (.pair (.int .i64) (.int .i64)))) = X at hk
    have hk : 0 ≤ k ∧ k + (((1 + (1 + 1)) : Nat) : Int) ≤ bnd := hk
    have w0 : IntKind.i64.wrap (k + 1) = k + 1 := wrapB (by omega) (by omega)
    have w1 : IntKind.i64.wrap (k + 1 + 1) = k + 1 + 1 := wrapB (by omega) (by omega)
    have w2 : IntKind.i64.wrap (k + 1 + 1 + 1) = k + 1 + 1 + 1 := wrapB (by omega) (by omega)
    refine Vc.skip ?_
    refine Vc.seq ?_
    refine Vc.block ?_
    refine Vc.seq ?_
    refine Vc.region hG rfl ?_ ?_
    · show inRange i _
      exact mkRange hI hl
    refine Vc.seq ?_
    refine Vc.region hG rfl ?_ ?_
    · trivial
    refine Vc.seq ?_
    refine Vc.region hG rfl ?_ ?_
    · show inRange i _
      simp only [List.length_set]
      exact mkRange hI hl
    refine Vc.seq ?_
    refine Vc.region hG rfl ?_ ?_
    · trivial
    refine Vc.seq ?_
    refine Vc.region hG rfl ?_ ?_
    · show inRange i _
      simp only [List.length_set]
      exact mkRange hI hl
    refine Vc.region hG rfl ?_ ?_
    · trivial
    refine Vc.region hG rfl ?_ ?_
    · trivial
    refine ⟨rfl, ?_⟩
    refine mkStep hI hl hbv (dflt (.pair (.int .i64) (.pair (.int .i64) (.int .i64)))) ?_ ?_
    · rw [hX]
      try simp only [List.length_set, List.set_set, getD_setS hln, hX, cntF_eq, Sh.ty, w0, w1, w2]
      try rfl
    · rw [hX]
      show _ = k + (((1 + (1 + 1)) : Nat) : Int)
      try simp only [List.length_set, List.set_set, getD_setS hln, hX, cntF_eq, Sh.ty, w0, w1, w2]
      try omega
  · skip
    have hl : ¬ i < (List.length v : Int) := of_decide_eq_false h0
    refine Vc.exit ?_
    refine Vc.seq ?_
    refine Vc.region hG rfl ?_ ?_
    · trivial
    refine Vc.ret ?_
    have e := mkEnd hI hl
    refine ⟨?_, ?_, trivial⟩
    · show k = cntF (.slice (.pair (.int .i64) (.pair (.int .i64) (.int .i64)))) a0 a1
      rw [cntF_eq]; exact e.1
    · exact e.2
@[reducible] noncomputable def M88 : MFun := mF (.own (.pure (.pair (.int .i64) (.pair (.int .i64) (.pair (.int .i64) (.int .i64))))))
set_option maxRecDepth 100000 in
set_option maxHeartbeats 2000000 in
/-- loop.example.g00597.laws.markMethodS -/
theorem M88_ok : MeetsM Try.prog 88 M88 := by
  refine meetsM_of_vc (C := mkCM 41 [4] [0,1,4,5,9] [] [] [0]) (mkCM_ok _ _ _ _ _ _) (fnOf_ok _) Try.func88 rfl rfl rfl (by decide) rfl rfl rfl rfl ?_
  rintro a0 (a1 : Int) hwf hin hpre ⟨P, C, B, X, w0, M0, pv⟩ hG rfl rfl
  show Vc _ _ [(0, ⟨0, 0, .c (.own (.pure (.pair (.int .i64) (.pair (.int .i64) (.pair (.int .i64) (.int .i64)))))) a0⟩), (1, ⟨0, 0, .c (.pure (.int .i64)) a1⟩)] _
  have hb : List.length a0 ≤ bigLen := hwf.1
  have hp0 : 0 ≤ a1 := hpre.1
  have hp1 : a1 + ((cellsL (cellsC (.pair (.int .i64) (.pair (.int .i64) (.pair (.int .i64) (.int .i64))))) a0 : Nat) : Int) ≤ bnd := hpre.2
  refine Vc.seq ?_
  refine Vc.region hG rfl ?_ ?_
  · trivial
  refine Vc.seq ?_
  refine Vc.seq ?_
  refine Vc.region hG rfl ?_ ?_
  · trivial
  refine Vc.block ?_
  -- slots [0, 1, 5]; frame [4]
  refine Vc.loopF [(0, false, .own (.pure (.pair (.int .i64) (.pair (.int .i64) (.pair (.int .i64) (.int .i64)))))), (1, false, .pure (.int .i64)), (5, false, .pure (.int .i64))] [4] (fun v => mkInv (cellsC (.pair (.int .i64) (.pair (.int .i64) (.pair (.int .i64) (.int .i64))))) (markC (.pair (.int .i64) (.pair (.int .i64) (.pair (.int .i64) (.int .i64))))) a0 a1 v.1 v.2.1 v.2.2.1) (fun v => ((List.length v.1 : Int) - v.2.2.1).toNat) rfl ?_ ?_
  · exact mkStart
  rintro ⟨v, (k : Int), (i : Int), _⟩ hI
  have hI : mkInv (cellsC (.pair (.int .i64) (.pair (.int .i64) (.pair (.int .i64) (.int .i64))))) (markC (.pair (.int .i64) (.pair (.int .i64) (.pair (.int .i64) (.int .i64))))) a0 a1 v k i := hI
  have hbv : v.length ≤ bigLen := by rw [mkLen hI]; exact hb
  refine Vc.seq ?_
  refine Vc.seq ?_
  refine Vc.region hG rfl ?_ ?_
  · trivial
  refine Vc.cond rfl (fun h0 => ?_) (fun h0 => ?_)
  · skip
    have hl : i < (List.length v : Int) := of_decide_eq_true h0
    have hln : i.toNat < v.length := by have := hI.1; omega
    have hk := mkBound hI hl (dflt (.pair (.int .i64) (.pair (.int .i64) (.pair (.int .i64) (.int .i64))))) hp0 hp1
    generalize hX : List.getD v i.toNat (dflt (.pair (.int .i64) (.pair (.int .i64) (.pair (.int .i64) (.int .i64))))) = X at hk
    have hk : 0 ≤ k ∧ k + (((1 + (1 + (1 + 1))) : Nat) : Int) ≤ bnd := hk
    have w0 : IntKind.i64.wrap (k + 1) = k + 1 := wrapB (by omega) (by omega)
    have w1 : IntKind.i64.wrap (k + 1 + 1) = k + 1 + 1 := wrapB (by omega) (by omega)
    have w2 : IntKind.i64.wrap (k + 1 + 1 + 1) = k + 1 + 1 + 1 := wrapB (by omega) (by omega)
    have w3 : IntKind.i64.wrap (k + 1 + 1 + 1 + 1) = k + 1 + 1 + 1 + 1 := wrapB (by omega) (by omega)
    refine Vc.skip ?_
    refine Vc.seq ?_
    refine Vc.block ?_
    refine Vc.seq ?_
    refine Vc.region hG rfl ?_ ?_
    · show inRange i _
      exact mkRange hI hl
    refine Vc.seq ?_
    refine Vc.region hG rfl ?_ ?_
    · trivial
    refine Vc.seq ?_
    refine Vc.region hG rfl ?_ ?_
    · show inRange i _
      simp only [List.length_set]
      exact mkRange hI hl
    refine Vc.seq ?_
    refine Vc.region hG rfl ?_ ?_
    · trivial
    refine Vc.seq ?_
    refine Vc.region hG rfl ?_ ?_
    · show inRange i _
      simp only [List.length_set]
      exact mkRange hI hl
    refine Vc.seq ?_
    refine Vc.region hG rfl ?_ ?_
    · trivial
    refine Vc.seq ?_
    refine Vc.region hG rfl ?_ ?_
    · show inRange i _
      simp only [List.length_set]
      exact mkRange hI hl
    refine Vc.region hG rfl ?_ ?_
    · trivial
    refine Vc.region hG rfl ?_ ?_
    · trivial
    refine ⟨rfl, ?_⟩
    refine mkStep hI hl hbv (dflt (.pair (.int .i64) (.pair (.int .i64) (.pair (.int .i64) (.int .i64))))) ?_ ?_
    · rw [hX]
      try simp only [List.length_set, List.set_set, getD_setS hln, hX, cntF_eq, Sh.ty, w0, w1, w2, w3]
      try rfl
    · rw [hX]
      show _ = k + (((1 + (1 + (1 + 1))) : Nat) : Int)
      try simp only [List.length_set, List.set_set, getD_setS hln, hX, cntF_eq, Sh.ty, w0, w1, w2, w3]
      try omega
  · skip
    have hl : ¬ i < (List.length v : Int) := of_decide_eq_false h0
    refine Vc.exit ?_
    refine Vc.seq ?_
    refine Vc.region hG rfl ?_ ?_
    · trivial
    refine Vc.ret ?_
    have e := mkEnd hI hl
    refine ⟨?_, ?_, trivial⟩
    · show k = cntF (.slice (.pair (.int .i64) (.pair (.int .i64) (.pair (.int .i64) (.int .i64))))) a0 a1
      rw [cntF_eq]; exact e.1
    · exact e.2
@[reducible] noncomputable def M32 : MFun := mV (.pair (.own (.pure (.pair (.int .i64) (.pair (.int .i64) (.pair (.int .i64) (.pair (.int .i64) (.int .i64))))))) (.pair (.own (.pure (.pair (.int .i64) (.pair (.int .i64) (.int .i64))))) (.pair (.own (.pure (.pair (.int .i64) (.pair (.int .i64) (.pair (.int .i64) (.int .i64)))))) (.pure (.pair (.int .i64) (.int .i64))))))
set_option maxRecDepth 100000 in
/-- loop.example.g00597.laws.markFrame -/
theorem M32_ok : MeetsM Try.prog 32 M32 := by
  refine meetsM_of_vc (C := mkCM 18 [4] [0,1,2,4] [] [⟨45, _, M45_ok⟩, ⟨46, _, M46_ok⟩, ⟨88, _, M88_ok⟩] [0]) (mkCM_ok _ _ _ _ _ _) (fnOf_ok _) Try.func32 rfl rfl rfl (by decide) rfl rfl rfl rfl ?_
  rintro a0 (a1 : Int) hwf hin hpre ⟨P, C, B, X, w0, M0, pv⟩ hG rfl rfl
  show Vc _ _ [(0, ⟨0, 0, .c (.pair (.own (.pure (.pair (.int .i64) (.pair (.int .i64) (.pair (.int .i64) (.pair (.int .i64) (.int .i64))))))) (.pair (.own (.pure (.pair (.int .i64) (.pair (.int .i64) (.int .i64))))) (.pair (.own (.pure (.pair (.int .i64) (.pair (.int .i64) (.pair (.int .i64) (.int .i64)))))) (.pure (.pair (.int .i64) (.int .i64)))))) a0⟩), (1, ⟨0, 0, .c (.pure (.int .i64)) a1⟩)] _
  have hp0 : 0 ≤ a1 := hpre.1
  have hp1 : a1 + ((cellsV (.pair (.slice (.pair (.int .i64) (.pair (.int .i64) (.pair (.int .i64) (.pair (.int .i64) (.int .i64)))))) (.pair (.slice (.pair (.int .i64) (.pair (.int .i64) (.int .i64)))) (.pair (.slice (.pair (.int .i64) (.pair (.int .i64) (.pair (.int .i64) (.int .i64))))) (.pair (.int .i64) (.int .i64))))) a0 : Nat) : Int) ≤ bnd := hpre.2
  have hc : ((cellsV (.pair (.slice (.pair (.int .i64) (.pair (.int .i64) (.pair (.int .i64) (.pair (.int .i64) (.int .i64)))))) (.pair (.slice (.pair (.int .i64) (.pair (.int .i64) (.int .i64)))) (.pair (.slice (.pair (.int .i64) (.pair (.int .i64) (.pair (.int .i64) (.int .i64))))) (.pair (.int .i64) (.int .i64))))) a0 : Nat) : Int) = ((cellsC (.slice (.pair (.int .i64) (.pair (.int .i64) (.pair (.int .i64) (.pair (.int .i64) (.int .i64)))))) a0.1 : Nat) : Int) + ((cellsC (.slice (.pair (.int .i64) (.pair (.int .i64) (.int .i64)))) a0.2.1 : Nat) : Int) + ((cellsC (.slice (.pair (.int .i64) (.pair (.int .i64) (.pair (.int .i64) (.int .i64))))) a0.2.2.1 : Nat) : Int) := by
    show (((cellsC (.slice (.pair (.int .i64) (.pair (.int .i64) (.pair (.int .i64) (.pair (.int .i64) (.int .i64)))))) a0.1 + (cellsC (.slice (.pair (.int .i64) (.pair (.int .i64) (.int .i64)))) a0.2.1 + (cellsC (.slice (.pair (.int .i64) (.pair (.int .i64) (.pair (.int .i64) (.int .i64))))) a0.2.2.1 + (0 + 0)))) : Nat) : Int) = _
    omega
  refine Vc.seq ?_
  refine Vc.region hG rfl ?_ ?_
  · trivial
  refine Vc.seq ?_
  refine Vc.region hG rfl ?_ ?_
  · exact (show markPre (.slice (.pair (.int .i64) (.pair (.int .i64) (.pair (.int .i64) (.pair (.int .i64) (.int .i64)))))) a0.1 (a1) from ⟨by omega, by omega⟩)
  refine Vc.seq ?_
  refine Vc.region hG rfl ?_ ?_
  · have ce0 := cntF_eq (.slice (.pair (.int .i64) (.pair (.int .i64) (.pair (.int .i64) (.pair (.int .i64) (.int .i64)))))) a0.1 (a1)
    exact (show markPre (.slice (.pair (.int .i64) (.pair (.int .i64) (.int .i64)))) a0.2.1 (cntF (.slice (.pair (.int .i64) (.pair (.int .i64) (.pair (.int .i64) (.pair (.int .i64) (.int .i64)))))) a0.1 (a1)) from ⟨by omega, by omega⟩)
  refine Vc.seq ?_
  refine Vc.region hG rfl ?_ ?_
  · have ce0 := cntF_eq (.slice (.pair (.int .i64) (.pair (.int .i64) (.pair (.int .i64) (.pair (.int .i64) (.int .i64)))))) a0.1 (a1)
    have ce1 := cntF_eq (.slice (.pair (.int .i64) (.pair (.int .i64) (.int .i64)))) a0.2.1 (cntF (.slice (.pair (.int .i64) (.pair (.int .i64) (.pair (.int .i64) (.pair (.int .i64) (.int .i64)))))) a0.1 (a1))
    exact (show markPre (.slice (.pair (.int .i64) (.pair (.int .i64) (.pair (.int .i64) (.int .i64))))) a0.2.2.1 (cntF (.slice (.pair (.int .i64) (.pair (.int .i64) (.int .i64)))) a0.2.1 (cntF (.slice (.pair (.int .i64) (.pair (.int .i64) (.pair (.int .i64) (.pair (.int .i64) (.int .i64)))))) a0.1 (a1))) from ⟨by omega, by omega⟩)
  refine Vc.seq ?_
  refine Vc.region hG rfl ?_ ?_
  · trivial
  refine Vc.ret ?_
  have ce0 := cntF_eq (.slice (.pair (.int .i64) (.pair (.int .i64) (.pair (.int .i64) (.pair (.int .i64) (.int .i64)))))) a0.1 (a1)
  have ce1 := cntF_eq (.slice (.pair (.int .i64) (.pair (.int .i64) (.int .i64)))) a0.2.1 (cntF (.slice (.pair (.int .i64) (.pair (.int .i64) (.pair (.int .i64) (.pair (.int .i64) (.int .i64)))))) a0.1 (a1))
  have ce2 := cntF_eq (.slice (.pair (.int .i64) (.pair (.int .i64) (.pair (.int .i64) (.int .i64))))) a0.2.2.1 (cntF (.slice (.pair (.int .i64) (.pair (.int .i64) (.int .i64)))) a0.2.1 (cntF (.slice (.pair (.int .i64) (.pair (.int .i64) (.pair (.int .i64) (.pair (.int .i64) (.int .i64)))))) a0.1 (a1)))
  refine ⟨?_, ?_, trivial⟩
  · show cntF (.slice (.pair (.int .i64) (.pair (.int .i64) (.pair (.int .i64) (.int .i64))))) a0.2.2.1 (cntF (.slice (.pair (.int .i64) (.pair (.int .i64) (.int .i64)))) a0.2.1 (cntF (.slice (.pair (.int .i64) (.pair (.int .i64) (.pair (.int .i64) (.pair (.int .i64) (.int .i64)))))) a0.1 (a1))) = cntV (.pair (.slice (.pair (.int .i64) (.pair (.int .i64) (.pair (.int .i64) (.pair (.int .i64) (.int .i64)))))) (.pair (.slice (.pair (.int .i64) (.pair (.int .i64) (.int .i64)))) (.pair (.slice (.pair (.int .i64) (.pair (.int .i64) (.pair (.int .i64) (.int .i64))))) (.pair (.int .i64) (.int .i64))))) a0 a1
    rw [cntV_eq]
    omega
  · exact (Prod.ext (congrArg (markC (.slice (.pair (.int .i64) (.pair (.int .i64) (.pair (.int .i64) (.pair (.int .i64) (.int .i64)))))) a0.1) (show a1 = a1 from by omega)) (Prod.ext (congrArg (markC (.slice (.pair (.int .i64) (.pair (.int .i64) (.int .i64)))) a0.2.1) (show cntF (.slice (.pair (.int .i64) (.pair (.int .i64) (.pair (.int .i64) (.pair (.int .i64) (.int .i64)))))) a0.1 (a1) = a1 + ((cellsC (.slice (.pair (.int .i64) (.pair (.int .i64) (.pair (.int .i64) (.pair (.int .i64) (.int .i64)))))) a0.1 : Nat) : Int) from by omega)) (Prod.ext (congrArg (markC (.slice (.pair (.int .i64) (.pair (.int .i64) (.pair (.int .i64) (.int .i64))))) a0.2.2.1) (show cntF (.slice (.pair (.int .i64) (.pair (.int .i64) (.int .i64)))) a0.2.1 (cntF (.slice (.pair (.int .i64) (.pair (.int .i64) (.pair (.int .i64) (.pair (.int .i64) (.int .i64)))))) a0.1 (a1)) = a1 + ((cellsC (.slice (.pair (.int .i64) (.pair (.int .i64) (.pair (.int .i64) (.pair (.int .i64) (.int .i64)))))) a0.1 : Nat) : Int) + ((cellsC (.slice (.pair (.int .i64) (.pair (.int .i64) (.int .i64)))) a0.2.1 : Nat) : Int) from by omega)) (Prod.ext rfl rfl))))
@[reducible] noncomputable def M33 : MFun := mF (.own (.pure (.int .i64)))
set_option maxRecDepth 100000 in
set_option maxHeartbeats 2000000 in
/-- loop.example.g00597.laws.markIntS -/
theorem M33_ok : MeetsM Try.prog 33 M33 := by
  refine meetsM_of_vc (C := mkCM 19 [4] [0,1,4,5,9] [] [] [0]) (mkCM_ok _ _ _ _ _ _) (fnOf_ok _) Try.func33 rfl rfl rfl (by decide) rfl rfl rfl rfl ?_
  rintro a0 (a1 : Int) hwf hin hpre ⟨P, C, B, X, w0, M0, pv⟩ hG rfl rfl
  show Vc _ _ [(0, ⟨0, 0, .c (.own (.pure (.int .i64))) a0⟩), (1, ⟨0, 0, .c (.pure (.int .i64)) a1⟩)] _
  have hb : List.length a0 ≤ bigLen := hwf.1
  have hp0 : 0 ≤ a1 := hpre.1
  have hp1 : a1 + ((cellsL (cellsC (.int .i64)) a0 : Nat) : Int) ≤ bnd := hpre.2
  refine Vc.seq ?_
  refine Vc.region hG rfl ?_ ?_
  · trivial
  refine Vc.seq ?_
  refine Vc.seq ?_
  refine Vc.region hG rfl ?_ ?_
  · trivial
  refine Vc.block ?_
  -- slots [0, 1, 5]; frame [4]
  refine Vc.loopF [(0, false, .own (.pure (.int .i64))), (1, false, .pure (.int .i64)), (5, false, .pure (.int .i64))] [4] (fun v => mkInv (cellsC (.int .i64)) (markC (.int .i64)) a0 a1 v.1 v.2.1 v.2.2.1) (fun v => ((List.length v.1 : Int) - v.2.2.1).toNat) rfl ?_ ?_
  · exact mkStart
  rintro ⟨v, (k : Int), (i : Int), _⟩ hI
  have hI : mkInv (cellsC (.int .i64)) (markC (.int .i64)) a0 a1 v k i := hI
  have hbv : v.length ≤ bigLen := by rw [mkLen hI]; exact hb
  refine Vc.seq ?_
  refine Vc.seq ?_
  refine Vc.region hG rfl ?_ ?_
  · trivial
  refine Vc.cond rfl (fun h0 => ?_) (fun h0 => ?_)
  · skip
    have hl : i < (List.length v : Int) := of_decide_eq_true h0
    have hln : i.toNat < v.length := by have := hI.1; omega
    have hk := mkBound hI hl (dflt (.int .i64)) hp0 hp1
    generalize hX : List.getD v i.toNat (dflt (.int .i64)) = X at hk
    have hk : 0 ≤ k ∧ k + ((1 : Nat) : Int) ≤ bnd := hk
    have w0 : IntKind.i64.wrap (k + 1) = k + 1 := wrapB (by omega) (by omega)
    refine Vc.skip ?_
    refine Vc.seq ?_
    refine Vc.block ?_
    refine Vc.seq ?_
    refine Vc.region hG rfl ?_ ?_
    · show inRange i _
      exact mkRange hI hl
    refine Vc.region hG rfl ?_ ?_
    · trivial
    refine Vc.region hG rfl ?_ ?_
    · trivial
    refine ⟨rfl, ?_⟩
    refine mkStep hI hl hbv (dflt (.int .i64)) ?_ ?_
    · rw [hX]
      try simp only [List.length_set, List.set_set, getD_setS hln, hX, cntF_eq, Sh.ty, w0]
      try rfl
    · rw [hX]
      show _ = k + ((1 : Nat) : Int)
      try simp only [List.length_set, List.set_set, getD_setS hln, hX, cntF_eq, Sh.ty, w0]
      try omega
  · skip
    have hl : ¬ i < (List.length v : Int) := of_decide_eq_false h0
    refine Vc.exit ?_
    refine Vc.seq ?_
    refine Vc.region hG rfl ?_ ?_
    · trivial
    refine Vc.ret ?_
    have e := mkEnd hI hl
    refine ⟨?_, ?_, trivial⟩
    · show k = cntF (.slice (.int .i64)) a0 a1
      rw [cntF_eq]; exact e.1
    · exact e.2
noncomputable def F34 : Fun := ⟨[.slice (.int .i64), .int .i64], [.pure (.int .i64)], fun x => (fun a0 a1 => markPre (.slice (.int .i64)) a0 a1) x.1 x.2.1, fun x => ((fun a0 a1 => heldF (.slice (.int .i64)) a0 a1) x.1 x.2.1, ())⟩
set_option maxRecDepth 100000 in
/-- loop.example.g00597.laws.heldIntS -/
theorem F34_ok : Meets Try.prog 34 F34 := by
  refine meets_of_vc (C := mkC 21 [4] [0,1,4,5,9,17] []) (mkC_ok _ _ _ _) (fnOf_ok _) Try.func34 rfl rfl rfl (by decide) rfl ?_
  rintro ⟨a0, (a1 : Int), _⟩ hwf hpre ⟨P, C, B, X, w0, M0, pv⟩ hG rfl rfl
  show Vc _ _ [(0, ⟨0, 0, .c (.pure (.slice (.int .i64))) a0⟩), (1, ⟨0, 0, .c (.pure (.int .i64)) a1⟩)] _
  have hb : List.length a0 ≤ bigLen := hwf.1.1
  have hp0 : 0 ≤ a1 := hpre.1
  have hp1 : a1 + ((cellsL (cellsC (.int .i64)) a0 : Nat) : Int) ≤ bnd := hpre.2
  refine Vc.seq ?_
  refine Vc.region hG rfl ?_ ?_
  · trivial
  refine Vc.seq ?_
  refine Vc.seq ?_
  refine Vc.region hG rfl ?_ ?_
  · trivial
  refine Vc.block ?_
  -- slots [1, 5]; frame [0]
  refine Vc.loopF [(1, false, .pure (.int .i64)), (5, false, .pure (.int .i64))] [0] (fun v => hdInv (cellsC (.int .i64)) (okC (.int .i64)) a0 a1 v.1 v.2.1) (fun v => ((List.length a0 : Int) - v.2.1).toNat) rfl ?_ ?_
  · exact hdStart
  rintro ⟨(k : Int), (i : Int), _⟩ hI
  have hI : hdInv (cellsC (.int .i64)) (okC (.int .i64)) a0 a1 k i := hI
  refine Vc.seq ?_
  refine Vc.seq ?_
  refine Vc.region hG rfl ?_ ?_
  · trivial
  refine Vc.cond rfl (fun h0 => ?_) (fun h0 => ?_)
  · skip
    have hl : i < (List.length a0 : Int) := of_decide_eq_true h0
    have hk := hdBound hI hl (dflt (.int .i64)) hp0 hp1
    generalize hX : List.getD a0 i.toNat (dflt (.int .i64)) = X at hk
    have hk : 0 ≤ k ∧ k + ((1 : Nat) : Int) ≤ bnd := hk
    have w0 : IntKind.i64.wrap (k + 1) = k + 1 := wrapB (by omega) (by omega)
    refine Vc.skip ?_
    refine Vc.seq ?_
    refine Vc.block ?_
    refine Vc.seq ?_
    refine Vc.seq ?_
    refine Vc.region hG rfl ?_ ?_
    · exact hdRange hI hl
    refine Vc.cond rfl (fun h1 => ?_) (fun h1 => ?_)
    · skip
      have g1 : okC (.int .i64) X (k) = false := by
        have h := h1
        try simp only [hX, w0] at h
        exact ok_ne h
      refine Vc.seq ?_
      refine Vc.region hG rfl ?_ ?_
      · trivial
      refine Vc.ret ?_
      refine ⟨?_, trivial⟩
      refine hdNo hI hl (dflt (.int .i64)) ?_
      rw [hX]
      show okC (.int .i64) X (k) = false
      simp only [g1, Bool.and_false, Bool.false_and, Bool.and_true, Bool.true_and]
    · skip
      have g1 : okC (.int .i64) X (k) = true := by
        have h := h1
        try simp only [hX, w0] at h
        exact ok_eq h
      refine Vc.skip ?_
      refine Vc.region hG rfl ?_ ?_
      · trivial
      refine Vc.region hG rfl ?_ ?_
      · trivial
      refine ⟨rfl, ?_⟩
      refine hdStep hI hl hb (dflt (.int .i64)) ?_ ?_
      · rw [hX]
        show okC (.int .i64) X (k) = true
        simp only [g1, Bool.and_true]
      · rw [hX]
        show _ = k + ((1 : Nat) : Int)
        try simp only [hX, w0]
        omega
  · skip
    have hl : ¬ i < (List.length a0 : Int) := of_decide_eq_false h0
    refine Vc.exit ?_
    refine Vc.seq ?_
    refine Vc.region hG rfl ?_ ?_
    · trivial
    refine Vc.ret ?_
    refine ⟨?_, trivial⟩
    exact hdEnd hI hl
noncomputable def F5 : Fun := ⟨[.pair (.slice (.pair (.int .i64) (.pair (.int .i64) (.pair (.int .i64) (.pair (.int .i64) (.int .i64)))))) (.pair (.slice (.pair (.int .i64) (.pair (.int .i64) (.int .i64)))) (.pair (.slice (.pair (.int .i64) (.pair (.int .i64) (.pair (.int .i64) (.int .i64))))) (.pair (.int .i64) (.int .i64))))], [.pure (.bool)], fun _ => True, fun x => ((fun _ => true) x.1, ())⟩
set_option maxRecDepth 100000 in
set_option maxHeartbeats 2000000 in
/-- loop.example.g00597.laws.FnExactPlanAuthorities -/
theorem F5_ok : Meets Try.prog 5 F5 := by
  refine meets_of_vc (C := mkCM 69 [2] [0,1,2,3,4,5,6,7,8,9,10,15,26,31,42,50,53,60,65,68] [⟨26, _, F26_ok⟩, ⟨28, _, F28_ok⟩, ⟨27, _, F27_ok⟩, ⟨29, _, F29_ok⟩, ⟨30, _, F30_ok⟩, ⟨31, _, F31_ok⟩, ⟨34, _, F34_ok⟩] [⟨32, _, M32_ok⟩, ⟨33, _, M33_ok⟩] []) (mkCM_ok _ _ _ _ _ _) (fnOf_ok _) Try.func5 rfl rfl rfl (by decide) rfl ?_
  rintro ⟨a0, _⟩ hwf hpre ⟨P, C, B, X, w0, M0, pv⟩ hG rfl rfl
  show Vc _ _ [(0, ⟨0, 0, .c (.pure (.pair (.slice (.pair (.int .i64) (.pair (.int .i64) (.pair (.int .i64) (.pair (.int .i64) (.int .i64)))))) (.pair (.slice (.pair (.int .i64) (.pair (.int .i64) (.int .i64)))) (.pair (.slice (.pair (.int .i64) (.pair (.int .i64) (.pair (.int .i64) (.int .i64))))) (.pair (.int .i64) (.int .i64)))))) a0⟩)] _
  have q0 : (0 : Int) ≤ 1048576 ∧ (1048576 : Int) ≤ (big20 : Int) := by decide
  refine Vc.seq ?_
  refine Vc.region hG rfl ?_ ?_
  · trivial
  refine Vc.seq ?_
  refine Vc.region hG rfl ?_ ?_
  · trivial
  refine Vc.seq ?_
  refine Vc.region hG rfl ?_ ?_
  · exact (show (0 : Int) ≤ 1048576 ∧ 1048576 ≤ (big20 : Int) from ⟨by omega, by omega⟩)
  refine Vc.seq ?_
  refine Vc.seq ?_
  refine Vc.region hG rfl ?_ ?_
  · trivial
  refine Vc.cond rfl (fun h0 => ?_) (fun h0 => ?_)
  · skip
    refine Vc.seq ?_
    refine Vc.region hG rfl ?_ ?_
    · trivial
    refine Vc.ret ?_
    refine ⟨?_, trivial⟩
    all_goals exact rfl
  · skip
    have g0 : ¬ szF (.pair (.slice (.pair (.int .i64) (.pair (.int .i64) (.pair (.int .i64) (.pair (.int .i64) (.int .i64)))))) (.pair (.slice (.pair (.int .i64) (.pair (.int .i64) (.int .i64)))) (.pair (.slice (.pair (.int .i64) (.pair (.int .i64) (.pair (.int .i64) (.int .i64))))) (.pair (.int .i64) (.int .i64))))) a0 (1048576) < 0 := of_decide_eq_false h0
    have k0 := szF_le (.pair (.slice (.pair (.int .i64) (.pair (.int .i64) (.pair (.int .i64) (.pair (.int .i64) (.int .i64)))))) (.pair (.slice (.pair (.int .i64) (.pair (.int .i64) (.int .i64)))) (.pair (.slice (.pair (.int .i64) (.pair (.int .i64) (.pair (.int .i64) (.int .i64))))) (.pair (.int .i64) (.int .i64))))) a0 (1048576)
    have hs0 : Sm big20 (.pair (.slice (.pair (.int .i64) (.pair (.int .i64) (.pair (.int .i64) (.pair (.int .i64) (.int .i64)))))) (.pair (.slice (.pair (.int .i64) (.pair (.int .i64) (.int .i64)))) (.pair (.slice (.pair (.int .i64) (.pair (.int .i64) (.pair (.int .i64) (.int .i64))))) (.pair (.int .i64) (.int .i64))))) a0 := szF_sm (n := big20) (.pair (.slice (.pair (.int .i64) (.pair (.int .i64) (.pair (.int .i64) (.pair (.int .i64) (.int .i64)))))) (.pair (.slice (.pair (.int .i64) (.pair (.int .i64) (.int .i64)))) (.pair (.slice (.pair (.int .i64) (.pair (.int .i64) (.pair (.int .i64) (.int .i64))))) (.pair (.int .i64) (.int .i64))))) a0 (1048576) (by omega) (by omega)
    have cz0 := cellsLe (.pair (.slice (.pair (.int .i64) (.pair (.int .i64) (.pair (.int .i64) (.pair (.int .i64) (.int .i64)))))) (.pair (.slice (.pair (.int .i64) (.pair (.int .i64) (.int .i64)))) (.pair (.slice (.pair (.int .i64) (.pair (.int .i64) (.pair (.int .i64) (.int .i64))))) (.pair (.int .i64) (.int .i64))))) a0 (1048576) (by omega) (by omega) (by decide)
    have cv0 := cellsV_le (.pair (.slice (.pair (.int .i64) (.pair (.int .i64) (.pair (.int .i64) (.pair (.int .i64) (.int .i64)))))) (.pair (.slice (.pair (.int .i64) (.pair (.int .i64) (.int .i64)))) (.pair (.slice (.pair (.int .i64) (.pair (.int .i64) (.pair (.int .i64) (.int .i64))))) (.pair (.int .i64) (.int .i64))))) a0
    refine Vc.skip ?_
    refine Vc.seq ?_
    refine Vc.region hG rfl ?_ ?_
    · exact ⟨hs0, (show List.length a0.2.1 ≤ 1048576 from hs0.2.1.1)⟩
    refine Vc.seq ?_
    refine Vc.region hG rfl ?_ ?_
    · exact hs0
    refine Vc.seq ?_
    refine Vc.region hG rfl ?_ ?_
    · exact (show List.length a0.2.1 ≤ 1048576 from hs0.2.1.1)
    refine Vc.seq ?_
    refine Vc.seq ?_
    refine Vc.region hG rfl ?_ ?_
    · exact trivial
    refine Vc.cond rfl (fun h1 => ?_) (fun h1 => ?_)
    · skip
      exact (ne_selfC h1).elim
    · skip
      have cr0 := cellsBig (.int .i64) (planF a0) rfl (by decide) (planBig (show List.length a0.2.1 ≤ 1048576 from hs0.2.1.1))
      refine Vc.skip ?_
      refine Vc.seq ?_
      refine Vc.seq ?_
      refine Vc.regionD mixed hG rfl (by kernel_rfl) ?_ ?_
      · exact ⟨hs0, trivial⟩
      refine Vc.cond rfl (fun h2 => ?_) (fun h2 => ?_)
      · skip
        exact (ne_selfC h2).elim
      · skip
        refine Vc.skip ?_
        refine Vc.seq ?_
        refine Vc.region hG rfl ?_ ?_
        · trivial
        refine Vc.seq ?_
        refine Vc.region hG rfl ?_ ?_
        · have ce0 := cntV_eq (.pair (.slice (.pair (.int .i64) (.pair (.int .i64) (.pair (.int .i64) (.pair (.int .i64) (.int .i64)))))) (.pair (.slice (.pair (.int .i64) (.pair (.int .i64) (.int .i64)))) (.pair (.slice (.pair (.int .i64) (.pair (.int .i64) (.pair (.int .i64) (.int .i64))))) (.pair (.int .i64) (.int .i64))))) a0 (1)
          exact (show markPreV (.pair (.slice (.pair (.int .i64) (.pair (.int .i64) (.pair (.int .i64) (.pair (.int .i64) (.int .i64)))))) (.pair (.slice (.pair (.int .i64) (.pair (.int .i64) (.int .i64)))) (.pair (.slice (.pair (.int .i64) (.pair (.int .i64) (.pair (.int .i64) (.int .i64))))) (.pair (.int .i64) (.int .i64))))) a0 (1) from ⟨by first | omega | (unfold bnd; omega), by first | omega | (unfold bnd; omega)⟩)
        refine Vc.seq ?_
        refine Vc.seq ?_
        refine Vc.region hG rfl ?_ ?_
        · repeat' (first | exact trivial | exact hs0 | exact hs1 | refine And.intro ?_ ?_ | intro _)
        refine Vc.cond rfl (fun h3 => ?_) (fun h3 => ?_)
        · skip
          have ce0 := cntV_eq (.pair (.slice (.pair (.int .i64) (.pair (.int .i64) (.pair (.int .i64) (.pair (.int .i64) (.int .i64)))))) (.pair (.slice (.pair (.int .i64) (.pair (.int .i64) (.int .i64)))) (.pair (.slice (.pair (.int .i64) (.pair (.int .i64) (.pair (.int .i64) (.int .i64))))) (.pair (.int .i64) (.int .i64))))) a0 (1)
          exact (orNe (K := cntV (.pair (.slice (.pair (.int .i64) (.pair (.int .i64) (.pair (.int .i64) (.pair (.int .i64) (.int .i64)))))) (.pair (.slice (.pair (.int .i64) (.pair (.int .i64) (.int .i64)))) (.pair (.slice (.pair (.int .i64) (.pair (.int .i64) (.pair (.int .i64) (.int .i64))))) (.pair (.int .i64) (.int .i64))))) a0 (1)) (by first | omega | (unfold bnd; omega)) h3).elim
        · skip
          refine Vc.skip ?_
          refine Vc.seq ?_
          refine Vc.region hG rfl ?_ ?_
          · trivial
          refine Vc.seq ?_
          refine Vc.region hG rfl ?_ ?_
          · have ce0 := cntV_eq (.pair (.slice (.pair (.int .i64) (.pair (.int .i64) (.pair (.int .i64) (.pair (.int .i64) (.int .i64)))))) (.pair (.slice (.pair (.int .i64) (.pair (.int .i64) (.int .i64)))) (.pair (.slice (.pair (.int .i64) (.pair (.int .i64) (.pair (.int .i64) (.int .i64))))) (.pair (.int .i64) (.int .i64))))) a0 (1)
            have ce1 := cntF_eq (.slice (.int .i64)) (planF a0) (1)
            exact (show markPre (.slice (.int .i64)) (planF a0) (1) from ⟨by first | omega | (unfold bnd; omega), by first | omega | (unfold bnd; omega)⟩)
          refine Vc.seq ?_
          refine Vc.region hG rfl ?_ ?_
          · trivial
          refine Vc.seq ?_
          refine Vc.region hG rfl ?_ ?_
          · have ce0 := cntV_eq (.pair (.slice (.pair (.int .i64) (.pair (.int .i64) (.pair (.int .i64) (.pair (.int .i64) (.int .i64)))))) (.pair (.slice (.pair (.int .i64) (.pair (.int .i64) (.int .i64)))) (.pair (.slice (.pair (.int .i64) (.pair (.int .i64) (.pair (.int .i64) (.int .i64))))) (.pair (.int .i64) (.int .i64))))) a0 (1)
            have ce1 := cntF_eq (.slice (.int .i64)) (planF a0) (1)
            exact (show markPre (.slice (.int .i64)) (markC (.slice (.int .i64)) (planF a0) (1)) (1) from ⟨by first | omega | (unfold bnd; omega), by rw [cells_mark]; first | omega | (unfold bnd; omega)⟩)
          refine Vc.seq ?_
          refine Vc.seq ?_
          refine Vc.region hG rfl ?_ ?_
          · trivial
          refine Vc.cond rfl (fun h4 => ?_) (fun h4 => ?_)
          · skip
            have ce0 := cntV_eq (.pair (.slice (.pair (.int .i64) (.pair (.int .i64) (.pair (.int .i64) (.pair (.int .i64) (.int .i64)))))) (.pair (.slice (.pair (.int .i64) (.pair (.int .i64) (.int .i64)))) (.pair (.slice (.pair (.int .i64) (.pair (.int .i64) (.pair (.int .i64) (.int .i64))))) (.pair (.int .i64) (.int .i64))))) a0 (1)
            have ce1 := cntF_eq (.slice (.int .i64)) (planF a0) (1)
            exact (heldLt (t := .slice (.int .i64)) (x := (planF a0)) (n := 1) (by first | omega | (unfold bnd; omega)) (of_decide_eq_true h4)).elim
          · skip
            refine Vc.skip ?_
            refine Vc.seq ?_
            refine Vc.seq ?_
            refine Vc.region hG rfl ?_ ?_
            · trivial
            refine Vc.cond rfl (fun h5 => ?_) (fun h5 => ?_)
            · skip
              exact (heldNe (t := .slice (.int .i64)) (x := (planF a0)) (n := 1) h5).elim
            · skip
              refine Vc.skip ?_
              refine Vc.seq ?_
              refine Vc.region hG rfl ?_ ?_
              · have ce0 := cntV_eq (.pair (.slice (.pair (.int .i64) (.pair (.int .i64) (.pair (.int .i64) (.pair (.int .i64) (.int .i64)))))) (.pair (.slice (.pair (.int .i64) (.pair (.int .i64) (.int .i64)))) (.pair (.slice (.pair (.int .i64) (.pair (.int .i64) (.pair (.int .i64) (.int .i64))))) (.pair (.int .i64) (.int .i64))))) a0 (1)
                have ce1 := cntF_eq (.slice (.int .i64)) (planF a0) (1)
                exact ⟨hs0, (show List.length a0.2.1 ≤ 1048576 from hs0.2.1.1)⟩
              refine Vc.seq ?_
              refine Vc.seq ?_
              refine Vc.region hG rfl ?_ ?_
              · have ce0 := cntV_eq (.pair (.slice (.pair (.int .i64) (.pair (.int .i64) (.pair (.int .i64) (.pair (.int .i64) (.int .i64)))))) (.pair (.slice (.pair (.int .i64) (.pair (.int .i64) (.int .i64)))) (.pair (.slice (.pair (.int .i64) (.pair (.int .i64) (.pair (.int .i64) (.int .i64))))) (.pair (.int .i64) (.int .i64))))) a0 (1)
                have ce1 := cntF_eq (.slice (.int .i64)) (planF a0) (1)
                exact trivial
              refine Vc.cond rfl (fun h6 => ?_) (fun h6 => ?_)
              · skip
                exact (ne_selfC h6).elim
              · skip
                refine Vc.skip ?_
                refine Vc.seq ?_
                refine Vc.region hG rfl ?_ ?_
                · trivial
                refine Vc.seq ?_
                refine Vc.region hG rfl ?_ ?_
                · have ce0 := cntV_eq (.pair (.slice (.pair (.int .i64) (.pair (.int .i64) (.pair (.int .i64) (.pair (.int .i64) (.int .i64)))))) (.pair (.slice (.pair (.int .i64) (.pair (.int .i64) (.int .i64)))) (.pair (.slice (.pair (.int .i64) (.pair (.int .i64) (.pair (.int .i64) (.int .i64))))) (.pair (.int .i64) (.int .i64))))) a0 (1)
                  have ce1 := cntF_eq (.slice (.int .i64)) (planF a0) (1)
                  exact (show markPre (.slice (.int .i64)) (markC (.slice (.int .i64)) (planF a0) (1)) (1) from ⟨by first | omega | (unfold bnd; omega), by rw [cells_mark]; first | omega | (unfold bnd; omega)⟩)
                refine Vc.seq ?_
                refine Vc.seq ?_
                refine Vc.region hG rfl ?_ ?_
                · trivial
                refine Vc.cond rfl (fun h7 => ?_) (fun h7 => ?_)
                · skip
                  have ce0 := cntV_eq (.pair (.slice (.pair (.int .i64) (.pair (.int .i64) (.pair (.int .i64) (.pair (.int .i64) (.int .i64)))))) (.pair (.slice (.pair (.int .i64) (.pair (.int .i64) (.int .i64)))) (.pair (.slice (.pair (.int .i64) (.pair (.int .i64) (.pair (.int .i64) (.int .i64))))) (.pair (.int .i64) (.int .i64))))) a0 (1)
                  have ce1 := cntF_eq (.slice (.int .i64)) (planF a0) (1)
                  exact (heldLt (t := .slice (.int .i64)) (x := (planF a0)) (n := 1) (by first | omega | (unfold bnd; omega)) (of_decide_eq_true h7)).elim
                · skip
                  refine Vc.skip ?_
                  refine Vc.seq ?_
                  refine Vc.seq ?_
                  refine Vc.region hG rfl ?_ ?_
                  · trivial
                  refine Vc.cond rfl (fun h8 => ?_) (fun h8 => ?_)
                  · skip
                    exact (heldNe (t := .slice (.int .i64)) (x := (planF a0)) (n := 1) h8).elim
                  · skip
                    refine Vc.skip ?_
                    refine Vc.seq ?_
                    refine Vc.region hG rfl ?_ ?_
                    · trivial
                    refine Vc.ret ?_
                    refine ⟨?_, trivial⟩
                    all_goals exact rfl
end Fw
