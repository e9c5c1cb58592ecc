/- Walks of functions of the program: what each computes. Conditions: those that each contract names. -/
import Derived.Test.YtnbpojalpdldnaaLawsP
import Derived.Test.YtnbpojalpdldnaaProg
namespace Fw
open Go Go.Proofs
set_option linter.unusedSimpArgs false
def tys : List (Nat × Ty) := [(2, .int .i64), (3, .int .i64), (4, .bool), (5, .int .u8), (6, .int .u8), (8, .pair (.int .i64) (.pair (.int .i64) (.pair (.bool) (.int .u8)))), (9, .str), (10, .str), (11, .str), (12, .int .u64), (14, .pair (.str) (.int .u64)), (21, .int .i32), (22, .slice (.pair (.int .i64) (.pair (.slice (.int .i64)) (.int .i64)))), (24, .slice (.pair (.int .i64) (.pair (.int .i64) (.pair (.int .i64) (.pair (.int .i64) (.pair (.int .i64) (.int .i64))))))), (26, .slice (.pair (.int .i64) (.pair (.slice (.int .i64)) (.int .i64)))), (34, .pair (.int .i64) (.pair (.int .i64) (.pair (.int .i64) (.pair (.int .i64) (.pair (.int .i64) (.pair (.int .i64) (.int .i64))))))), (35, .slice (.pair (.int .i64) (.pair (.int .i64) (.pair (.int .i64) (.pair (.int .i64) (.int .i64)))))), (37, .pair (.int .i64) (.pair (.int .i64) (.pair (.int .i64) (.pair (.int .i64) (.pair (.int .i64) (.pair (.int .i64) (.int .i64))))))), (42, .slice (.pair (.int .i64) (.pair (.int .i64) (.pair (.int .i64) (.pair (.int .i64) (.int .i64)))))), (43, .slice (.pair (.int .i64) (.pair (.int .i64) (.int .i64)))), (44, .slice (.pair (.int .i64) (.pair (.int .i64) (.pair (.int .i64) (.int .i64))))), (46, .pair (.slice (.pair (.int .i64) (.pair (.int .i64) (.pair (.int .i64) (.pair (.int .i64) (.int .i64)))))) (.pair (.slice (.pair (.int .i64) (.pair (.int .i64) (.int .i64)))) (.pair (.slice (.pair (.int .i64) (.pair (.int .i64) (.pair (.int .i64) (.int .i64))))) (.pair (.int .i64) (.int .i64))))), (48, .slice (.int .i64)), (50, .slice (.pair (.int .i64) (.pair (.int .i64) (.pair (.int .i64) (.pair (.int .i64) (.int .i64)))))), (51, .slice (.pair (.int .i64) (.pair (.int .i64) (.int .i64)))), (52, .slice (.pair (.int .i64) (.pair (.int .i64) (.pair (.int .i64) (.int .i64))))), (54, .pair (.slice (.pair (.int .i64) (.pair (.int .i64) (.pair (.int .i64) (.pair (.int .i64) (.int .i64)))))) (.pair (.slice (.pair (.int .i64) (.pair (.int .i64) (.int .i64)))) (.pair (.slice (.pair (.int .i64) (.pair (.int .i64) (.pair (.int .i64) (.int .i64))))) (.pair (.int .i64) (.int .i64))))), (63, .slice (.pair (.int .i64) (.pair (.int .i64) (.pair (.int .i64) (.pair (.int .i64) (.int .i64)))))), (75, .slice (.pair (.int .i64) (.pair (.int .i64) (.pair (.int .i64) (.pair (.int .i64) (.int .i64)))))), (80, .slice (.pair (.int .i64) (.bool))), (82, .pair (.int .i64) (.pair (.int .i64) (.pair (.int .i64) (.pair (.slice (.pair (.int .i64) (.bool))) (.slice (.pair (.int .i64) (.pair (.int .i64) (.pair (.int .i64) (.pair (.int .i64) (.int .i64)))))))))), (85, .slice (.pair (.int .i64) (.bool))), (87, .pair (.int .i64) (.pair (.int .i64) (.pair (.int .i64) (.pair (.slice (.pair (.int .i64) (.bool))) (.slice (.pair (.int .i64) (.pair (.int .i64) (.pair (.int .i64) (.pair (.int .i64) (.int .i64)))))))))), (91, .slice (.pair (.slice (.pair (.int .i64) (.pair (.slice (.int .i64)) (.int .i64)))) (.slice (.pair (.int .i64) (.pair (.int .i64) (.pair (.int .i64) (.pair (.slice (.pair (.int .i64) (.bool))) (.slice (.pair (.int .i64) (.pair (.int .i64) (.pair (.int .i64) (.pair (.int .i64) (.int .i64))))))))))))), (92, .slice (.slice (.pair (.int .i64) (.pair (.int .i64) (.pair (.int .i64) (.pair (.int .i64) (.int .i64))))))), (94, .pair (.slice (.pair (.slice (.pair (.int .i64) (.pair (.slice (.int .i64)) (.int .i64)))) (.slice (.pair (.int .i64) (.pair (.int .i64) (.pair (.int .i64) (.pair (.slice (.pair (.int .i64) (.bool))) (.slice (.pair (.int .i64) (.pair (.int .i64) (.pair (.int .i64) (.pair (.int .i64) (.int .i64))))))))))))) (.slice (.slice (.pair (.int .i64) (.pair (.int .i64) (.pair (.int .i64) (.pair (.int .i64) (.int .i64)))))))), (97, .slice (.pair (.slice (.pair (.int .i64) (.pair (.slice (.int .i64)) (.int .i64)))) (.slice (.pair (.int .i64) (.pair (.int .i64) (.pair (.int .i64) (.pair (.slice (.pair (.int .i64) (.bool))) (.slice (.pair (.int .i64) (.pair (.int .i64) (.pair (.int .i64) (.pair (.int .i64) (.int .i64))))))))))))), (98, .slice (.slice (.pair (.int .i64) (.pair (.int .i64) (.pair (.int .i64) (.pair (.int .i64) (.int .i64))))))), (100, .pair (.slice (.pair (.slice (.pair (.int .i64) (.pair (.slice (.int .i64)) (.int .i64)))) (.slice (.pair (.int .i64) (.pair (.int .i64) (.pair (.int .i64) (.pair (.slice (.pair (.int .i64) (.bool))) (.slice (.pair (.int .i64) (.pair (.int .i64) (.pair (.int .i64) (.pair (.int .i64) (.int .i64))))))))))))) (.slice (.slice (.pair (.int .i64) (.pair (.int .i64) (.pair (.int .i64) (.pair (.int .i64) (.int .i64)))))))), (105, .slice (.str)), (107, .pair (.int .i64) (.pair (.slice (.str)) (.slice (.int .i64)))), (109, .pair (.int .i64) (.pair (.int .i64) (.pair (.int .i64) (.pair (.int .i64) (.pair (.int .i64) (.pair (.int .i64) (.pair (.int .i64) (.pair (.int .i64) (.int .i64))))))))), (110, .slice (.pair (.int .i64) (.pair (.int .i64) (.pair (.int .i64) (.pair (.slice (.pair (.int .i64) (.bool))) (.slice (.pair (.int .i64) (.pair (.int .i64) (.pair (.int .i64) (.pair (.int .i64) (.int .i64))))))))))), (112, .pair (.slice (.pair (.int .i64) (.pair (.slice (.int .i64)) (.int .i64)))) (.slice (.pair (.int .i64) (.pair (.int .i64) (.pair (.int .i64) (.pair (.slice (.pair (.int .i64) (.bool))) (.slice (.pair (.int .i64) (.pair (.int .i64) (.pair (.int .i64) (.pair (.int .i64) (.int .i64)))))))))))), (114, .pair (.int .i64) (.pair (.int .i64) (.pair (.pair (.int .i64) (.pair (.slice (.str)) (.slice (.int .i64)))) (.pair (.pair (.int .i64) (.pair (.int .i64) (.pair (.int .i64) (.pair (.int .i64) (.pair (.int .i64) (.pair (.int .i64) (.pair (.int .i64) (.pair (.int .i64) (.int .i64))))))))) (.pair (.slice (.pair (.int .i64) (.pair (.slice (.int .i64)) (.int .i64)))) (.slice (.pair (.int .i64) (.pair (.int .i64) (.pair (.int .i64) (.pair (.slice (.pair (.int .i64) (.bool))) (.slice (.pair (.int .i64) (.pair (.int .i64) (.pair (.int .i64) (.pair (.int .i64) (.int .i64)))))))))))))))), (117, .pair (.int .i64) (.pair (.slice (.str)) (.slice (.int .i64)))), (118, .pair (.int .i64) (.pair (.int .i64) (.pair (.int .i64) (.pair (.int .i64) (.pair (.int .i64) (.pair (.int .i64) (.pair (.int .i64) (.pair (.int .i64) (.int .i64))))))))), (119, .slice (.pair (.int .i64) (.pair (.int .i64) (.pair (.int .i64) (.pair (.slice (.pair (.int .i64) (.bool))) (.slice (.pair (.int .i64) (.pair (.int .i64) (.pair (.int .i64) (.pair (.int .i64) (.int .i64))))))))))), (121, .pair (.slice (.pair (.int .i64) (.pair (.slice (.int .i64)) (.int .i64)))) (.slice (.pair (.int .i64) (.pair (.int .i64) (.pair (.int .i64) (.pair (.slice (.pair (.int .i64) (.bool))) (.slice (.pair (.int .i64) (.pair (.int .i64) (.pair (.int .i64) (.pair (.int .i64) (.int .i64)))))))))))), (123, .pair (.int .i64) (.pair (.int .i64) (.pair (.pair (.int .i64) (.pair (.slice (.str)) (.slice (.int .i64)))) (.pair (.pair (.int .i64) (.pair (.int .i64) (.pair (.int .i64) (.pair (.int .i64) (.pair (.int .i64) (.pair (.int .i64) (.pair (.int .i64) (.pair (.int .i64) (.int .i64))))))))) (.pair (.slice (.pair (.int .i64) (.pair (.slice (.int .i64)) (.int .i64)))) (.slice (.pair (.int .i64) (.pair (.int .i64) (.pair (.int .i64) (.pair (.slice (.pair (.int .i64) (.bool))) (.slice (.pair (.int .i64) (.pair (.int .i64) (.pair (.int .i64) (.pair (.int .i64) (.int .i64)))))))))))))))), (130, .pair (.int .i64) (.pair (.slice (.int .i64)) (.int .i64))), (132, .pair (.int .i64) (.pair (.int .i64) (.pair (.int .i64) (.pair (.int .i64) (.pair (.int .i64) (.int .i64)))))), (135, .pair (.int .i64) (.pair (.slice (.int .i64)) (.int .i64))), (140, .pair (.int .i64) (.pair (.int .i64) (.pair (.int .i64) (.pair (.int .i64) (.int .i64))))), (146, .pair (.int .i64) (.pair (.int .i64) (.int .i64))), (148, .pair (.int .i64) (.pair (.int .i64) (.pair (.int .i64) (.pair (.int .i64) (.int .i64))))), (154, .pair (.int .i64) (.pair (.int .i64) (.pair (.int .i64) (.pair (.int .i64) (.int .i64))))), (158, .pair (.int .i64) (.pair (.int .i64) (.pair (.int .i64) (.pair (.int .i64) (.int .i64))))), (160, .pair (.int .i64) (.pair (.int .i64) (.int .i64))), (166, .pair (.int .i64) (.pair (.int .i64) (.pair (.int .i64) (.pair (.int .i64) (.int .i64))))), (167, .arr 100 (.bool)), (198, .pair (.int .i64) (.pair (.int .i64) (.pair (.int .i64) (.int .i64)))), (200, .pair (.int .i64) (.pair (.int .i64) (.pair (.int .i64) (.int .i64)))), (209, .pair (.int .i64) (.bool)), (211, .pair (.int .i64) (.bool)), (220, .arr 5 (.int .i64)), (225, .slice (.int .u8)), (233, .int .u32), (234, .int .u8), (235, .int .u8), (238, .int .i32), (239, .int .i32), (245, .pair (.int .i64) (.int .i64))]
def flds : List (Nat × List (Nat × Ty)) := [(8, [(0, .int .i64), (1, .int .i64), (2, .bool), (3, .int .u8)]), (14, [(0, .str), (1, .int .u64)]), (34, [(0, .int .i64), (1, .int .i64), (2, .int .i64), (3, .int .i64), (4, .int .i64), (5, .int .i64), (6, .int .i64)]), (37, [(0, .int .i64), (1, .int .i64), (2, .int .i64), (3, .int .i64), (4, .int .i64), (5, .int .i64), (6, .int .i64)]), (46, [(0, .slice (.pair (.int .i64) (.pair (.int .i64) (.pair (.int .i64) (.pair (.int .i64) (.int .i64)))))), (1, .slice (.pair (.int .i64) (.pair (.int .i64) (.int .i64)))), (2, .slice (.pair (.int .i64) (.pair (.int .i64) (.pair (.int .i64) (.int .i64))))), (3, .int .i64), (4, .int .i64)]), (54, [(0, .slice (.pair (.int .i64) (.pair (.int .i64) (.pair (.int .i64) (.pair (.int .i64) (.int .i64)))))), (1, .slice (.pair (.int .i64) (.pair (.int .i64) (.int .i64)))), (2, .slice (.pair (.int .i64) (.pair (.int .i64) (.pair (.int .i64) (.int .i64))))), (3, .int .i64), (4, .int .i64)]), (82, [(0, .int .i64), (1, .int .i64), (2, .int .i64), (3, .slice (.pair (.int .i64) (.bool))), (4, .slice (.pair (.int .i64) (.pair (.int .i64) (.pair (.int .i64) (.pair (.int .i64) (.int .i64))))))]), (87, [(0, .int .i64), (1, .int .i64), (2, .int .i64), (3, .slice (.pair (.int .i64) (.bool))), (4, .slice (.pair (.int .i64) (.pair (.int .i64) (.pair (.int .i64) (.pair (.int .i64) (.int .i64))))))]), (94, [(0, .slice (.pair (.slice (.pair (.int .i64) (.pair (.slice (.int .i64)) (.int .i64)))) (.slice (.pair (.int .i64) (.pair (.int .i64) (.pair (.int .i64) (.pair (.slice (.pair (.int .i64) (.bool))) (.slice (.pair (.int .i64) (.pair (.int .i64) (.pair (.int .i64) (.pair (.int .i64) (.int .i64))))))))))))), (1, .slice (.slice (.pair (.int .i64) (.pair (.int .i64) (.pair (.int .i64) (.pair (.int .i64) (.int .i64)))))))]), (100, [(0, .slice (.pair (.slice (.pair (.int .i64) (.pair (.slice (.int .i64)) (.int .i64)))) (.slice (.pair (.int .i64) (.pair (.int .i64) (.pair (.int .i64) (.pair (.slice (.pair (.int .i64) (.bool))) (.slice (.pair (.int .i64) (.pair (.int .i64) (.pair (.int .i64) (.pair (.int .i64) (.int .i64))))))))))))), (1, .slice (.slice (.pair (.int .i64) (.pair (.int .i64) (.pair (.int .i64) (.pair (.int .i64) (.int .i64)))))))]), (107, [(0, .int .i64), (1, .slice (.str)), (2, .slice (.int .i64))]), (109, [(0, .int .i64), (1, .int .i64), (2, .int .i64), (3, .int .i64), (4, .int .i64), (5, .int .i64), (6, .int .i64), (7, .int .i64), (8, .int .i64)]), (112, [(0, .slice (.pair (.int .i64) (.pair (.slice (.int .i64)) (.int .i64)))), (1, .slice (.pair (.int .i64) (.pair (.int .i64) (.pair (.int .i64) (.pair (.slice (.pair (.int .i64) (.bool))) (.slice (.pair (.int .i64) (.pair (.int .i64) (.pair (.int .i64) (.pair (.int .i64) (.int .i64)))))))))))]), (114, [(0, .int .i64), (1, .int .i64), (2, .pair (.int .i64) (.pair (.slice (.str)) (.slice (.int .i64)))), (5, .pair (.int .i64) (.pair (.int .i64) (.pair (.int .i64) (.pair (.int .i64) (.pair (.int .i64) (.pair (.int .i64) (.pair (.int .i64) (.pair (.int .i64) (.int .i64))))))))), (14, .pair (.slice (.pair (.int .i64) (.pair (.slice (.int .i64)) (.int .i64)))) (.slice (.pair (.int .i64) (.pair (.int .i64) (.pair (.int .i64) (.pair (.slice (.pair (.int .i64) (.bool))) (.slice (.pair (.int .i64) (.pair (.int .i64) (.pair (.int .i64) (.pair (.int .i64) (.int .i64))))))))))))]), (117, [(0, .int .i64), (1, .slice (.str)), (2, .slice (.int .i64))]), (118, [(0, .int .i64), (1, .int .i64), (2, .int .i64), (3, .int .i64), (4, .int .i64), (5, .int .i64), (6, .int .i64), (7, .int .i64), (8, .int .i64)]), (121, [(0, .slice (.pair (.int .i64) (.pair (.slice (.int .i64)) (.int .i64)))), (1, .slice (.pair (.int .i64) (.pair (.int .i64) (.pair (.int .i64) (.pair (.slice (.pair (.int .i64) (.bool))) (.slice (.pair (.int .i64) (.pair (.int .i64) (.pair (.int .i64) (.pair (.int .i64) (.int .i64)))))))))))]), (123, [(0, .int .i64), (1, .int .i64), (2, .pair (.int .i64) (.pair (.slice (.str)) (.slice (.int .i64)))), (5, .pair (.int .i64) (.pair (.int .i64) (.pair (.int .i64) (.pair (.int .i64) (.pair (.int .i64) (.pair (.int .i64) (.pair (.int .i64) (.pair (.int .i64) (.int .i64))))))))), (14, .pair (.slice (.pair (.int .i64) (.pair (.slice (.int .i64)) (.int .i64)))) (.slice (.pair (.int .i64) (.pair (.int .i64) (.pair (.int .i64) (.pair (.slice (.pair (.int .i64) (.bool))) (.slice (.pair (.int .i64) (.pair (.int .i64) (.pair (.int .i64) (.pair (.int .i64) (.int .i64))))))))))))]), (130, [(0, .int .i64), (1, .slice (.int .i64)), (2, .int .i64)]), (132, [(0, .int .i64), (1, .int .i64), (2, .int .i64), (3, .int .i64), (4, .int .i64), (5, .int .i64)]), (135, [(0, .int .i64), (1, .slice (.int .i64)), (2, .int .i64)]), (140, [(0, .int .i64), (1, .int .i64), (2, .int .i64), (3, .int .i64), (4, .int .i64)]), (146, [(0, .int .i64), (1, .int .i64), (2, .int .i64)]), (148, [(0, .int .i64), (1, .int .i64), (2, .int .i64), (3, .int .i64), (4, .int .i64)]), (154, [(0, .int .i64), (1, .int .i64), (2, .int .i64), (3, .int .i64), (4, .int .i64)]), (158, [(0, .int .i64), (1, .int .i64), (2, .int .i64), (3, .int .i64), (4, .int .i64)]), (160, [(0, .int .i64), (1, .int .i64), (2, .int .i64)]), (166, [(0, .int .i64), (1, .int .i64), (2, .int .i64), (3, .int .i64), (4, .int .i64)]), (198, [(0, .int .i64), (1, .int .i64), (2, .int .i64), (3, .int .i64)]), (200, [(0, .int .i64), (1, .int .i64), (2, .int .i64), (3, .int .i64)]), (209, [(0, .int .i64), (1, .bool)]), (211, [(0, .int .i64), (1, .bool)]), (245, [(0, .int .i64), (1, .int .i64)])]
def eqs : List Nat := [34, 37, 109, 118, 132, 140, 146, 148, 154, 158, 160, 166, 198, 200, 209, 211, 245]
set_option maxRecDepth 100000 in
theorem tys_ok : tysB Try.prog tys = true := by kernel_rfl
set_option maxRecDepth 100000 in
theorem flds_ok : allFldsB Try.prog flds = true := by kernel_rfl
set_option maxRecDepth 100000 in
theorem eqs_ok : eqsB Try.prog tys eqs = true := by kernel_rfl
theorem mixed : Try.prog.follows .mixedOrders = true := by kernel_rfl
noncomputable def mkC (n : Nat) (res keep : List Nat) (l : List (Known Try.prog)) : Ctx := ⟨n, tys, flds, res, keep, fnOf l, eqs, fun _ => none, []⟩
theorem mkC_ok (n : Nat) (res keep : List Nat) (l : List (Known Try.prog)) : CtxOk Try.prog (mkC n res keep l) := ctxOk tys_ok flds_ok eqs_ok (fun _ _ h => by cases h)
noncomputable def mkCM (n : Nat) (res keep : List Nat) (l : List (Known Try.prog)) (lm : List (KnownM Try.prog)) (pins : List Nat) : Ctx := ⟨n, tys, flds, res, keep, fnOf l, eqs, fnOfM lm, pins⟩
theorem mkCM_ok (n : Nat) (res keep : List Nat) (l : List (Known Try.prog)) (lm : List (KnownM Try.prog)) (pins : List Nat) : CtxOk Try.prog (mkCM n res keep l lm pins) := ctxOk tys_ok flds_ok eqs_ok (fnOfM_ok lm)
noncomputable def F35 : Fun := ⟨[.slice (.pair (.int .i64) (.pair (.int .i64) (.pair (.int .i64) (.pair (.int .i64) (.int .i64))))), .int .i64], [.pure (.int .i64)], fun x => szPre x.1 x.2.1, fun x => (szF (.slice (.pair (.int .i64) (.pair (.int .i64) (.pair (.int .i64) (.pair (.int .i64) (.int .i64)))))) x.1 x.2.1, ())⟩
set_option maxRecDepth 100000 in
/-- loop.example.g00597.laws.szKeyS -/
theorem F35_ok : Meets Try.prog 35 F35 := by
  refine meets_of_vc (C := mkC 12 [4] [0,1,4,10] []) (mkC_ok _ _ _ _) (fnOf_ok _) Try.func35 rfl rfl rfl (by decide) rfl ?_
  rintro ⟨a0, (a1 : Int), _⟩ hwf hpre ⟨P, C, B, X, w0, M0, pv⟩ hG rfl rfl
  show Vc _ _ [(0, ⟨0, 0, .c (.pure (.slice (.pair (.int .i64) (.pair (.int .i64) (.pair (.int .i64) (.pair (.int .i64) (.int .i64))))))) a0⟩), (1, ⟨0, 0, .c (.pure (.int .i64)) a1⟩)] _
  have q0 : (0 : Int) ≤ a1 ∧ a1 ≤ (big20 : Int) := hpre
  have hb : List.length a0 ≤ bigLen := hwf.1.1
  have hw : IntKind.i64.wrap (a1 - (List.length a0 : Int)) = a1 - (List.length a0 : Int) := subW hpre hb
  refine Vc.seq ?_
  refine Vc.region hG rfl ?_ ?_
  · trivial
  refine Vc.seq ?_
  refine Vc.region hG rfl ?_ ?_
  · trivial
  refine Vc.seq ?_
  refine Vc.seq ?_
  refine Vc.region hG rfl ?_ ?_
  · trivial
  refine Vc.cond rfl (fun h0 => ?_) (fun h0 => ?_)
  · skip
    have g0 : a1 - (List.length a0 : Int) < 0 := by rw [← hw]; exact of_decide_eq_true h0
    refine Vc.seq ?_
    refine Vc.region hG rfl ?_ ?_
    · trivial
    refine Vc.ret ?_
    refine ⟨?_, trivial⟩
    show (-1 : Int) = if a1 - (List.length a0 : Int) < 0 then -1 else szL (szF (.pair (.int .i64) (.pair (.int .i64) (.pair (.int .i64) (.pair (.int .i64) (.int .i64)))))) a0 (a1 - (List.length a0 : Int))
    rw [if_pos g0]
  · skip
    have g0 : ¬ a1 - (List.length a0 : Int) < 0 := by rw [← hw]; exact of_decide_eq_false h0
    refine Vc.skip ?_
    refine Vc.seq ?_
    refine Vc.region hG rfl ?_ ?_
    · trivial
    refine Vc.ret ?_
    refine ⟨?_, trivial⟩
    show IntKind.i64.wrap (a1 - (List.length a0 : Int)) = if a1 - (List.length a0 : Int) < 0 then -1 else szL (szF (.pair (.int .i64) (.pair (.int .i64) (.pair (.int .i64) (.pair (.int .i64) (.int .i64)))))) a0 (a1 - (List.length a0 : Int))
    rw [if_neg g0, hw, szL_id (fun x l hl => szF_id (.pair (.int .i64) (.pair (.int .i64) (.pair (.int .i64) (.pair (.int .i64) (.int .i64))))) rfl x l hl) a0 _ (show (0 : Int) ≤ a1 - (List.length a0 : Int) from by omega)]
noncomputable def F36 : Fun := ⟨[.slice (.pair (.int .i64) (.pair (.int .i64) (.int .i64))), .int .i64], [.pure (.int .i64)], fun x => szPre x.1 x.2.1, fun x => (szF (.slice (.pair (.int .i64) (.pair (.int .i64) (.int .i64)))) x.1 x.2.1, ())⟩
set_option maxRecDepth 100000 in
/-- loop.example.g00597.laws.szAuthorityS -/
theorem F36_ok : Meets Try.prog 36 F36 := by
  refine meets_of_vc (C := mkC 12 [4] [0,1,4,10] []) (mkC_ok _ _ _ _) (fnOf_ok _) Try.func36 rfl rfl rfl (by decide) rfl ?_
  rintro ⟨a0, (a1 : Int), _⟩ hwf hpre ⟨P, C, B, X, w0, M0, pv⟩ hG rfl rfl
  show Vc _ _ [(0, ⟨0, 0, .c (.pure (.slice (.pair (.int .i64) (.pair (.int .i64) (.int .i64))))) a0⟩), (1, ⟨0, 0, .c (.pure (.int .i64)) a1⟩)] _
  have q0 : (0 : Int) ≤ a1 ∧ a1 ≤ (big20 : Int) := hpre
  have hb : List.length a0 ≤ bigLen := hwf.1.1
  have hw : IntKind.i64.wrap (a1 - (List.length a0 : Int)) = a1 - (List.length a0 : Int) := subW hpre hb
  refine Vc.seq ?_
  refine Vc.region hG rfl ?_ ?_
  · trivial
  refine Vc.seq ?_
  refine Vc.region hG rfl ?_ ?_
  · trivial
  refine Vc.seq ?_
  refine Vc.seq ?_
  refine Vc.region hG rfl ?_ ?_
  · trivial
  refine Vc.cond rfl (fun h0 => ?_) (fun h0 => ?_)
  · skip
    have g0 : a1 - (List.length a0 : Int) < 0 := by rw [← hw]; exact of_decide_eq_true h0
    refine Vc.seq ?_
    refine Vc.region hG rfl ?_ ?_
    · trivial
    refine Vc.ret ?_
    refine ⟨?_, trivial⟩
    show (-1 : Int) = if a1 - (List.length a0 : Int) < 0 then -1 else szL (szF (.pair (.int .i64) (.pair (.int .i64) (.int .i64)))) a0 (a1 - (List.length a0 : Int))
    rw [if_pos g0]
  · skip
    have g0 : ¬ a1 - (List.length a0 : Int) < 0 := by rw [← hw]; exact of_decide_eq_false h0
    refine Vc.skip ?_
    refine Vc.seq ?_
    refine Vc.region hG rfl ?_ ?_
    · trivial
    refine Vc.ret ?_
    refine ⟨?_, trivial⟩
    show IntKind.i64.wrap (a1 - (List.length a0 : Int)) = if a1 - (List.length a0 : Int) < 0 then -1 else szL (szF (.pair (.int .i64) (.pair (.int .i64) (.int .i64)))) a0 (a1 - (List.length a0 : Int))
    rw [if_neg g0, hw, szL_id (fun x l hl => szF_id (.pair (.int .i64) (.pair (.int .i64) (.int .i64))) rfl x l hl) a0 _ (show (0 : Int) ≤ a1 - (List.length a0 : Int) from by omega)]
noncomputable def F90 : Fun := ⟨[.pair (.int .i64) (.pair (.int .i64) (.pair (.int .i64) (.pair (.int .i64) (.int .i64))))], [.pure (.pair (.int .i64) (.pair (.int .i64) (.pair (.int .i64) (.pair (.int .i64) (.int .i64)))))], fun _ => True, fun x => (id x.1, ())⟩
set_option maxRecDepth 100000 in
/-- loop.example.g00597.laws.toKey -/
theorem F90_ok : Meets Try.prog 90 F90 := by
  refine meets_of_vc (C := mkC 20 [2] [0,1,2,3] []) (mkC_ok _ _ _ _) (fnOf_ok _) Try.func90 rfl rfl rfl (by decide) rfl ?_
  rintro ⟨a0, _⟩ hwf hpre ⟨P, C, B, X, w0, M0, pv⟩ hG rfl rfl
  show Vc _ _ [(0, ⟨0, 0, .c (.pure (.pair (.int .i64) (.pair (.int .i64) (.pair (.int .i64) (.pair (.int .i64) (.int .i64)))))) a0⟩)] _
  refine Vc.seq ?_
  refine Vc.region hG rfl ?_ ?_
  · trivial
  refine Vc.seq ?_
  refine Vc.region hG rfl ?_ ?_
  · trivial
  refine Vc.seq ?_
  refine Vc.region hG rfl ?_ ?_
  · trivial
  refine Vc.seq ?_
  refine Vc.region hG rfl ?_ ?_
  · trivial
  refine Vc.seq ?_
  refine Vc.region hG rfl ?_ ?_
  · trivial
  refine Vc.seq ?_
  refine Vc.region hG rfl ?_ ?_
  · trivial
  refine Vc.seq ?_
  refine Vc.region hG rfl ?_ ?_
  · trivial
  refine Vc.seq ?_
  refine Vc.region hG rfl ?_ ?_
  · trivial
  refine Vc.ret ?_
  refine ⟨?_, trivial⟩
  all_goals exact rfl
noncomputable def F38 : Fun := ⟨[.slice (.pair (.int .i64) (.pair (.int .i64) (.pair (.int .i64) (.pair (.int .i64) (.int .i64)))))], [.own (.pure (.pair (.int .i64) (.pair (.int .i64) (.pair (.int .i64) (.pair (.int .i64) (.int .i64))))))], fun x => Sm big20 (.slice (.pair (.int .i64) (.pair (.int .i64) (.pair (.int .i64) (.pair (.int .i64) (.int .i64)))))) x.1, fun x => (id x.1, ())⟩
set_option maxRecDepth 100000 in
/-- loop.example.g00597.laws.toKeyS -/
theorem F38_ok : Meets Try.prog 38 F38 := by
  refine meets_of_vc (C := mkC 23 [2] [0,2,3,4,11] [⟨90, _, F90_ok⟩]) (mkC_ok _ _ _ _) (fnOf_ok _) Try.func38 rfl rfl rfl (by decide) rfl ?_
  rintro ⟨a0, _⟩ hwf hpre ⟨P, C, B, X, w0, M0, pv⟩ hG rfl rfl
  show Vc _ _ [(0, ⟨0, 0, .c (.pure (.slice (.pair (.int .i64) (.pair (.int .i64) (.pair (.int .i64) (.pair (.int .i64) (.int .i64))))))) a0⟩)] _
  have hp : _ ∧ _ := hpre
  have hb : List.length a0 ≤ bigLen := hwf.1.1
  refine Vc.seq ?_
  refine Vc.region hG rfl ?_ ?_
  · trivial
  refine Vc.seq ?_
  refine Vc.region hG rfl ?_ ?_
  · exact ⟨rfl, Int.natCast_nonneg _, mkSmall hp.1⟩
  refine Vc.seq ?_
  refine Vc.seq ?_
  refine Vc.region hG rfl ?_ ?_
  · trivial
  refine Vc.block ?_
  -- slots [3, 4]; frame [0, 2]
  refine Vc.loopF [(3, false, .own (.pure (.pair (.int .i64) (.pair (.int .i64) (.pair (.int .i64) (.pair (.int .i64) (.int .i64))))))), (4, false, .pure (.int .i64))] [0, 2] (fun v => toInv a0 (dflt (.pair (.int .i64) (.pair (.int .i64) (.pair (.int .i64) (.pair (.int .i64) (.int .i64)))))) v.1 v.2.1) (fun v => ((List.length a0 : Int) - v.2.1).toNat) rfl ?_ ?_
  · exact toStart
  rintro ⟨ys, (i : Int), _⟩ hI
  have hI : toInv a0 (dflt (.pair (.int .i64) (.pair (.int .i64) (.pair (.int .i64) (.pair (.int .i64) (.int .i64)))))) ys i := hI
  refine Vc.seq ?_
  refine Vc.seq ?_
  refine Vc.region hG rfl ?_ ?_
  · trivial
  refine Vc.cond rfl (fun h0 => ?_) (fun h0 => ?_)
  · skip
    have hl : i < (List.length a0 : Int) := of_decide_eq_true h0
    refine Vc.skip ?_
    refine Vc.seq ?_
    refine Vc.block ?_
    refine Vc.region hG rfl ?_ ?_
    · exact ⟨(toRange hI hl).1, trivial, (toRange hI hl).2⟩
    refine Vc.region hG rfl ?_ ?_
    · trivial
    refine ⟨rfl, ?_⟩
    exact ⟨toStep hI hl hb, toMu hI hl hb⟩
  · skip
    have hl : ¬ i < (List.length a0 : Int) := of_decide_eq_false h0
    refine Vc.exit ?_
    refine Vc.seq ?_
    refine Vc.region hG rfl ?_ ?_
    · trivial
    refine Vc.ret ?_
    refine ⟨?_, trivial⟩
    exact toEnd hI hl
noncomputable def F91 : Fun := ⟨[.pair (.int .i64) (.pair (.int .i64) (.int .i64))], [.pure (.pair (.int .i64) (.pair (.int .i64) (.int .i64)))], fun _ => True, fun x => (id x.1, ())⟩
set_option maxRecDepth 100000 in
/-- loop.example.g00597.laws.toAuthority -/
theorem F91_ok : Meets Try.prog 91 F91 := by
  refine meets_of_vc (C := mkC 14 [2] [0,1,2,3] []) (mkC_ok _ _ _ _) (fnOf_ok _) Try.func91 rfl rfl rfl (by decide) rfl ?_
  rintro ⟨a0, _⟩ hwf hpre ⟨P, C, B, X, w0, M0, pv⟩ hG rfl rfl
  show Vc _ _ [(0, ⟨0, 0, .c (.pure (.pair (.int .i64) (.pair (.int .i64) (.int .i64)))) a0⟩)] _
  refine Vc.seq ?_
  refine Vc.region hG rfl ?_ ?_
  · trivial
  refine Vc.seq ?_
  refine Vc.region hG rfl ?_ ?_
  · trivial
  refine Vc.seq ?_
  refine Vc.region hG rfl ?_ ?_
  · trivial
  refine Vc.seq ?_
  refine Vc.region hG rfl ?_ ?_
  · trivial
  refine Vc.seq ?_
  refine Vc.region hG rfl ?_ ?_
  · trivial
  refine Vc.seq ?_
  refine Vc.region hG rfl ?_ ?_
  · trivial
  refine Vc.ret ?_
  refine ⟨?_, trivial⟩
  all_goals exact rfl
noncomputable def F39 : Fun := ⟨[.slice (.pair (.int .i64) (.pair (.int .i64) (.int .i64)))], [.own (.pure (.pair (.int .i64) (.pair (.int .i64) (.int .i64))))], fun x => Sm big20 (.slice (.pair (.int .i64) (.pair (.int .i64) (.int .i64)))) x.1, fun x => (id x.1, ())⟩
set_option maxRecDepth 100000 in
/-- loop.example.g00597.laws.toAuthorityS -/
theorem F39_ok : Meets Try.prog 39 F39 := by
  refine meets_of_vc (C := mkC 23 [2] [0,2,3,4,11] [⟨91, _, F91_ok⟩]) (mkC_ok _ _ _ _) (fnOf_ok _) Try.func39 rfl rfl rfl (by decide) rfl ?_
  rintro ⟨a0, _⟩ hwf hpre ⟨P, C, B, X, w0, M0, pv⟩ hG rfl rfl
  show Vc _ _ [(0, ⟨0, 0, .c (.pure (.slice (.pair (.int .i64) (.pair (.int .i64) (.int .i64))))) a0⟩)] _
  have hp : _ ∧ _ := hpre
  have hb : List.length a0 ≤ bigLen := hwf.1.1
  refine Vc.seq ?_
  refine Vc.region hG rfl ?_ ?_
  · trivial
  refine Vc.seq ?_
  refine Vc.region hG rfl ?_ ?_
  · exact ⟨rfl, Int.natCast_nonneg _, mkSmall hp.1⟩
  refine Vc.seq ?_
  refine Vc.seq ?_
  refine Vc.region hG rfl ?_ ?_
  · trivial
  refine Vc.block ?_
  -- slots [3, 4]; frame [0, 2]
  refine Vc.loopF [(3, false, .own (.pure (.pair (.int .i64) (.pair (.int .i64) (.int .i64))))), (4, false, .pure (.int .i64))] [0, 2] (fun v => toInv a0 (dflt (.pair (.int .i64) (.pair (.int .i64) (.int .i64)))) v.1 v.2.1) (fun v => ((List.length a0 : Int) - v.2.1).toNat) rfl ?_ ?_
  · exact toStart
  rintro ⟨ys, (i : Int), _⟩ hI
  have hI : toInv a0 (dflt (.pair (.int .i64) (.pair (.int .i64) (.int .i64)))) ys i := hI
  refine Vc.seq ?_
  refine Vc.seq ?_
  refine Vc.region hG rfl ?_ ?_
  · trivial
  refine Vc.cond rfl (fun h0 => ?_) (fun h0 => ?_)
  · skip
    have hl : i < (List.length a0 : Int) := of_decide_eq_true h0
    refine Vc.skip ?_
    refine Vc.seq ?_
    refine Vc.block ?_
    refine Vc.region hG rfl ?_ ?_
    · exact ⟨(toRange hI hl).1, trivial, (toRange hI hl).2⟩
    refine Vc.region hG rfl ?_ ?_
    · trivial
    refine ⟨rfl, ?_⟩
    exact ⟨toStep hI hl hb, toMu hI hl hb⟩
  · skip
    have hl : ¬ i < (List.length a0 : Int) := of_decide_eq_false h0
    refine Vc.exit ?_
    refine Vc.seq ?_
    refine Vc.region hG rfl ?_ ?_
    · trivial
    refine Vc.ret ?_
    refine ⟨?_, trivial⟩
    exact toEnd hI hl
noncomputable def F40 : Fun := ⟨[.slice (.int .i64)], [.own (.pure (.int .i64))], fun x => Sm big20 (.slice (.int .i64)) x.1, fun x => (id x.1, ())⟩
set_option maxRecDepth 100000 in
/-- loop.example.g00597.laws.toIntS -/
theorem F40_ok : Meets Try.prog 40 F40 := by
  refine meets_of_vc (C := mkC 22 [2] [0,2,3,4,11] []) (mkC_ok _ _ _ _) (fnOf_ok _) Try.func40 rfl rfl rfl (by decide) rfl ?_
  rintro ⟨a0, _⟩ hwf hpre ⟨P, C, B, X, w0, M0, pv⟩ hG rfl rfl
  show Vc _ _ [(0, ⟨0, 0, .c (.pure (.slice (.int .i64))) a0⟩)] _
  have hp : _ ∧ _ := hpre
  have hb : List.length a0 ≤ bigLen := hwf.1.1
  refine Vc.seq ?_
  refine Vc.region hG rfl ?_ ?_
  · trivial
  refine Vc.seq ?_
  refine Vc.region hG rfl ?_ ?_
  · exact ⟨rfl, Int.natCast_nonneg _, mkSmall hp.1⟩
  refine Vc.seq ?_
  refine Vc.seq ?_
  refine Vc.region hG rfl ?_ ?_
  · trivial
  refine Vc.block ?_
  -- slots [3, 4]; frame [0, 2]
  refine Vc.loopF [(3, false, .own (.pure (.int .i64))), (4, false, .pure (.int .i64))] [0, 2] (fun v => toInv a0 (dflt (.int .i64)) v.1 v.2.1) (fun v => ((List.length a0 : Int) - v.2.1).toNat) rfl ?_ ?_
  · exact toStart
  rintro ⟨ys, (i : Int), _⟩ hI
  have hI : toInv a0 (dflt (.int .i64)) ys i := hI
  refine Vc.seq ?_
  refine Vc.seq ?_
  refine Vc.region hG rfl ?_ ?_
  · trivial
  refine Vc.cond rfl (fun h0 => ?_) (fun h0 => ?_)
  · skip
    have hl : i < (List.length a0 : Int) := of_decide_eq_true h0
    refine Vc.skip ?_
    refine Vc.seq ?_
    refine Vc.block ?_
    refine Vc.region hG rfl ?_ ?_
    · exact ⟨(toRange hI hl).1, (toRange hI hl).2⟩
    refine Vc.region hG rfl ?_ ?_
    · trivial
    refine ⟨rfl, ?_⟩
    exact ⟨toStep hI hl hb, toMu hI hl hb⟩
  · skip
    have hl : ¬ i < (List.length a0 : Int) := of_decide_eq_false h0
    refine Vc.exit ?_
    refine Vc.seq ?_
    refine Vc.region hG rfl ?_ ?_
    · trivial
    refine Vc.ret ?_
    refine ⟨?_, trivial⟩
    exact toEnd hI hl
noncomputable def F135 : Fun := ⟨[.slice (.pair (.int .i64) (.pair (.int .i64) (.int .i64))), .int .i64], [.pure (.int .i64)], fun _ => True, fun x => ((fun a0 a1 => findI (fun x => x.1 == a1) a0) x.1 x.2.1, ())⟩
set_option maxRecDepth 100000 in
/-- loop.example.g00597.spec.FindAuthority -/
theorem F135_ok : Meets Try.prog 135 F135 := by
  refine meets_of_vc (C := mkC 20 [4] [0,1,4,5,9,18] []) (mkC_ok _ _ _ _) (fnOf_ok _) Try.func135 rfl rfl rfl (by decide) rfl ?_
  rintro ⟨a0, (a1 : Int), _⟩ hwf hpre ⟨P, C, B, X, w0, M0, pv⟩ hG rfl rfl
  show Vc _ _ [(0, ⟨0, 0, .c (.pure (.slice (.pair (.int .i64) (.pair (.int .i64) (.int .i64))))) a0⟩), (1, ⟨0, 0, .c (.pure (.int .i64)) a1⟩)] _
  have hb : List.length a0 ≤ bigLen := hwf.1.1
  refine Vc.seq ?_
  refine Vc.region hG rfl ?_ ?_
  · trivial
  refine Vc.seq ?_
  refine Vc.seq ?_
  refine Vc.region hG rfl ?_ ?_
  · trivial
  refine Vc.block ?_
  -- slots [5]; frame [0, 1]
  refine Vc.loopF [(5, false, .pure (.int .i64))] [0, 1] (fun v => fInv (fun x => x.1 == a1) a0 v.1) (fun v => ((List.length a0 : Int) - v.1).toNat) rfl ?_ ?_
  · exact fStart
  rintro ⟨(i : Int), _⟩ hI
  have hI : fInv (fun x => x.1 == a1) a0 i := hI
  refine Vc.seq ?_
  refine Vc.seq ?_
  refine Vc.region hG rfl ?_ ?_
  · trivial
  refine Vc.cond rfl (fun h0 => ?_) (fun h0 => ?_)
  · skip
    have hl : i < (List.length a0 : Int) := of_decide_eq_true h0
    refine Vc.skip ?_
    refine Vc.seq ?_
    refine Vc.block ?_
    refine Vc.seq ?_
    refine Vc.region hG rfl ?_ ?_
    · exact fRange hI hl
    refine Vc.cond rfl (fun h1 => ?_) (fun h1 => ?_)
    · skip
      have g1 : (fun x => x.1 == a1) (List.getD a0 i.toNat (dflt (.pair (.int .i64) (.pair (.int .i64) (.int .i64))))) = true := h1
      refine Vc.seq ?_
      refine Vc.region hG rfl ?_ ?_
      · trivial
      refine Vc.ret ?_
      refine ⟨?_, trivial⟩
      exact fHit hI hl g1
    · skip
      have g1 : (fun x => x.1 == a1) (List.getD a0 i.toNat (dflt (.pair (.int .i64) (.pair (.int .i64) (.int .i64))))) = false := h1
      refine Vc.skip ?_
      refine Vc.region hG rfl ?_ ?_
      · trivial
      refine ⟨rfl, ?_⟩
      exact fStep hI hl hb g1
  · skip
    have hl : ¬ i < (List.length a0 : Int) := of_decide_eq_false h0
    refine Vc.exit ?_
    refine Vc.seq ?_
    refine Vc.region hG rfl ?_ ?_
    · trivial
    refine Vc.ret ?_
    refine ⟨?_, trivial⟩
    exact fEnd hI hl
noncomputable def F156 : Fun := ⟨[.int .i64, .int .i64, .int .i64], [.pure (.bool)], fun _ => True, fun x => (inRangeF x.1 x.2.1 x.2.2.1, ())⟩
set_option maxRecDepth 100000 in
/-- loop.example.g00597.spec.l1In -/
theorem F156_ok : Meets Try.prog 156 F156 := by
  refine meets_of_vc (C := mkC 15 [6] [0,1,2,6] []) (mkC_ok _ _ _ _) (fnOf_ok _) Try.func156 rfl rfl rfl (by decide) rfl ?_
  rintro ⟨(a0 : Int), (a1 : Int), (a2 : Int), _⟩ hwf hpre ⟨P, C, B, X, w0, M0, pv⟩ hG rfl rfl
  show Vc _ _ [(0, ⟨0, 0, .c (.pure (.int .i64)) a0⟩), (1, ⟨0, 0, .c (.pure (.int .i64)) a1⟩), (2, ⟨0, 0, .c (.pure (.int .i64)) a2⟩)] _
  refine Vc.seq ?_
  refine Vc.region hG rfl ?_ ?_
  · trivial
  refine Vc.seq ?_
  refine Vc.region hG rfl ?_ ?_
  · trivial
  refine Vc.ret ?_
  refine ⟨?_, trivial⟩
  all_goals exact rfl
noncomputable def F136 : Fun := ⟨[.int .i64], [.pure (.bool)], fun _ => True, fun x => (isTimeF x.1, ())⟩
set_option maxRecDepth 100000 in
/-- loop.example.g00597.spec.l4Time -/
theorem F136_ok : Meets Try.prog 136 F136 := by
  refine meets_of_vc (C := mkC 5 [2] [0,2] [⟨156, _, F156_ok⟩]) (mkC_ok _ _ _ _) (fnOf_ok _) Try.func136 rfl rfl rfl (by decide) rfl ?_
  rintro ⟨(a0 : Int), _⟩ hwf hpre ⟨P, C, B, X, w0, M0, pv⟩ hG rfl rfl
  show Vc _ _ [(0, ⟨0, 0, .c (.pure (.int .i64)) a0⟩)] _
  refine Vc.seq ?_
  refine Vc.region hG rfl ?_ ?_
  · trivial
  refine Vc.seq ?_
  refine Vc.region hG rfl ?_ ?_
  · trivial
  refine Vc.ret ?_
  refine ⟨?_, trivial⟩
  all_goals exact rfl
noncomputable def F80 : Fun := ⟨[.slice (.pair (.int .i64) (.pair (.int .i64) (.pair (.int .i64) (.pair (.int .i64) (.int .i64))))), .int .i64], [.pure (.int .i64)], fun _ => True, fun x => ((fun a0 a1 => findI (fun x => x.1 == a1) a0) x.1 x.2.1, ())⟩
set_option maxRecDepth 100000 in
/-- loop.example.g00597.spec.FindKey -/
theorem F80_ok : Meets Try.prog 80 F80 := by
  refine meets_of_vc (C := mkC 20 [4] [0,1,4,5,9,18] []) (mkC_ok _ _ _ _) (fnOf_ok _) Try.func80 rfl rfl rfl (by decide) rfl ?_
  rintro ⟨a0, (a1 : Int), _⟩ hwf hpre ⟨P, C, B, X, w0, M0, pv⟩ hG rfl rfl
  show Vc _ _ [(0, ⟨0, 0, .c (.pure (.slice (.pair (.int .i64) (.pair (.int .i64) (.pair (.int .i64) (.pair (.int .i64) (.int .i64))))))) a0⟩), (1, ⟨0, 0, .c (.pure (.int .i64)) a1⟩)] _
  have hb : List.length a0 ≤ bigLen := hwf.1.1
  refine Vc.seq ?_
  refine Vc.region hG rfl ?_ ?_
  · trivial
  refine Vc.seq ?_
  refine Vc.seq ?_
  refine Vc.region hG rfl ?_ ?_
  · trivial
  refine Vc.block ?_
  -- slots [5]; frame [0, 1]
  refine Vc.loopF [(5, false, .pure (.int .i64))] [0, 1] (fun v => fInv (fun x => x.1 == a1) a0 v.1) (fun v => ((List.length a0 : Int) - v.1).toNat) rfl ?_ ?_
  · exact fStart
  rintro ⟨(i : Int), _⟩ hI
  have hI : fInv (fun x => x.1 == a1) a0 i := hI
  refine Vc.seq ?_
  refine Vc.seq ?_
  refine Vc.region hG rfl ?_ ?_
  · trivial
  refine Vc.cond rfl (fun h0 => ?_) (fun h0 => ?_)
  · skip
    have hl : i < (List.length a0 : Int) := of_decide_eq_true h0
    refine Vc.skip ?_
    refine Vc.seq ?_
    refine Vc.block ?_
    refine Vc.seq ?_
    refine Vc.region hG rfl ?_ ?_
    · exact fRange hI hl
    refine Vc.cond rfl (fun h1 => ?_) (fun h1 => ?_)
    · skip
      have g1 : (fun x => x.1 == a1) (List.getD a0 i.toNat (dflt (.pair (.int .i64) (.pair (.int .i64) (.pair (.int .i64) (.pair (.int .i64) (.int .i64))))))) = true := h1
      refine Vc.seq ?_
      refine Vc.region hG rfl ?_ ?_
      · trivial
      refine Vc.ret ?_
      refine ⟨?_, trivial⟩
      exact fHit hI hl g1
    · skip
      have g1 : (fun x => x.1 == a1) (List.getD a0 i.toNat (dflt (.pair (.int .i64) (.pair (.int .i64) (.pair (.int .i64) (.pair (.int .i64) (.int .i64))))))) = false := h1
      refine Vc.skip ?_
      refine Vc.region hG rfl ?_ ?_
      · trivial
      refine ⟨rfl, ?_⟩
      exact fStep hI hl hb g1
  · skip
    have hl : ¬ i < (List.length a0 : Int) := of_decide_eq_false h0
    refine Vc.exit ?_
    refine Vc.seq ?_
    refine Vc.region hG rfl ?_ ?_
    · trivial
    refine Vc.ret ?_
    refine ⟨?_, trivial⟩
    exact fEnd hI hl
noncomputable def F138 : Fun := ⟨[.pair (.int .i64) (.pair (.int .i64) (.pair (.int .i64) (.pair (.int .i64) (.int .i64))))], [.own (.pure (.int .i64))], fun _ => True, fun x => (stampIntsF x.1, ())⟩
set_option maxRecDepth 100000 in
/-- loop.example.g00597.spec.StampInts -/
theorem F138_ok : Meets Try.prog 138 F138 := by
  refine meets_of_vc (C := mkC 12 [2] [0,1,2] []) (mkC_ok _ _ _ _) (fnOf_ok _) Try.func138 rfl rfl rfl (by decide) rfl ?_
  rintro ⟨a0, _⟩ hwf hpre ⟨P, C, B, X, w0, M0, pv⟩ hG rfl rfl
  show Vc _ _ [(0, ⟨0, 0, .c (.pure (.pair (.int .i64) (.pair (.int .i64) (.pair (.int .i64) (.pair (.int .i64) (.int .i64)))))) a0⟩)] _
  refine Vc.seq ?_
  refine Vc.region hG rfl ?_ ?_
  · trivial
  refine Vc.seq ?_
  refine Vc.region hG rfl ?_ ?_
  · trivial
  refine Vc.ret ?_
  refine ⟨?_, trivial⟩
  all_goals exact rfl
noncomputable def F163 : Fun := ⟨[.int .i64, .int .i64], [.pure (.int .i64)], fun _ => True, fun x => (modF x.1 x.2.1, ())⟩
set_option maxRecDepth 100000 in
/-- loop.example.g00597.spec.Mod -/
theorem F163_ok : Meets Try.prog 163 F163 := by
  refine meets_of_vc (C := mkC 15 [4] [0,1,4,7] [⟨156, _, F156_ok⟩]) (mkC_ok _ _ _ _) (fnOf_ok _) Try.func163 rfl rfl rfl (by decide) rfl ?_
  rintro ⟨(a0 : Int), (a1 : Int), _⟩ hwf hpre ⟨P, C, B, X, w0, M0, pv⟩ hG rfl rfl
  show Vc _ _ [(0, ⟨0, 0, .c (.pure (.int .i64)) a0⟩), (1, ⟨0, 0, .c (.pure (.int .i64)) a1⟩)] _
  refine Vc.seq ?_
  refine Vc.region hG rfl ?_ ?_
  · trivial
  refine Vc.seq ?_
  refine Vc.seq ?_
  refine Vc.region hG rfl ?_ ?_
  · trivial
  refine Vc.cond rfl (fun h0 => ?_) (fun h0 => ?_)
  · skip
    have g0 : (!(inRangeF a1 1 1000000000000)) = true := h0
    refine Vc.seq ?_
    refine Vc.region hG rfl ?_ ?_
    · trivial
    refine Vc.ret ?_
    refine ⟨?_, trivial⟩
    show (0 : Int) = modF a0 a1
    unfold modF
    rw [if_neg (by simpa using g0)]
  · skip
    have g0 : (!(inRangeF a1 1 1000000000000)) = false := h0
    refine Vc.skip ?_
    refine Vc.seq ?_
    refine Vc.region hG rfl ?_ ?_
    · exact ⟨inR_pos h0, inR_pos h0⟩
    refine Vc.ret ?_
    refine ⟨?_, trivial⟩
    show _ = modF a0 a1
    unfold modF
    rw [if_pos (by simpa using g0)]
noncomputable def F161 : Fun := ⟨[.slice (.int .i64)], [.pure (.int .i64)], fun _ => True, fun x => (hashF x.1, ())⟩
set_option maxRecDepth 100000 in
/-- loop.example.g00597.spec.Hash -/
theorem F161_ok : Meets Try.prog 161 F161 := by
  refine meets_of_vc (C := mkC 22 [2] [0,2,3,4,8] [⟨163, _, F163_ok⟩]) (mkC_ok _ _ _ _) (fnOf_ok _) Try.func161 rfl rfl rfl (by decide) rfl ?_
  rintro ⟨a0, _⟩ hwf hpre ⟨P, C, B, X, w0, M0, pv⟩ hG rfl rfl
  show Vc _ _ [(0, ⟨0, 0, .c (.pure (.slice (.int .i64))) a0⟩)] _
  have hb : List.length a0 ≤ bigLen := hwf.1.1
  refine Vc.seq ?_
  refine Vc.region hG rfl ?_ ?_
  · trivial
  refine Vc.seq ?_
  refine Vc.region hG rfl ?_ ?_
  · trivial
  refine Vc.seq ?_
  refine Vc.seq ?_
  refine Vc.region hG rfl ?_ ?_
  · trivial
  refine Vc.block ?_
  -- slots [3, 4]; frame [0, 2]
  refine Vc.loopF [(3, false, .pure (.int .i64)), (4, false, .pure (.int .i64))] [0, 2] (fun v => foInv (hstep) (11) a0 v.1 v.2.1) (fun v => ((List.length a0 : Int) - v.2.1).toNat) rfl ?_ ?_
  · exact foStart
  rintro ⟨acc, (i : Int), _⟩ hI
  have hI : foInv (hstep) (11) a0 acc i := hI
  refine Vc.seq ?_
  refine Vc.seq ?_
  refine Vc.region hG rfl ?_ ?_
  · trivial
  refine Vc.cond rfl (fun h0 => ?_) (fun h0 => ?_)
  · skip
    have hl : i < (List.length a0 : Int) := of_decide_eq_true h0
    refine Vc.skip ?_
    refine Vc.seq ?_
    refine Vc.block ?_
    refine Vc.region hG rfl ?_ ?_
    · exact ⟨foRange hI hl, trivial, (show (2147483647 : Int) ≠ 0 by decide)⟩
    refine Vc.region hG rfl ?_ ?_
    · trivial
    refine ⟨rfl, ?_⟩
    exact foStep hI hl hb
  · skip
    have hl : ¬ i < (List.length a0 : Int) := of_decide_eq_false h0
    refine Vc.exit ?_
    refine Vc.seq ?_
    refine Vc.region hG rfl ?_ ?_
    · trivial
    refine Vc.ret ?_
    refine ⟨?_, trivial⟩
    exact foEnd hI hl
noncomputable def F157 : Fun := ⟨[.int .i64, .slice (.int .i64)], [.pure (.int .i64)], fun x => (fun (_ : Int) (l : List Int) => l.length ≤ 1000000001) x.1 x.2.1, fun x => (keyedF x.1 x.2.1, ())⟩
set_option maxRecDepth 100000 in
/-- loop.example.g00597.spec.KeyedHash -/
theorem F157_ok : Meets Try.prog 157 F157 := by
  refine meets_of_vc (C := mkC 13 [4] [0,1,4] [⟨161, _, F161_ok⟩]) (mkC_ok _ _ _ _) (fnOf_ok _) Try.func157 rfl rfl rfl (by decide) rfl ?_
  rintro ⟨(a0 : Int), a1, _⟩ hwf hpre ⟨P, C, B, X, w0, M0, pv⟩ hG rfl rfl
  show Vc _ _ [(0, ⟨0, 0, .c (.pure (.int .i64)) a0⟩), (1, ⟨0, 0, .c (.pure (.slice (.int .i64))) a1⟩)] _
  have hp : List.length a1 ≤ 1000000001 := hpre
  refine Vc.seq ?_
  refine Vc.region hG rfl ?_ ?_
  · trivial
  refine Vc.seq ?_
  refine Vc.region hG rfl ?_ ?_
  · refine ⟨?_, ?_, trivial⟩
    · show 1 + List.length a1 ≤ maxApp
      unfold maxApp; omega
    · show (List.length a1 + 1) + 1 ≤ maxApp
      unfold maxApp; omega
  refine Vc.ret ?_
  refine ⟨?_, trivial⟩
  all_goals exact rfl
noncomputable def F137 : Fun := ⟨[.pair (.int .i64) (.pair (.int .i64) (.pair (.int .i64) (.pair (.int .i64) (.int .i64)))), .slice (.int .i64)], [.pure (.int .i64)], fun x => (fun (_ : Key) (l : List Int) => smallL l) x.1 x.2.1, fun x => (markWithF x.1 x.2.1, ())⟩
set_option maxRecDepth 100000 in
/-- loop.example.g00597.spec.MarkWith -/
theorem F137_ok : Meets Try.prog 137 F137 := by
  refine meets_of_vc (C := mkC 13 [4] [0,1,2,4] [⟨157, _, F157_ok⟩]) (mkC_ok _ _ _ _) (fnOf_ok _) Try.func137 rfl rfl rfl (by decide) rfl ?_
  rintro ⟨a0, a1, _⟩ hwf hpre ⟨P, C, B, X, w0, M0, pv⟩ hG rfl rfl
  show Vc _ _ [(0, ⟨0, 0, .c (.pure (.pair (.int .i64) (.pair (.int .i64) (.pair (.int .i64) (.pair (.int .i64) (.int .i64)))))) a0⟩), (1, ⟨0, 0, .c (.pure (.slice (.int .i64))) a1⟩)] _
  have hp : List.length a1 ≤ 1000000000 := hpre
  refine Vc.seq ?_
  refine Vc.region hG rfl ?_ ?_
  · trivial
  refine Vc.seq ?_
  refine Vc.regionD mixed hG rfl (by kernel_rfl) ?_ ?_
  · refine ⟨?_, ?_⟩
    · show 1 + List.length a1 ≤ maxApp
      unfold maxApp; omega
    · show List.length a1 + 1 ≤ 1000000001
      omega
  refine Vc.ret ?_
  refine ⟨?_, trivial⟩
  all_goals exact rfl
noncomputable def F89 : Fun := ⟨[.slice (.pair (.int .i64) (.pair (.int .i64) (.pair (.int .i64) (.pair (.int .i64) (.int .i64))))), .slice (.pair (.int .i64) (.pair (.int .i64) (.int .i64))), .pair (.int .i64) (.pair (.int .i64) (.pair (.int .i64) (.pair (.int .i64) (.int .i64))))], [.pure (.pair (.int .i64) (.pair (.int .i64) (.pair (.int .i64) (.pair (.int .i64) (.int .i64))))), .pure (.bool)], fun _ => True, fun x => ((makeStampF x.1 x.2.1 x.2.2.1).1, (makeStampF x.1 x.2.1 x.2.2.1).2, ())⟩
set_option maxRecDepth 100000 in
/-- loop.example.g00597.spec.MakeStamp -/
theorem F89_ok : Meets Try.prog 89 F89 := by
  refine meets_of_vc (C := mkC 47 [6, 7] [0,1,2,5,6,7,8,9,26,36] [⟨135, _, F135_ok⟩, ⟨136, _, F136_ok⟩, ⟨80, _, F80_ok⟩, ⟨138, _, F138_ok⟩, ⟨137, _, F137_ok⟩]) (mkC_ok _ _ _ _) (fnOf_ok _) Try.func89 rfl rfl rfl (by decide) rfl ?_
  rintro ⟨a0, a1, a2, _⟩ hwf hpre ⟨P, C, B, X, w0, M0, pv⟩ hG rfl rfl
  show Vc _ _ [(0, ⟨0, 0, .c (.pure (.slice (.pair (.int .i64) (.pair (.int .i64) (.pair (.int .i64) (.pair (.int .i64) (.int .i64))))))) a0⟩), (1, ⟨0, 0, .c (.pure (.slice (.pair (.int .i64) (.pair (.int .i64) (.int .i64))))) a1⟩), (2, ⟨0, 0, .c (.pure (.pair (.int .i64) (.pair (.int .i64) (.pair (.int .i64) (.pair (.int .i64) (.int .i64)))))) a2⟩)] _
  refine Vc.seq ?_
  refine Vc.region hG rfl ?_ ?_
  · trivial
  refine Vc.seq ?_
  refine Vc.region hG rfl ?_ ?_
  · trivial
  refine Vc.seq ?_
  refine Vc.seq ?_
  refine Vc.region hG rfl ?_ ?_
  · intro _; exact trivial
  refine Vc.cond rfl (fun h0 => ?_) (fun h0 => ?_)
  · skip
    have g0 : stampBad a1 a2 = true := h0
    refine Vc.seq ?_
    refine Vc.region hG rfl ?_ ?_
    · trivial
    refine Vc.ret ?_
    have e := ms_1 (keys := a0) g0
    refine ⟨?_, ?_, trivial⟩
    · exact (congrArg Prod.fst e).symm
    · exact (congrArg Prod.snd e).symm
  · skip
    have g0 : stampBad a1 a2 = false := h0
    refine Vc.skip ?_
    refine Vc.seq ?_
    refine Vc.region hG rfl ?_ ?_
    · exact ⟨bad_idx g0, trivial⟩
    refine Vc.seq ?_
    refine Vc.seq ?_
    refine Vc.region hG rfl ?_ ?_
    · trivial
    refine Vc.cond rfl (fun h1 => ?_) (fun h1 => ?_)
    · skip
      have g1 : keyI a0 (authAt a1 a2.1).2.1 < 0 := of_decide_eq_true h1
      refine Vc.seq ?_
      refine Vc.region hG rfl ?_ ?_
      · trivial
      refine Vc.ret ?_
      have e := ms_2 (keys := a0) g0 g1
      refine ⟨?_, ?_, trivial⟩
      · exact (congrArg Prod.fst e).symm
      · exact (congrArg Prod.snd e).symm
    · skip
      have g1 : ¬ keyI a0 (authAt a1 a2.1).2.1 < 0 := of_decide_eq_false h1
      refine Vc.skip ?_
      refine Vc.seq ?_
      refine Vc.regionD mixed hG rfl (by kernel_rfl) ?_ ?_
      · exact ⟨findRange g1, trivial, smallLit (n := 5) rfl (by decide)⟩
      refine Vc.seq ?_
      refine Vc.region hG rfl ?_ ?_
      · trivial
      refine Vc.ret ?_
      have e := ms_3 (keys := a0) g0 g1
      refine ⟨?_, ?_, trivial⟩
      · exact (congrArg Prod.fst e).symm
      · exact (congrArg Prod.snd e).symm
noncomputable def F37 : Fun := ⟨[.slice (.pair (.int .i64) (.pair (.int .i64) (.pair (.int .i64) (.pair (.int .i64) (.int .i64))))), .slice (.pair (.int .i64) (.pair (.int .i64) (.int .i64))), .slice (.int .i64), .int .i64, .slice (.int .i64), .int .i64], [.own (.pure (.pair (.int .i64) (.pair (.int .i64) (.pair (.int .i64) (.pair (.int .i64) (.int .i64))))))], fun x => (fun (_ : List Key) (_ : List Authority) (x : List Int) (_ : Int) (_ : List Int) (_ : Int) => List.length x ≤ 1048576) x.1 x.2.1 x.2.2.1 x.2.2.2.1 x.2.2.2.2.1 x.2.2.2.2.2.1, fun x => (stampAllF x.1 x.2.1 x.2.2.1 x.2.2.2.1 x.2.2.2.2.1 x.2.2.2.2.2.1, ())⟩
set_option maxRecDepth 100000 in
/-- loop.example.g00597.spec.StampAll -/
theorem F37_ok : Meets Try.prog 37 F37 := by
  refine meets_of_vc (C := mkC 53 [12] [0,1,2,3,4,5,12,13,14,15,16,27,47] [⟨89, _, F89_ok⟩]) (mkC_ok _ _ _ _) (fnOf_ok _) Try.func37 rfl rfl rfl (by decide) rfl ?_
  rintro ⟨a0, a1, a2, (a3 : Int), a4, (a5 : Int), _⟩ hwf hpre ⟨P, C, B, X, w0, M0, pv⟩ hG rfl rfl
  show Vc _ _ [(0, ⟨0, 0, .c (.pure (.slice (.pair (.int .i64) (.pair (.int .i64) (.pair (.int .i64) (.pair (.int .i64) (.int .i64))))))) a0⟩), (1, ⟨0, 0, .c (.pure (.slice (.pair (.int .i64) (.pair (.int .i64) (.int .i64))))) a1⟩), (2, ⟨0, 0, .c (.pure (.slice (.int .i64))) a2⟩), (3, ⟨0, 0, .c (.pure (.int .i64)) a3⟩), (4, ⟨0, 0, .c (.pure (.slice (.int .i64))) a4⟩), (5, ⟨0, 0, .c (.pure (.int .i64)) a5⟩)] _
  have hb2 : List.length a2 ≤ 1048576 := hpre
  have hb : List.length (List.zip a2 a4) ≤ bigLen := by rw [List.length_zip]; unfold bigLen; omega
  have hs : List.length (List.zip a2 a4) ≤ 1048576 := by rw [List.length_zip]; omega
  refine Vc.seq ?_
  refine Vc.region hG rfl ?_ ?_
  · trivial
  refine Vc.seq ?_
  refine Vc.region hG rfl ?_ ?_
  · trivial
  refine Vc.seq ?_
  refine Vc.seq ?_
  refine Vc.region hG rfl ?_ ?_
  · trivial
  refine Vc.block ?_
  -- slots [13, 14]; frame [0, 1, 2, 3, 4, 5, 12]
  refine Vc.loopF [(13, false, .own (.pure (.pair (.int .i64) (.pair (.int .i64) (.pair (.int .i64) (.pair (.int .i64) (.int .i64))))))), (14, false, .pure (.int .i64))] [0, 1, 2, 3, 4, 5, 12] (fun v => pkInv (stF a0 a1 a3 a5) (List.zip a2 a4) v.1 v.2.1) (fun v => ((List.length (List.zip a2 a4) : Int) - v.2.1).toNat) rfl ?_ ?_
  · exact pkStart
  rintro ⟨acc, (i : Int), _⟩ hI
  have hI : pkInv (stF a0 a1 a3 a5) (List.zip a2 a4) acc i := hI
  refine Vc.seq ?_
  refine Vc.seq ?_
  refine Vc.region hG rfl ?_ ?_
  · trivial
  refine Vc.cond rfl (fun h0 => ?_) (fun h0 => ?_)
  · skip
    have m0 := andLt h0
    have hl : i < (List.length (List.zip a2 a4) : Int) := zipLt m0.1 m0.2
    have r2 : inRange i (List.length a2) := ⟨pkPos hI, zipL hl⟩
    have r4 : inRange i (List.length a4) := ⟨pkPos hI, zipR hl⟩
    refine Vc.skip ?_
    refine Vc.seq ?_
    refine Vc.block ?_
    refine Vc.seq ?_
    refine Vc.regionD mixed hG rfl (by kernel_rfl) ?_ ?_
    · exact ⟨r2, r4, trivial⟩
    refine Vc.seq ?_
    refine Vc.region hG rfl ?_ ?_
    · trivial
    refine Vc.cond rfl (fun h1 => ?_) (fun h1 => ?_)
    · skip
      have g1 : (stF a0 a1 a3 a5 (List.getD (List.zip a2 a4) i.toNat (0, 0))).2 = true := by
        rw [zGet (pkPos hI) hl]
        exact h1
      refine Vc.region hG rfl ?_ ?_
      · exact pkLen hI hs
      refine Vc.region hG rfl ?_ ?_
      · trivial
      refine ⟨rfl, ?_⟩
      first
        | exact pkNo (d := (0, 0)) hI hl hb g1
        | exact pkYesE (d := (0, 0)) hI hl hb g1 (by rw [zGet (pkPos hI) hl]; rfl)
    · skip
      have g1 : (stF a0 a1 a3 a5 (List.getD (List.zip a2 a4) i.toNat (0, 0))).2 = false := by
        rw [zGet (pkPos hI) hl]
        exact h1
      refine Vc.skip ?_
      refine Vc.region hG rfl ?_ ?_
      · trivial
      refine ⟨rfl, ?_⟩
      first
        | exact pkNo (d := (0, 0)) hI hl hb g1
        | exact pkYesE (d := (0, 0)) hI hl hb g1 (by rw [zGet (pkPos hI) hl]; rfl)
  · skip
    have hl : ¬ i < (List.length (List.zip a2 a4) : Int) := zipGe (andGe h0)
    refine Vc.exit ?_
    refine Vc.seq ?_
    refine Vc.region hG rfl ?_ ?_
    · trivial
    refine Vc.ret ?_
    refine ⟨?_, trivial⟩
    exact pkEnd hI hl
noncomputable def F139 : Fun := ⟨[.slice (.pair (.int .i64) (.pair (.int .i64) (.int .i64))), .int .i64], [.pure (.int .i64)], fun _ => True, fun x => ((fun a0 a1 => findI (fun x => x.1 == a1) a0) x.1 x.2.1, ())⟩
set_option maxRecDepth 100000 in
/-- loop.example.g00597.impl.FindAuthority -/
theorem F139_ok : Meets Try.prog 139 F139 := by
  refine meets_of_vc (C := mkC 20 [4] [0,1,4,5,6,7,8,9,10,17] []) (mkC_ok _ _ _ _) (fnOf_ok _) Try.func139 rfl rfl rfl (by decide) rfl ?_
  rintro ⟨a0, (a1 : Int), _⟩ hwf hpre ⟨P, C, B, X, w0, M0, pv⟩ hG rfl rfl
  show Vc _ _ [(0, ⟨0, 0, .c (.pure (.slice (.pair (.int .i64) (.pair (.int .i64) (.int .i64))))) a0⟩), (1, ⟨0, 0, .c (.pure (.int .i64)) a1⟩)] _
  have hb : List.length a0 ≤ bigLen := hwf.1.1
  refine Vc.seq ?_
  refine Vc.region hG rfl ?_ ?_
  · trivial
  refine Vc.seq ?_
  refine Vc.seq ?_
  refine Vc.region hG rfl ?_ ?_
  · trivial
  refine Vc.block ?_
  -- slots [9]; frame [0, 1, 7, 8]
  refine Vc.loopF [(9, false, .pure (.int .i64))] [0, 1, 7, 8] (fun v => fInv (fun x => x.1 == a1) a0 v.1) (fun v => ((List.length a0 : Int) - v.1).toNat) rfl ?_ ?_
  · exact fStart
  rintro ⟨(i : Int), _⟩ hI
  have hI : fInv (fun x => x.1 == a1) a0 i := hI
  refine Vc.seq ?_
  refine Vc.region hG rfl ?_ ?_
  · trivial
  refine Vc.seq ?_
  refine Vc.cond rfl (fun h0 => ?_) (fun h0 => ?_)
  · skip
    have hl : i < (List.length a0 : Int) := of_decide_eq_true h0
    refine Vc.skip ?_
    refine Vc.seq ?_
    refine Vc.block ?_
    refine Vc.seq ?_
    refine Vc.region hG rfl ?_ ?_
    · exact fRange hI hl
    refine Vc.seq ?_
    refine Vc.region hG rfl ?_ ?_
    · trivial
    refine Vc.cond rfl (fun h1 => ?_) (fun h1 => ?_)
    · skip
      have g1 : (fun x => x.1 == a1) (List.getD a0 i.toNat (dflt (.pair (.int .i64) (.pair (.int .i64) (.int .i64))))) = true := h1
      refine Vc.seq ?_
      refine Vc.region hG rfl ?_ ?_
      · trivial
      refine Vc.ret ?_
      refine ⟨?_, trivial⟩
      exact fHit hI hl g1
    · skip
      have g1 : (fun x => x.1 == a1) (List.getD a0 i.toNat (dflt (.pair (.int .i64) (.pair (.int .i64) (.int .i64))))) = false := h1
      refine Vc.skip ?_
      refine Vc.region hG rfl ?_ ?_
      · trivial
      refine ⟨rfl, ?_⟩
      exact fStep hI hl hb g1
  · skip
    have hl : ¬ i < (List.length a0 : Int) := of_decide_eq_false h0
    refine Vc.exit ?_
    refine Vc.seq ?_
    refine Vc.region hG rfl ?_ ?_
    · trivial
    refine Vc.ret ?_
    refine ⟨?_, trivial⟩
    exact fEnd hI hl
noncomputable def F98 : Fun := ⟨[.int .i64, .int .i64, .int .i64], [.pure (.bool)], fun _ => True, fun x => (inRangeF x.1 x.2.1 x.2.2.1, ())⟩
set_option maxRecDepth 100000 in
/-- loop.example.g00597.impl.InRange -/
theorem F98_ok : Meets Try.prog 98 F98 := by
  refine meets_of_vc (C := mkC 15 [6] [0,1,2,6] []) (mkC_ok _ _ _ _) (fnOf_ok _) Try.func98 rfl rfl rfl (by decide) rfl ?_
  rintro ⟨(a0 : Int), (a1 : Int), (a2 : Int), _⟩ hwf hpre ⟨P, C, B, X, w0, M0, pv⟩ hG rfl rfl
  show Vc _ _ [(0, ⟨0, 0, .c (.pure (.int .i64)) a0⟩), (1, ⟨0, 0, .c (.pure (.int .i64)) a1⟩), (2, ⟨0, 0, .c (.pure (.int .i64)) a2⟩)] _
  refine Vc.seq ?_
  refine Vc.region hG rfl ?_ ?_
  · trivial
  refine Vc.seq ?_
  refine Vc.region hG rfl ?_ ?_
  · trivial
  refine Vc.ret ?_
  refine ⟨?_, trivial⟩
  all_goals exact rfl
noncomputable def F140 : Fun := ⟨[.int .i64], [.pure (.bool)], fun _ => True, fun x => (isTimeF x.1, ())⟩
set_option maxRecDepth 100000 in
/-- loop.example.g00597.impl.isTime -/
theorem F140_ok : Meets Try.prog 140 F140 := by
  refine meets_of_vc (C := mkC 5 [2] [0,2] [⟨98, _, F98_ok⟩]) (mkC_ok _ _ _ _) (fnOf_ok _) Try.func140 rfl rfl rfl (by decide) rfl ?_
  rintro ⟨(a0 : Int), _⟩ hwf hpre ⟨P, C, B, X, w0, M0, pv⟩ hG rfl rfl
  show Vc _ _ [(0, ⟨0, 0, .c (.pure (.int .i64)) a0⟩)] _
  refine Vc.seq ?_
  refine Vc.region hG rfl ?_ ?_
  · trivial
  refine Vc.seq ?_
  refine Vc.region hG rfl ?_ ?_
  · trivial
  refine Vc.ret ?_
  refine ⟨?_, trivial⟩
  all_goals exact rfl
noncomputable def F142 : Fun := ⟨[.pair (.int .i64) (.pair (.int .i64) (.pair (.int .i64) (.pair (.int .i64) (.int .i64))))], [.own (.pure (.int .i64))], fun _ => True, fun x => (stampIntsF x.1, ())⟩
set_option maxRecDepth 100000 in
/-- loop.example.g00597.impl.StampInts -/
theorem F142_ok : Meets Try.prog 142 F142 := by
  refine meets_of_vc (C := mkC 12 [2] [0,1,2] []) (mkC_ok _ _ _ _) (fnOf_ok _) Try.func142 rfl rfl rfl (by decide) rfl ?_
  rintro ⟨a0, _⟩ hwf hpre ⟨P, C, B, X, w0, M0, pv⟩ hG rfl rfl
  show Vc _ _ [(0, ⟨0, 0, .c (.pure (.pair (.int .i64) (.pair (.int .i64) (.pair (.int .i64) (.pair (.int .i64) (.int .i64)))))) a0⟩)] _
  refine Vc.seq ?_
  refine Vc.region hG rfl ?_ ?_
  · trivial
  refine Vc.seq ?_
  refine Vc.region hG rfl ?_ ?_
  · trivial
  refine Vc.ret ?_
  refine ⟨?_, trivial⟩
  all_goals exact rfl
noncomputable def F84 : Fun := ⟨[.slice (.pair (.int .i64) (.pair (.int .i64) (.pair (.int .i64) (.pair (.int .i64) (.int .i64))))), .int .i64], [.pure (.int .i64)], fun _ => True, fun x => ((fun a0 a1 => findI (fun x => x.1 == a1) a0) x.1 x.2.1, ())⟩
set_option maxRecDepth 100000 in
/-- loop.example.g00597.impl.FindKey -/
theorem F84_ok : Meets Try.prog 84 F84 := by
  refine meets_of_vc (C := mkC 20 [4] [0,1,4,5,6,7,8,9,10,17] []) (mkC_ok _ _ _ _) (fnOf_ok _) Try.func84 rfl rfl rfl (by decide) rfl ?_
  rintro ⟨a0, (a1 : Int), _⟩ hwf hpre ⟨P, C, B, X, w0, M0, pv⟩ hG rfl rfl
  show Vc _ _ [(0, ⟨0, 0, .c (.pure (.slice (.pair (.int .i64) (.pair (.int .i64) (.pair (.int .i64) (.pair (.int .i64) (.int .i64))))))) a0⟩), (1, ⟨0, 0, .c (.pure (.int .i64)) a1⟩)] _
  have hb : List.length a0 ≤ bigLen := hwf.1.1
  refine Vc.seq ?_
  refine Vc.region hG rfl ?_ ?_
  · trivial
  refine Vc.seq ?_
  refine Vc.seq ?_
  refine Vc.region hG rfl ?_ ?_
  · trivial
  refine Vc.block ?_
  -- slots [9]; frame [0, 1, 7, 8]
  refine Vc.loopF [(9, false, .pure (.int .i64))] [0, 1, 7, 8] (fun v => fInv (fun x => x.1 == a1) a0 v.1) (fun v => ((List.length a0 : Int) - v.1).toNat) rfl ?_ ?_
  · exact fStart
  rintro ⟨(i : Int), _⟩ hI
  have hI : fInv (fun x => x.1 == a1) a0 i := hI
  refine Vc.seq ?_
  refine Vc.region hG rfl ?_ ?_
  · trivial
  refine Vc.seq ?_
  refine Vc.cond rfl (fun h0 => ?_) (fun h0 => ?_)
  · skip
    have hl : i < (List.length a0 : Int) := of_decide_eq_true h0
    refine Vc.skip ?_
    refine Vc.seq ?_
    refine Vc.block ?_
    refine Vc.seq ?_
    refine Vc.region hG rfl ?_ ?_
    · exact fRange hI hl
    refine Vc.seq ?_
    refine Vc.region hG rfl ?_ ?_
    · trivial
    refine Vc.cond rfl (fun h1 => ?_) (fun h1 => ?_)
    · skip
      have g1 : (fun x => x.1 == a1) (List.getD a0 i.toNat (dflt (.pair (.int .i64) (.pair (.int .i64) (.pair (.int .i64) (.pair (.int .i64) (.int .i64))))))) = true := h1
      refine Vc.seq ?_
      refine Vc.region hG rfl ?_ ?_
      · trivial
      refine Vc.ret ?_
      refine ⟨?_, trivial⟩
      exact fHit hI hl g1
    · skip
      have g1 : (fun x => x.1 == a1) (List.getD a0 i.toNat (dflt (.pair (.int .i64) (.pair (.int .i64) (.pair (.int .i64) (.pair (.int .i64) (.int .i64))))))) = false := h1
      refine Vc.skip ?_
      refine Vc.region hG rfl ?_ ?_
      · trivial
      refine ⟨rfl, ?_⟩
      exact fStep hI hl hb g1
  · skip
    have hl : ¬ i < (List.length a0 : Int) := of_decide_eq_false h0
    refine Vc.exit ?_
    refine Vc.seq ?_
    refine Vc.region hG rfl ?_ ?_
    · trivial
    refine Vc.ret ?_
    refine ⟨?_, trivial⟩
    exact fEnd hI hl
noncomputable def F165 : Fun := ⟨[.int .i64, .int .i64], [.pure (.int .i64)], fun _ => True, fun x => (modF x.1 x.2.1, ())⟩
set_option maxRecDepth 100000 in
/-- loop.example.g00597.impl.Mod -/
theorem F165_ok : Meets Try.prog 165 F165 := by
  refine meets_of_vc (C := mkC 15 [4] [0,1,4,7] [⟨98, _, F98_ok⟩]) (mkC_ok _ _ _ _) (fnOf_ok _) Try.func165 rfl rfl rfl (by decide) rfl ?_
  rintro ⟨(a0 : Int), (a1 : Int), _⟩ hwf hpre ⟨P, C, B, X, w0, M0, pv⟩ hG rfl rfl
  show Vc _ _ [(0, ⟨0, 0, .c (.pure (.int .i64)) a0⟩), (1, ⟨0, 0, .c (.pure (.int .i64)) a1⟩)] _
  refine Vc.seq ?_
  refine Vc.region hG rfl ?_ ?_
  · trivial
  refine Vc.seq ?_
  refine Vc.seq ?_
  refine Vc.region hG rfl ?_ ?_
  · trivial
  refine Vc.cond rfl (fun h0 => ?_) (fun h0 => ?_)
  · skip
    have g0 : (!(inRangeF a1 1 1000000000000)) = true := h0
    refine Vc.seq ?_
    refine Vc.region hG rfl ?_ ?_
    · trivial
    refine Vc.ret ?_
    refine ⟨?_, trivial⟩
    show (0 : Int) = modF a0 a1
    unfold modF
    rw [if_neg (by simpa using g0)]
  · skip
    have g0 : (!(inRangeF a1 1 1000000000000)) = false := h0
    refine Vc.skip ?_
    refine Vc.seq ?_
    refine Vc.region hG rfl ?_ ?_
    · exact ⟨inR_pos h0, inR_pos h0⟩
    refine Vc.ret ?_
    refine ⟨?_, trivial⟩
    show _ = modF a0 a1
    unfold modF
    rw [if_pos (by simpa using g0)]
noncomputable def F164 : Fun := ⟨[.slice (.int .i64)], [.pure (.int .i64)], fun _ => True, fun x => (hashF x.1, ())⟩
set_option maxRecDepth 100000 in
/-- loop.example.g00597.impl.Hash -/
theorem F164_ok : Meets Try.prog 164 F164 := by
  refine meets_of_vc (C := mkC 21 [2] [0,2,3,5,6,7,8,9] [⟨165, _, F165_ok⟩]) (mkC_ok _ _ _ _) (fnOf_ok _) Try.func164 rfl rfl rfl (by decide) rfl ?_
  rintro ⟨a0, _⟩ hwf hpre ⟨P, C, B, X, w0, M0, pv⟩ hG rfl rfl
  show Vc _ _ [(0, ⟨0, 0, .c (.pure (.slice (.int .i64))) a0⟩)] _
  have hb : List.length a0 ≤ bigLen := hwf.1.1
  refine Vc.seq ?_
  refine Vc.region hG rfl ?_ ?_
  · trivial
  refine Vc.seq ?_
  refine Vc.region hG rfl ?_ ?_
  · trivial
  refine Vc.seq ?_
  refine Vc.seq ?_
  refine Vc.region hG rfl ?_ ?_
  · trivial
  refine Vc.block ?_
  -- slots [3, 8]; frame [0, 2, 6, 7]
  refine Vc.loopF [(3, false, .pure (.int .i64)), (8, false, .pure (.int .i64))] [0, 2, 6, 7] (fun v => foInv (hstep) (11) a0 v.1 v.2.1) (fun v => ((List.length a0 : Int) - v.2.1).toNat) rfl ?_ ?_
  · exact foStart
  rintro ⟨acc, (i : Int), _⟩ hI
  have hI : foInv (hstep) (11) a0 acc i := hI
  refine Vc.seq ?_
  refine Vc.region hG rfl ?_ ?_
  · trivial
  refine Vc.seq ?_
  refine Vc.cond rfl (fun h0 => ?_) (fun h0 => ?_)
  · skip
    have hl : i < (List.length a0 : Int) := of_decide_eq_true h0
    refine Vc.skip ?_
    refine Vc.seq ?_
    refine Vc.block ?_
    refine Vc.seq ?_
    refine Vc.region hG rfl ?_ ?_
    · exact foRange hI hl
    refine Vc.region hG rfl ?_ ?_
    · exact ⟨trivial, (show (2147483647 : Int) ≠ 0 by decide)⟩
    refine Vc.region hG rfl ?_ ?_
    · trivial
    refine ⟨rfl, ?_⟩
    exact foStep hI hl hb
  · skip
    have hl : ¬ i < (List.length a0 : Int) := of_decide_eq_false h0
    refine Vc.exit ?_
    refine Vc.seq ?_
    refine Vc.region hG rfl ?_ ?_
    · trivial
    refine Vc.ret ?_
    refine ⟨?_, trivial⟩
    exact foEnd hI hl
noncomputable def F162 : Fun := ⟨[.int .i64, .slice (.int .i64)], [.pure (.int .i64)], fun x => (fun (_ : Int) (l : List Int) => l.length ≤ 1000000001) x.1 x.2.1, fun x => (keyedF x.1 x.2.1, ())⟩
set_option maxRecDepth 100000 in
/-- loop.example.g00597.impl.KeyedHash -/
theorem F162_ok : Meets Try.prog 162 F162 := by
  refine meets_of_vc (C := mkC 13 [4] [0,1,4] [⟨164, _, F164_ok⟩]) (mkC_ok _ _ _ _) (fnOf_ok _) Try.func162 rfl rfl rfl (by decide) rfl ?_
  rintro ⟨(a0 : Int), a1, _⟩ hwf hpre ⟨P, C, B, X, w0, M0, pv⟩ hG rfl rfl
  show Vc _ _ [(0, ⟨0, 0, .c (.pure (.int .i64)) a0⟩), (1, ⟨0, 0, .c (.pure (.slice (.int .i64))) a1⟩)] _
  have hp : List.length a1 ≤ 1000000001 := hpre
  refine Vc.seq ?_
  refine Vc.region hG rfl ?_ ?_
  · trivial
  refine Vc.seq ?_
  refine Vc.region hG rfl ?_ ?_
  · refine ⟨?_, ?_, trivial⟩
    · show 1 + List.length a1 ≤ maxApp
      unfold maxApp; omega
    · show (List.length a1 + 1) + 1 ≤ maxApp
      unfold maxApp; omega
  refine Vc.ret ?_
  refine ⟨?_, trivial⟩
  all_goals exact rfl
noncomputable def F158 : Fun := ⟨[.pair (.int .i64) (.pair (.int .i64) (.pair (.int .i64) (.pair (.int .i64) (.int .i64)))), .slice (.int .i64)], [.pure (.int .i64)], fun x => (fun (_ : Key) (l : List Int) => smallL l) x.1 x.2.1, fun x => (markWithF x.1 x.2.1, ())⟩
set_option maxRecDepth 100000 in
/-- loop.example.g00597.impl.MarkWith -/
theorem F158_ok : Meets Try.prog 158 F158 := by
  refine meets_of_vc (C := mkC 13 [4] [0,1,2,4] [⟨162, _, F162_ok⟩]) (mkC_ok _ _ _ _) (fnOf_ok _) Try.func158 rfl rfl rfl (by decide) rfl ?_
  rintro ⟨a0, a1, _⟩ hwf hpre ⟨P, C, B, X, w0, M0, pv⟩ hG rfl rfl
  show Vc _ _ [(0, ⟨0, 0, .c (.pure (.pair (.int .i64) (.pair (.int .i64) (.pair (.int .i64) (.pair (.int .i64) (.int .i64)))))) a0⟩), (1, ⟨0, 0, .c (.pure (.slice (.int .i64))) a1⟩)] _
  have hp : List.length a1 ≤ 1000000000 := hpre
  refine Vc.seq ?_
  refine Vc.region hG rfl ?_ ?_
  · trivial
  refine Vc.seq ?_
  refine Vc.regionD mixed hG rfl (by kernel_rfl) ?_ ?_
  · refine ⟨?_, ?_⟩
    · show 1 + List.length a1 ≤ maxApp
      unfold maxApp; omega
    · show List.length a1 + 1 ≤ 1000000001
      omega
  refine Vc.ret ?_
  refine ⟨?_, trivial⟩
  all_goals exact rfl
noncomputable def F141 : Fun := ⟨[.slice (.pair (.int .i64) (.pair (.int .i64) (.pair (.int .i64) (.pair (.int .i64) (.int .i64))))), .int .i64, .slice (.int .i64)], [.pure (.int .i64), .pure (.bool)], fun x => (fun (_ : List Key) (_ : Int) (l : List Int) => smallL l) x.1 x.2.1 x.2.2.1, fun x => ((markByF x.1 x.2.1 x.2.2.1).1, (markByF x.1 x.2.1 x.2.2.1).2, ())⟩
set_option maxRecDepth 100000 in
/-- loop.example.g00597.impl.markBy -/
theorem F141_ok : Meets Try.prog 141 F141 := by
  refine meets_of_vc (C := mkC 20 [6, 7] [0,1,2,6,7,8,13] [⟨84, _, F84_ok⟩, ⟨158, _, F158_ok⟩]) (mkC_ok _ _ _ _) (fnOf_ok _) Try.func141 rfl rfl rfl (by decide) rfl ?_
  rintro ⟨a0, (a1 : Int), a2, _⟩ hwf hpre ⟨P, C, B, X, w0, M0, pv⟩ hG rfl rfl
  show Vc _ _ [(0, ⟨0, 0, .c (.pure (.slice (.pair (.int .i64) (.pair (.int .i64) (.pair (.int .i64) (.pair (.int .i64) (.int .i64))))))) a0⟩), (1, ⟨0, 0, .c (.pure (.int .i64)) a1⟩), (2, ⟨0, 0, .c (.pure (.slice (.int .i64))) a2⟩)] _
  have hp : smallL a2 := hpre
  refine Vc.seq ?_
  refine Vc.region hG rfl ?_ ?_
  · trivial
  refine Vc.seq ?_
  refine Vc.region hG rfl ?_ ?_
  · trivial
  refine Vc.seq ?_
  refine Vc.seq ?_
  refine Vc.region hG rfl ?_ ?_
  · trivial
  refine Vc.cond rfl (fun h0 => ?_) (fun h0 => ?_)
  · skip
    have g0 : keyI a0 a1 < 0 := of_decide_eq_true h0
    refine Vc.seq ?_
    refine Vc.region hG rfl ?_ ?_
    · trivial
    refine Vc.ret ?_
    have e := markBy_no (l := a2) g0
    refine ⟨?_, ?_, trivial⟩
    · exact (congrArg Prod.fst e).symm
    · exact (congrArg Prod.snd e).symm
  · skip
    have g0 : ¬ keyI a0 a1 < 0 := of_decide_eq_false h0
    refine Vc.skip ?_
    refine Vc.seq ?_
    refine Vc.region hG rfl ?_ ?_
    · exact ⟨findRange g0, hp⟩
    refine Vc.ret ?_
    have e := markBy_yes (l := a2) g0
    refine ⟨?_, ?_, trivial⟩
    · exact (congrArg Prod.fst e).symm
    · exact (congrArg Prod.snd e).symm
noncomputable def F92 : Fun := ⟨[.slice (.pair (.int .i64) (.pair (.int .i64) (.pair (.int .i64) (.pair (.int .i64) (.int .i64))))), .slice (.pair (.int .i64) (.pair (.int .i64) (.int .i64))), .pair (.int .i64) (.pair (.int .i64) (.pair (.int .i64) (.pair (.int .i64) (.int .i64))))], [.pure (.pair (.int .i64) (.pair (.int .i64) (.pair (.int .i64) (.pair (.int .i64) (.int .i64))))), .pure (.bool)], fun _ => True, fun x => ((makeStampF x.1 x.2.1 x.2.2.1).1, (makeStampF x.1 x.2.1 x.2.2.1).2, ())⟩
set_option maxRecDepth 100000 in
/-- loop.example.g00597.impl.MakeStamp -/
theorem F92_ok : Meets Try.prog 92 F92 := by
  refine meets_of_vc (C := mkC 47 [6, 7] [0,1,2,5,6,7,8,9,10,27,42] [⟨139, _, F139_ok⟩, ⟨140, _, F140_ok⟩, ⟨142, _, F142_ok⟩, ⟨141, _, F141_ok⟩]) (mkC_ok _ _ _ _) (fnOf_ok _) Try.func92 rfl rfl rfl (by decide) rfl ?_
  rintro ⟨a0, a1, a2, _⟩ hwf hpre ⟨P, C, B, X, w0, M0, pv⟩ hG rfl rfl
  show Vc _ _ [(0, ⟨0, 0, .c (.pure (.slice (.pair (.int .i64) (.pair (.int .i64) (.pair (.int .i64) (.pair (.int .i64) (.int .i64))))))) a0⟩), (1, ⟨0, 0, .c (.pure (.slice (.pair (.int .i64) (.pair (.int .i64) (.int .i64))))) a1⟩), (2, ⟨0, 0, .c (.pure (.pair (.int .i64) (.pair (.int .i64) (.pair (.int .i64) (.pair (.int .i64) (.int .i64)))))) a2⟩)] _
  refine Vc.seq ?_
  refine Vc.region hG rfl ?_ ?_
  · trivial
  refine Vc.seq ?_
  refine Vc.region hG rfl ?_ ?_
  · trivial
  refine Vc.seq ?_
  refine Vc.seq ?_
  refine Vc.region hG rfl ?_ ?_
  · intro _; exact trivial
  refine Vc.cond rfl (fun h0 => ?_) (fun h0 => ?_)
  · skip
    have g0 : stampBad a1 a2 = true := h0
    refine Vc.seq ?_
    refine Vc.region hG rfl ?_ ?_
    · trivial
    refine Vc.ret ?_
    have e := ms_1 (keys := a0) g0
    refine ⟨?_, ?_, trivial⟩
    · exact (congrArg Prod.fst e).symm
    · exact (congrArg Prod.snd e).symm
  · skip
    have g0 : stampBad a1 a2 = false := h0
    refine Vc.skip ?_
    refine Vc.seq ?_
    refine Vc.regionD mixed hG rfl (by kernel_rfl) ?_ ?_
    · exact ⟨bad_idx g0, trivial, smallLit (n := 5) rfl (by decide)⟩
    refine Vc.seq ?_
    refine Vc.seq ?_
    refine Vc.region hG rfl ?_ ?_
    · trivial
    refine Vc.cond rfl (fun h1 => ?_) (fun h1 => ?_)
    · skip
      have g1 : keyI a0 (authAt a1 a2.1).2.1 < 0 := mb_no h1
      refine Vc.seq ?_
      refine Vc.region hG rfl ?_ ?_
      · trivial
      refine Vc.ret ?_
      have e := ms_2 (keys := a0) g0 g1
      refine ⟨?_, ?_, trivial⟩
      · exact (congrArg Prod.fst e).symm
      · exact (congrArg Prod.snd e).symm
    · skip
      have k1 : (!(markByF a0 (authAt a1 a2.1).2.1 (stampIntsF a2)).2) = false := h1
      have g1 : ¬ keyI a0 (authAt a1 a2.1).2.1 < 0 := mb_ok k1
      refine Vc.skip ?_
      refine Vc.seq ?_
      refine Vc.region hG rfl ?_ ?_
      · trivial
      refine Vc.seq ?_
      refine Vc.region hG rfl ?_ ?_
      · trivial
      refine Vc.ret ?_
      have e := ms_3 (keys := a0) g0 g1
      have e2 := markBy_yes (l := stampIntsF a2) g1
      refine ⟨?_, ?_, trivial⟩
      · refine Eq.trans ?_ (congrArg Prod.fst e).symm
        exact congrArg (fun m => (a2.1, a2.2.1, a2.2.2.1, a2.2.2.2.1, m)) (congrArg Prod.fst e2)
      · exact (congrArg Prod.snd e).symm
noncomputable def F41 : Fun := ⟨[.slice (.pair (.int .i64) (.pair (.int .i64) (.pair (.int .i64) (.pair (.int .i64) (.int .i64))))), .slice (.pair (.int .i64) (.pair (.int .i64) (.int .i64))), .slice (.int .i64), .int .i64, .slice (.int .i64), .int .i64], [.own (.pure (.pair (.int .i64) (.pair (.int .i64) (.pair (.int .i64) (.pair (.int .i64) (.int .i64))))))], fun x => (fun (_ : List Key) (_ : List Authority) (x : List Int) (_ : Int) (_ : List Int) (_ : Int) => List.length x ≤ 1048576) x.1 x.2.1 x.2.2.1 x.2.2.2.1 x.2.2.2.2.1 x.2.2.2.2.2.1, fun x => (stampAllF x.1 x.2.1 x.2.2.1 x.2.2.2.1 x.2.2.2.2.1 x.2.2.2.2.2.1, ())⟩
set_option maxRecDepth 100000 in
/-- loop.example.g00597.impl.StampAll -/
theorem F41_ok : Meets Try.prog 41 F41 := by
  refine meets_of_vc (C := mkC 50 [12] [0,1,2,3,4,5,12,13,14,15,16,17,18,19,20,21,28,43] [⟨92, _, F92_ok⟩]) (mkC_ok _ _ _ _) (fnOf_ok _) Try.func41 rfl rfl rfl (by decide) rfl ?_
  rintro ⟨a0, a1, a2, (a3 : Int), a4, (a5 : Int), _⟩ hwf hpre ⟨P, C, B, X, w0, M0, pv⟩ hG rfl rfl
  show Vc _ _ [(0, ⟨0, 0, .c (.pure (.slice (.pair (.int .i64) (.pair (.int .i64) (.pair (.int .i64) (.pair (.int .i64) (.int .i64))))))) a0⟩), (1, ⟨0, 0, .c (.pure (.slice (.pair (.int .i64) (.pair (.int .i64) (.int .i64))))) a1⟩), (2, ⟨0, 0, .c (.pure (.slice (.int .i64))) a2⟩), (3, ⟨0, 0, .c (.pure (.int .i64)) a3⟩), (4, ⟨0, 0, .c (.pure (.slice (.int .i64))) a4⟩), (5, ⟨0, 0, .c (.pure (.int .i64)) a5⟩)] _
  have hb2 : List.length a2 ≤ 1048576 := hpre
  have hb : List.length (List.zip a2 a4) ≤ bigLen := by rw [List.length_zip]; unfold bigLen; omega
  have hs : List.length (List.zip a2 a4) ≤ 1048576 := by rw [List.length_zip]; omega
  refine Vc.seq ?_
  refine Vc.region hG rfl ?_ ?_
  · trivial
  refine Vc.seq ?_
  refine Vc.region hG rfl ?_ ?_
  · trivial
  refine Vc.seq ?_
  refine Vc.seq ?_
  refine Vc.region hG rfl ?_ ?_
  · trivial
  refine Vc.block ?_
  -- slots [13, 20]; frame [0, 1, 2, 3, 4, 5, 12, 18, 19]
  refine Vc.loopF [(13, false, .own (.pure (.pair (.int .i64) (.pair (.int .i64) (.pair (.int .i64) (.pair (.int .i64) (.int .i64))))))), (20, false, .pure (.int .i64))] [0, 1, 2, 3, 4, 5, 12, 18, 19] (fun v => pkInv (stF a0 a1 a3 a5) (List.zip a2 a4) v.1 v.2.1) (fun v => ((List.length (List.zip a2 a4) : Int) - v.2.1).toNat) rfl ?_ ?_
  · exact pkStart
  rintro ⟨acc, (i : Int), _⟩ hI
  have hI : pkInv (stF a0 a1 a3 a5) (List.zip a2 a4) acc i := hI
  refine Vc.seq ?_
  refine Vc.region hG rfl ?_ ?_
  · trivial
  refine Vc.seq ?_
  refine Vc.cond rfl (fun h0 => ?_) (fun h0 => ?_)
  · skip
    have m0 : i < (List.length a2 : Int) := of_decide_eq_true h0
    have p0 := pkPos hI
    refine Vc.skip ?_
    refine Vc.seq ?_
    refine Vc.block ?_
    refine Vc.seq ?_
    refine Vc.region hG rfl ?_ ?_
    · exact ⟨p0, m0⟩
    refine Vc.seq ?_
    refine Vc.seq ?_
    refine Vc.region hG rfl ?_ ?_
    · trivial
    refine Vc.cond rfl (fun h1 => ?_) (fun h1 => ?_)
    · skip
      have m1 : i ≥ (List.length a4 : Int) := of_decide_eq_true h1
      have hl : ¬ i < (List.length (List.zip a2 a4) : Int) := zipGe (fun h => by omega)
      refine Vc.exit ?_
      refine Vc.seq ?_
      refine Vc.region hG rfl ?_ ?_
      · trivial
      refine Vc.ret ?_
      refine ⟨?_, trivial⟩
      exact pkEnd hI hl
    · skip
      have m1 : ¬ i ≥ (List.length a4 : Int) := of_decide_eq_false h1
      have hl : i < (List.length (List.zip a2 a4) : Int) := zipLt m0 (by omega)
      have r2 : inRange i (List.length a2) := ⟨pkPos hI, zipL hl⟩
      have r4 : inRange i (List.length a4) := ⟨pkPos hI, zipR hl⟩
      refine Vc.skip ?_
      refine Vc.seq ?_
      refine Vc.region hG rfl ?_ ?_
      · exact ⟨r4, trivial⟩
      refine Vc.seq ?_
      refine Vc.region hG rfl ?_ ?_
      · trivial
      refine Vc.cond rfl (fun h2 => ?_) (fun h2 => ?_)
      · skip
        have g1 : (stF a0 a1 a3 a5 (List.getD (List.zip a2 a4) i.toNat (0, 0))).2 = true := by
          rw [zGet (pkPos hI) hl]
          exact h2
        refine Vc.region hG rfl ?_ ?_
        · exact pkLen hI hs
        refine Vc.region hG rfl ?_ ?_
        · trivial
        refine ⟨rfl, ?_⟩
        first
          | exact pkNo (d := (0, 0)) hI hl hb g1
          | exact pkYesE (d := (0, 0)) hI hl hb g1 (by rw [zGet (pkPos hI) hl]; rfl)
      · skip
        have g1 : (stF a0 a1 a3 a5 (List.getD (List.zip a2 a4) i.toNat (0, 0))).2 = false := by
          rw [zGet (pkPos hI) hl]
          exact h2
        refine Vc.skip ?_
        refine Vc.region hG rfl ?_ ?_
        · trivial
        refine ⟨rfl, ?_⟩
        first
          | exact pkNo (d := (0, 0)) hI hl hb g1
          | exact pkYesE (d := (0, 0)) hI hl hb g1 (by rw [zGet (pkPos hI) hl]; rfl)
  · skip
    have m0 : ¬ i < (List.length a2 : Int) := of_decide_eq_false h0
    have hl : ¬ i < (List.length (List.zip a2 a4) : Int) := zipGe (fun h => m0 h.1)
    refine Vc.exit ?_
    refine Vc.seq ?_
    refine Vc.region hG rfl ?_ ?_
    · trivial
    refine Vc.ret ?_
    refine ⟨?_, trivial⟩
    exact pkEnd hI hl
noncomputable def F93 : Fun := ⟨[.pair (.int .i64) (.pair (.int .i64) (.pair (.int .i64) (.pair (.int .i64) (.int .i64)))), .pair (.int .i64) (.pair (.int .i64) (.pair (.int .i64) (.pair (.int .i64) (.int .i64))))], [.pure (.bool)], fun _ => True, fun x => (eqC x.1 x.2.1, ())⟩
set_option maxRecDepth 100000 in
/-- loop.example.g00597.laws.eqStamp -/
theorem F93_ok : Meets Try.prog 93 F93 := by
  refine meets_of_vc (C := mkC 30 [4] [0,1,2,3,4,9,14,19,24,29] []) (mkC_ok _ _ _ _) (fnOf_ok _) Try.func93 rfl rfl rfl (by decide) rfl ?_
  rintro ⟨a0, a1, _⟩ hwf hpre ⟨P, C, B, X, w0, M0, pv⟩ hG rfl rfl
  show Vc _ _ [(0, ⟨0, 0, .c (.pure (.pair (.int .i64) (.pair (.int .i64) (.pair (.int .i64) (.pair (.int .i64) (.int .i64)))))) a0⟩), (1, ⟨0, 0, .c (.pure (.pair (.int .i64) (.pair (.int .i64) (.pair (.int .i64) (.pair (.int .i64) (.int .i64)))))) a1⟩)] _
  refine Vc.seq ?_
  refine Vc.region hG rfl ?_ ?_
  · trivial
  refine Vc.seq ?_
  refine Vc.seq ?_
  refine Vc.region hG rfl ?_ ?_
  · trivial
  refine Vc.cond rfl (fun h0 => ?_) (fun h0 => ?_)
  · skip
    refine Vc.seq ?_
    refine Vc.region hG rfl ?_ ?_
    · trivial
    refine Vc.ret ?_
    refine ⟨?_, trivial⟩
    exact eqC_no (fun e => absurd (show (a0.1 != a1.1) = true from h0) (by have e : a0 = a1 := e; rw [e]; simp))
  · skip
    have g0 : a0.1 = a1.1 := bneI h0
    refine Vc.skip ?_
    refine Vc.seq ?_
    refine Vc.seq ?_
    refine Vc.region hG rfl ?_ ?_
    · trivial
    refine Vc.cond rfl (fun h1 => ?_) (fun h1 => ?_)
    · skip
      refine Vc.seq ?_
      refine Vc.region hG rfl ?_ ?_
      · trivial
      refine Vc.ret ?_
      refine ⟨?_, trivial⟩
      exact eqC_no (fun e => absurd (show (a0.2.1 != a1.2.1) = true from h1) (by have e : a0 = a1 := e; rw [e]; simp))
    · skip
      have g1 : a0.2.1 = a1.2.1 := bneI h1
      refine Vc.skip ?_
      refine Vc.seq ?_
      refine Vc.seq ?_
      refine Vc.region hG rfl ?_ ?_
      · trivial
      refine Vc.cond rfl (fun h2 => ?_) (fun h2 => ?_)
      · skip
        refine Vc.seq ?_
        refine Vc.region hG rfl ?_ ?_
        · trivial
        refine Vc.ret ?_
        refine ⟨?_, trivial⟩
        exact eqC_no (fun e => absurd (show (a0.2.2.1 != a1.2.2.1) = true from h2) (by have e : a0 = a1 := e; rw [e]; simp))
      · skip
        have g2 : a0.2.2.1 = a1.2.2.1 := bneI h2
        refine Vc.skip ?_
        refine Vc.seq ?_
        refine Vc.seq ?_
        refine Vc.region hG rfl ?_ ?_
        · trivial
        refine Vc.cond rfl (fun h3 => ?_) (fun h3 => ?_)
        · skip
          refine Vc.seq ?_
          refine Vc.region hG rfl ?_ ?_
          · trivial
          refine Vc.ret ?_
          refine ⟨?_, trivial⟩
          exact eqC_no (fun e => absurd (show (a0.2.2.2.1 != a1.2.2.2.1) = true from h3) (by have e : a0 = a1 := e; rw [e]; simp))
        · skip
          have g3 : a0.2.2.2.1 = a1.2.2.2.1 := bneI h3
          refine Vc.skip ?_
          refine Vc.seq ?_
          refine Vc.seq ?_
          refine Vc.region hG rfl ?_ ?_
          · trivial
          refine Vc.cond rfl (fun h4 => ?_) (fun h4 => ?_)
          · skip
            refine Vc.seq ?_
            refine Vc.region hG rfl ?_ ?_
            · trivial
            refine Vc.ret ?_
            refine ⟨?_, trivial⟩
            exact eqC_no (fun e => absurd (show (a0.2.2.2.2 != a1.2.2.2.2) = true from h4) (by have e : a0 = a1 := e; rw [e]; simp))
          · skip
            have g4 : a0.2.2.2.2 = a1.2.2.2.2 := bneI h4
            refine Vc.skip ?_
            refine Vc.seq ?_
            refine Vc.region hG rfl ?_ ?_
            · trivial
            refine Vc.ret ?_
            refine ⟨?_, trivial⟩
            exact eqC_yes (Prod.ext g0 (Prod.ext g1 (Prod.ext g2 (Prod.ext g3 g4))))
noncomputable def F42 : Fun := ⟨[.slice (.pair (.int .i64) (.pair (.int .i64) (.pair (.int .i64) (.pair (.int .i64) (.int .i64))))), .slice (.pair (.int .i64) (.pair (.int .i64) (.pair (.int .i64) (.pair (.int .i64) (.int .i64)))))], [.pure (.bool)], fun _ => True, fun x => (eqC x.1 x.2.1, ())⟩
set_option maxRecDepth 100000 in
/-- loop.example.g00597.laws.eqStampS -/
theorem F42_ok : Meets Try.prog 42 F42 := by
  refine meets_of_vc (C := mkC 27 [4] [0,1,4,5,10,14,26] [⟨93, _, F93_ok⟩]) (mkC_ok _ _ _ _) (fnOf_ok _) Try.func42 rfl rfl rfl (by decide) rfl ?_
  rintro ⟨a0, a1, _⟩ hwf hpre ⟨P, C, B, X, w0, M0, pv⟩ hG rfl rfl
  show Vc _ _ [(0, ⟨0, 0, .c (.pure (.slice (.pair (.int .i64) (.pair (.int .i64) (.pair (.int .i64) (.pair (.int .i64) (.int .i64))))))) a0⟩), (1, ⟨0, 0, .c (.pure (.slice (.pair (.int .i64) (.pair (.int .i64) (.pair (.int .i64) (.pair (.int .i64) (.int .i64))))))) a1⟩)] _
  have hb : List.length a0 ≤ bigLen := hwf.1.1
  refine Vc.seq ?_
  refine Vc.region hG rfl ?_ ?_
  · trivial
  refine Vc.seq ?_
  refine Vc.seq ?_
  refine Vc.region hG rfl ?_ ?_
  · trivial
  refine Vc.cond rfl (fun h0 => ?_) (fun h0 => ?_)
  · skip
    refine Vc.seq ?_
    refine Vc.region hG rfl ?_ ?_
    · trivial
    refine Vc.ret ?_
    refine ⟨?_, trivial⟩
    exact eqC_no (fun e => absurd (show ((List.length a0 : Int) != (List.length a1 : Int)) = true from h0) (by have e : a0 = a1 := e; rw [e]; simp))
  · skip
    have g0 : List.length a0 = List.length a1 := lenEq h0
    refine Vc.skip ?_
    refine Vc.seq ?_
    refine Vc.seq ?_
    refine Vc.region hG rfl ?_ ?_
    · trivial
    refine Vc.block ?_
    -- slots [5]; frame [0, 1, 10]
    refine Vc.loopF [(5, false, .pure (.int .i64))] [0, 1, 10] (fun v => eqInv a0 a1 v.1) (fun v => ((List.length a0 : Int) - v.1).toNat) rfl ?_ ?_
    · exact eqStart g0
    rintro ⟨(i : Int), _⟩ hI
    have hI : eqInv a0 a1 i := hI
    refine Vc.seq ?_
    refine Vc.seq ?_
    refine Vc.region hG rfl ?_ ?_
    · trivial
    refine Vc.cond rfl (fun h1 => ?_) (fun h1 => ?_)
    · skip
      have hl : i < (List.length a0 : Int) := of_decide_eq_true h1
      refine Vc.skip ?_
      refine Vc.seq ?_
      refine Vc.block ?_
      refine Vc.seq ?_
      refine Vc.regionD mixed hG rfl (by kernel_rfl) ?_ ?_
      · exact ⟨(eqRange hI hl).1, (eqRange hI hl).2, trivial⟩
      refine Vc.cond rfl (fun h2 => ?_) (fun h2 => ?_)
      · skip
        have g2 : (!(eqC (List.getD a0 i.toNat (dflt (.pair (.int .i64) (.pair (.int .i64) (.pair (.int .i64) (.pair (.int .i64) (.int .i64))))))) (List.getD a1 i.toNat (dflt (.pair (.int .i64) (.pair (.int .i64) (.pair (.int .i64) (.pair (.int .i64) (.int .i64))))))))) = true := h2
        refine Vc.seq ?_
        refine Vc.region hG rfl ?_ ?_
        · trivial
        refine Vc.ret ?_
        refine ⟨?_, trivial⟩
        exact eqNo (d := dflt (.pair (.int .i64) (.pair (.int .i64) (.pair (.int .i64) (.pair (.int .i64) (.int .i64)))))) (i := i) (fun e => by rw [e, eqC_self] at g2; cases g2)
      · skip
        have g2 : (List.getD a0 i.toNat (dflt (.pair (.int .i64) (.pair (.int .i64) (.pair (.int .i64) (.pair (.int .i64) (.int .i64))))))) = (List.getD a1 i.toNat (dflt (.pair (.int .i64) (.pair (.int .i64) (.pair (.int .i64) (.pair (.int .i64) (.int .i64))))))) := notC h2
        refine Vc.skip ?_
        refine Vc.region hG rfl ?_ ?_
        · trivial
        refine ⟨rfl, ?_⟩
        exact ⟨eqStep (d := dflt (.pair (.int .i64) (.pair (.int .i64) (.pair (.int .i64) (.pair (.int .i64) (.int .i64)))))) hI hl hb g2, (upStep hI.1 hl hb).2.2⟩
    · skip
      have hl : ¬ i < (List.length a0 : Int) := of_decide_eq_false h1
      refine Vc.exit ?_
      refine Vc.seq ?_
      refine Vc.region hG rfl ?_ ?_
      · trivial
      refine Vc.ret ?_
      refine ⟨?_, trivial⟩
      exact eqC_yes (eqEnd hI hl)
noncomputable def F94 : Fun := ⟨[.pair (.int .i64) (.pair (.int .i64) (.pair (.int .i64) (.pair (.int .i64) (.int .i64)))), .pair (.int .i64) (.pair (.int .i64) (.pair (.int .i64) (.pair (.int .i64) (.int .i64))))], [.pure (.bool)], fun _ => True, fun x => (eqC x.1 x.2.1, ())⟩
set_option maxRecDepth 100000 in
/-- loop.example.g00597.laws.eqKey -/
theorem F94_ok : Meets Try.prog 94 F94 := by
  refine meets_of_vc (C := mkC 30 [4] [0,1,2,3,4,9,14,19,24,29] []) (mkC_ok _ _ _ _) (fnOf_ok _) Try.func94 rfl rfl rfl (by decide) rfl ?_
  rintro ⟨a0, a1, _⟩ hwf hpre ⟨P, C, B, X, w0, M0, pv⟩ hG rfl rfl
  show Vc _ _ [(0, ⟨0, 0, .c (.pure (.pair (.int .i64) (.pair (.int .i64) (.pair (.int .i64) (.pair (.int .i64) (.int .i64)))))) a0⟩), (1, ⟨0, 0, .c (.pure (.pair (.int .i64) (.pair (.int .i64) (.pair (.int .i64) (.pair (.int .i64) (.int .i64)))))) a1⟩)] _
  refine Vc.seq ?_
  refine Vc.region hG rfl ?_ ?_
  · trivial
  refine Vc.seq ?_
  refine Vc.seq ?_
  refine Vc.region hG rfl ?_ ?_
  · trivial
  refine Vc.cond rfl (fun h0 => ?_) (fun h0 => ?_)
  · skip
    refine Vc.seq ?_
    refine Vc.region hG rfl ?_ ?_
    · trivial
    refine Vc.ret ?_
    refine ⟨?_, trivial⟩
    exact eqC_no (fun e => absurd (show (a0.1 != a1.1) = true from h0) (by have e : a0 = a1 := e; rw [e]; simp))
  · skip
    have g0 : a0.1 = a1.1 := bneI h0
    refine Vc.skip ?_
    refine Vc.seq ?_
    refine Vc.seq ?_
    refine Vc.region hG rfl ?_ ?_
    · trivial
    refine Vc.cond rfl (fun h1 => ?_) (fun h1 => ?_)
    · skip
      refine Vc.seq ?_
      refine Vc.region hG rfl ?_ ?_
      · trivial
      refine Vc.ret ?_
      refine ⟨?_, trivial⟩
      exact eqC_no (fun e => absurd (show (a0.2.1 != a1.2.1) = true from h1) (by have e : a0 = a1 := e; rw [e]; simp))
    · skip
      have g1 : a0.2.1 = a1.2.1 := bneI h1
      refine Vc.skip ?_
      refine Vc.seq ?_
      refine Vc.seq ?_
      refine Vc.region hG rfl ?_ ?_
      · trivial
      refine Vc.cond rfl (fun h2 => ?_) (fun h2 => ?_)
      · skip
        refine Vc.seq ?_
        refine Vc.region hG rfl ?_ ?_
        · trivial
        refine Vc.ret ?_
        refine ⟨?_, trivial⟩
        exact eqC_no (fun e => absurd (show (a0.2.2.1 != a1.2.2.1) = true from h2) (by have e : a0 = a1 := e; rw [e]; simp))
      · skip
        have g2 : a0.2.2.1 = a1.2.2.1 := bneI h2
        refine Vc.skip ?_
        refine Vc.seq ?_
        refine Vc.seq ?_
        refine Vc.region hG rfl ?_ ?_
        · trivial
        refine Vc.cond rfl (fun h3 => ?_) (fun h3 => ?_)
        · skip
          refine Vc.seq ?_
          refine Vc.region hG rfl ?_ ?_
          · trivial
          refine Vc.ret ?_
          refine ⟨?_, trivial⟩
          exact eqC_no (fun e => absurd (show (a0.2.2.2.1 != a1.2.2.2.1) = true from h3) (by have e : a0 = a1 := e; rw [e]; simp))
        · skip
          have g3 : a0.2.2.2.1 = a1.2.2.2.1 := bneI h3
          refine Vc.skip ?_
          refine Vc.seq ?_
          refine Vc.seq ?_
          refine Vc.region hG rfl ?_ ?_
          · trivial
          refine Vc.cond rfl (fun h4 => ?_) (fun h4 => ?_)
          · skip
            refine Vc.seq ?_
            refine Vc.region hG rfl ?_ ?_
            · trivial
            refine Vc.ret ?_
            refine ⟨?_, trivial⟩
            exact eqC_no (fun e => absurd (show (a0.2.2.2.2 != a1.2.2.2.2) = true from h4) (by have e : a0 = a1 := e; rw [e]; simp))
          · skip
            have g4 : a0.2.2.2.2 = a1.2.2.2.2 := bneI h4
            refine Vc.skip ?_
            refine Vc.seq ?_
            refine Vc.region hG rfl ?_ ?_
            · trivial
            refine Vc.ret ?_
            refine ⟨?_, trivial⟩
            exact eqC_yes (Prod.ext g0 (Prod.ext g1 (Prod.ext g2 (Prod.ext g3 g4))))
noncomputable def F43 : Fun := ⟨[.slice (.pair (.int .i64) (.pair (.int .i64) (.pair (.int .i64) (.pair (.int .i64) (.int .i64))))), .slice (.pair (.int .i64) (.pair (.int .i64) (.pair (.int .i64) (.pair (.int .i64) (.int .i64)))))], [.pure (.bool)], fun _ => True, fun x => (eqC x.1 x.2.1, ())⟩
set_option maxRecDepth 100000 in
/-- loop.example.g00597.laws.eqKeyS -/
theorem F43_ok : Meets Try.prog 43 F43 := by
  refine meets_of_vc (C := mkC 27 [4] [0,1,4,5,10,14,26] [⟨94, _, F94_ok⟩]) (mkC_ok _ _ _ _) (fnOf_ok _) Try.func43 rfl rfl rfl (by decide) rfl ?_
  rintro ⟨a0, a1, _⟩ hwf hpre ⟨P, C, B, X, w0, M0, pv⟩ hG rfl rfl
  show Vc _ _ [(0, ⟨0, 0, .c (.pure (.slice (.pair (.int .i64) (.pair (.int .i64) (.pair (.int .i64) (.pair (.int .i64) (.int .i64))))))) a0⟩), (1, ⟨0, 0, .c (.pure (.slice (.pair (.int .i64) (.pair (.int .i64) (.pair (.int .i64) (.pair (.int .i64) (.int .i64))))))) a1⟩)] _
  have hb : List.length a0 ≤ bigLen := hwf.1.1
  refine Vc.seq ?_
  refine Vc.region hG rfl ?_ ?_
  · trivial
  refine Vc.seq ?_
  refine Vc.seq ?_
  refine Vc.region hG rfl ?_ ?_
  · trivial
  refine Vc.cond rfl (fun h0 => ?_) (fun h0 => ?_)
  · skip
    refine Vc.seq ?_
    refine Vc.region hG rfl ?_ ?_
    · trivial
    refine Vc.ret ?_
    refine ⟨?_, trivial⟩
    exact eqC_no (fun e => absurd (show ((List.length a0 : Int) != (List.length a1 : Int)) = true from h0) (by have e : a0 = a1 := e; rw [e]; simp))
  · skip
    have g0 : List.length a0 = List.length a1 := lenEq h0
    refine Vc.skip ?_
    refine Vc.seq ?_
    refine Vc.seq ?_
    refine Vc.region hG rfl ?_ ?_
    · trivial
    refine Vc.block ?_
    -- slots [5]; frame [0, 1, 10]
    refine Vc.loopF [(5, false, .pure (.int .i64))] [0, 1, 10] (fun v => eqInv a0 a1 v.1) (fun v => ((List.length a0 : Int) - v.1).toNat) rfl ?_ ?_
    · exact eqStart g0
    rintro ⟨(i : Int), _⟩ hI
    have hI : eqInv a0 a1 i := hI
    refine Vc.seq ?_
    refine Vc.seq ?_
    refine Vc.region hG rfl ?_ ?_
    · trivial
    refine Vc.cond rfl (fun h1 => ?_) (fun h1 => ?_)
    · skip
      have hl : i < (List.length a0 : Int) := of_decide_eq_true h1
      refine Vc.skip ?_
      refine Vc.seq ?_
      refine Vc.block ?_
      refine Vc.seq ?_
      refine Vc.regionD mixed hG rfl (by kernel_rfl) ?_ ?_
      · exact ⟨(eqRange hI hl).1, (eqRange hI hl).2, trivial⟩
      refine Vc.cond rfl (fun h2 => ?_) (fun h2 => ?_)
      · skip
        have g2 : (!(eqC (List.getD a0 i.toNat (dflt (.pair (.int .i64) (.pair (.int .i64) (.pair (.int .i64) (.pair (.int .i64) (.int .i64))))))) (List.getD a1 i.toNat (dflt (.pair (.int .i64) (.pair (.int .i64) (.pair (.int .i64) (.pair (.int .i64) (.int .i64))))))))) = true := h2
        refine Vc.seq ?_
        refine Vc.region hG rfl ?_ ?_
        · trivial
        refine Vc.ret ?_
        refine ⟨?_, trivial⟩
        exact eqNo (d := dflt (.pair (.int .i64) (.pair (.int .i64) (.pair (.int .i64) (.pair (.int .i64) (.int .i64)))))) (i := i) (fun e => by rw [e, eqC_self] at g2; cases g2)
      · skip
        have g2 : (List.getD a0 i.toNat (dflt (.pair (.int .i64) (.pair (.int .i64) (.pair (.int .i64) (.pair (.int .i64) (.int .i64))))))) = (List.getD a1 i.toNat (dflt (.pair (.int .i64) (.pair (.int .i64) (.pair (.int .i64) (.pair (.int .i64) (.int .i64))))))) := notC h2
        refine Vc.skip ?_
        refine Vc.region hG rfl ?_ ?_
        · trivial
        refine ⟨rfl, ?_⟩
        exact ⟨eqStep (d := dflt (.pair (.int .i64) (.pair (.int .i64) (.pair (.int .i64) (.pair (.int .i64) (.int .i64)))))) hI hl hb g2, (upStep hI.1 hl hb).2.2⟩
    · skip
      have hl : ¬ i < (List.length a0 : Int) := of_decide_eq_false h1
      refine Vc.exit ?_
      refine Vc.seq ?_
      refine Vc.region hG rfl ?_ ?_
      · trivial
      refine Vc.ret ?_
      refine ⟨?_, trivial⟩
      exact eqC_yes (eqEnd hI hl)
noncomputable def F95 : Fun := ⟨[.pair (.int .i64) (.pair (.int .i64) (.int .i64)), .pair (.int .i64) (.pair (.int .i64) (.int .i64))], [.pure (.bool)], fun _ => True, fun x => (eqC x.1 x.2.1, ())⟩
set_option maxRecDepth 100000 in
/-- loop.example.g00597.laws.eqAuthority -/
theorem F95_ok : Meets Try.prog 95 F95 := by
  refine meets_of_vc (C := mkC 20 [4] [0,1,2,3,4,9,14,19] []) (mkC_ok _ _ _ _) (fnOf_ok _) Try.func95 rfl rfl rfl (by decide) rfl ?_
  rintro ⟨a0, a1, _⟩ hwf hpre ⟨P, C, B, X, w0, M0, pv⟩ hG rfl rfl
  show Vc _ _ [(0, ⟨0, 0, .c (.pure (.pair (.int .i64) (.pair (.int .i64) (.int .i64)))) a0⟩), (1, ⟨0, 0, .c (.pure (.pair (.int .i64) (.pair (.int .i64) (.int .i64)))) a1⟩)] _
  refine Vc.seq ?_
  refine Vc.region hG rfl ?_ ?_
  · trivial
  refine Vc.seq ?_
  refine Vc.seq ?_
  refine Vc.region hG rfl ?_ ?_
  · trivial
  refine Vc.cond rfl (fun h0 => ?_) (fun h0 => ?_)
  · skip
    refine Vc.seq ?_
    refine Vc.region hG rfl ?_ ?_
    · trivial
    refine Vc.ret ?_
    refine ⟨?_, trivial⟩
    exact eqC_no (fun e => absurd (show (a0.1 != a1.1) = true from h0) (by have e : a0 = a1 := e; rw [e]; simp))
  · skip
    have g0 : a0.1 = a1.1 := bneI h0
    refine Vc.skip ?_
    refine Vc.seq ?_
    refine Vc.seq ?_
    refine Vc.region hG rfl ?_ ?_
    · trivial
    refine Vc.cond rfl (fun h1 => ?_) (fun h1 => ?_)
    · skip
      refine Vc.seq ?_
      refine Vc.region hG rfl ?_ ?_
      · trivial
      refine Vc.ret ?_
      refine ⟨?_, trivial⟩
      exact eqC_no (fun e => absurd (show (a0.2.1 != a1.2.1) = true from h1) (by have e : a0 = a1 := e; rw [e]; simp))
    · skip
      have g1 : a0.2.1 = a1.2.1 := bneI h1
      refine Vc.skip ?_
      refine Vc.seq ?_
      refine Vc.seq ?_
      refine Vc.region hG rfl ?_ ?_
      · trivial
      refine Vc.cond rfl (fun h2 => ?_) (fun h2 => ?_)
      · skip
        refine Vc.seq ?_
        refine Vc.region hG rfl ?_ ?_
        · trivial
        refine Vc.ret ?_
        refine ⟨?_, trivial⟩
        exact eqC_no (fun e => absurd (show (a0.2.2 != a1.2.2) = true from h2) (by have e : a0 = a1 := e; rw [e]; simp))
      · skip
        have g2 : a0.2.2 = a1.2.2 := bneI h2
        refine Vc.skip ?_
        refine Vc.seq ?_
        refine Vc.region hG rfl ?_ ?_
        · trivial
        refine Vc.ret ?_
        refine ⟨?_, trivial⟩
        exact eqC_yes (Prod.ext g0 (Prod.ext g1 g2))
noncomputable def F44 : Fun := ⟨[.slice (.pair (.int .i64) (.pair (.int .i64) (.int .i64))), .slice (.pair (.int .i64) (.pair (.int .i64) (.int .i64)))], [.pure (.bool)], fun _ => True, fun x => (eqC x.1 x.2.1, ())⟩
set_option maxRecDepth 100000 in
/-- loop.example.g00597.laws.eqAuthorityS -/
theorem F44_ok : Meets Try.prog 44 F44 := by
  refine meets_of_vc (C := mkC 27 [4] [0,1,4,5,10,14,26] [⟨95, _, F95_ok⟩]) (mkC_ok _ _ _ _) (fnOf_ok _) Try.func44 rfl rfl rfl (by decide) rfl ?_
  rintro ⟨a0, a1, _⟩ hwf hpre ⟨P, C, B, X, w0, M0, pv⟩ hG rfl rfl
  show Vc _ _ [(0, ⟨0, 0, .c (.pure (.slice (.pair (.int .i64) (.pair (.int .i64) (.int .i64))))) a0⟩), (1, ⟨0, 0, .c (.pure (.slice (.pair (.int .i64) (.pair (.int .i64) (.int .i64))))) a1⟩)] _
  have hb : List.length a0 ≤ bigLen := hwf.1.1
  refine Vc.seq ?_
  refine Vc.region hG rfl ?_ ?_
  · trivial
  refine Vc.seq ?_
  refine Vc.seq ?_
  refine Vc.region hG rfl ?_ ?_
  · trivial
  refine Vc.cond rfl (fun h0 => ?_) (fun h0 => ?_)
  · skip
    refine Vc.seq ?_
    refine Vc.region hG rfl ?_ ?_
    · trivial
    refine Vc.ret ?_
    refine ⟨?_, trivial⟩
    exact eqC_no (fun e => absurd (show ((List.length a0 : Int) != (List.length a1 : Int)) = true from h0) (by have e : a0 = a1 := e; rw [e]; simp))
  · skip
    have g0 : List.length a0 = List.length a1 := lenEq h0
    refine Vc.skip ?_
    refine Vc.seq ?_
    refine Vc.seq ?_
    refine Vc.region hG rfl ?_ ?_
    · trivial
    refine Vc.block ?_
    -- slots [5]; frame [0, 1, 10]
    refine Vc.loopF [(5, false, .pure (.int .i64))] [0, 1, 10] (fun v => eqInv a0 a1 v.1) (fun v => ((List.length a0 : Int) - v.1).toNat) rfl ?_ ?_
    · exact eqStart g0
    rintro ⟨(i : Int), _⟩ hI
    have hI : eqInv a0 a1 i := hI
    refine Vc.seq ?_
    refine Vc.seq ?_
    refine Vc.region hG rfl ?_ ?_
    · trivial
    refine Vc.cond rfl (fun h1 => ?_) (fun h1 => ?_)
    · skip
      have hl : i < (List.length a0 : Int) := of_decide_eq_true h1
      refine Vc.skip ?_
      refine Vc.seq ?_
      refine Vc.block ?_
      refine Vc.seq ?_
      refine Vc.regionD mixed hG rfl (by kernel_rfl) ?_ ?_
      · exact ⟨(eqRange hI hl).1, (eqRange hI hl).2, trivial⟩
      refine Vc.cond rfl (fun h2 => ?_) (fun h2 => ?_)
      · skip
        have g2 : (!(eqC (List.getD a0 i.toNat (dflt (.pair (.int .i64) (.pair (.int .i64) (.int .i64))))) (List.getD a1 i.toNat (dflt (.pair (.int .i64) (.pair (.int .i64) (.int .i64))))))) = true := h2
        refine Vc.seq ?_
        refine Vc.region hG rfl ?_ ?_
        · trivial
        refine Vc.ret ?_
        refine ⟨?_, trivial⟩
        exact eqNo (d := dflt (.pair (.int .i64) (.pair (.int .i64) (.int .i64)))) (i := i) (fun e => by rw [e, eqC_self] at g2; cases g2)
      · skip
        have g2 : (List.getD a0 i.toNat (dflt (.pair (.int .i64) (.pair (.int .i64) (.int .i64))))) = (List.getD a1 i.toNat (dflt (.pair (.int .i64) (.pair (.int .i64) (.int .i64))))) := notC h2
        refine Vc.skip ?_
        refine Vc.region hG rfl ?_ ?_
        · trivial
        refine ⟨rfl, ?_⟩
        exact ⟨eqStep (d := dflt (.pair (.int .i64) (.pair (.int .i64) (.int .i64)))) hI hl hb g2, (upStep hI.1 hl hb).2.2⟩
    · skip
      have hl : ¬ i < (List.length a0 : Int) := of_decide_eq_false h1
      refine Vc.exit ?_
      refine Vc.seq ?_
      refine Vc.region hG rfl ?_ ?_
      · trivial
      refine Vc.ret ?_
      refine ⟨?_, trivial⟩
      exact eqC_yes (eqEnd hI hl)
noncomputable def F30 : Fun := ⟨[.slice (.int .i64), .slice (.int .i64)], [.pure (.bool)], fun _ => True, fun x => (eqC x.1 x.2.1, ())⟩
set_option maxRecDepth 100000 in
/-- loop.example.g00597.laws.eqIntS -/
theorem F30_ok : Meets Try.prog 30 F30 := by
  refine meets_of_vc (C := mkC 26 [4] [0,1,4,5,10,14,25] []) (mkC_ok _ _ _ _) (fnOf_ok _) Try.func30 rfl rfl rfl (by decide) rfl ?_
  rintro ⟨a0, a1, _⟩ hwf hpre ⟨P, C, B, X, w0, M0, pv⟩ hG rfl rfl
  show Vc _ _ [(0, ⟨0, 0, .c (.pure (.slice (.int .i64))) a0⟩), (1, ⟨0, 0, .c (.pure (.slice (.int .i64))) a1⟩)] _
  have hb : List.length a0 ≤ bigLen := hwf.1.1
  refine Vc.seq ?_
  refine Vc.region hG rfl ?_ ?_
  · trivial
  refine Vc.seq ?_
  refine Vc.seq ?_
  refine Vc.region hG rfl ?_ ?_
  · trivial
  refine Vc.cond rfl (fun h0 => ?_) (fun h0 => ?_)
  · skip
    refine Vc.seq ?_
    refine Vc.region hG rfl ?_ ?_
    · trivial
    refine Vc.ret ?_
    refine ⟨?_, trivial⟩
    exact eqC_no (fun e => absurd (show ((List.length a0 : Int) != (List.length a1 : Int)) = true from h0) (by have e : a0 = a1 := e; rw [e]; simp))
  · skip
    have g0 : List.length a0 = List.length a1 := lenEq h0
    refine Vc.skip ?_
    refine Vc.seq ?_
    refine Vc.seq ?_
    refine Vc.region hG rfl ?_ ?_
    · trivial
    refine Vc.block ?_
    -- slots [5]; frame [0, 1, 10]
    refine Vc.loopF [(5, false, .pure (.int .i64))] [0, 1, 10] (fun v => eqInv a0 a1 v.1) (fun v => ((List.length a0 : Int) - v.1).toNat) rfl ?_ ?_
    · exact eqStart g0
    rintro ⟨(i : Int), _⟩ hI
    have hI : eqInv a0 a1 i := hI
    refine Vc.seq ?_
    refine Vc.seq ?_
    refine Vc.region hG rfl ?_ ?_
    · trivial
    refine Vc.cond rfl (fun h1 => ?_) (fun h1 => ?_)
    · skip
      have hl : i < (List.length a0 : Int) := of_decide_eq_true h1
      refine Vc.skip ?_
      refine Vc.seq ?_
      refine Vc.block ?_
      refine Vc.seq ?_
      refine Vc.regionD mixed hG rfl (by kernel_rfl) ?_ ?_
      · exact ⟨(eqRange hI hl).1, (eqRange hI hl).2⟩
      refine Vc.cond rfl (fun h2 => ?_) (fun h2 => ?_)
      · skip
        have g2 : ((List.getD a0 i.toNat (dflt (.int .i64))) != (List.getD a1 i.toNat (dflt (.int .i64)))) = true := h2
        refine Vc.seq ?_
        refine Vc.region hG rfl ?_ ?_
        · trivial
        refine Vc.ret ?_
        refine ⟨?_, trivial⟩
        exact eqNo (d := dflt (.int .i64)) (i := i) (fun e => by rw [e] at g2; simp at g2)
      · skip
        have g2 : (List.getD a0 i.toNat (dflt (.int .i64))) = (List.getD a1 i.toNat (dflt (.int .i64))) := bneI h2
        refine Vc.skip ?_
        refine Vc.region hG rfl ?_ ?_
        · trivial
        refine ⟨rfl, ?_⟩
        exact ⟨eqStep (d := dflt (.int .i64)) hI hl hb g2, (upStep hI.1 hl hb).2.2⟩
    · skip
      have hl : ¬ i < (List.length a0 : Int) := of_decide_eq_false h1
      refine Vc.exit ?_
      refine Vc.seq ?_
      refine Vc.region hG rfl ?_ ?_
      · trivial
      refine Vc.ret ?_
      refine ⟨?_, trivial⟩
      exact eqC_yes (eqEnd hI hl)
@[reducible] noncomputable def M45 : MFun := mF (.own (.pure (.pair (.int .i64) (.pair (.int .i64) (.pair (.int .i64) (.pair (.int .i64) (.int .i64)))))))
set_option maxRecDepth 100000 in
/-- loop.example.g00597.laws.markKeyS -/
theorem M45_ok : MeetsM Try.prog 45 M45 := by
  refine meetsM_of_vc (C := mkCM 48 [4] [0,1,4,5,9] [] [] [0]) (mkCM_ok _ _ _ _ _ _) (fnOf_ok _) Try.func45 rfl rfl rfl (by decide) rfl rfl rfl rfl ?_
  rintro a0 (a1 : Int) hwf hin hpre ⟨P, C, B, X, w0, M0, pv⟩ hG rfl rfl
  show Vc _ _ [(0, ⟨0, 0, .c (.own (.pure (.pair (.int .i64) (.pair (.int .i64) (.pair (.int .i64) (.pair (.int .i64) (.int .i64))))))) a0⟩), (1, ⟨0, 0, .c (.pure (.int .i64)) a1⟩)] _
  have hb : List.length a0 ≤ bigLen := hwf.1
  have hp0 : 0 ≤ a1 := hpre.1
  have hp1 : a1 + ((cellsL (cellsC (.pair (.int .i64) (.pair (.int .i64) (.pair (.int .i64) (.pair (.int .i64) (.int .i64)))))) a0 : Nat) : Int) ≤ bnd := hpre.2
  refine Vc.seq ?_
  refine Vc.region hG rfl ?_ ?_
  · trivial
  refine Vc.seq ?_
  refine Vc.seq ?_
  refine Vc.region hG rfl ?_ ?_
  · trivial
  refine Vc.block ?_
  -- slots [0, 1, 5]; frame [4]
  refine Vc.loopF [(0, false, .own (.pure (.pair (.int .i64) (.pair (.int .i64) (.pair (.int .i64) (.pair (.int .i64) (.int .i64))))))), (1, false, .pure (.int .i64)), (5, false, .pure (.int .i64))] [4] (fun v => mkInv (cellsC (.pair (.int .i64) (.pair (.int .i64) (.pair (.int .i64) (.pair (.int .i64) (.int .i64)))))) (markC (.pair (.int .i64) (.pair (.int .i64) (.pair (.int .i64) (.pair (.int .i64) (.int .i64)))))) a0 a1 v.1 v.2.1 v.2.2.1) (fun v => ((List.length v.1 : Int) - v.2.2.1).toNat) rfl ?_ ?_
  · exact mkStart
  rintro ⟨v, (k : Int), (i : Int), _⟩ hI
  have hI : mkInv (cellsC (.pair (.int .i64) (.pair (.int .i64) (.pair (.int .i64) (.pair (.int .i64) (.int .i64)))))) (markC (.pair (.int .i64) (.pair (.int .i64) (.pair (.int .i64) (.pair (.int .i64) (.int .i64)))))) a0 a1 v k i := hI
  have hbv : v.length ≤ bigLen := by rw [mkLen hI]; exact hb
  refine Vc.seq ?_
  refine Vc.seq ?_
  refine Vc.region hG rfl ?_ ?_
  · trivial
  refine Vc.cond rfl (fun h0 => ?_) (fun h0 => ?_)
  · skip
    have hl : i < (List.length v : Int) := of_decide_eq_true h0
    have hln : i.toNat < v.length := by have := hI.1; omega
    have hk := mkBound hI hl (dflt (.pair (.int .i64) (.pair (.int .i64) (.pair (.int .i64) (.pair (.int .i64) (.int .i64)))))) hp0 hp1
    generalize hX : List.getD v i.toNat (dflt (.pair (.int .i64) (.pair (.int .i64) (.pair (.int .i64) (.pair (.int .i64) (.int .i64)))))) = X at hk
    have hk : 0 ≤ k ∧ k + (((1 + (1 + (1 + (1 + 1)))) : Nat) : Int) ≤ bnd := hk
    have w0 : IntKind.i64.wrap (k + 1) = k + 1 := wrapB (by omega) (by omega)
    have w1 : IntKind.i64.wrap (k + 1 + 1) = k + 1 + 1 := wrapB (by omega) (by omega)
    have w2 : IntKind.i64.wrap (k + 1 + 1 + 1) = k + 1 + 1 + 1 := wrapB (by omega) (by omega)
    have w3 : IntKind.i64.wrap (k + 1 + 1 + 1 + 1) = k + 1 + 1 + 1 + 1 := wrapB (by omega) (by omega)
    have w4 : IntKind.i64.wrap (k + 1 + 1 + 1 + 1 + 1) = k + 1 + 1 + 1 + 1 + 1 := wrapB (by omega) (by omega)
    refine Vc.skip ?_
    refine Vc.seq ?_
    refine Vc.block ?_
    refine Vc.seq ?_
    refine Vc.region hG rfl ?_ ?_
    · show inRange i _
      exact mkRange hI hl
    refine Vc.seq ?_
    refine Vc.region hG rfl ?_ ?_
    · trivial
    refine Vc.seq ?_
    refine Vc.region hG rfl ?_ ?_
    · show inRange i _
      simp only [List.length_set]
      exact mkRange hI hl
    refine Vc.seq ?_
    refine Vc.region hG rfl ?_ ?_
    · trivial
    refine Vc.seq ?_
    refine Vc.region hG rfl ?_ ?_
    · show inRange i _
      simp only [List.length_set]
      exact mkRange hI hl
    refine Vc.seq ?_
    refine Vc.region hG rfl ?_ ?_
    · trivial
    refine Vc.seq ?_
    refine Vc.region hG rfl ?_ ?_
    · show inRange i _
      simp only [List.length_set]
      exact mkRange hI hl
    refine Vc.seq ?_
    refine Vc.region hG rfl ?_ ?_
    · trivial
    refine Vc.seq ?_
    refine Vc.region hG rfl ?_ ?_
    · show inRange i _
      simp only [List.length_set]
      exact mkRange hI hl
    refine Vc.region hG rfl ?_ ?_
    · trivial
    refine Vc.region hG rfl ?_ ?_
    · trivial
    refine ⟨rfl, ?_⟩
    refine mkStep hI hl hbv (dflt (.pair (.int .i64) (.pair (.int .i64) (.pair (.int .i64) (.pair (.int .i64) (.int .i64)))))) ?_ ?_
    · rw [hX]
      try simp only [List.length_set, List.set_set, getD_setS hln, hX, cntF_eq, w0, w1, w2, w3, w4]
      rfl
    · rw [hX]
      show _ = k + (((1 + (1 + (1 + (1 + 1)))) : Nat) : Int)
      try simp only [List.length_set, List.set_set, getD_setS hln, hX, cntF_eq, w0, w1, w2, w3, w4]
      omega
  · skip
    have hl : ¬ i < (List.length v : Int) := of_decide_eq_false h0
    refine Vc.exit ?_
    refine Vc.seq ?_
    refine Vc.region hG rfl ?_ ?_
    · trivial
    refine Vc.ret ?_
    have e := mkEnd hI hl
    refine ⟨?_, ?_, trivial⟩
    · show k = cntF (.slice (.pair (.int .i64) (.pair (.int .i64) (.pair (.int .i64) (.pair (.int .i64) (.int .i64)))))) a0 a1
      rw [cntF_eq]; exact e.1
    · exact e.2
@[reducible] noncomputable def M46 : MFun := mF (.own (.pure (.pair (.int .i64) (.pair (.int .i64) (.int .i64)))))
set_option maxRecDepth 100000 in
/-- loop.example.g00597.laws.markAuthorityS -/
theorem M46_ok : MeetsM Try.prog 46 M46 := by
  refine meetsM_of_vc (C := mkCM 34 [4] [0,1,4,5,9] [] [] [0]) (mkCM_ok _ _ _ _ _ _) (fnOf_ok _) Try.func46 rfl rfl rfl (by decide) rfl rfl rfl rfl ?_
  rintro a0 (a1 : Int) hwf hin hpre ⟨P, C, B, X, w0, M0, pv⟩ hG rfl rfl
  show Vc _ _ [(0, ⟨0, 0, .c (.own (.pure (.pair (.int .i64) (.pair (.int .i64) (.int .i64))))) a0⟩), (1, ⟨0, 0, .c (.pure (.int .i64)) a1⟩)] _
  have hb : List.length a0 ≤ bigLen := hwf.1
  have hp0 : 0 ≤ a1 := hpre.1
  have hp1 : a1 + ((cellsL (cellsC (.pair (.int .i64) (.pair (.int .i64) (.int .i64)))) a0 : Nat) : Int) ≤ bnd := hpre.2
  refine Vc.seq ?_
  refine Vc.region hG rfl ?_ ?_
  · trivial
  refine Vc.seq ?_
  refine Vc.seq ?_
  refine Vc.region hG rfl ?_ ?_
  · trivial
  refine Vc.block ?_
  -- slots [0, 1, 5]; frame [4]
  refine Vc.loopF [(0, false, .own (.pure (.pair (.int .i64) (.pair (.int .i64) (.int .i64))))), (1, false, .pure (.int .i64)), (5, false, .pure (.int .i64))] [4] (fun v => mkInv (cellsC (.pair (.int .i64) (.pair (.int .i64) (.int .i64)))) (markC (.pair (.int .i64) (.pair (.int .i64) (.int .i64)))) a0 a1 v.1 v.2.1 v.2.2.1) (fun v => ((List.length v.1 : Int) - v.2.2.1).toNat) rfl ?_ ?_
  · exact mkStart
  rintro ⟨v, (k : Int), (i : Int), _⟩ hI
  have hI : mkInv (cellsC (.pair (.int .i64) (.pair (.int .i64) (.int .i64)))) (markC (.pair (.int .i64) (.pair (.int .i64) (.int .i64)))) a0 a1 v k i := hI
  have hbv : v.length ≤ bigLen := by rw [mkLen hI]; exact hb
  refine Vc.seq ?_
  refine Vc.seq ?_
  refine Vc.region hG rfl ?_ ?_
  · trivial
  refine Vc.cond rfl (fun h0 => ?_) (fun h0 => ?_)
  · skip
    have hl : i < (List.length v : Int) := of_decide_eq_true h0
    have hln : i.toNat < v.length := by have := hI.1; omega
    have hk := mkBound hI hl (dflt (.pair (.int .i64) (.pair (.int .i64) (.int .i64)))) hp0 hp1
    generalize hX : List.getD v i.toNat (dflt (.pair (.int .i64) (.pair (.int .i64) (.int .i64)))) = X at hk
    have hk : 0 ≤ k ∧ k + (((1 + (1 + 1)) : Nat) : Int) ≤ bnd := hk
    have w0 : IntKind.i64.wrap (k + 1) = k + 1 := wrapB (by omega) (by omega)
    have w1 : IntKind.i64.wrap (k + 1 + 1) = k + 1 + 1 := wrapB (by omega) (by omega)
    have w2 : IntKind.i64.wrap (k + 1 + 1 + 1) = k + 1 + 1 + 1 := wrapB (by omega) (by omega)
    refine Vc.skip ?_
    refine Vc.seq ?_
    refine Vc.block ?_
    refine Vc.seq ?_
    refine Vc.region hG rfl ?_ ?_
    · show inRange i _
      exact mkRange hI hl
    refine Vc.seq ?_
    refine Vc.region hG rfl ?_ ?_
    · trivial
    refine Vc.seq ?_
    refine Vc.region hG rfl ?_ ?_
    · show inRange i _
      simp only [List.length_set]
      exact mkRange hI hl
    refine Vc.seq ?_
    refine Vc.region hG rfl ?_ ?_
    · trivial
    refine Vc.seq ?_
    refine Vc.region hG rfl ?_ ?_
    · show inRange i _
      simp only [List.length_set]
      exact mkRange hI hl
    refine Vc.region hG rfl ?_ ?_
    · trivial
    refine Vc.region hG rfl ?_ ?_
    · trivial
    refine ⟨rfl, ?_⟩
    refine mkStep hI hl hbv (dflt (.pair (.int .i64) (.pair (.int .i64) (.int .i64)))) ?_ ?_
    · rw [hX]
      try simp only [List.length_set, List.set_set, getD_setS hln, hX, cntF_eq, w0, w1, w2]
      rfl
    · rw [hX]
      show _ = k + (((1 + (1 + 1)) : Nat) : Int)
      try simp only [List.length_set, List.set_set, getD_setS hln, hX, cntF_eq, w0, w1, w2]
      omega
  · skip
    have hl : ¬ i < (List.length v : Int) := of_decide_eq_false h0
    refine Vc.exit ?_
    refine Vc.seq ?_
    refine Vc.region hG rfl ?_ ?_
    · trivial
    refine Vc.ret ?_
    have e := mkEnd hI hl
    refine ⟨?_, ?_, trivial⟩
    · show k = cntF (.slice (.pair (.int .i64) (.pair (.int .i64) (.int .i64)))) a0 a1
      rw [cntF_eq]; exact e.1
    · exact e.2
@[reducible] noncomputable def M33 : MFun := mF (.own (.pure (.int .i64)))
set_option maxRecDepth 100000 in
/-- loop.example.g00597.laws.markIntS -/
theorem M33_ok : MeetsM Try.prog 33 M33 := by
  refine meetsM_of_vc (C := mkCM 19 [4] [0,1,4,5,9] [] [] [0]) (mkCM_ok _ _ _ _ _ _) (fnOf_ok _) Try.func33 rfl rfl rfl (by decide) rfl rfl rfl rfl ?_
  rintro a0 (a1 : Int) hwf hin hpre ⟨P, C, B, X, w0, M0, pv⟩ hG rfl rfl
  show Vc _ _ [(0, ⟨0, 0, .c (.own (.pure (.int .i64))) a0⟩), (1, ⟨0, 0, .c (.pure (.int .i64)) a1⟩)] _
  have hb : List.length a0 ≤ bigLen := hwf.1
  have hp0 : 0 ≤ a1 := hpre.1
  have hp1 : a1 + ((cellsL (cellsC (.int .i64)) a0 : Nat) : Int) ≤ bnd := hpre.2
  refine Vc.seq ?_
  refine Vc.region hG rfl ?_ ?_
  · trivial
  refine Vc.seq ?_
  refine Vc.seq ?_
  refine Vc.region hG rfl ?_ ?_
  · trivial
  refine Vc.block ?_
  -- slots [0, 1, 5]; frame [4]
  refine Vc.loopF [(0, false, .own (.pure (.int .i64))), (1, false, .pure (.int .i64)), (5, false, .pure (.int .i64))] [4] (fun v => mkInv (cellsC (.int .i64)) (markC (.int .i64)) a0 a1 v.1 v.2.1 v.2.2.1) (fun v => ((List.length v.1 : Int) - v.2.2.1).toNat) rfl ?_ ?_
  · exact mkStart
  rintro ⟨v, (k : Int), (i : Int), _⟩ hI
  have hI : mkInv (cellsC (.int .i64)) (markC (.int .i64)) a0 a1 v k i := hI
  have hbv : v.length ≤ bigLen := by rw [mkLen hI]; exact hb
  refine Vc.seq ?_
  refine Vc.seq ?_
  refine Vc.region hG rfl ?_ ?_
  · trivial
  refine Vc.cond rfl (fun h0 => ?_) (fun h0 => ?_)
  · skip
    have hl : i < (List.length v : Int) := of_decide_eq_true h0
    have hln : i.toNat < v.length := by have := hI.1; omega
    have hk := mkBound hI hl (dflt (.int .i64)) hp0 hp1
    generalize hX : List.getD v i.toNat (dflt (.int .i64)) = X at hk
    have hk : 0 ≤ k ∧ k + ((1 : Nat) : Int) ≤ bnd := hk
    have w0 : IntKind.i64.wrap (k + 1) = k + 1 := wrapB (by omega) (by omega)
    refine Vc.skip ?_
    refine Vc.seq ?_
    refine Vc.block ?_
    refine Vc.seq ?_
    refine Vc.region hG rfl ?_ ?_
    · show inRange i _
      exact mkRange hI hl
    refine Vc.region hG rfl ?_ ?_
    · trivial
    refine Vc.region hG rfl ?_ ?_
    · trivial
    refine ⟨rfl, ?_⟩
    refine mkStep hI hl hbv (dflt (.int .i64)) ?_ ?_
    · rw [hX]
      try simp only [List.length_set, List.set_set, getD_setS hln, hX, cntF_eq, w0]
      rfl
    · rw [hX]
      show _ = k + ((1 : Nat) : Int)
      try simp only [List.length_set, List.set_set, getD_setS hln, hX, cntF_eq, w0]
      omega
  · skip
    have hl : ¬ i < (List.length v : Int) := of_decide_eq_false h0
    refine Vc.exit ?_
    refine Vc.seq ?_
    refine Vc.region hG rfl ?_ ?_
    · trivial
    refine Vc.ret ?_
    have e := mkEnd hI hl
    refine ⟨?_, ?_, trivial⟩
    · show k = cntF (.slice (.int .i64)) a0 a1
      rw [cntF_eq]; exact e.1
    · exact e.2
@[reducible] noncomputable def M47 : MFun := mF (.own (.pure (.pair (.int .i64) (.pair (.int .i64) (.pair (.int .i64) (.pair (.int .i64) (.int .i64)))))))
set_option maxRecDepth 100000 in
/-- loop.example.g00597.laws.markStampS -/
theorem M47_ok : MeetsM Try.prog 47 M47 := by
  refine meetsM_of_vc (C := mkCM 48 [4] [0,1,4,5,9] [] [] [0]) (mkCM_ok _ _ _ _ _ _) (fnOf_ok _) Try.func47 rfl rfl rfl (by decide) rfl rfl rfl rfl ?_
  rintro a0 (a1 : Int) hwf hin hpre ⟨P, C, B, X, w0, M0, pv⟩ hG rfl rfl
  show Vc _ _ [(0, ⟨0, 0, .c (.own (.pure (.pair (.int .i64) (.pair (.int .i64) (.pair (.int .i64) (.pair (.int .i64) (.int .i64))))))) a0⟩), (1, ⟨0, 0, .c (.pure (.int .i64)) a1⟩)] _
  have hb : List.length a0 ≤ bigLen := hwf.1
  have hp0 : 0 ≤ a1 := hpre.1
  have hp1 : a1 + ((cellsL (cellsC (.pair (.int .i64) (.pair (.int .i64) (.pair (.int .i64) (.pair (.int .i64) (.int .i64)))))) a0 : Nat) : Int) ≤ bnd := hpre.2
  refine Vc.seq ?_
  refine Vc.region hG rfl ?_ ?_
  · trivial
  refine Vc.seq ?_
  refine Vc.seq ?_
  refine Vc.region hG rfl ?_ ?_
  · trivial
  refine Vc.block ?_
  -- slots [0, 1, 5]; frame [4]
  refine Vc.loopF [(0, false, .own (.pure (.pair (.int .i64) (.pair (.int .i64) (.pair (.int .i64) (.pair (.int .i64) (.int .i64))))))), (1, false, .pure (.int .i64)), (5, false, .pure (.int .i64))] [4] (fun v => mkInv (cellsC (.pair (.int .i64) (.pair (.int .i64) (.pair (.int .i64) (.pair (.int .i64) (.int .i64)))))) (markC (.pair (.int .i64) (.pair (.int .i64) (.pair (.int .i64) (.pair (.int .i64) (.int .i64)))))) a0 a1 v.1 v.2.1 v.2.2.1) (fun v => ((List.length v.1 : Int) - v.2.2.1).toNat) rfl ?_ ?_
  · exact mkStart
  rintro ⟨v, (k : Int), (i : Int), _⟩ hI
  have hI : mkInv (cellsC (.pair (.int .i64) (.pair (.int .i64) (.pair (.int .i64) (.pair (.int .i64) (.int .i64)))))) (markC (.pair (.int .i64) (.pair (.int .i64) (.pair (.int .i64) (.pair (.int .i64) (.int .i64)))))) a0 a1 v k i := hI
  have hbv : v.length ≤ bigLen := by rw [mkLen hI]; exact hb
  refine Vc.seq ?_
  refine Vc.seq ?_
  refine Vc.region hG rfl ?_ ?_
  · trivial
  refine Vc.cond rfl (fun h0 => ?_) (fun h0 => ?_)
  · skip
    have hl : i < (List.length v : Int) := of_decide_eq_true h0
    have hln : i.toNat < v.length := by have := hI.1; omega
    have hk := mkBound hI hl (dflt (.pair (.int .i64) (.pair (.int .i64) (.pair (.int .i64) (.pair (.int .i64) (.int .i64)))))) hp0 hp1
    generalize hX : List.getD v i.toNat (dflt (.pair (.int .i64) (.pair (.int .i64) (.pair (.int .i64) (.pair (.int .i64) (.int .i64)))))) = X at hk
    have hk : 0 ≤ k ∧ k + (((1 + (1 + (1 + (1 + 1)))) : Nat) : Int) ≤ bnd := hk
    have w0 : IntKind.i64.wrap (k + 1) = k + 1 := wrapB (by omega) (by omega)
    have w1 : IntKind.i64.wrap (k + 1 + 1) = k + 1 + 1 := wrapB (by omega) (by omega)
    have w2 : IntKind.i64.wrap (k + 1 + 1 + 1) = k + 1 + 1 + 1 := wrapB (by omega) (by omega)
    have w3 : IntKind.i64.wrap (k + 1 + 1 + 1 + 1) = k + 1 + 1 + 1 + 1 := wrapB (by omega) (by omega)
    have w4 : IntKind.i64.wrap (k + 1 + 1 + 1 + 1 + 1) = k + 1 + 1 + 1 + 1 + 1 := wrapB (by omega) (by omega)
    refine Vc.skip ?_
    refine Vc.seq ?_
    refine Vc.block ?_
    refine Vc.seq ?_
    refine Vc.region hG rfl ?_ ?_
    · show inRange i _
      exact mkRange hI hl
    refine Vc.seq ?_
    refine Vc.region hG rfl ?_ ?_
    · trivial
    refine Vc.seq ?_
    refine Vc.region hG rfl ?_ ?_
    · show inRange i _
      simp only [List.length_set]
      exact mkRange hI hl
    refine Vc.seq ?_
    refine Vc.region hG rfl ?_ ?_
    · trivial
    refine Vc.seq ?_
    refine Vc.region hG rfl ?_ ?_
    · show inRange i _
      simp only [List.length_set]
      exact mkRange hI hl
    refine Vc.seq ?_
    refine Vc.region hG rfl ?_ ?_
    · trivial
    refine Vc.seq ?_
    refine Vc.region hG rfl ?_ ?_
    · show inRange i _
      simp only [List.length_set]
      exact mkRange hI hl
    refine Vc.seq ?_
    refine Vc.region hG rfl ?_ ?_
    · trivial
    refine Vc.seq ?_
    refine Vc.region hG rfl ?_ ?_
    · show inRange i _
      simp only [List.length_set]
      exact mkRange hI hl
    refine Vc.region hG rfl ?_ ?_
    · trivial
    refine Vc.region hG rfl ?_ ?_
    · trivial
    refine ⟨rfl, ?_⟩
    refine mkStep hI hl hbv (dflt (.pair (.int .i64) (.pair (.int .i64) (.pair (.int .i64) (.pair (.int .i64) (.int .i64)))))) ?_ ?_
    · rw [hX]
      try simp only [List.length_set, List.set_set, getD_setS hln, hX, cntF_eq, w0, w1, w2, w3, w4]
      rfl
    · rw [hX]
      show _ = k + (((1 + (1 + (1 + (1 + 1)))) : Nat) : Int)
      try simp only [List.length_set, List.set_set, getD_setS hln, hX, cntF_eq, w0, w1, w2, w3, w4]
      omega
  · skip
    have hl : ¬ i < (List.length v : Int) := of_decide_eq_false h0
    refine Vc.exit ?_
    refine Vc.seq ?_
    refine Vc.region hG rfl ?_ ?_
    · trivial
    refine Vc.ret ?_
    have e := mkEnd hI hl
    refine ⟨?_, ?_, trivial⟩
    · show k = cntF (.slice (.pair (.int .i64) (.pair (.int .i64) (.pair (.int .i64) (.pair (.int .i64) (.int .i64)))))) a0 a1
      rw [cntF_eq]; exact e.1
    · exact e.2
noncomputable def F48 : Fun := ⟨[.slice (.pair (.int .i64) (.pair (.int .i64) (.pair (.int .i64) (.pair (.int .i64) (.int .i64))))), .int .i64], [.pure (.int .i64)], fun x => (fun a0 a1 => markPre (.slice (.pair (.int .i64) (.pair (.int .i64) (.pair (.int .i64) (.pair (.int .i64) (.int .i64)))))) a0 a1) x.1 x.2.1, fun x => ((fun a0 a1 => heldF (.slice (.pair (.int .i64) (.pair (.int .i64) (.pair (.int .i64) (.pair (.int .i64) (.int .i64)))))) a0 a1) x.1 x.2.1, ())⟩
set_option maxRecDepth 100000 in
/-- loop.example.g00597.laws.heldStampS -/
theorem F48_ok : Meets Try.prog 48 F48 := by
  refine meets_of_vc (C := mkC 58 [4] [0,1,4,5,9,18,27,36,45,54] []) (mkC_ok _ _ _ _) (fnOf_ok _) Try.func48 rfl rfl rfl (by decide) rfl ?_
  rintro ⟨a0, (a1 : Int), _⟩ hwf hpre ⟨P, C, B, X, w0, M0, pv⟩ hG rfl rfl
  show Vc _ _ [(0, ⟨0, 0, .c (.pure (.slice (.pair (.int .i64) (.pair (.int .i64) (.pair (.int .i64) (.pair (.int .i64) (.int .i64))))))) a0⟩), (1, ⟨0, 0, .c (.pure (.int .i64)) a1⟩)] _
  have hb : List.length a0 ≤ bigLen := hwf.1.1
  have hp0 : 0 ≤ a1 := hpre.1
  have hp1 : a1 + ((cellsL (cellsC (.pair (.int .i64) (.pair (.int .i64) (.pair (.int .i64) (.pair (.int .i64) (.int .i64)))))) a0 : Nat) : Int) ≤ bnd := hpre.2
  refine Vc.seq ?_
  refine Vc.region hG rfl ?_ ?_
  · trivial
  refine Vc.seq ?_
  refine Vc.seq ?_
  refine Vc.region hG rfl ?_ ?_
  · trivial
  refine Vc.block ?_
  -- slots [1, 5]; frame [0]
  refine Vc.loopF [(1, false, .pure (.int .i64)), (5, false, .pure (.int .i64))] [0] (fun v => hdInv (cellsC (.pair (.int .i64) (.pair (.int .i64) (.pair (.int .i64) (.pair (.int .i64) (.int .i64)))))) (okC (.pair (.int .i64) (.pair (.int .i64) (.pair (.int .i64) (.pair (.int .i64) (.int .i64)))))) a0 a1 v.1 v.2.1) (fun v => ((List.length a0 : Int) - v.2.1).toNat) rfl ?_ ?_
  · exact hdStart
  rintro ⟨(k : Int), (i : Int), _⟩ hI
  have hI : hdInv (cellsC (.pair (.int .i64) (.pair (.int .i64) (.pair (.int .i64) (.pair (.int .i64) (.int .i64)))))) (okC (.pair (.int .i64) (.pair (.int .i64) (.pair (.int .i64) (.pair (.int .i64) (.int .i64)))))) a0 a1 k i := hI
  refine Vc.seq ?_
  refine Vc.seq ?_
  refine Vc.region hG rfl ?_ ?_
  · trivial
  refine Vc.cond rfl (fun h0 => ?_) (fun h0 => ?_)
  · skip
    have hl : i < (List.length a0 : Int) := of_decide_eq_true h0
    have hk := hdBound hI hl (dflt (.pair (.int .i64) (.pair (.int .i64) (.pair (.int .i64) (.pair (.int .i64) (.int .i64)))))) hp0 hp1
    generalize hX : List.getD a0 i.toNat (dflt (.pair (.int .i64) (.pair (.int .i64) (.pair (.int .i64) (.pair (.int .i64) (.int .i64)))))) = X at hk
    have hk : 0 ≤ k ∧ k + (((1 + (1 + (1 + (1 + 1)))) : Nat) : Int) ≤ bnd := hk
    have w0 : IntKind.i64.wrap (k + 1) = k + 1 := wrapB (by omega) (by omega)
    have w1 : IntKind.i64.wrap (k + 1 + 1) = k + 1 + 1 := wrapB (by omega) (by omega)
    have w2 : IntKind.i64.wrap (k + 1 + 1 + 1) = k + 1 + 1 + 1 := wrapB (by omega) (by omega)
    have w3 : IntKind.i64.wrap (k + 1 + 1 + 1 + 1) = k + 1 + 1 + 1 + 1 := wrapB (by omega) (by omega)
    have w4 : IntKind.i64.wrap (k + 1 + 1 + 1 + 1 + 1) = k + 1 + 1 + 1 + 1 + 1 := wrapB (by omega) (by omega)
    refine Vc.skip ?_
    refine Vc.seq ?_
    refine Vc.block ?_
    refine Vc.seq ?_
    refine Vc.seq ?_
    refine Vc.region hG rfl ?_ ?_
    · exact hdRange hI hl
    refine Vc.cond rfl (fun h1 => ?_) (fun h1 => ?_)
    · skip
      have g1 : okC (.int .i64) X.1 (k) = false := by
        have h := h1
        try simp only [hX, w0, w1, w2, w3, w4] at h
        exact ok_ne h
      refine Vc.seq ?_
      refine Vc.region hG rfl ?_ ?_
      · trivial
      refine Vc.ret ?_
      refine ⟨?_, trivial⟩
      refine hdNo hI hl (dflt (.pair (.int .i64) (.pair (.int .i64) (.pair (.int .i64) (.pair (.int .i64) (.int .i64)))))) ?_
      rw [hX]
      show (okC (.int .i64) X.1 (k) && (okC (.int .i64) X.2.1 (k + 1) && (okC (.int .i64) X.2.2.1 (k + 1 + 1) && (okC (.int .i64) X.2.2.2.1 (k + 1 + 1 + 1) && okC (.int .i64) X.2.2.2.2 (k + 1 + 1 + 1 + 1))))) = false
      simp only [g1, Bool.and_false, Bool.false_and, Bool.and_true, Bool.true_and]
    · skip
      have g1 : okC (.int .i64) X.1 (k) = true := by
        have h := h1
        try simp only [hX, w0, w1, w2, w3, w4] at h
        exact ok_eq h
      refine Vc.skip ?_
      refine Vc.seq ?_
      refine Vc.region hG rfl ?_ ?_
      · trivial
      refine Vc.seq ?_
      refine Vc.seq ?_
      refine Vc.region hG rfl ?_ ?_
      · exact hdRange hI hl
      refine Vc.cond rfl (fun h2 => ?_) (fun h2 => ?_)
      · skip
        have g2 : okC (.int .i64) X.2.1 (k + 1) = false := by
          have h := h2
          try simp only [hX, w0, w1, w2, w3, w4] at h
          exact ok_ne h
        refine Vc.seq ?_
        refine Vc.region hG rfl ?_ ?_
        · trivial
        refine Vc.ret ?_
        refine ⟨?_, trivial⟩
        refine hdNo hI hl (dflt (.pair (.int .i64) (.pair (.int .i64) (.pair (.int .i64) (.pair (.int .i64) (.int .i64)))))) ?_
        rw [hX]
        show (okC (.int .i64) X.1 (k) && (okC (.int .i64) X.2.1 (k + 1) && (okC (.int .i64) X.2.2.1 (k + 1 + 1) && (okC (.int .i64) X.2.2.2.1 (k + 1 + 1 + 1) && okC (.int .i64) X.2.2.2.2 (k + 1 + 1 + 1 + 1))))) = false
        simp only [g1, g2, Bool.and_false, Bool.false_and, Bool.and_true, Bool.true_and]
      · skip
        have g2 : okC (.int .i64) X.2.1 (k + 1) = true := by
          have h := h2
          try simp only [hX, w0, w1, w2, w3, w4] at h
          exact ok_eq h
        refine Vc.skip ?_
        refine Vc.seq ?_
        refine Vc.region hG rfl ?_ ?_
        · trivial
        refine Vc.seq ?_
        refine Vc.seq ?_
        refine Vc.region hG rfl ?_ ?_
        · exact hdRange hI hl
        refine Vc.cond rfl (fun h3 => ?_) (fun h3 => ?_)
        · skip
          have g3 : okC (.int .i64) X.2.2.1 (k + 1 + 1) = false := by
            have h := h3
            try simp only [hX, w0, w1, w2, w3, w4] at h
            exact ok_ne h
          refine Vc.seq ?_
          refine Vc.region hG rfl ?_ ?_
          · trivial
          refine Vc.ret ?_
          refine ⟨?_, trivial⟩
          refine hdNo hI hl (dflt (.pair (.int .i64) (.pair (.int .i64) (.pair (.int .i64) (.pair (.int .i64) (.int .i64)))))) ?_
          rw [hX]
          show (okC (.int .i64) X.1 (k) && (okC (.int .i64) X.2.1 (k + 1) && (okC (.int .i64) X.2.2.1 (k + 1 + 1) && (okC (.int .i64) X.2.2.2.1 (k + 1 + 1 + 1) && okC (.int .i64) X.2.2.2.2 (k + 1 + 1 + 1 + 1))))) = false
          simp only [g1, g2, g3, Bool.and_false, Bool.false_and, Bool.and_true, Bool.true_and]
        · skip
          have g3 : okC (.int .i64) X.2.2.1 (k + 1 + 1) = true := by
            have h := h3
            try simp only [hX, w0, w1, w2, w3, w4] at h
            exact ok_eq h
          refine Vc.skip ?_
          refine Vc.seq ?_
          refine Vc.region hG rfl ?_ ?_
          · trivial
          refine Vc.seq ?_
          refine Vc.seq ?_
          refine Vc.region hG rfl ?_ ?_
          · exact hdRange hI hl
          refine Vc.cond rfl (fun h4 => ?_) (fun h4 => ?_)
          · skip
            have g4 : okC (.int .i64) X.2.2.2.1 (k + 1 + 1 + 1) = false := by
              have h := h4
              try simp only [hX, w0, w1, w2, w3, w4] at h
              exact ok_ne h
            refine Vc.seq ?_
            refine Vc.region hG rfl ?_ ?_
            · trivial
            refine Vc.ret ?_
            refine ⟨?_, trivial⟩
            refine hdNo hI hl (dflt (.pair (.int .i64) (.pair (.int .i64) (.pair (.int .i64) (.pair (.int .i64) (.int .i64)))))) ?_
            rw [hX]
            show (okC (.int .i64) X.1 (k) && (okC (.int .i64) X.2.1 (k + 1) && (okC (.int .i64) X.2.2.1 (k + 1 + 1) && (okC (.int .i64) X.2.2.2.1 (k + 1 + 1 + 1) && okC (.int .i64) X.2.2.2.2 (k + 1 + 1 + 1 + 1))))) = false
            simp only [g1, g2, g3, g4, Bool.and_false, Bool.false_and, Bool.and_true, Bool.true_and]
          · skip
            have g4 : okC (.int .i64) X.2.2.2.1 (k + 1 + 1 + 1) = true := by
              have h := h4
              try simp only [hX, w0, w1, w2, w3, w4] at h
              exact ok_eq h
            refine Vc.skip ?_
            refine Vc.seq ?_
            refine Vc.region hG rfl ?_ ?_
            · trivial
            refine Vc.seq ?_
            refine Vc.seq ?_
            refine Vc.region hG rfl ?_ ?_
            · exact hdRange hI hl
            refine Vc.cond rfl (fun h5 => ?_) (fun h5 => ?_)
            · skip
              have g5 : okC (.int .i64) X.2.2.2.2 (k + 1 + 1 + 1 + 1) = false := by
                have h := h5
                try simp only [hX, w0, w1, w2, w3, w4] at h
                exact ok_ne h
              refine Vc.seq ?_
              refine Vc.region hG rfl ?_ ?_
              · trivial
              refine Vc.ret ?_
              refine ⟨?_, trivial⟩
              refine hdNo hI hl (dflt (.pair (.int .i64) (.pair (.int .i64) (.pair (.int .i64) (.pair (.int .i64) (.int .i64)))))) ?_
              rw [hX]
              show (okC (.int .i64) X.1 (k) && (okC (.int .i64) X.2.1 (k + 1) && (okC (.int .i64) X.2.2.1 (k + 1 + 1) && (okC (.int .i64) X.2.2.2.1 (k + 1 + 1 + 1) && okC (.int .i64) X.2.2.2.2 (k + 1 + 1 + 1 + 1))))) = false
              simp only [g1, g2, g3, g4, g5, Bool.and_false, Bool.false_and, Bool.and_true, Bool.true_and]
            · skip
              have g5 : okC (.int .i64) X.2.2.2.2 (k + 1 + 1 + 1 + 1) = true := by
                have h := h5
                try simp only [hX, w0, w1, w2, w3, w4] at h
                exact ok_eq h
              refine Vc.skip ?_
              refine Vc.region hG rfl ?_ ?_
              · trivial
              refine Vc.region hG rfl ?_ ?_
              · trivial
              refine ⟨rfl, ?_⟩
              refine hdStep hI hl hb (dflt (.pair (.int .i64) (.pair (.int .i64) (.pair (.int .i64) (.pair (.int .i64) (.int .i64)))))) ?_ ?_
              · rw [hX]
                show (okC (.int .i64) X.1 (k) && (okC (.int .i64) X.2.1 (k + 1) && (okC (.int .i64) X.2.2.1 (k + 1 + 1) && (okC (.int .i64) X.2.2.2.1 (k + 1 + 1 + 1) && okC (.int .i64) X.2.2.2.2 (k + 1 + 1 + 1 + 1))))) = true
                simp only [g1, g2, g3, g4, g5, Bool.and_true]
              · rw [hX]
                show _ = k + (((1 + (1 + (1 + (1 + 1)))) : Nat) : Int)
                try simp only [hX, w0, w1, w2, w3, w4]
                omega
  · skip
    have hl : ¬ i < (List.length a0 : Int) := of_decide_eq_false h0
    refine Vc.exit ?_
    refine Vc.seq ?_
    refine Vc.region hG rfl ?_ ?_
    · trivial
    refine Vc.ret ?_
    refine ⟨?_, trivial⟩
    exact hdEnd hI hl
noncomputable def F6 : Fun := ⟨[.slice (.pair (.int .i64) (.pair (.int .i64) (.pair (.int .i64) (.pair (.int .i64) (.int .i64))))), .slice (.pair (.int .i64) (.pair (.int .i64) (.int .i64))), .slice (.int .i64), .int .i64, .slice (.int .i64), .int .i64], [.pure (.bool)], fun _ => True, fun x => ((fun _ _ _ _ _ _ => true) x.1 x.2.1 x.2.2.1 x.2.2.2.1 x.2.2.2.2.1 x.2.2.2.2.2.1, ())⟩
set_option maxRecDepth 100000 in
set_option maxHeartbeats 2000000 in
/-- loop.example.g00597.laws.FnExactStampAll -/
theorem F6_ok : Meets Try.prog 6 F6 := by
  refine meets_of_vc (C := mkCM 144 [12] [0,1,2,3,4,5,12,13,14,15,16,17,18,19,20,21,22,23,26,29,34,39,69,74,79,84,89,109,117,120,135,140,143] [⟨35, _, F35_ok⟩, ⟨36, _, F36_ok⟩, ⟨38, _, F38_ok⟩, ⟨39, _, F39_ok⟩, ⟨40, _, F40_ok⟩, ⟨37, _, F37_ok⟩, ⟨41, _, F41_ok⟩, ⟨42, _, F42_ok⟩, ⟨43, _, F43_ok⟩, ⟨44, _, F44_ok⟩, ⟨30, _, F30_ok⟩, ⟨48, _, F48_ok⟩] [⟨45, _, M45_ok⟩, ⟨46, _, M46_ok⟩, ⟨33, _, M33_ok⟩, ⟨47, _, M47_ok⟩] []) (mkCM_ok _ _ _ _ _ _) (fnOf_ok _) Try.func6 rfl rfl rfl (by decide) rfl ?_
  rintro ⟨a0, a1, a2, (a3 : Int), a4, (a5 : Int), _⟩ hwf hpre ⟨P, C, B, X, w0, M0, pv⟩ hG rfl rfl
  show Vc _ _ [(0, ⟨0, 0, .c (.pure (.slice (.pair (.int .i64) (.pair (.int .i64) (.pair (.int .i64) (.pair (.int .i64) (.int .i64))))))) a0⟩), (1, ⟨0, 0, .c (.pure (.slice (.pair (.int .i64) (.pair (.int .i64) (.int .i64))))) a1⟩), (2, ⟨0, 0, .c (.pure (.slice (.int .i64))) a2⟩), (3, ⟨0, 0, .c (.pure (.int .i64)) a3⟩), (4, ⟨0, 0, .c (.pure (.slice (.int .i64))) a4⟩), (5, ⟨0, 0, .c (.pure (.int .i64)) a5⟩)] _
  have q0 : (0 : Int) ≤ 1048576 ∧ (1048576 : Int) ≤ (big20 : Int) := by decide
  refine Vc.seq ?_
  refine Vc.region hG rfl ?_ ?_
  · trivial
  refine Vc.seq ?_
  refine Vc.seq ?_
  refine Vc.region hG rfl ?_ ?_
  · trivial
  refine Vc.cond rfl (fun h0 => ?_) (fun h0 => ?_)
  · skip
    refine Vc.seq ?_
    refine Vc.region hG rfl ?_ ?_
    · trivial
    refine Vc.ret ?_
    refine ⟨?_, trivial⟩
    all_goals exact rfl
  · skip
    have g0 : ¬ (List.length a2 : Int) > 1048576 := of_decide_eq_false h0
    have hs2 : Sm big20 (.slice (.int .i64)) a2 := ⟨by unfold big20; omega, fun _ _ => trivial⟩
    have cz2 := cellsBig (.int .i64) a2 rfl (by decide) (by omega)
    refine Vc.skip ?_
    refine Vc.seq ?_
    refine Vc.seq ?_
    refine Vc.region hG rfl ?_ ?_
    · trivial
    refine Vc.cond rfl (fun h1 => ?_) (fun h1 => ?_)
    · skip
      refine Vc.seq ?_
      refine Vc.region hG rfl ?_ ?_
      · trivial
      refine Vc.ret ?_
      refine ⟨?_, trivial⟩
      all_goals exact rfl
    · skip
      have g1 : ¬ (List.length a4 : Int) > 1048576 := of_decide_eq_false h1
      have hs4 : Sm big20 (.slice (.int .i64)) a4 := ⟨by unfold big20; omega, fun _ _ => trivial⟩
      have cz4 := cellsBig (.int .i64) a4 rfl (by decide) (by omega)
      refine Vc.skip ?_
      refine Vc.seq ?_
      refine Vc.region hG rfl ?_ ?_
      · trivial
      refine Vc.seq ?_
      refine Vc.region hG rfl ?_ ?_
      · exact (show (0 : Int) ≤ 1048576 ∧ 1048576 ≤ (big20 : Int) from ⟨by omega, by omega⟩)
      refine Vc.seq ?_
      refine Vc.seq ?_
      refine Vc.region hG rfl ?_ ?_
      · trivial
      refine Vc.cond rfl (fun h2 => ?_) (fun h2 => ?_)
      · skip
        refine Vc.seq ?_
        refine Vc.region hG rfl ?_ ?_
        · trivial
        refine Vc.ret ?_
        refine ⟨?_, trivial⟩
        all_goals exact rfl
      · skip
        have g2 : ¬ szF (.slice (.pair (.int .i64) (.pair (.int .i64) (.pair (.int .i64) (.pair (.int .i64) (.int .i64)))))) a0 (1048576) < 0 := of_decide_eq_false h2
        have k2 := szF_le (.slice (.pair (.int .i64) (.pair (.int .i64) (.pair (.int .i64) (.pair (.int .i64) (.int .i64)))))) a0 (1048576)
        have hs0 : Sm big20 (.slice (.pair (.int .i64) (.pair (.int .i64) (.pair (.int .i64) (.pair (.int .i64) (.int .i64)))))) a0 := szF_sm (n := big20) (.slice (.pair (.int .i64) (.pair (.int .i64) (.pair (.int .i64) (.pair (.int .i64) (.int .i64)))))) a0 (1048576) (by omega) (by omega)
        have cz0 := cellsLe (.slice (.pair (.int .i64) (.pair (.int .i64) (.pair (.int .i64) (.pair (.int .i64) (.int .i64)))))) a0 (1048576) (by omega) (by omega) (by decide)
        have cv0 := cellsV_le (.slice (.pair (.int .i64) (.pair (.int .i64) (.pair (.int .i64) (.pair (.int .i64) (.int .i64)))))) a0
        refine Vc.skip ?_
        refine Vc.seq ?_
        refine Vc.region hG rfl ?_ ?_
        · exact (show (0 : Int) ≤ szF (.slice (.pair (.int .i64) (.pair (.int .i64) (.pair (.int .i64) (.pair (.int .i64) (.int .i64)))))) a0 (1048576) ∧ szF (.slice (.pair (.int .i64) (.pair (.int .i64) (.pair (.int .i64) (.pair (.int .i64) (.int .i64)))))) a0 (1048576) ≤ (big20 : Int) from ⟨by omega, by omega⟩)
        refine Vc.seq ?_
        refine Vc.seq ?_
        refine Vc.region hG rfl ?_ ?_
        · trivial
        refine Vc.cond rfl (fun h3 => ?_) (fun h3 => ?_)
        · skip
          refine Vc.seq ?_
          refine Vc.region hG rfl ?_ ?_
          · trivial
          refine Vc.ret ?_
          refine ⟨?_, trivial⟩
          all_goals exact rfl
        · skip
          have g3 : ¬ szF (.slice (.pair (.int .i64) (.pair (.int .i64) (.int .i64)))) a1 (szF (.slice (.pair (.int .i64) (.pair (.int .i64) (.pair (.int .i64) (.pair (.int .i64) (.int .i64)))))) a0 (1048576)) < 0 := of_decide_eq_false h3
          have k3 := szF_le (.slice (.pair (.int .i64) (.pair (.int .i64) (.int .i64)))) a1 (szF (.slice (.pair (.int .i64) (.pair (.int .i64) (.pair (.int .i64) (.pair (.int .i64) (.int .i64)))))) a0 (1048576))
          have hs1 : Sm big20 (.slice (.pair (.int .i64) (.pair (.int .i64) (.int .i64)))) a1 := szF_sm (n := big20) (.slice (.pair (.int .i64) (.pair (.int .i64) (.int .i64)))) a1 (szF (.slice (.pair (.int .i64) (.pair (.int .i64) (.pair (.int .i64) (.pair (.int .i64) (.int .i64)))))) a0 (1048576)) (by omega) (by omega)
          have cz1 := cellsLe (.slice (.pair (.int .i64) (.pair (.int .i64) (.int .i64)))) a1 (szF (.slice (.pair (.int .i64) (.pair (.int .i64) (.pair (.int .i64) (.pair (.int .i64) (.int .i64)))))) a0 (1048576)) (by omega) (by omega) (by decide)
          have cv1 := cellsV_le (.slice (.pair (.int .i64) (.pair (.int .i64) (.int .i64)))) a1
          refine Vc.skip ?_
          refine Vc.seq ?_
          refine Vc.region hG rfl ?_ ?_
          · exact ⟨hs0, hs1, hs2, hs4, (show List.length a2 ≤ 1048576 from hs2.1)⟩
          refine Vc.seq ?_
          refine Vc.region hG rfl ?_ ?_
          · exact hs0
          refine Vc.seq ?_
          refine Vc.region hG rfl ?_ ?_
          · exact hs1
          refine Vc.seq ?_
          refine Vc.region hG rfl ?_ ?_
          · exact hs2
          refine Vc.seq ?_
          refine Vc.region hG rfl ?_ ?_
          · exact hs4
          refine Vc.seq ?_
          refine Vc.region hG rfl ?_ ?_
          · exact (show List.length a2 ≤ 1048576 from hs2.1)
          refine Vc.seq ?_
          refine Vc.seq ?_
          refine Vc.region hG rfl ?_ ?_
          · exact trivial
          refine Vc.cond rfl (fun h4 => ?_) (fun h4 => ?_)
          · skip
            exact (ne_selfC h4).elim
          · skip
            have cr0 := cellsBig (.pair (.int .i64) (.pair (.int .i64) (.pair (.int .i64) (.pair (.int .i64) (.int .i64))))) (stampAllF a0 a1 a2 a3 a4 a5) rfl (by decide) (stampAllBig (show List.length a2 ≤ 1048576 from hs2.1))
            refine Vc.skip ?_
            refine Vc.seq ?_
            refine Vc.seq ?_
            refine Vc.region hG rfl ?_ ?_
            · exact ⟨hs0, trivial⟩
            refine Vc.cond rfl (fun h5 => ?_) (fun h5 => ?_)
            · skip
              exact (ne_selfC h5).elim
            · skip
              refine Vc.skip ?_
              refine Vc.seq ?_
              refine Vc.seq ?_
              refine Vc.region hG rfl ?_ ?_
              · exact ⟨hs1, trivial⟩
              refine Vc.cond rfl (fun h6 => ?_) (fun h6 => ?_)
              · skip
                exact (ne_selfC h6).elim
              · skip
                refine Vc.skip ?_
                refine Vc.seq ?_
                refine Vc.seq ?_
                refine Vc.region hG rfl ?_ ?_
                · exact ⟨hs2, trivial⟩
                refine Vc.cond rfl (fun h7 => ?_) (fun h7 => ?_)
                · skip
                  exact (ne_selfC h7).elim
                · skip
                  refine Vc.skip ?_
                  refine Vc.seq ?_
                  refine Vc.seq ?_
                  refine Vc.region hG rfl ?_ ?_
                  · exact ⟨hs4, trivial⟩
                  refine Vc.cond rfl (fun h8 => ?_) (fun h8 => ?_)
                  · skip
                    exact (ne_selfC h8).elim
                  · skip
                    refine Vc.skip ?_
                    refine Vc.seq ?_
                    refine Vc.region hG rfl ?_ ?_
                    · trivial
                    refine Vc.seq ?_
                    refine Vc.region hG rfl ?_ ?_
                    · have ce0 := cntF_eq (.slice (.pair (.int .i64) (.pair (.int .i64) (.pair (.int .i64) (.pair (.int .i64) (.int .i64)))))) a0 (1)
                      exact (show markPre (.slice (.pair (.int .i64) (.pair (.int .i64) (.pair (.int .i64) (.pair (.int .i64) (.int .i64)))))) a0 (1) from ⟨by first | omega | (unfold bnd; omega), by first | omega | (unfold bnd; omega)⟩)
                    refine Vc.seq ?_
                    refine Vc.region hG rfl ?_ ?_
                    · have ce0 := cntF_eq (.slice (.pair (.int .i64) (.pair (.int .i64) (.pair (.int .i64) (.pair (.int .i64) (.int .i64)))))) a0 (1)
                      have ce1 := cntF_eq (.slice (.pair (.int .i64) (.pair (.int .i64) (.int .i64)))) a1 (cntF (.slice (.pair (.int .i64) (.pair (.int .i64) (.pair (.int .i64) (.pair (.int .i64) (.int .i64)))))) a0 (1))
                      exact (show markPre (.slice (.pair (.int .i64) (.pair (.int .i64) (.int .i64)))) a1 (cntF (.slice (.pair (.int .i64) (.pair (.int .i64) (.pair (.int .i64) (.pair (.int .i64) (.int .i64)))))) a0 (1)) from ⟨by first | omega | (unfold bnd; omega), by first | omega | (unfold bnd; omega)⟩)
                    refine Vc.seq ?_
                    refine Vc.region hG rfl ?_ ?_
                    · have ce0 := cntF_eq (.slice (.pair (.int .i64) (.pair (.int .i64) (.pair (.int .i64) (.pair (.int .i64) (.int .i64)))))) a0 (1)
                      have ce1 := cntF_eq (.slice (.pair (.int .i64) (.pair (.int .i64) (.int .i64)))) a1 (cntF (.slice (.pair (.int .i64) (.pair (.int .i64) (.pair (.int .i64) (.pair (.int .i64) (.int .i64)))))) a0 (1))
                      have ce2 := cntF_eq (.slice (.int .i64)) a2 (cntF (.slice (.pair (.int .i64) (.pair (.int .i64) (.int .i64)))) a1 (cntF (.slice (.pair (.int .i64) (.pair (.int .i64) (.pair (.int .i64) (.pair (.int .i64) (.int .i64)))))) a0 (1)))
                      exact (show markPre (.slice (.int .i64)) a2 (cntF (.slice (.pair (.int .i64) (.pair (.int .i64) (.int .i64)))) a1 (cntF (.slice (.pair (.int .i64) (.pair (.int .i64) (.pair (.int .i64) (.pair (.int .i64) (.int .i64)))))) a0 (1))) from ⟨by first | omega | (unfold bnd; omega), by first | omega | (unfold bnd; omega)⟩)
                    refine Vc.seq ?_
                    refine Vc.region hG rfl ?_ ?_
                    · have ce0 := cntF_eq (.slice (.pair (.int .i64) (.pair (.int .i64) (.pair (.int .i64) (.pair (.int .i64) (.int .i64)))))) a0 (1)
                      have ce1 := cntF_eq (.slice (.pair (.int .i64) (.pair (.int .i64) (.int .i64)))) a1 (cntF (.slice (.pair (.int .i64) (.pair (.int .i64) (.pair (.int .i64) (.pair (.int .i64) (.int .i64)))))) a0 (1))
                      have ce2 := cntF_eq (.slice (.int .i64)) a2 (cntF (.slice (.pair (.int .i64) (.pair (.int .i64) (.int .i64)))) a1 (cntF (.slice (.pair (.int .i64) (.pair (.int .i64) (.pair (.int .i64) (.pair (.int .i64) (.int .i64)))))) a0 (1)))
                      have ce3 := cntF_eq (.slice (.int .i64)) a4 (cntF (.slice (.int .i64)) a2 (cntF (.slice (.pair (.int .i64) (.pair (.int .i64) (.int .i64)))) a1 (cntF (.slice (.pair (.int .i64) (.pair (.int .i64) (.pair (.int .i64) (.pair (.int .i64) (.int .i64)))))) a0 (1))))
                      exact (show markPre (.slice (.int .i64)) a4 (cntF (.slice (.int .i64)) a2 (cntF (.slice (.pair (.int .i64) (.pair (.int .i64) (.int .i64)))) a1 (cntF (.slice (.pair (.int .i64) (.pair (.int .i64) (.pair (.int .i64) (.pair (.int .i64) (.int .i64)))))) a0 (1)))) from ⟨by first | omega | (unfold bnd; omega), by first | omega | (unfold bnd; omega)⟩)
                    refine Vc.seq ?_
                    refine Vc.seq ?_
                    refine Vc.region hG rfl ?_ ?_
                    · repeat' (first | exact trivial | exact hs0 | exact hs1 | refine And.intro ?_ ?_ | intro _)
                    refine Vc.cond rfl (fun h9 => ?_) (fun h9 => ?_)
                    · skip
                      have ce0 := cntF_eq (.slice (.pair (.int .i64) (.pair (.int .i64) (.pair (.int .i64) (.pair (.int .i64) (.int .i64)))))) a0 (1)
                      have ce1 := cntF_eq (.slice (.pair (.int .i64) (.pair (.int .i64) (.int .i64)))) a1 (cntF (.slice (.pair (.int .i64) (.pair (.int .i64) (.pair (.int .i64) (.pair (.int .i64) (.int .i64)))))) a0 (1))
                      have ce2 := cntF_eq (.slice (.int .i64)) a2 (cntF (.slice (.pair (.int .i64) (.pair (.int .i64) (.int .i64)))) a1 (cntF (.slice (.pair (.int .i64) (.pair (.int .i64) (.pair (.int .i64) (.pair (.int .i64) (.int .i64)))))) a0 (1)))
                      have ce3 := cntF_eq (.slice (.int .i64)) a4 (cntF (.slice (.int .i64)) a2 (cntF (.slice (.pair (.int .i64) (.pair (.int .i64) (.int .i64)))) a1 (cntF (.slice (.pair (.int .i64) (.pair (.int .i64) (.pair (.int .i64) (.pair (.int .i64) (.int .i64)))))) a0 (1))))
                      exact (orNe (K := cntF (.slice (.int .i64)) a4 (cntF (.slice (.int .i64)) a2 (cntF (.slice (.pair (.int .i64) (.pair (.int .i64) (.int .i64)))) a1 (cntF (.slice (.pair (.int .i64) (.pair (.int .i64) (.pair (.int .i64) (.pair (.int .i64) (.int .i64)))))) a0 (1))))) (by first | omega | (unfold bnd; omega)) h9).elim
                    · skip
                      refine Vc.skip ?_
                      refine Vc.seq ?_
                      refine Vc.region hG rfl ?_ ?_
                      · trivial
                      refine Vc.seq ?_
                      refine Vc.region hG rfl ?_ ?_
                      · have ce0 := cntF_eq (.slice (.pair (.int .i64) (.pair (.int .i64) (.pair (.int .i64) (.pair (.int .i64) (.int .i64)))))) a0 (1)
                        have ce1 := cntF_eq (.slice (.pair (.int .i64) (.pair (.int .i64) (.int .i64)))) a1 (cntF (.slice (.pair (.int .i64) (.pair (.int .i64) (.pair (.int .i64) (.pair (.int .i64) (.int .i64)))))) a0 (1))
                        have ce2 := cntF_eq (.slice (.int .i64)) a2 (cntF (.slice (.pair (.int .i64) (.pair (.int .i64) (.int .i64)))) a1 (cntF (.slice (.pair (.int .i64) (.pair (.int .i64) (.pair (.int .i64) (.pair (.int .i64) (.int .i64)))))) a0 (1)))
                        have ce3 := cntF_eq (.slice (.int .i64)) a4 (cntF (.slice (.int .i64)) a2 (cntF (.slice (.pair (.int .i64) (.pair (.int .i64) (.int .i64)))) a1 (cntF (.slice (.pair (.int .i64) (.pair (.int .i64) (.pair (.int .i64) (.pair (.int .i64) (.int .i64)))))) a0 (1))))
                        have ce4 := cntF_eq (.slice (.pair (.int .i64) (.pair (.int .i64) (.pair (.int .i64) (.pair (.int .i64) (.int .i64)))))) (stampAllF a0 a1 a2 a3 a4 a5) (1)
                        exact (show markPre (.slice (.pair (.int .i64) (.pair (.int .i64) (.pair (.int .i64) (.pair (.int .i64) (.int .i64)))))) (stampAllF a0 a1 a2 a3 a4 a5) (1) from ⟨by first | omega | (unfold bnd; omega), by first | omega | (unfold bnd; omega)⟩)
                      refine Vc.seq ?_
                      refine Vc.region hG rfl ?_ ?_
                      · trivial
                      refine Vc.seq ?_
                      refine Vc.region hG rfl ?_ ?_
                      · have ce0 := cntF_eq (.slice (.pair (.int .i64) (.pair (.int .i64) (.pair (.int .i64) (.pair (.int .i64) (.int .i64)))))) a0 (1)
                        have ce1 := cntF_eq (.slice (.pair (.int .i64) (.pair (.int .i64) (.int .i64)))) a1 (cntF (.slice (.pair (.int .i64) (.pair (.int .i64) (.pair (.int .i64) (.pair (.int .i64) (.int .i64)))))) a0 (1))
                        have ce2 := cntF_eq (.slice (.int .i64)) a2 (cntF (.slice (.pair (.int .i64) (.pair (.int .i64) (.int .i64)))) a1 (cntF (.slice (.pair (.int .i64) (.pair (.int .i64) (.pair (.int .i64) (.pair (.int .i64) (.int .i64)))))) a0 (1)))
                        have ce3 := cntF_eq (.slice (.int .i64)) a4 (cntF (.slice (.int .i64)) a2 (cntF (.slice (.pair (.int .i64) (.pair (.int .i64) (.int .i64)))) a1 (cntF (.slice (.pair (.int .i64) (.pair (.int .i64) (.pair (.int .i64) (.pair (.int .i64) (.int .i64)))))) a0 (1))))
                        have ce4 := cntF_eq (.slice (.pair (.int .i64) (.pair (.int .i64) (.pair (.int .i64) (.pair (.int .i64) (.int .i64)))))) (stampAllF a0 a1 a2 a3 a4 a5) (1)
                        exact (show markPre (.slice (.pair (.int .i64) (.pair (.int .i64) (.pair (.int .i64) (.pair (.int .i64) (.int .i64)))))) (markC (.slice (.pair (.int .i64) (.pair (.int .i64) (.pair (.int .i64) (.pair (.int .i64) (.int .i64)))))) (stampAllF a0 a1 a2 a3 a4 a5) (1)) (1) from ⟨by first | omega | (unfold bnd; omega), by rw [cells_mark]; first | omega | (unfold bnd; omega)⟩)
                      refine Vc.seq ?_
                      refine Vc.seq ?_
                      refine Vc.region hG rfl ?_ ?_
                      · trivial
                      refine Vc.cond rfl (fun h10 => ?_) (fun h10 => ?_)
                      · skip
                        have ce0 := cntF_eq (.slice (.pair (.int .i64) (.pair (.int .i64) (.pair (.int .i64) (.pair (.int .i64) (.int .i64)))))) a0 (1)
                        have ce1 := cntF_eq (.slice (.pair (.int .i64) (.pair (.int .i64) (.int .i64)))) a1 (cntF (.slice (.pair (.int .i64) (.pair (.int .i64) (.pair (.int .i64) (.pair (.int .i64) (.int .i64)))))) a0 (1))
                        have ce2 := cntF_eq (.slice (.int .i64)) a2 (cntF (.slice (.pair (.int .i64) (.pair (.int .i64) (.int .i64)))) a1 (cntF (.slice (.pair (.int .i64) (.pair (.int .i64) (.pair (.int .i64) (.pair (.int .i64) (.int .i64)))))) a0 (1)))
                        have ce3 := cntF_eq (.slice (.int .i64)) a4 (cntF (.slice (.int .i64)) a2 (cntF (.slice (.pair (.int .i64) (.pair (.int .i64) (.int .i64)))) a1 (cntF (.slice (.pair (.int .i64) (.pair (.int .i64) (.pair (.int .i64) (.pair (.int .i64) (.int .i64)))))) a0 (1))))
                        have ce4 := cntF_eq (.slice (.pair (.int .i64) (.pair (.int .i64) (.pair (.int .i64) (.pair (.int .i64) (.int .i64)))))) (stampAllF a0 a1 a2 a3 a4 a5) (1)
                        exact (heldLt (t := .slice (.pair (.int .i64) (.pair (.int .i64) (.pair (.int .i64) (.pair (.int .i64) (.int .i64)))))) (x := (stampAllF a0 a1 a2 a3 a4 a5)) (n := 1) (by first | omega | (unfold bnd; omega)) (of_decide_eq_true h10)).elim
                      · skip
                        refine Vc.skip ?_
                        refine Vc.seq ?_
                        refine Vc.seq ?_
                        refine Vc.region hG rfl ?_ ?_
                        · trivial
                        refine Vc.cond rfl (fun h11 => ?_) (fun h11 => ?_)
                        · skip
                          exact (heldNe (t := .slice (.pair (.int .i64) (.pair (.int .i64) (.pair (.int .i64) (.pair (.int .i64) (.int .i64)))))) (x := (stampAllF a0 a1 a2 a3 a4 a5)) (n := 1) h11).elim
                        · skip
                          refine Vc.skip ?_
                          refine Vc.seq ?_
                          refine Vc.region hG rfl ?_ ?_
                          · have ce0 := cntF_eq (.slice (.pair (.int .i64) (.pair (.int .i64) (.pair (.int .i64) (.pair (.int .i64) (.int .i64)))))) a0 (1)
                            have ce1 := cntF_eq (.slice (.pair (.int .i64) (.pair (.int .i64) (.int .i64)))) a1 (cntF (.slice (.pair (.int .i64) (.pair (.int .i64) (.pair (.int .i64) (.pair (.int .i64) (.int .i64)))))) a0 (1))
                            have ce2 := cntF_eq (.slice (.int .i64)) a2 (cntF (.slice (.pair (.int .i64) (.pair (.int .i64) (.int .i64)))) a1 (cntF (.slice (.pair (.int .i64) (.pair (.int .i64) (.pair (.int .i64) (.pair (.int .i64) (.int .i64)))))) a0 (1)))
                            have ce3 := cntF_eq (.slice (.int .i64)) a4 (cntF (.slice (.int .i64)) a2 (cntF (.slice (.pair (.int .i64) (.pair (.int .i64) (.int .i64)))) a1 (cntF (.slice (.pair (.int .i64) (.pair (.int .i64) (.pair (.int .i64) (.pair (.int .i64) (.int .i64)))))) a0 (1))))
                            have ce4 := cntF_eq (.slice (.pair (.int .i64) (.pair (.int .i64) (.pair (.int .i64) (.pair (.int .i64) (.int .i64)))))) (stampAllF a0 a1 a2 a3 a4 a5) (1)
                            exact ⟨hs0, hs1, hs2, hs4, (show List.length a2 ≤ 1048576 from hs2.1)⟩
                          refine Vc.seq ?_
                          refine Vc.seq ?_
                          refine Vc.region hG rfl ?_ ?_
                          · have ce0 := cntF_eq (.slice (.pair (.int .i64) (.pair (.int .i64) (.pair (.int .i64) (.pair (.int .i64) (.int .i64)))))) a0 (1)
                            have ce1 := cntF_eq (.slice (.pair (.int .i64) (.pair (.int .i64) (.int .i64)))) a1 (cntF (.slice (.pair (.int .i64) (.pair (.int .i64) (.pair (.int .i64) (.pair (.int .i64) (.int .i64)))))) a0 (1))
                            have ce2 := cntF_eq (.slice (.int .i64)) a2 (cntF (.slice (.pair (.int .i64) (.pair (.int .i64) (.int .i64)))) a1 (cntF (.slice (.pair (.int .i64) (.pair (.int .i64) (.pair (.int .i64) (.pair (.int .i64) (.int .i64)))))) a0 (1)))
                            have ce3 := cntF_eq (.slice (.int .i64)) a4 (cntF (.slice (.int .i64)) a2 (cntF (.slice (.pair (.int .i64) (.pair (.int .i64) (.int .i64)))) a1 (cntF (.slice (.pair (.int .i64) (.pair (.int .i64) (.pair (.int .i64) (.pair (.int .i64) (.int .i64)))))) a0 (1))))
                            have ce4 := cntF_eq (.slice (.pair (.int .i64) (.pair (.int .i64) (.pair (.int .i64) (.pair (.int .i64) (.int .i64)))))) (stampAllF a0 a1 a2 a3 a4 a5) (1)
                            exact trivial
                          refine Vc.cond rfl (fun h12 => ?_) (fun h12 => ?_)
                          · skip
                            exact (ne_selfC h12).elim
                          · skip
                            refine Vc.skip ?_
                            refine Vc.seq ?_
                            refine Vc.region hG rfl ?_ ?_
                            · trivial
                            refine Vc.seq ?_
                            refine Vc.region hG rfl ?_ ?_
                            · have ce0 := cntF_eq (.slice (.pair (.int .i64) (.pair (.int .i64) (.pair (.int .i64) (.pair (.int .i64) (.int .i64)))))) a0 (1)
                              have ce1 := cntF_eq (.slice (.pair (.int .i64) (.pair (.int .i64) (.int .i64)))) a1 (cntF (.slice (.pair (.int .i64) (.pair (.int .i64) (.pair (.int .i64) (.pair (.int .i64) (.int .i64)))))) a0 (1))
                              have ce2 := cntF_eq (.slice (.int .i64)) a2 (cntF (.slice (.pair (.int .i64) (.pair (.int .i64) (.int .i64)))) a1 (cntF (.slice (.pair (.int .i64) (.pair (.int .i64) (.pair (.int .i64) (.pair (.int .i64) (.int .i64)))))) a0 (1)))
                              have ce3 := cntF_eq (.slice (.int .i64)) a4 (cntF (.slice (.int .i64)) a2 (cntF (.slice (.pair (.int .i64) (.pair (.int .i64) (.int .i64)))) a1 (cntF (.slice (.pair (.int .i64) (.pair (.int .i64) (.pair (.int .i64) (.pair (.int .i64) (.int .i64)))))) a0 (1))))
                              have ce4 := cntF_eq (.slice (.pair (.int .i64) (.pair (.int .i64) (.pair (.int .i64) (.pair (.int .i64) (.int .i64)))))) (stampAllF a0 a1 a2 a3 a4 a5) (1)
                              exact (show markPre (.slice (.pair (.int .i64) (.pair (.int .i64) (.pair (.int .i64) (.pair (.int .i64) (.int .i64)))))) (markC (.slice (.pair (.int .i64) (.pair (.int .i64) (.pair (.int .i64) (.pair (.int .i64) (.int .i64)))))) (stampAllF a0 a1 a2 a3 a4 a5) (1)) (1) from ⟨by first | omega | (unfold bnd; omega), by rw [cells_mark]; first | omega | (unfold bnd; omega)⟩)
                            refine Vc.seq ?_
                            refine Vc.seq ?_
                            refine Vc.region hG rfl ?_ ?_
                            · trivial
                            refine Vc.cond rfl (fun h13 => ?_) (fun h13 => ?_)
                            · skip
                              have ce0 := cntF_eq (.slice (.pair (.int .i64) (.pair (.int .i64) (.pair (.int .i64) (.pair (.int .i64) (.int .i64)))))) a0 (1)
                              have ce1 := cntF_eq (.slice (.pair (.int .i64) (.pair (.int .i64) (.int .i64)))) a1 (cntF (.slice (.pair (.int .i64) (.pair (.int .i64) (.pair (.int .i64) (.pair (.int .i64) (.int .i64)))))) a0 (1))
                              have ce2 := cntF_eq (.slice (.int .i64)) a2 (cntF (.slice (.pair (.int .i64) (.pair (.int .i64) (.int .i64)))) a1 (cntF (.slice (.pair (.int .i64) (.pair (.int .i64) (.pair (.int .i64) (.pair (.int .i64) (.int .i64)))))) a0 (1)))
                              have ce3 := cntF_eq (.slice (.int .i64)) a4 (cntF (.slice (.int .i64)) a2 (cntF (.slice (.pair (.int .i64) (.pair (.int .i64) (.int .i64)))) a1 (cntF (.slice (.pair (.int .i64) (.pair (.int .i64) (.pair (.int .i64) (.pair (.int .i64) (.int .i64)))))) a0 (1))))
                              have ce4 := cntF_eq (.slice (.pair (.int .i64) (.pair (.int .i64) (.pair (.int .i64) (.pair (.int .i64) (.int .i64)))))) (stampAllF a0 a1 a2 a3 a4 a5) (1)
                              exact (heldLt (t := .slice (.pair (.int .i64) (.pair (.int .i64) (.pair (.int .i64) (.pair (.int .i64) (.int .i64)))))) (x := (stampAllF a0 a1 a2 a3 a4 a5)) (n := 1) (by first | omega | (unfold bnd; omega)) (of_decide_eq_true h13)).elim
                            · skip
                              refine Vc.skip ?_
                              refine Vc.seq ?_
                              refine Vc.seq ?_
                              refine Vc.region hG rfl ?_ ?_
                              · trivial
                              refine Vc.cond rfl (fun h14 => ?_) (fun h14 => ?_)
                              · skip
                                exact (heldNe (t := .slice (.pair (.int .i64) (.pair (.int .i64) (.pair (.int .i64) (.pair (.int .i64) (.int .i64)))))) (x := (stampAllF a0 a1 a2 a3 a4 a5)) (n := 1) h14).elim
                              · skip
                                refine Vc.skip ?_
                                refine Vc.seq ?_
                                refine Vc.region hG rfl ?_ ?_
                                · trivial
                                refine Vc.ret ?_
                                refine ⟨?_, trivial⟩
                                all_goals exact rfl
end Fw
