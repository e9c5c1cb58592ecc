/- Walks of functions of the program: what each computes. Conditions: those that each contract names. -/
import Derived.Test.YtidodegkmafkhaaP2
import Derived.Test.YtidodegkmafkhaaProg
namespace Fw
open Go Go.Proofs
set_option linter.unusedSimpArgs false
abbrev Z0 : Sh := .own (.pure (.int .i64))
abbrev Y1 : Ty := .pair (.int .i64) (.bool)
abbrev Z2 : Sh := .pure (.slice (.int .i64))
abbrev Y3 : Ty := .pair (.int .i64) (.int .i64)
abbrev Z4 : Sh := .pure Y1
abbrev Y5 : Ty := .slice Y1
abbrev Y6 : Ty := .pair (.slice (.int .i64)) (.int .i64)
abbrev Z7 : Sh := .own Z4
abbrev Z8 : Sh := .pure Y5
abbrev Y9 : Ty := .pair (.int .i64) Y3
abbrev Z10 : Sh := .pair Z0 (.pure (.int .i64))
abbrev Y11 : Ty := .pair (.int .i64) Y6
abbrev Z12 : Sh := .pure Y11
abbrev Y13 : Ty := .slice Y11
abbrev Y14 : Ty := .pair (.int .i64) Y9
abbrev Z15 : Sh := .pure Y13
abbrev Z16 : Sh := .pair (.pure (.int .i64)) Z10
abbrev Z17 : Sh := .own Z16
abbrev Y18 : Ty := .pair (.int .i64) Y14
abbrev Z19 : Sh := .pure Y18
abbrev Y20 : Ty := .slice Y18
abbrev Z21 : Sh := .own Z19
abbrev Z22 : Sh := .pure Y20
abbrev Y23 : Ty := .slice Y20
abbrev Z24 : Sh := .pure Y23
abbrev Y25 : Ty := .pair Y5 Y20
abbrev Z26 : Sh := .pair Z7 Z21
abbrev Y27 : Ty := .pair (.int .i64) Y25
abbrev Y28 : Ty := .pair (.int .i64) Y27
abbrev Z29 : Sh := .pair (.pure (.int .i64)) Z26
abbrev Y30 : Ty := .pair (.int .i64) Y28
abbrev Z31 : Sh := .pure Y30
abbrev Z32 : Sh := .pair (.pure (.int .i64)) Z29
abbrev Y33 : Ty := .slice Y30
abbrev Z34 : Sh := .pure Y33
abbrev Z35 : Sh := .pair (.pure (.int .i64)) Z32
abbrev Z36 : Sh := .own Z35
abbrev Y37 : Ty := .pair Y13 Y33
abbrev Z38 : Sh := .pure Y37
abbrev Y39 : Ty := .slice Y37
abbrev Z40 : Sh := .pure Y39
abbrev Z41 : Sh := .pair Z17 Z36
abbrev Y42 : Ty := .pair Y39 Y23
abbrev Z43 : Sh := .pure Y42
def tys : List (Nat × Ty) := [(2, .int .i64), (3, .int .i64), (4, .bool), (5, .int .u8), (6, .int .u8), (8, .pair (.int .i64) (.pair (.int .i64) (.pair (.bool) (.int .u8)))), (9, .str), (10, .str), (11, .str), (12, .int .u64), (14, .pair (.str) (.int .u64)), (21, .int .i32), (22, .slice (.int .u8)), (25, .pair (.int .i64) (.int .i64)), (27, .pair (.int .i64) (.pair (.int .i64) (.pair (.int .i64) (.int .i64)))), (34, .slice (.pair (.slice (.pair (.int .i64) (.pair (.slice (.int .i64)) (.int .i64)))) (.slice (.pair (.int .i64) (.pair (.int .i64) (.pair (.int .i64) (.pair (.slice (.pair (.int .i64) (.bool))) (.slice (.pair (.int .i64) (.pair (.int .i64) (.pair (.int .i64) (.pair (.int .i64) (.int .i64))))))))))))), (35, .slice (.slice (.pair (.int .i64) (.pair (.int .i64) (.pair (.int .i64) (.pair (.int .i64) (.int .i64))))))), (37, .pair (.slice (.pair (.slice (.pair (.int .i64) (.pair (.slice (.int .i64)) (.int .i64)))) (.slice (.pair (.int .i64) (.pair (.int .i64) (.pair (.int .i64) (.pair (.slice (.pair (.int .i64) (.bool))) (.slice (.pair (.int .i64) (.pair (.int .i64) (.pair (.int .i64) (.pair (.int .i64) (.int .i64))))))))))))) (.slice (.slice (.pair (.int .i64) (.pair (.int .i64) (.pair (.int .i64) (.pair (.int .i64) (.int .i64)))))))), (39, .slice (.pair (.int .i64) (.pair (.int .i64) (.pair (.int .i64) (.pair (.int .i64) (.int .i64)))))), (41, .slice (.pair (.slice (.pair (.int .i64) (.pair (.slice (.int .i64)) (.int .i64)))) (.slice (.pair (.int .i64) (.pair (.int .i64) (.pair (.int .i64) (.pair (.slice (.pair (.int .i64) (.bool))) (.slice (.pair (.int .i64) (.pair (.int .i64) (.pair (.int .i64) (.pair (.int .i64) (.int .i64))))))))))))), (42, .slice (.slice (.pair (.int .i64) (.pair (.int .i64) (.pair (.int .i64) (.pair (.int .i64) (.int .i64))))))), (44, .pair (.slice (.pair (.slice (.pair (.int .i64) (.pair (.slice (.int .i64)) (.int .i64)))) (.slice (.pair (.int .i64) (.pair (.int .i64) (.pair (.int .i64) (.pair (.slice (.pair (.int .i64) (.bool))) (.slice (.pair (.int .i64) (.pair (.int .i64) (.pair (.int .i64) (.pair (.int .i64) (.int .i64))))))))))))) (.slice (.slice (.pair (.int .i64) (.pair (.int .i64) (.pair (.int .i64) (.pair (.int .i64) (.int .i64)))))))), (55, .arr 4 (.str)), (56, .arr 10 (.str)), (60, .slice (.pair (.int .i64) (.pair (.slice (.int .i64)) (.int .i64)))), (61, .slice (.pair (.int .i64) (.pair (.int .i64) (.pair (.int .i64) (.pair (.slice (.pair (.int .i64) (.bool))) (.slice (.pair (.int .i64) (.pair (.int .i64) (.pair (.int .i64) (.pair (.int .i64) (.int .i64))))))))))), (63, .pair (.slice (.pair (.int .i64) (.pair (.slice (.int .i64)) (.int .i64)))) (.slice (.pair (.int .i64) (.pair (.int .i64) (.pair (.int .i64) (.pair (.slice (.pair (.int .i64) (.bool))) (.slice (.pair (.int .i64) (.pair (.int .i64) (.pair (.int .i64) (.pair (.int .i64) (.int .i64)))))))))))), (65, .slice (.pair (.int .i64) (.bool))), (67, .pair (.int .i64) (.pair (.int .i64) (.pair (.int .i64) (.pair (.slice (.pair (.int .i64) (.bool))) (.slice (.pair (.int .i64) (.pair (.int .i64) (.pair (.int .i64) (.pair (.int .i64) (.int .i64)))))))))), (71, .pair (.int .i64) (.pair (.int .i64) (.pair (.int .i64) (.pair (.int .i64) (.int .i64))))), (79, .pair (.slice (.int .u8)) (.pair (.int .i64) (.int .i64))), (83, .slice (.int .i64)), (86, .slice (.pair (.int .i64) (.pair (.slice (.int .i64)) (.int .i64)))), (87, .slice (.pair (.int .i64) (.pair (.int .i64) (.pair (.int .i64) (.pair (.slice (.pair (.int .i64) (.bool))) (.slice (.pair (.int .i64) (.pair (.int .i64) (.pair (.int .i64) (.pair (.int .i64) (.int .i64))))))))))), (89, .pair (.slice (.pair (.int .i64) (.pair (.slice (.int .i64)) (.int .i64)))) (.slice (.pair (.int .i64) (.pair (.int .i64) (.pair (.int .i64) (.pair (.slice (.pair (.int .i64) (.bool))) (.slice (.pair (.int .i64) (.pair (.int .i64) (.pair (.int .i64) (.pair (.int .i64) (.int .i64)))))))))))), (91, .slice (.pair (.int .i64) (.pair (.int .i64) (.pair (.int .i64) (.pair (.int .i64) (.int .i64)))))), (104, .pair (.int .i64) (.pair (.int .i64) (.pair (.int .i64) (.pair (.int .i64) (.int .i64))))), (108, .pair (.int .i64) (.pair (.slice (.int .i64)) (.int .i64))), (111, .int .u64), (113, .pair (.int .i64) (.pair (.slice (.int .i64)) (.int .i64))), (115, .slice (.pair (.int .i64) (.bool))), (117, .pair (.int .i64) (.pair (.int .i64) (.pair (.int .i64) (.pair (.slice (.pair (.int .i64) (.bool))) (.slice (.pair (.int .i64) (.pair (.int .i64) (.pair (.int .i64) (.pair (.int .i64) (.int .i64)))))))))), (123, .pair (.int .i64) (.bool)), (130, .pair (.int .i64) (.bool)), (139, .int .u32), (140, .int .u8), (141, .int .u8), (144, .int .i32), (145, .int .i32)]
def flds : List (Nat × List (Nat × Ty)) := [(8, [(0, .int .i64), (1, .int .i64), (2, .bool), (3, .int .u8)]), (14, [(0, .str), (1, .int .u64)]), (25, [(0, .int .i64), (1, .int .i64)]), (27, [(0, .int .i64), (1, .int .i64), (2, .pair (.int .i64) (.int .i64))]), (37, [(0, .slice (.pair (.slice (.pair (.int .i64) (.pair (.slice (.int .i64)) (.int .i64)))) (.slice (.pair (.int .i64) (.pair (.int .i64) (.pair (.int .i64) (.pair (.slice (.pair (.int .i64) (.bool))) (.slice (.pair (.int .i64) (.pair (.int .i64) (.pair (.int .i64) (.pair (.int .i64) (.int .i64))))))))))))), (1, .slice (.slice (.pair (.int .i64) (.pair (.int .i64) (.pair (.int .i64) (.pair (.int .i64) (.int .i64)))))))]), (44, [(0, .slice (.pair (.slice (.pair (.int .i64) (.pair (.slice (.int .i64)) (.int .i64)))) (.slice (.pair (.int .i64) (.pair (.int .i64) (.pair (.int .i64) (.pair (.slice (.pair (.int .i64) (.bool))) (.slice (.pair (.int .i64) (.pair (.int .i64) (.pair (.int .i64) (.pair (.int .i64) (.int .i64))))))))))))), (1, .slice (.slice (.pair (.int .i64) (.pair (.int .i64) (.pair (.int .i64) (.pair (.int .i64) (.int .i64)))))))]), (63, [(0, .slice (.pair (.int .i64) (.pair (.slice (.int .i64)) (.int .i64)))), (1, .slice (.pair (.int .i64) (.pair (.int .i64) (.pair (.int .i64) (.pair (.slice (.pair (.int .i64) (.bool))) (.slice (.pair (.int .i64) (.pair (.int .i64) (.pair (.int .i64) (.pair (.int .i64) (.int .i64)))))))))))]), (67, [(0, .int .i64), (1, .int .i64), (2, .int .i64), (3, .slice (.pair (.int .i64) (.bool))), (4, .slice (.pair (.int .i64) (.pair (.int .i64) (.pair (.int .i64) (.pair (.int .i64) (.int .i64))))))]), (71, [(0, .int .i64), (1, .int .i64), (2, .int .i64), (3, .int .i64), (4, .int .i64)]), (79, [(0, .slice (.int .u8)), (1, .int .i64), (2, .int .i64)]), (89, [(0, .slice (.pair (.int .i64) (.pair (.slice (.int .i64)) (.int .i64)))), (1, .slice (.pair (.int .i64) (.pair (.int .i64) (.pair (.int .i64) (.pair (.slice (.pair (.int .i64) (.bool))) (.slice (.pair (.int .i64) (.pair (.int .i64) (.pair (.int .i64) (.pair (.int .i64) (.int .i64)))))))))))]), (104, [(0, .int .i64), (1, .int .i64), (2, .int .i64), (3, .int .i64), (4, .int .i64)]), (108, [(0, .int .i64), (1, .slice (.int .i64)), (2, .int .i64)]), (113, [(0, .int .i64), (1, .slice (.int .i64)), (2, .int .i64)]), (117, [(0, .int .i64), (1, .int .i64), (2, .int .i64), (3, .slice (.pair (.int .i64) (.bool))), (4, .slice (.pair (.int .i64) (.pair (.int .i64) (.pair (.int .i64) (.pair (.int .i64) (.int .i64))))))]), (123, [(0, .int .i64), (1, .bool)]), (130, [(0, .int .i64), (1, .bool)])]
def eqs : List Nat := [25, 27, 71, 104, 123, 130]
set_option maxRecDepth 100000 in
theorem tys_ok : tysB Try.prog tys = true := by kernel_rfl
set_option maxRecDepth 100000 in
theorem flds_ok : allFldsB Try.prog flds = true := by kernel_rfl
set_option maxRecDepth 100000 in
theorem eqs_ok : eqsB Try.prog tys eqs = true := by kernel_rfl
theorem mixed : Try.prog.follows .mixedOrders = true := by kernel_rfl
noncomputable def mkC (n : Nat) (res keep : List Nat) (l : List (Known Try.prog)) : Ctx := ⟨n, tys, flds, res, keep, fnOf l, eqs, fun _ => none, [], fun _ => none, false, fun _ => none⟩
theorem mkC_ok (n : Nat) (res keep : List Nat) (l : List (Known Try.prog)) : CtxOk Try.prog (mkC n res keep l) := ctxOk tys_ok flds_ok eqs_ok (fun _ _ h => by cases h) (fun _ _ h => by cases h)
noncomputable def mkCM (n : Nat) (res keep : List Nat) (l : List (Known Try.prog)) (lm : List (KnownM Try.prog)) (lt : List (KnownT Try.prog)) (pins : List Nat) : Ctx := ⟨n, tys, flds, res, keep, fnOf l, eqs, fnOfM lm, pins, fnOfT lt, false, fun _ => none⟩
theorem mkCM_ok (n : Nat) (res keep : List Nat) (l : List (Known Try.prog)) (lm : List (KnownM Try.prog)) (lt : List (KnownT Try.prog)) (pins : List Nat) : CtxOk Try.prog (mkCM n res keep l lm lt pins) := ctxOk tys_ok flds_ok eqs_ok (fnOfM_ok lm) (fnOfT_ok lt)
noncomputable def mkCK (n : Nat) (res keep : List Nat) (l : List (Known Try.prog)) (lm : List (KnownM Try.prog)) (lt : List (KnownT Try.prog)) (lk : List (KnownK Try.prog)) (pins : List Nat) : Ctx := ⟨n, tys, flds, res, keep, fnOf l, eqs, fnOfM lm, pins, fnOfT lt, false, fnOfK lk⟩
theorem mkCK_ok (n : Nat) (res keep : List Nat) (l : List (Known Try.prog)) (lm : List (KnownM Try.prog)) (lt : List (KnownT Try.prog)) (lk : List (KnownK Try.prog)) (pins : List Nat) : CtxOk Try.prog (mkCK n res keep l lm lt lk pins) := ctxOk tys_ok flds_ok eqs_ok (fnOfM_ok lm) (fnOfT_ok lt) (fnOfK_ok lk)
end Fw
