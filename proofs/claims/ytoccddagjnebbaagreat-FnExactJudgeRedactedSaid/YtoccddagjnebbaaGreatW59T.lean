/- Walks of functions of the program: what each computes. Conditions: those that each contract names. -/
import Derived.Test.YtoccddagjnebbaaGreatP3
import Derived.Test.YtoccddagjnebbaaGreatProg
namespace Fw
open Go Go.Proofs
set_option linter.unusedSimpArgs false
abbrev Z0 : Sh := .own (.pure (.int .i64))
abbrev Y1 : Ty := .pair (.int .i64) (.bool)
abbrev Z2 : Sh := .pure (.slice (.int .i64))
abbrev Y3 : Ty := .slice (.slice (.int .i64))
abbrev Y4 : Ty := .pair (.int .i64) (.int .i64)
abbrev Z5 : Sh := .pure Y1
abbrev Y6 : Ty := .slice Y1
abbrev Z7 : Sh := .pure Y3
abbrev Z8 : Sh := .pure Y4
abbrev Y9 : Ty := .pair (.slice (.int .i64)) (.int .i64)
abbrev Y10 : Ty := .slice Y4
abbrev Z11 : Sh := .own Z5
abbrev Z12 : Sh := .pure Y6
abbrev Y13 : Ty := .pair (.slice (.str)) (.slice (.int .i64))
abbrev Z14 : Sh := .pure Y10
abbrev Y15 : Ty := .pair (.int .i64) Y4
abbrev Z16 : Sh := .pair Z0 (.pure (.int .i64))
abbrev Y17 : Ty := .pair (.slice (.int .i64)) Y3
abbrev Z18 : Sh := .pure Y15
abbrev Y19 : Ty := .slice Y15
abbrev Y20 : Ty := .pair (.int .i64) Y9
abbrev Z21 : Sh := .pure Y19
abbrev Z22 : Sh := .pure Y20
abbrev Y23 : Ty := .slice Y20
abbrev Y24 : Ty := .pair (.int .i64) Y15
abbrev Z25 : Sh := .pure Y23
abbrev Z26 : Sh := .pure Y24
abbrev Y27 : Ty := .slice Y24
abbrev Y28 : Ty := .pair (.slice (.str)) Y17
abbrev Z29 : Sh := .pair (.pure (.int .i64)) Z16
abbrev Z30 : Sh := .pure Y27
abbrev Z31 : Sh := .own Z29
abbrev Y32 : Ty := .pair (.int .i64) Y24
abbrev Z33 : Sh := .pure Y32
abbrev Y34 : Ty := .slice Y32
abbrev Z35 : Sh := .own Z33
abbrev Y36 : Ty := .pair (.slice (.bool)) Y28
abbrev Z37 : Sh := .pure Y34
abbrev Y38 : Ty := .slice Y34
abbrev Y39 : Ty := .pair (.int .i64) Y32
abbrev Z40 : Sh := .pure Y38
abbrev Z41 : Sh := .pure Y39
abbrev Y42 : Ty := .pair Y27 Y4
abbrev Y43 : Ty := .slice Y39
abbrev Z44 : Sh := .pure Y43
abbrev Y45 : Ty := .pair (.int .i64) Y39
abbrev Y46 : Ty := .pair (.slice (.int .i64)) Y36
abbrev Z47 : Sh := .pure Y45
abbrev Y48 : Ty := .pair Y6 Y34
abbrev Y49 : Ty := .pair (.int .i64) Y45
abbrev Y50 : Ty := .pair (.int .i64) Y46
abbrev Z51 : Sh := .pair Z11 Z35
abbrev Z52 : Sh := .pure Y50
abbrev Y53 : Ty := .pair (.int .i64) Y48
abbrev Y54 : Ty := .pair (.int .i64) Y49
abbrev Z55 : Sh := .pure Y54
abbrev Y56 : Ty := .pair (.int .i64) Y53
abbrev Z57 : Sh := .pair (.pure (.int .i64)) Z51
abbrev Y58 : Ty := .pair Y19 Y42
abbrev Y59 : Ty := .pair (.int .i64) Y56
abbrev Z60 : Sh := .pure Y59
abbrev Z61 : Sh := .pair (.pure (.int .i64)) Z57
abbrev Y62 : Ty := .slice Y59
abbrev Z63 : Sh := .pure Y62
abbrev Z64 : Sh := .pair (.pure (.int .i64)) Z61
abbrev Z65 : Sh := .own Z64
abbrev Y66 : Ty := .pair Y23 Y62
abbrev Y67 : Ty := .pair Y34 Y58
abbrev Z68 : Sh := .pure Y66
abbrev Y69 : Ty := .slice Y66
abbrev Z70 : Sh := .pure Y67
abbrev Z71 : Sh := .pure Y69
abbrev Z72 : Sh := .pair Z31 Z65
abbrev Y73 : Ty := .pair Y69 Y38
abbrev Z74 : Sh := .pure Y73
def tys : List (Nat × Ty) := [(2, .int .i64), (3, .int .i64), (4, .bool), (5, .int .u8), (6, .int .u8), (8, .pair (.int .i64) (.pair (.int .i64) (.pair (.bool) (.int .u8)))), (9, .str), (10, .str), (11, .str), (12, .int .u64), (14, .pair (.str) (.int .u64)), (21, .int .i32), (22, .slice (.pair (.int .i64) (.pair (.int .i64) (.pair (.int .i64) (.pair (.int .i64) (.int .i64)))))), (23, .slice (.pair (.int .i64) (.pair (.int .i64) (.int .i64)))), (24, .slice (.pair (.int .i64) (.pair (.int .i64) (.pair (.int .i64) (.int .i64))))), (26, .pair (.slice (.pair (.int .i64) (.pair (.int .i64) (.pair (.int .i64) (.pair (.int .i64) (.int .i64)))))) (.pair (.slice (.pair (.int .i64) (.pair (.int .i64) (.int .i64)))) (.pair (.slice (.pair (.int .i64) (.pair (.int .i64) (.pair (.int .i64) (.int .i64))))) (.pair (.int .i64) (.int .i64))))), (27, .slice (.pair (.slice (.pair (.int .i64) (.pair (.slice (.int .i64)) (.int .i64)))) (.slice (.pair (.int .i64) (.pair (.int .i64) (.pair (.int .i64) (.pair (.slice (.pair (.int .i64) (.bool))) (.slice (.pair (.int .i64) (.pair (.int .i64) (.pair (.int .i64) (.pair (.int .i64) (.int .i64))))))))))))), (28, .slice (.slice (.pair (.int .i64) (.pair (.int .i64) (.pair (.int .i64) (.pair (.int .i64) (.int .i64))))))), (30, .pair (.slice (.pair (.slice (.pair (.int .i64) (.pair (.slice (.int .i64)) (.int .i64)))) (.slice (.pair (.int .i64) (.pair (.int .i64) (.pair (.int .i64) (.pair (.slice (.pair (.int .i64) (.bool))) (.slice (.pair (.int .i64) (.pair (.int .i64) (.pair (.int .i64) (.pair (.int .i64) (.int .i64))))))))))))) (.slice (.slice (.pair (.int .i64) (.pair (.int .i64) (.pair (.int .i64) (.pair (.int .i64) (.int .i64)))))))), (31, .slice (.slice (.int .i64))), (33, .pair (.int .i64) (.pair (.int .i64) (.pair (.int .i64) (.pair (.int .i64) (.pair (.int .i64) (.pair (.int .i64) (.pair (.int .i64) (.pair (.int .i64) (.int .i64))))))))), (38, .pair (.int .i64) (.int .i64)), (40, .pair (.int .i64) (.pair (.int .i64) (.pair (.int .i64) (.int .i64)))), (42, .slice (.pair (.int .i64) (.pair (.int .i64) (.pair (.int .i64) (.pair (.int .i64) (.int .i64)))))), (43, .slice (.pair (.int .i64) (.pair (.int .i64) (.int .i64)))), (44, .slice (.pair (.int .i64) (.pair (.int .i64) (.pair (.int .i64) (.int .i64))))), (46, .pair (.slice (.pair (.int .i64) (.pair (.int .i64) (.pair (.int .i64) (.pair (.int .i64) (.int .i64)))))) (.pair (.slice (.pair (.int .i64) (.pair (.int .i64) (.int .i64)))) (.pair (.slice (.pair (.int .i64) (.pair (.int .i64) (.pair (.int .i64) (.int .i64))))) (.pair (.int .i64) (.int .i64))))), (48, .slice (.pair (.slice (.pair (.int .i64) (.pair (.slice (.int .i64)) (.int .i64)))) (.slice (.pair (.int .i64) (.pair (.int .i64) (.pair (.int .i64) (.pair (.slice (.pair (.int .i64) (.bool))) (.slice (.pair (.int .i64) (.pair (.int .i64) (.pair (.int .i64) (.pair (.int .i64) (.int .i64))))))))))))), (49, .slice (.slice (.pair (.int .i64) (.pair (.int .i64) (.pair (.int .i64) (.pair (.int .i64) (.int .i64))))))), (51, .pair (.slice (.pair (.slice (.pair (.int .i64) (.pair (.slice (.int .i64)) (.int .i64)))) (.slice (.pair (.int .i64) (.pair (.int .i64) (.pair (.int .i64) (.pair (.slice (.pair (.int .i64) (.bool))) (.slice (.pair (.int .i64) (.pair (.int .i64) (.pair (.int .i64) (.pair (.int .i64) (.int .i64))))))))))))) (.slice (.slice (.pair (.int .i64) (.pair (.int .i64) (.pair (.int .i64) (.pair (.int .i64) (.int .i64)))))))), (54, .pair (.int .i64) (.pair (.int .i64) (.pair (.int .i64) (.pair (.int .i64) (.pair (.int .i64) (.pair (.int .i64) (.pair (.int .i64) (.pair (.int .i64) (.int .i64))))))))), (61, .slice (.str)), (62, .slice (.int .i64)), (64, .pair (.int .i64) (.pair (.slice (.str)) (.slice (.int .i64)))), (67, .pair (.int .i64) (.pair (.slice (.str)) (.slice (.int .i64)))), (71, .slice (.pair (.int .i64) (.pair (.slice (.int .i64)) (.int .i64)))), (72, .slice (.pair (.int .i64) (.pair (.int .i64) (.pair (.int .i64) (.pair (.slice (.pair (.int .i64) (.bool))) (.slice (.pair (.int .i64) (.pair (.int .i64) (.pair (.int .i64) (.pair (.int .i64) (.int .i64))))))))))), (74, .pair (.slice (.pair (.int .i64) (.pair (.slice (.int .i64)) (.int .i64)))) (.slice (.pair (.int .i64) (.pair (.int .i64) (.pair (.int .i64) (.pair (.slice (.pair (.int .i64) (.bool))) (.slice (.pair (.int .i64) (.pair (.int .i64) (.pair (.int .i64) (.pair (.int .i64) (.int .i64)))))))))))), (76, .pair (.int .i64) (.pair (.int .i64) (.pair (.pair (.int .i64) (.pair (.slice (.str)) (.slice (.int .i64)))) (.pair (.pair (.int .i64) (.pair (.int .i64) (.pair (.int .i64) (.pair (.int .i64) (.pair (.int .i64) (.pair (.int .i64) (.pair (.int .i64) (.pair (.int .i64) (.int .i64))))))))) (.pair (.slice (.pair (.int .i64) (.pair (.slice (.int .i64)) (.int .i64)))) (.slice (.pair (.int .i64) (.pair (.int .i64) (.pair (.int .i64) (.pair (.slice (.pair (.int .i64) (.bool))) (.slice (.pair (.int .i64) (.pair (.int .i64) (.pair (.int .i64) (.pair (.int .i64) (.int .i64)))))))))))))))), (79, .slice (.pair (.int .i64) (.pair (.slice (.int .i64)) (.int .i64)))), (80, .slice (.pair (.int .i64) (.pair (.int .i64) (.pair (.int .i64) (.pair (.slice (.pair (.int .i64) (.bool))) (.slice (.pair (.int .i64) (.pair (.int .i64) (.pair (.int .i64) (.pair (.int .i64) (.int .i64))))))))))), (82, .pair (.slice (.pair (.int .i64) (.pair (.slice (.int .i64)) (.int .i64)))) (.slice (.pair (.int .i64) (.pair (.int .i64) (.pair (.int .i64) (.pair (.slice (.pair (.int .i64) (.bool))) (.slice (.pair (.int .i64) (.pair (.int .i64) (.pair (.int .i64) (.pair (.int .i64) (.int .i64)))))))))))), (84, .pair (.int .i64) (.pair (.int .i64) (.pair (.pair (.int .i64) (.pair (.slice (.str)) (.slice (.int .i64)))) (.pair (.pair (.int .i64) (.pair (.int .i64) (.pair (.int .i64) (.pair (.int .i64) (.pair (.int .i64) (.pair (.int .i64) (.pair (.int .i64) (.pair (.int .i64) (.int .i64))))))))) (.pair (.slice (.pair (.int .i64) (.pair (.slice (.int .i64)) (.int .i64)))) (.slice (.pair (.int .i64) (.pair (.int .i64) (.pair (.int .i64) (.pair (.slice (.pair (.int .i64) (.bool))) (.slice (.pair (.int .i64) (.pair (.int .i64) (.pair (.int .i64) (.pair (.int .i64) (.int .i64)))))))))))))))), (88, .slice (.bool)), (90, .pair (.int .i64) (.pair (.slice (.int .i64)) (.pair (.slice (.bool)) (.pair (.slice (.str)) (.pair (.slice (.int .i64)) (.slice (.slice (.int .i64)))))))), (93, .pair (.int .i64) (.pair (.slice (.int .i64)) (.pair (.slice (.bool)) (.pair (.slice (.str)) (.pair (.slice (.int .i64)) (.slice (.slice (.int .i64)))))))), (111, .pair (.int .i64) (.pair (.slice (.int .i64)) (.int .i64))), (114, .pair (.int .i64) (.pair (.int .i64) (.pair (.int .i64) (.pair (.int .i64) (.int .i64))))), (120, .pair (.int .i64) (.pair (.int .i64) (.pair (.int .i64) (.pair (.int .i64) (.pair (.int .i64) (.pair (.int .i64) (.int .i64))))))), (124, .slice (.pair (.int .i64) (.pair (.int .i64) (.pair (.int .i64) (.pair (.int .i64) (.int .i64)))))), (128, .slice (.pair (.int .i64) (.pair (.int .i64) (.pair (.int .i64) (.pair (.int .i64) (.pair (.int .i64) (.int .i64))))))), (164, .slice (.pair (.int .i64) (.pair (.int .i64) (.pair (.int .i64) (.pair (.int .i64) (.int .i64)))))), (169, .pair (.int .i64) (.pair (.int .i64) (.pair (.int .i64) (.int .i64)))), (175, .slice (.pair (.int .i64) (.pair (.int .i64) (.pair (.int .i64) (.pair (.int .i64) (.int .i64)))))), (179, .pair (.int .i64) (.pair (.int .i64) (.pair (.int .i64) (.pair (.int .i64) (.int .i64))))), (183, .slice (.pair (.int .i64) (.int .i64))), (188, .pair (.int .i64) (.pair (.int .i64) (.pair (.int .i64) (.pair (.int .i64) (.pair (.int .i64) (.int .i64)))))), (192, .pair (.int .i64) (.pair (.int .i64) (.pair (.int .i64) (.pair (.int .i64) (.int .i64))))), (194, .pair (.int .i64) (.pair (.int .i64) (.int .i64))), (196, .pair (.int .i64) (.pair (.int .i64) (.int .i64))), (198, .pair (.int .i64) (.pair (.int .i64) (.pair (.int .i64) (.int .i64)))), (212, .pair (.int .i64) (.pair (.int .i64) (.pair (.int .i64) (.pair (.int .i64) (.int .i64))))), (252, .pair (.int .i64) (.pair (.int .i64) (.pair (.int .i64) (.pair (.int .i64) (.int .i64))))), (264, .slice (.pair (.int .i64) (.bool))), (266, .pair (.int .i64) (.pair (.int .i64) (.pair (.int .i64) (.pair (.slice (.pair (.int .i64) (.bool))) (.slice (.pair (.int .i64) (.pair (.int .i64) (.pair (.int .i64) (.pair (.int .i64) (.int .i64)))))))))), (269, .slice (.int .u8)), (271, .pair (.int .i64) (.pair (.slice (.int .i64)) (.int .i64))), (273, .slice (.pair (.int .i64) (.bool))), (275, .pair (.int .i64) (.pair (.int .i64) (.pair (.int .i64) (.pair (.slice (.pair (.int .i64) (.bool))) (.slice (.pair (.int .i64) (.pair (.int .i64) (.pair (.int .i64) (.pair (.int .i64) (.int .i64)))))))))), (291, .arr 5 (.int .i64)), (298, .pair (.int .i64) (.bool)), (305, .pair (.int .i64) (.bool)), (322, .int .u32), (323, .int .u8), (324, .int .u8), (327, .int .i32), (328, .int .i32)]
def flds : List (Nat × List (Nat × Ty)) := [(8, [(0, .int .i64), (1, .int .i64), (2, .bool), (3, .int .u8)]), (14, [(0, .str), (1, .int .u64)]), (26, [(0, .slice (.pair (.int .i64) (.pair (.int .i64) (.pair (.int .i64) (.pair (.int .i64) (.int .i64)))))), (1, .slice (.pair (.int .i64) (.pair (.int .i64) (.int .i64)))), (2, .slice (.pair (.int .i64) (.pair (.int .i64) (.pair (.int .i64) (.int .i64))))), (3, .int .i64), (4, .int .i64)]), (30, [(0, .slice (.pair (.slice (.pair (.int .i64) (.pair (.slice (.int .i64)) (.int .i64)))) (.slice (.pair (.int .i64) (.pair (.int .i64) (.pair (.int .i64) (.pair (.slice (.pair (.int .i64) (.bool))) (.slice (.pair (.int .i64) (.pair (.int .i64) (.pair (.int .i64) (.pair (.int .i64) (.int .i64))))))))))))), (1, .slice (.slice (.pair (.int .i64) (.pair (.int .i64) (.pair (.int .i64) (.pair (.int .i64) (.int .i64)))))))]), (33, [(0, .int .i64), (1, .int .i64), (2, .int .i64), (3, .int .i64), (4, .int .i64), (5, .int .i64), (6, .int .i64), (7, .int .i64), (8, .int .i64)]), (38, [(0, .int .i64), (1, .int .i64)]), (40, [(0, .int .i64), (1, .int .i64), (2, .pair (.int .i64) (.int .i64))]), (46, [(0, .slice (.pair (.int .i64) (.pair (.int .i64) (.pair (.int .i64) (.pair (.int .i64) (.int .i64)))))), (1, .slice (.pair (.int .i64) (.pair (.int .i64) (.int .i64)))), (2, .slice (.pair (.int .i64) (.pair (.int .i64) (.pair (.int .i64) (.int .i64))))), (3, .int .i64), (4, .int .i64)]), (51, [(0, .slice (.pair (.slice (.pair (.int .i64) (.pair (.slice (.int .i64)) (.int .i64)))) (.slice (.pair (.int .i64) (.pair (.int .i64) (.pair (.int .i64) (.pair (.slice (.pair (.int .i64) (.bool))) (.slice (.pair (.int .i64) (.pair (.int .i64) (.pair (.int .i64) (.pair (.int .i64) (.int .i64))))))))))))), (1, .slice (.slice (.pair (.int .i64) (.pair (.int .i64) (.pair (.int .i64) (.pair (.int .i64) (.int .i64)))))))]), (54, [(0, .int .i64), (1, .int .i64), (2, .int .i64), (3, .int .i64), (4, .int .i64), (5, .int .i64), (6, .int .i64), (7, .int .i64), (8, .int .i64)]), (64, [(0, .int .i64), (1, .slice (.str)), (2, .slice (.int .i64))]), (67, [(0, .int .i64), (1, .slice (.str)), (2, .slice (.int .i64))]), (74, [(0, .slice (.pair (.int .i64) (.pair (.slice (.int .i64)) (.int .i64)))), (1, .slice (.pair (.int .i64) (.pair (.int .i64) (.pair (.int .i64) (.pair (.slice (.pair (.int .i64) (.bool))) (.slice (.pair (.int .i64) (.pair (.int .i64) (.pair (.int .i64) (.pair (.int .i64) (.int .i64)))))))))))]), (76, [(0, .int .i64), (1, .int .i64), (2, .pair (.int .i64) (.pair (.slice (.str)) (.slice (.int .i64)))), (5, .pair (.int .i64) (.pair (.int .i64) (.pair (.int .i64) (.pair (.int .i64) (.pair (.int .i64) (.pair (.int .i64) (.pair (.int .i64) (.pair (.int .i64) (.int .i64))))))))), (14, .pair (.slice (.pair (.int .i64) (.pair (.slice (.int .i64)) (.int .i64)))) (.slice (.pair (.int .i64) (.pair (.int .i64) (.pair (.int .i64) (.pair (.slice (.pair (.int .i64) (.bool))) (.slice (.pair (.int .i64) (.pair (.int .i64) (.pair (.int .i64) (.pair (.int .i64) (.int .i64))))))))))))]), (82, [(0, .slice (.pair (.int .i64) (.pair (.slice (.int .i64)) (.int .i64)))), (1, .slice (.pair (.int .i64) (.pair (.int .i64) (.pair (.int .i64) (.pair (.slice (.pair (.int .i64) (.bool))) (.slice (.pair (.int .i64) (.pair (.int .i64) (.pair (.int .i64) (.pair (.int .i64) (.int .i64)))))))))))]), (84, [(0, .int .i64), (1, .int .i64), (2, .pair (.int .i64) (.pair (.slice (.str)) (.slice (.int .i64)))), (5, .pair (.int .i64) (.pair (.int .i64) (.pair (.int .i64) (.pair (.int .i64) (.pair (.int .i64) (.pair (.int .i64) (.pair (.int .i64) (.pair (.int .i64) (.int .i64))))))))), (14, .pair (.slice (.pair (.int .i64) (.pair (.slice (.int .i64)) (.int .i64)))) (.slice (.pair (.int .i64) (.pair (.int .i64) (.pair (.int .i64) (.pair (.slice (.pair (.int .i64) (.bool))) (.slice (.pair (.int .i64) (.pair (.int .i64) (.pair (.int .i64) (.pair (.int .i64) (.int .i64))))))))))))]), (90, [(0, .int .i64), (1, .slice (.int .i64)), (2, .slice (.bool)), (3, .slice (.str)), (4, .slice (.int .i64)), (5, .slice (.slice (.int .i64)))]), (93, [(0, .int .i64), (1, .slice (.int .i64)), (2, .slice (.bool)), (3, .slice (.str)), (4, .slice (.int .i64)), (5, .slice (.slice (.int .i64)))]), (111, [(0, .int .i64), (1, .slice (.int .i64)), (2, .int .i64)]), (114, [(0, .int .i64), (1, .int .i64), (2, .int .i64), (3, .int .i64), (4, .int .i64)]), (120, [(0, .int .i64), (1, .int .i64), (2, .int .i64), (3, .int .i64), (4, .int .i64), (5, .int .i64), (6, .int .i64)]), (169, [(0, .int .i64), (1, .int .i64), (2, .int .i64), (3, .int .i64)]), (179, [(0, .int .i64), (1, .int .i64), (2, .int .i64), (3, .int .i64), (4, .int .i64)]), (188, [(0, .int .i64), (1, .int .i64), (2, .int .i64), (3, .int .i64), (4, .int .i64), (5, .int .i64)]), (192, [(0, .int .i64), (1, .int .i64), (2, .int .i64), (3, .int .i64), (4, .int .i64)]), (194, [(0, .int .i64), (1, .int .i64), (2, .int .i64)]), (196, [(0, .int .i64), (1, .int .i64), (2, .int .i64)]), (198, [(0, .int .i64), (1, .int .i64), (2, .int .i64), (3, .int .i64)]), (212, [(0, .int .i64), (1, .int .i64), (2, .int .i64), (3, .int .i64), (4, .int .i64)]), (252, [(0, .int .i64), (1, .int .i64), (2, .int .i64), (3, .int .i64), (4, .int .i64)]), (266, [(0, .int .i64), (1, .int .i64), (2, .int .i64), (3, .slice (.pair (.int .i64) (.bool))), (4, .slice (.pair (.int .i64) (.pair (.int .i64) (.pair (.int .i64) (.pair (.int .i64) (.int .i64))))))]), (271, [(0, .int .i64), (1, .slice (.int .i64)), (2, .int .i64)]), (275, [(0, .int .i64), (1, .int .i64), (2, .int .i64), (3, .slice (.pair (.int .i64) (.bool))), (4, .slice (.pair (.int .i64) (.pair (.int .i64) (.pair (.int .i64) (.pair (.int .i64) (.int .i64))))))]), (298, [(0, .int .i64), (1, .bool)]), (305, [(0, .int .i64), (1, .bool)])]
def eqs : List Nat := [33, 38, 40, 54, 114, 120, 169, 179, 188, 192, 194, 196, 198, 212, 252, 298, 305]
set_option maxRecDepth 100000 in
theorem tys_ok : tysB Tryz.prog tys = true := by kernel_rfl
set_option maxRecDepth 100000 in
theorem flds_ok : allFldsB Tryz.prog flds = true := by kernel_rfl
set_option maxRecDepth 100000 in
theorem eqs_ok : eqsB Tryz.prog tys eqs = true := by kernel_rfl
theorem mixed : Tryz.prog.follows .mixedOrders = true := by kernel_rfl
noncomputable def mkC (n : Nat) (res keep : List Nat) (l : List (Known Tryz.prog)) : Ctx := ⟨n, tys, flds, res, keep, fnOf l, eqs, fun _ => none, [], fun _ => none, false, fun _ => none⟩
theorem mkC_ok (n : Nat) (res keep : List Nat) (l : List (Known Tryz.prog)) : CtxOk Tryz.prog (mkC n res keep l) := ctxOk tys_ok flds_ok eqs_ok (fun _ _ h => by cases h) (fun _ _ h => by cases h)
noncomputable def mkCM (n : Nat) (res keep : List Nat) (l : List (Known Tryz.prog)) (lm : List (KnownM Tryz.prog)) (lt : List (KnownT Tryz.prog)) (pins : List Nat) : Ctx := ⟨n, tys, flds, res, keep, fnOf l, eqs, fnOfM lm, pins, fnOfT lt, false, fun _ => none⟩
theorem mkCM_ok (n : Nat) (res keep : List Nat) (l : List (Known Tryz.prog)) (lm : List (KnownM Tryz.prog)) (lt : List (KnownT Tryz.prog)) (pins : List Nat) : CtxOk Tryz.prog (mkCM n res keep l lm lt pins) := ctxOk tys_ok flds_ok eqs_ok (fnOfM_ok lm) (fnOfT_ok lt)
noncomputable def mkCK (n : Nat) (res keep : List Nat) (l : List (Known Tryz.prog)) (lm : List (KnownM Tryz.prog)) (lt : List (KnownT Tryz.prog)) (lk : List (KnownK Tryz.prog)) (pins : List Nat) : Ctx := ⟨n, tys, flds, res, keep, fnOf l, eqs, fnOfM lm, pins, fnOfT lt, false, fnOfK lk⟩
theorem mkCK_ok (n : Nat) (res keep : List Nat) (l : List (Known Tryz.prog)) (lm : List (KnownM Tryz.prog)) (lt : List (KnownT Tryz.prog)) (lk : List (KnownK Tryz.prog)) (pins : List Nat) : CtxOk Tryz.prog (mkCK n res keep l lm lt lk pins) := ctxOk tys_ok flds_ok eqs_ok (fnOfM_ok lm) (fnOfT_ok lt) (fnOfK_ok lk)
end Fw
