/- Walks of functions of the program: what each computes. Conditions: those that each contract names. -/
import Derived.Test.YtadkcilmknpkhaaGreatP3
import Derived.Test.YtadkcilmknpkhaaGreatProg
namespace Fw
open Go Go.Proofs
set_option linter.unusedSimpArgs false
abbrev Z0 : Sh := .own (.pure (.int .i64))
abbrev Y1 : Ty := .pair (.int .i64) (.bool)
abbrev Z2 : Sh := .pure (.slice (.int .i64))
abbrev Y3 : Ty := .slice (.slice (.int .i64))
abbrev Y4 : Ty := .pair (.int .i64) (.int .i64)
abbrev Z5 : Sh := .pure Y1
abbrev Y6 : Ty := .slice Y1
abbrev Z7 : Sh := .pure Y3
abbrev Z8 : Sh := .pure Y4
abbrev Y9 : Ty := .pair (.slice (.int .i64)) (.int .i64)
abbrev Y10 : Ty := .slice Y4
abbrev Z11 : Sh := .own Z5
abbrev Z12 : Sh := .pure Y6
abbrev Y13 : Ty := .pair (.slice (.str)) (.slice (.int .i64))
abbrev Z14 : Sh := .pure Y10
abbrev Y15 : Ty := .pair (.int .i64) Y4
abbrev Z16 : Sh := .pair Z0 (.pure (.int .i64))
abbrev Z17 : Sh := .pure Y15
abbrev Y18 : Ty := .slice Y15
abbrev Y19 : Ty := .pair (.int .i64) Y9
abbrev Y20 : Ty := .pair (.int .i64) Y13
abbrev Z21 : Sh := .pure Y18
abbrev Z22 : Sh := .pure Y19
abbrev Y23 : Ty := .slice Y19
abbrev Y24 : Ty := .pair (.int .i64) Y15
abbrev Z25 : Sh := .pure Y20
abbrev Z26 : Sh := .pure Y23
abbrev Z27 : Sh := .pure Y24
abbrev Y28 : Ty := .slice Y24
abbrev Z29 : Sh := .pair (.pure (.int .i64)) Z16
abbrev Z30 : Sh := .pure Y28
abbrev Z31 : Sh := .own Z29
abbrev Y32 : Ty := .pair (.int .i64) Y24
abbrev Z33 : Sh := .pure Y32
abbrev Y34 : Ty := .slice Y32
abbrev Z35 : Sh := .own Z33
abbrev Z36 : Sh := .pure Y34
abbrev Y37 : Ty := .slice Y34
abbrev Y38 : Ty := .pair (.int .i64) Y32
abbrev Z39 : Sh := .pure Y37
abbrev Y40 : Ty := .pair Y28 Y4
abbrev Y41 : Ty := .pair (.int .i64) Y38
abbrev Z42 : Sh := .pure Y41
abbrev Y43 : Ty := .pair Y6 Y34
abbrev Y44 : Ty := .pair (.int .i64) Y41
abbrev Z45 : Sh := .pair Z11 Z35
abbrev Y46 : Ty := .pair (.int .i64) Y43
abbrev Y47 : Ty := .pair (.int .i64) Y44
abbrev Z48 : Sh := .pure Y47
abbrev Y49 : Ty := .pair (.int .i64) Y46
abbrev Z50 : Sh := .pair (.pure (.int .i64)) Z45
abbrev Y51 : Ty := .pair Y18 Y40
abbrev Y52 : Ty := .pair (.int .i64) Y49
abbrev Z53 : Sh := .pure Y52
abbrev Z54 : Sh := .pair (.pure (.int .i64)) Z50
abbrev Y55 : Ty := .slice Y52
abbrev Z56 : Sh := .pure Y55
abbrev Z57 : Sh := .pair (.pure (.int .i64)) Z54
abbrev Z58 : Sh := .own Z57
abbrev Y59 : Ty := .pair Y23 Y55
abbrev Y60 : Ty := .pair Y34 Y51
abbrev Z61 : Sh := .pure Y59
abbrev Y62 : Ty := .slice Y59
abbrev Z63 : Sh := .pure Y60
abbrev Z64 : Sh := .pure Y62
abbrev Z65 : Sh := .pair Z31 Z58
abbrev Y66 : Ty := .pair Y62 Y37
abbrev Z67 : Sh := .pure Y66
def tys : List (Nat × Ty) := [(2, .int .i64), (3, .int .i64), (4, .bool), (5, .int .u8), (6, .int .u8), (8, .pair (.int .i64) (.pair (.int .i64) (.pair (.bool) (.int .u8)))), (9, .str), (10, .str), (11, .str), (12, .int .u64), (14, .pair (.str) (.int .u64)), (21, .int .i32), (22, .slice (.pair (.int .i64) (.pair (.int .i64) (.pair (.int .i64) (.pair (.int .i64) (.int .i64)))))), (23, .slice (.pair (.int .i64) (.pair (.int .i64) (.int .i64)))), (24, .slice (.pair (.int .i64) (.pair (.int .i64) (.pair (.int .i64) (.int .i64))))), (26, .pair (.slice (.pair (.int .i64) (.pair (.int .i64) (.pair (.int .i64) (.pair (.int .i64) (.int .i64)))))) (.pair (.slice (.pair (.int .i64) (.pair (.int .i64) (.int .i64)))) (.pair (.slice (.pair (.int .i64) (.pair (.int .i64) (.pair (.int .i64) (.int .i64))))) (.pair (.int .i64) (.int .i64))))), (27, .slice (.pair (.slice (.pair (.int .i64) (.pair (.slice (.int .i64)) (.int .i64)))) (.slice (.pair (.int .i64) (.pair (.int .i64) (.pair (.int .i64) (.pair (.slice (.pair (.int .i64) (.bool))) (.slice (.pair (.int .i64) (.pair (.int .i64) (.pair (.int .i64) (.pair (.int .i64) (.int .i64))))))))))))), (28, .slice (.slice (.pair (.int .i64) (.pair (.int .i64) (.pair (.int .i64) (.pair (.int .i64) (.int .i64))))))), (30, .pair (.slice (.pair (.slice (.pair (.int .i64) (.pair (.slice (.int .i64)) (.int .i64)))) (.slice (.pair (.int .i64) (.pair (.int .i64) (.pair (.int .i64) (.pair (.slice (.pair (.int .i64) (.bool))) (.slice (.pair (.int .i64) (.pair (.int .i64) (.pair (.int .i64) (.pair (.int .i64) (.int .i64))))))))))))) (.slice (.slice (.pair (.int .i64) (.pair (.int .i64) (.pair (.int .i64) (.pair (.int .i64) (.int .i64)))))))), (31, .slice (.slice (.int .i64))), (32, .slice (.int .i64)), (34, .pair (.int .i64) (.pair (.slice (.int .i64)) (.int .i64))), (40, .slice (.pair (.int .i64) (.pair (.int .i64) (.pair (.int .i64) (.pair (.int .i64) (.int .i64)))))), (41, .slice (.pair (.int .i64) (.pair (.int .i64) (.int .i64)))), (42, .slice (.pair (.int .i64) (.pair (.int .i64) (.pair (.int .i64) (.int .i64))))), (44, .pair (.slice (.pair (.int .i64) (.pair (.int .i64) (.pair (.int .i64) (.pair (.int .i64) (.int .i64)))))) (.pair (.slice (.pair (.int .i64) (.pair (.int .i64) (.int .i64)))) (.pair (.slice (.pair (.int .i64) (.pair (.int .i64) (.pair (.int .i64) (.int .i64))))) (.pair (.int .i64) (.int .i64))))), (46, .slice (.pair (.slice (.pair (.int .i64) (.pair (.slice (.int .i64)) (.int .i64)))) (.slice (.pair (.int .i64) (.pair (.int .i64) (.pair (.int .i64) (.pair (.slice (.pair (.int .i64) (.bool))) (.slice (.pair (.int .i64) (.pair (.int .i64) (.pair (.int .i64) (.pair (.int .i64) (.int .i64))))))))))))), (47, .slice (.slice (.pair (.int .i64) (.pair (.int .i64) (.pair (.int .i64) (.pair (.int .i64) (.int .i64))))))), (49, .pair (.slice (.pair (.slice (.pair (.int .i64) (.pair (.slice (.int .i64)) (.int .i64)))) (.slice (.pair (.int .i64) (.pair (.int .i64) (.pair (.int .i64) (.pair (.slice (.pair (.int .i64) (.bool))) (.slice (.pair (.int .i64) (.pair (.int .i64) (.pair (.int .i64) (.pair (.int .i64) (.int .i64))))))))))))) (.slice (.slice (.pair (.int .i64) (.pair (.int .i64) (.pair (.int .i64) (.pair (.int .i64) (.int .i64)))))))), (52, .pair (.int .i64) (.pair (.slice (.int .i64)) (.int .i64))), (59, .slice (.pair (.int .i64) (.pair (.slice (.int .i64)) (.int .i64)))), (66, .slice (.str)), (68, .pair (.int .i64) (.pair (.slice (.str)) (.slice (.int .i64)))), (70, .pair (.int .i64) (.pair (.int .i64) (.pair (.int .i64) (.pair (.int .i64) (.pair (.int .i64) (.pair (.int .i64) (.pair (.int .i64) (.pair (.int .i64) (.int .i64))))))))), (73, .pair (.int .i64) (.pair (.slice (.str)) (.slice (.int .i64)))), (75, .pair (.int .i64) (.pair (.int .i64) (.pair (.int .i64) (.pair (.int .i64) (.pair (.int .i64) (.pair (.int .i64) (.pair (.int .i64) (.pair (.int .i64) (.int .i64))))))))), (87, .slice (.pair (.int .i64) (.pair (.int .i64) (.pair (.int .i64) (.pair (.slice (.pair (.int .i64) (.bool))) (.slice (.pair (.int .i64) (.pair (.int .i64) (.pair (.int .i64) (.pair (.int .i64) (.int .i64))))))))))), (89, .pair (.slice (.pair (.int .i64) (.pair (.slice (.int .i64)) (.int .i64)))) (.slice (.pair (.int .i64) (.pair (.int .i64) (.pair (.int .i64) (.pair (.slice (.pair (.int .i64) (.bool))) (.slice (.pair (.int .i64) (.pair (.int .i64) (.pair (.int .i64) (.pair (.int .i64) (.int .i64)))))))))))), (115, .pair (.int .i64) (.pair (.int .i64) (.pair (.int .i64) (.pair (.int .i64) (.pair (.int .i64) (.pair (.int .i64) (.int .i64))))))), (119, .slice (.pair (.int .i64) (.pair (.int .i64) (.pair (.int .i64) (.pair (.int .i64) (.int .i64)))))), (126, .slice (.pair (.int .i64) (.pair (.slice (.int .i64)) (.int .i64)))), (127, .slice (.pair (.int .i64) (.pair (.int .i64) (.pair (.int .i64) (.pair (.slice (.pair (.int .i64) (.bool))) (.slice (.pair (.int .i64) (.pair (.int .i64) (.pair (.int .i64) (.pair (.int .i64) (.int .i64))))))))))), (129, .pair (.slice (.pair (.int .i64) (.pair (.slice (.int .i64)) (.int .i64)))) (.slice (.pair (.int .i64) (.pair (.int .i64) (.pair (.int .i64) (.pair (.slice (.pair (.int .i64) (.bool))) (.slice (.pair (.int .i64) (.pair (.int .i64) (.pair (.int .i64) (.pair (.int .i64) (.int .i64)))))))))))), (131, .slice (.pair (.int .i64) (.pair (.int .i64) (.pair (.int .i64) (.pair (.int .i64) (.int .i64)))))), (135, .pair (.int .i64) (.pair (.int .i64) (.pair (.int .i64) (.pair (.int .i64) (.int .i64))))), (137, .pair (.int .i64) (.pair (.int .i64) (.pair (.int .i64) (.pair (.int .i64) (.int .i64))))), (139, .pair (.int .i64) (.pair (.int .i64) (.int .i64))), (141, .pair (.int .i64) (.pair (.int .i64) (.int .i64))), (143, .pair (.int .i64) (.pair (.int .i64) (.pair (.int .i64) (.int .i64)))), (145, .pair (.int .i64) (.pair (.int .i64) (.pair (.int .i64) (.int .i64)))), (147, .slice (.pair (.int .i64) (.pair (.int .i64) (.pair (.int .i64) (.pair (.int .i64) (.int .i64)))))), (157, .pair (.int .i64) (.pair (.int .i64) (.pair (.int .i64) (.pair (.int .i64) (.int .i64))))), (161, .pair (.int .i64) (.pair (.int .i64) (.pair (.int .i64) (.pair (.int .i64) (.int .i64))))), (167, .pair (.int .i64) (.pair (.int .i64) (.pair (.int .i64) (.pair (.int .i64) (.pair (.int .i64) (.int .i64)))))), (184, .pair (.int .i64) (.int .i64)), (190, .slice (.pair (.int .i64) (.bool))), (192, .pair (.int .i64) (.pair (.int .i64) (.pair (.int .i64) (.pair (.slice (.pair (.int .i64) (.bool))) (.slice (.pair (.int .i64) (.pair (.int .i64) (.pair (.int .i64) (.pair (.int .i64) (.int .i64)))))))))), (197, .pair (.int .i64) (.pair (.int .i64) (.pair (.int .i64) (.pair (.int .i64) (.int .i64))))), (203, .arr 5 (.int .i64)), (210, .slice (.pair (.int .i64) (.int .i64))), (217, .slice (.pair (.int .i64) (.bool))), (219, .pair (.int .i64) (.pair (.int .i64) (.pair (.int .i64) (.pair (.slice (.pair (.int .i64) (.bool))) (.slice (.pair (.int .i64) (.pair (.int .i64) (.pair (.int .i64) (.pair (.int .i64) (.int .i64)))))))))), (228, .pair (.int .i64) (.bool)), (247, .slice (.int .u8)), (249, .pair (.int .i64) (.bool)), (261, .int .u32), (262, .int .u8), (263, .int .u8), (266, .int .i32), (267, .int .i32)]
def flds : List (Nat × List (Nat × Ty)) := [(8, [(0, .int .i64), (1, .int .i64), (2, .bool), (3, .int .u8)]), (14, [(0, .str), (1, .int .u64)]), (26, [(0, .slice (.pair (.int .i64) (.pair (.int .i64) (.pair (.int .i64) (.pair (.int .i64) (.int .i64)))))), (1, .slice (.pair (.int .i64) (.pair (.int .i64) (.int .i64)))), (2, .slice (.pair (.int .i64) (.pair (.int .i64) (.pair (.int .i64) (.int .i64))))), (3, .int .i64), (4, .int .i64)]), (30, [(0, .slice (.pair (.slice (.pair (.int .i64) (.pair (.slice (.int .i64)) (.int .i64)))) (.slice (.pair (.int .i64) (.pair (.int .i64) (.pair (.int .i64) (.pair (.slice (.pair (.int .i64) (.bool))) (.slice (.pair (.int .i64) (.pair (.int .i64) (.pair (.int .i64) (.pair (.int .i64) (.int .i64))))))))))))), (1, .slice (.slice (.pair (.int .i64) (.pair (.int .i64) (.pair (.int .i64) (.pair (.int .i64) (.int .i64)))))))]), (34, [(0, .int .i64), (1, .slice (.int .i64)), (2, .int .i64)]), (44, [(0, .slice (.pair (.int .i64) (.pair (.int .i64) (.pair (.int .i64) (.pair (.int .i64) (.int .i64)))))), (1, .slice (.pair (.int .i64) (.pair (.int .i64) (.int .i64)))), (2, .slice (.pair (.int .i64) (.pair (.int .i64) (.pair (.int .i64) (.int .i64))))), (3, .int .i64), (4, .int .i64)]), (49, [(0, .slice (.pair (.slice (.pair (.int .i64) (.pair (.slice (.int .i64)) (.int .i64)))) (.slice (.pair (.int .i64) (.pair (.int .i64) (.pair (.int .i64) (.pair (.slice (.pair (.int .i64) (.bool))) (.slice (.pair (.int .i64) (.pair (.int .i64) (.pair (.int .i64) (.pair (.int .i64) (.int .i64))))))))))))), (1, .slice (.slice (.pair (.int .i64) (.pair (.int .i64) (.pair (.int .i64) (.pair (.int .i64) (.int .i64)))))))]), (52, [(0, .int .i64), (1, .slice (.int .i64)), (2, .int .i64)]), (68, [(0, .int .i64), (1, .slice (.str)), (2, .slice (.int .i64))]), (70, [(0, .int .i64), (1, .int .i64), (2, .int .i64), (3, .int .i64), (4, .int .i64), (5, .int .i64), (6, .int .i64), (7, .int .i64), (8, .int .i64)]), (73, [(0, .int .i64), (1, .slice (.str)), (2, .slice (.int .i64))]), (75, [(0, .int .i64), (1, .int .i64), (2, .int .i64), (3, .int .i64), (4, .int .i64), (5, .int .i64), (6, .int .i64), (7, .int .i64), (8, .int .i64)]), (89, [(0, .slice (.pair (.int .i64) (.pair (.slice (.int .i64)) (.int .i64)))), (1, .slice (.pair (.int .i64) (.pair (.int .i64) (.pair (.int .i64) (.pair (.slice (.pair (.int .i64) (.bool))) (.slice (.pair (.int .i64) (.pair (.int .i64) (.pair (.int .i64) (.pair (.int .i64) (.int .i64)))))))))))]), (115, [(0, .int .i64), (1, .int .i64), (2, .int .i64), (3, .int .i64), (4, .int .i64), (5, .int .i64), (6, .int .i64)]), (129, [(0, .slice (.pair (.int .i64) (.pair (.slice (.int .i64)) (.int .i64)))), (1, .slice (.pair (.int .i64) (.pair (.int .i64) (.pair (.int .i64) (.pair (.slice (.pair (.int .i64) (.bool))) (.slice (.pair (.int .i64) (.pair (.int .i64) (.pair (.int .i64) (.pair (.int .i64) (.int .i64)))))))))))]), (135, [(0, .int .i64), (1, .int .i64), (2, .int .i64), (3, .int .i64), (4, .int .i64)]), (137, [(0, .int .i64), (1, .int .i64), (2, .int .i64), (3, .int .i64), (4, .int .i64)]), (139, [(0, .int .i64), (1, .int .i64), (2, .int .i64)]), (141, [(0, .int .i64), (1, .int .i64), (2, .int .i64)]), (143, [(0, .int .i64), (1, .int .i64), (2, .int .i64), (3, .int .i64)]), (145, [(0, .int .i64), (1, .int .i64), (2, .int .i64), (3, .int .i64)]), (157, [(0, .int .i64), (1, .int .i64), (2, .int .i64), (3, .int .i64), (4, .int .i64)]), (161, [(0, .int .i64), (1, .int .i64), (2, .int .i64), (3, .int .i64), (4, .int .i64)]), (167, [(0, .int .i64), (1, .int .i64), (2, .int .i64), (3, .int .i64), (4, .int .i64), (5, .int .i64)]), (184, [(0, .int .i64), (1, .int .i64)]), (192, [(0, .int .i64), (1, .int .i64), (2, .int .i64), (3, .slice (.pair (.int .i64) (.bool))), (4, .slice (.pair (.int .i64) (.pair (.int .i64) (.pair (.int .i64) (.pair (.int .i64) (.int .i64))))))]), (197, [(0, .int .i64), (1, .int .i64), (2, .int .i64), (3, .int .i64), (4, .int .i64)]), (219, [(0, .int .i64), (1, .int .i64), (2, .int .i64), (3, .slice (.pair (.int .i64) (.bool))), (4, .slice (.pair (.int .i64) (.pair (.int .i64) (.pair (.int .i64) (.pair (.int .i64) (.int .i64))))))]), (228, [(0, .int .i64), (1, .bool)]), (249, [(0, .int .i64), (1, .bool)])]
def eqs : List Nat := [70, 75, 115, 135, 137, 139, 141, 143, 145, 157, 161, 167, 184, 197, 228, 249]
set_option maxRecDepth 100000 in
theorem tys_ok : tysB Tryz.prog tys = true := by kernel_rfl
set_option maxRecDepth 100000 in
theorem flds_ok : allFldsB Tryz.prog flds = true := by kernel_rfl
set_option maxRecDepth 100000 in
theorem eqs_ok : eqsB Tryz.prog tys eqs = true := by kernel_rfl
theorem mixed : Tryz.prog.follows .mixedOrders = true := by kernel_rfl
noncomputable def mkC (n : Nat) (res keep : List Nat) (l : List (Known Tryz.prog)) : Ctx := ⟨n, tys, flds, res, keep, fnOf l, eqs, fun _ => none, [], fun _ => none, false⟩
theorem mkC_ok (n : Nat) (res keep : List Nat) (l : List (Known Tryz.prog)) : CtxOk Tryz.prog (mkC n res keep l) := ctxOk tys_ok flds_ok eqs_ok (fun _ _ h => by cases h) (fun _ _ h => by cases h)
noncomputable def mkCM (n : Nat) (res keep : List Nat) (l : List (Known Tryz.prog)) (lm : List (KnownM Tryz.prog)) (lt : List (KnownT Tryz.prog)) (pins : List Nat) : Ctx := ⟨n, tys, flds, res, keep, fnOf l, eqs, fnOfM lm, pins, fnOfT lt, false⟩
theorem mkCM_ok (n : Nat) (res keep : List Nat) (l : List (Known Tryz.prog)) (lm : List (KnownM Tryz.prog)) (lt : List (KnownT Tryz.prog)) (pins : List Nat) : CtxOk Tryz.prog (mkCM n res keep l lm lt pins) := ctxOk tys_ok flds_ok eqs_ok (fnOfM_ok lm) (fnOfT_ok lt)
end Fw
