/- Walks of functions of the program: what each computes. Conditions: those that each contract names. -/
import Derived.Test.YtpgkddboibiafaaLawsJ
import Derived.Test.YtpgkddboibiafaaProg
namespace Fw
open Go Go.Proofs
def tys : List (Nat × Ty) := [(2, .int .i64), (3, .int .i64), (4, .bool), (5, .int .u8), (6, .int .u8), (8, .pair (.int .i64) (.pair (.int .i64) (.pair (.bool) (.int .u8)))), (9, .str), (10, .str), (11, .str), (12, .int .u64), (14, .pair (.str) (.int .u64)), (21, .int .i32), (22, .slice (.pair (.int .i64) (.pair (.int .i64) (.pair (.int .i64) (.pair (.int .i64) (.int .i64)))))), (23, .slice (.pair (.int .i64) (.pair (.int .i64) (.int .i64)))), (25, .pair (.int .i64) (.pair (.int .i64) (.pair (.int .i64) (.pair (.int .i64) (.int .i64))))), (29, .slice (.pair (.int .i64) (.pair (.int .i64) (.pair (.int .i64) (.pair (.int .i64) (.int .i64)))))), (31, .slice (.pair (.int .i64) (.pair (.int .i64) (.int .i64)))), (33, .pair (.int .i64) (.pair (.int .i64) (.pair (.int .i64) (.pair (.int .i64) (.int .i64))))), (39, .pair (.pair (.int .i64) (.pair (.int .i64) (.pair (.int .i64) (.pair (.int .i64) (.int .i64))))) (.pair (.int .i64) (.pair (.int .i64) (.pair (.int .i64) (.pair (.int .i64) (.int .i64)))))), (42, .pair (.pair (.int .i64) (.pair (.int .i64) (.pair (.int .i64) (.pair (.int .i64) (.int .i64))))) (.pair (.int .i64) (.pair (.int .i64) (.pair (.int .i64) (.pair (.int .i64) (.int .i64)))))), (45, .slice (.pair (.int .i64) (.pair (.int .i64) (.pair (.int .i64) (.pair (.int .i64) (.int .i64)))))), (49, .slice (.pair (.int .i64) (.pair (.int .i64) (.pair (.int .i64) (.pair (.int .i64) (.int .i64)))))), (54, .slice (.pair (.slice (.pair (.int .i64) (.pair (.slice (.int .i64)) (.int .i64)))) (.slice (.pair (.int .i64) (.pair (.int .i64) (.pair (.int .i64) (.pair (.slice (.pair (.int .i64) (.bool))) (.slice (.pair (.int .i64) (.pair (.int .i64) (.pair (.int .i64) (.pair (.int .i64) (.int .i64))))))))))))), (55, .slice (.slice (.pair (.int .i64) (.pair (.int .i64) (.pair (.int .i64) (.pair (.int .i64) (.int .i64))))))), (57, .pair (.slice (.pair (.slice (.pair (.int .i64) (.pair (.slice (.int .i64)) (.int .i64)))) (.slice (.pair (.int .i64) (.pair (.int .i64) (.pair (.int .i64) (.pair (.slice (.pair (.int .i64) (.bool))) (.slice (.pair (.int .i64) (.pair (.int .i64) (.pair (.int .i64) (.pair (.int .i64) (.int .i64))))))))))))) (.slice (.slice (.pair (.int .i64) (.pair (.int .i64) (.pair (.int .i64) (.pair (.int .i64) (.int .i64)))))))), (60, .slice (.pair (.slice (.pair (.int .i64) (.pair (.slice (.int .i64)) (.int .i64)))) (.slice (.pair (.int .i64) (.pair (.int .i64) (.pair (.int .i64) (.pair (.slice (.pair (.int .i64) (.bool))) (.slice (.pair (.int .i64) (.pair (.int .i64) (.pair (.int .i64) (.pair (.int .i64) (.int .i64))))))))))))), (61, .slice (.slice (.pair (.int .i64) (.pair (.int .i64) (.pair (.int .i64) (.pair (.int .i64) (.int .i64))))))), (63, .pair (.slice (.pair (.slice (.pair (.int .i64) (.pair (.slice (.int .i64)) (.int .i64)))) (.slice (.pair (.int .i64) (.pair (.int .i64) (.pair (.int .i64) (.pair (.slice (.pair (.int .i64) (.bool))) (.slice (.pair (.int .i64) (.pair (.int .i64) (.pair (.int .i64) (.pair (.int .i64) (.int .i64))))))))))))) (.slice (.slice (.pair (.int .i64) (.pair (.int .i64) (.pair (.int .i64) (.pair (.int .i64) (.int .i64)))))))), (67, .slice (.pair (.int .i64) (.pair (.int .i64) (.pair (.int .i64) (.int .i64))))), (69, .pair (.slice (.pair (.int .i64) (.pair (.int .i64) (.pair (.int .i64) (.pair (.int .i64) (.int .i64)))))) (.pair (.slice (.pair (.int .i64) (.pair (.int .i64) (.int .i64)))) (.pair (.slice (.pair (.int .i64) (.pair (.int .i64) (.pair (.int .i64) (.int .i64))))) (.pair (.int .i64) (.int .i64))))), (70, .slice (.pair (.int .i64) (.pair (.slice (.int .i64)) (.int .i64)))), (72, .pair (.int .i64) (.pair (.int .i64) (.pair (.int .i64) (.pair (.int .i64) (.pair (.int .i64) (.pair (.int .i64) (.pair (.int .i64) (.pair (.int .i64) (.int .i64))))))))), (76, .pair (.int .i64) (.pair (.int .i64) (.pair (.int .i64) (.pair (.int .i64) (.pair (.int .i64) (.pair (.int .i64) (.int .i64))))))), (79, .slice (.pair (.int .i64) (.pair (.int .i64) (.pair (.int .i64) (.int .i64))))), (81, .pair (.slice (.pair (.int .i64) (.pair (.int .i64) (.pair (.int .i64) (.pair (.int .i64) (.int .i64)))))) (.pair (.slice (.pair (.int .i64) (.pair (.int .i64) (.int .i64)))) (.pair (.slice (.pair (.int .i64) (.pair (.int .i64) (.pair (.int .i64) (.int .i64))))) (.pair (.int .i64) (.int .i64))))), (83, .slice (.pair (.int .i64) (.pair (.slice (.int .i64)) (.int .i64)))), (85, .pair (.int .i64) (.pair (.int .i64) (.pair (.int .i64) (.pair (.int .i64) (.pair (.int .i64) (.pair (.int .i64) (.pair (.int .i64) (.pair (.int .i64) (.int .i64))))))))), (91, .slice (.pair (.int .i64) (.pair (.int .i64) (.pair (.pair (.int .i64) (.pair (.slice (.str)) (.slice (.int .i64)))) (.pair (.pair (.int .i64) (.pair (.int .i64) (.pair (.int .i64) (.pair (.int .i64) (.pair (.int .i64) (.pair (.int .i64) (.pair (.int .i64) (.pair (.int .i64) (.int .i64))))))))) (.pair (.slice (.pair (.int .i64) (.pair (.slice (.int .i64)) (.int .i64)))) (.slice (.pair (.int .i64) (.pair (.int .i64) (.pair (.int .i64) (.pair (.slice (.pair (.int .i64) (.bool))) (.slice (.pair (.int .i64) (.pair (.int .i64) (.pair (.int .i64) (.pair (.int .i64) (.int .i64))))))))))))))))), (93, .pair (.int .i64) (.slice (.pair (.int .i64) (.pair (.int .i64) (.pair (.pair (.int .i64) (.pair (.slice (.str)) (.slice (.int .i64)))) (.pair (.pair (.int .i64) (.pair (.int .i64) (.pair (.int .i64) (.pair (.int .i64) (.pair (.int .i64) (.pair (.int .i64) (.pair (.int .i64) (.pair (.int .i64) (.int .i64))))))))) (.pair (.slice (.pair (.int .i64) (.pair (.slice (.int .i64)) (.int .i64)))) (.slice (.pair (.int .i64) (.pair (.int .i64) (.pair (.int .i64) (.pair (.slice (.pair (.int .i64) (.bool))) (.slice (.pair (.int .i64) (.pair (.int .i64) (.pair (.int .i64) (.pair (.int .i64) (.int .i64)))))))))))))))))), (96, .slice (.pair (.int .i64) (.pair (.int .i64) (.pair (.pair (.int .i64) (.pair (.slice (.str)) (.slice (.int .i64)))) (.pair (.pair (.int .i64) (.pair (.int .i64) (.pair (.int .i64) (.pair (.int .i64) (.pair (.int .i64) (.pair (.int .i64) (.pair (.int .i64) (.pair (.int .i64) (.int .i64))))))))) (.pair (.slice (.pair (.int .i64) (.pair (.slice (.int .i64)) (.int .i64)))) (.slice (.pair (.int .i64) (.pair (.int .i64) (.pair (.int .i64) (.pair (.slice (.pair (.int .i64) (.bool))) (.slice (.pair (.int .i64) (.pair (.int .i64) (.pair (.int .i64) (.pair (.int .i64) (.int .i64))))))))))))))))), (98, .pair (.int .i64) (.slice (.pair (.int .i64) (.pair (.int .i64) (.pair (.pair (.int .i64) (.pair (.slice (.str)) (.slice (.int .i64)))) (.pair (.pair (.int .i64) (.pair (.int .i64) (.pair (.int .i64) (.pair (.int .i64) (.pair (.int .i64) (.pair (.int .i64) (.pair (.int .i64) (.pair (.int .i64) (.int .i64))))))))) (.pair (.slice (.pair (.int .i64) (.pair (.slice (.int .i64)) (.int .i64)))) (.slice (.pair (.int .i64) (.pair (.int .i64) (.pair (.int .i64) (.pair (.slice (.pair (.int .i64) (.bool))) (.slice (.pair (.int .i64) (.pair (.int .i64) (.pair (.int .i64) (.pair (.int .i64) (.int .i64)))))))))))))))))), (102, .slice (.str)), (103, .slice (.int .i64)), (105, .pair (.int .i64) (.pair (.slice (.str)) (.slice (.int .i64)))), (106, .slice (.pair (.int .i64) (.pair (.int .i64) (.pair (.int .i64) (.pair (.slice (.pair (.int .i64) (.bool))) (.slice (.pair (.int .i64) (.pair (.int .i64) (.pair (.int .i64) (.pair (.int .i64) (.int .i64))))))))))), (108, .pair (.slice (.pair (.int .i64) (.pair (.slice (.int .i64)) (.int .i64)))) (.slice (.pair (.int .i64) (.pair (.int .i64) (.pair (.int .i64) (.pair (.slice (.pair (.int .i64) (.bool))) (.slice (.pair (.int .i64) (.pair (.int .i64) (.pair (.int .i64) (.pair (.int .i64) (.int .i64)))))))))))), (110, .pair (.int .i64) (.pair (.int .i64) (.pair (.pair (.int .i64) (.pair (.slice (.str)) (.slice (.int .i64)))) (.pair (.pair (.int .i64) (.pair (.int .i64) (.pair (.int .i64) (.pair (.int .i64) (.pair (.int .i64) (.pair (.int .i64) (.pair (.int .i64) (.pair (.int .i64) (.int .i64))))))))) (.pair (.slice (.pair (.int .i64) (.pair (.slice (.int .i64)) (.int .i64)))) (.slice (.pair (.int .i64) (.pair (.int .i64) (.pair (.int .i64) (.pair (.slice (.pair (.int .i64) (.bool))) (.slice (.pair (.int .i64) (.pair (.int .i64) (.pair (.int .i64) (.pair (.int .i64) (.int .i64)))))))))))))))), (113, .pair (.int .i64) (.pair (.slice (.str)) (.slice (.int .i64)))), (114, .slice (.pair (.int .i64) (.pair (.int .i64) (.pair (.int .i64) (.pair (.slice (.pair (.int .i64) (.bool))) (.slice (.pair (.int .i64) (.pair (.int .i64) (.pair (.int .i64) (.pair (.int .i64) (.int .i64))))))))))), (116, .pair (.slice (.pair (.int .i64) (.pair (.slice (.int .i64)) (.int .i64)))) (.slice (.pair (.int .i64) (.pair (.int .i64) (.pair (.int .i64) (.pair (.slice (.pair (.int .i64) (.bool))) (.slice (.pair (.int .i64) (.pair (.int .i64) (.pair (.int .i64) (.pair (.int .i64) (.int .i64)))))))))))), (118, .pair (.int .i64) (.pair (.int .i64) (.pair (.pair (.int .i64) (.pair (.slice (.str)) (.slice (.int .i64)))) (.pair (.pair (.int .i64) (.pair (.int .i64) (.pair (.int .i64) (.pair (.int .i64) (.pair (.int .i64) (.pair (.int .i64) (.pair (.int .i64) (.pair (.int .i64) (.int .i64))))))))) (.pair (.slice (.pair (.int .i64) (.pair (.slice (.int .i64)) (.int .i64)))) (.slice (.pair (.int .i64) (.pair (.int .i64) (.pair (.int .i64) (.pair (.slice (.pair (.int .i64) (.bool))) (.slice (.pair (.int .i64) (.pair (.int .i64) (.pair (.int .i64) (.pair (.int .i64) (.int .i64)))))))))))))))), (130, .pair (.int .i64) (.pair (.int .i64) (.pair (.int .i64) (.pair (.int .i64) (.int .i64))))), (132, .pair (.int .i64) (.pair (.int .i64) (.pair (.int .i64) (.pair (.int .i64) (.int .i64))))), (134, .pair (.int .i64) (.pair (.int .i64) (.int .i64))), (136, .pair (.int .i64) (.pair (.int .i64) (.int .i64))), (149, .pair (.int .i64) (.pair (.slice (.int .i64)) (.int .i64))), (151, .pair (.int .i64) (.pair (.slice (.int .i64)) (.int .i64))), (175, .slice (.pair (.int .i64) (.bool))), (177, .pair (.int .i64) (.pair (.int .i64) (.pair (.int .i64) (.pair (.slice (.pair (.int .i64) (.bool))) (.slice (.pair (.int .i64) (.pair (.int .i64) (.pair (.int .i64) (.pair (.int .i64) (.int .i64)))))))))), (189, .pair (.int .i64) (.pair (.int .i64) (.pair (.int .i64) (.int .i64)))), (191, .pair (.int .i64) (.pair (.int .i64) (.pair (.int .i64) (.int .i64)))), (206, .pair (.int .i64) (.bool)), (216, .pair (.int .i64) (.int .i64)), (218, .arr 5 (.int .i64)), (220, .slice (.pair (.int .i64) (.bool))), (222, .pair (.int .i64) (.pair (.int .i64) (.pair (.int .i64) (.pair (.slice (.pair (.int .i64) (.bool))) (.slice (.pair (.int .i64) (.pair (.int .i64) (.pair (.int .i64) (.pair (.int .i64) (.int .i64)))))))))), (225, .slice (.int .u8)), (230, .pair (.int .i64) (.bool)), (239, .int .u32), (240, .int .u8), (241, .int .u8), (244, .int .i32), (245, .int .i32)]
def flds : List (Nat × List (Nat × Ty)) := [(8, [(0, .int .i64), (1, .int .i64), (2, .bool), (3, .int .u8)]), (14, [(0, .str), (1, .int .u64)]), (25, [(0, .int .i64), (1, .int .i64), (2, .int .i64), (3, .int .i64), (4, .int .i64)]), (33, [(0, .int .i64), (1, .int .i64), (2, .int .i64), (3, .int .i64), (4, .int .i64)]), (39, [(0, .pair (.int .i64) (.pair (.int .i64) (.pair (.int .i64) (.pair (.int .i64) (.int .i64))))), (5, .pair (.int .i64) (.pair (.int .i64) (.pair (.int .i64) (.pair (.int .i64) (.int .i64)))))]), (42, [(0, .pair (.int .i64) (.pair (.int .i64) (.pair (.int .i64) (.pair (.int .i64) (.int .i64))))), (5, .pair (.int .i64) (.pair (.int .i64) (.pair (.int .i64) (.pair (.int .i64) (.int .i64)))))]), (57, [(0, .slice (.pair (.slice (.pair (.int .i64) (.pair (.slice (.int .i64)) (.int .i64)))) (.slice (.pair (.int .i64) (.pair (.int .i64) (.pair (.int .i64) (.pair (.slice (.pair (.int .i64) (.bool))) (.slice (.pair (.int .i64) (.pair (.int .i64) (.pair (.int .i64) (.pair (.int .i64) (.int .i64))))))))))))), (1, .slice (.slice (.pair (.int .i64) (.pair (.int .i64) (.pair (.int .i64) (.pair (.int .i64) (.int .i64)))))))]), (63, [(0, .slice (.pair (.slice (.pair (.int .i64) (.pair (.slice (.int .i64)) (.int .i64)))) (.slice (.pair (.int .i64) (.pair (.int .i64) (.pair (.int .i64) (.pair (.slice (.pair (.int .i64) (.bool))) (.slice (.pair (.int .i64) (.pair (.int .i64) (.pair (.int .i64) (.pair (.int .i64) (.int .i64))))))))))))), (1, .slice (.slice (.pair (.int .i64) (.pair (.int .i64) (.pair (.int .i64) (.pair (.int .i64) (.int .i64)))))))]), (69, [(0, .slice (.pair (.int .i64) (.pair (.int .i64) (.pair (.int .i64) (.pair (.int .i64) (.int .i64)))))), (1, .slice (.pair (.int .i64) (.pair (.int .i64) (.int .i64)))), (2, .slice (.pair (.int .i64) (.pair (.int .i64) (.pair (.int .i64) (.int .i64))))), (3, .int .i64), (4, .int .i64)]), (72, [(0, .int .i64), (1, .int .i64), (2, .int .i64), (3, .int .i64), (4, .int .i64), (5, .int .i64), (6, .int .i64), (7, .int .i64), (8, .int .i64)]), (76, [(0, .int .i64), (1, .int .i64), (2, .int .i64), (3, .int .i64), (4, .int .i64), (5, .int .i64), (6, .int .i64)]), (81, [(0, .slice (.pair (.int .i64) (.pair (.int .i64) (.pair (.int .i64) (.pair (.int .i64) (.int .i64)))))), (1, .slice (.pair (.int .i64) (.pair (.int .i64) (.int .i64)))), (2, .slice (.pair (.int .i64) (.pair (.int .i64) (.pair (.int .i64) (.int .i64))))), (3, .int .i64), (4, .int .i64)]), (85, [(0, .int .i64), (1, .int .i64), (2, .int .i64), (3, .int .i64), (4, .int .i64), (5, .int .i64), (6, .int .i64), (7, .int .i64), (8, .int .i64)]), (93, [(0, .int .i64), (1, .slice (.pair (.int .i64) (.pair (.int .i64) (.pair (.pair (.int .i64) (.pair (.slice (.str)) (.slice (.int .i64)))) (.pair (.pair (.int .i64) (.pair (.int .i64) (.pair (.int .i64) (.pair (.int .i64) (.pair (.int .i64) (.pair (.int .i64) (.pair (.int .i64) (.pair (.int .i64) (.int .i64))))))))) (.pair (.slice (.pair (.int .i64) (.pair (.slice (.int .i64)) (.int .i64)))) (.slice (.pair (.int .i64) (.pair (.int .i64) (.pair (.int .i64) (.pair (.slice (.pair (.int .i64) (.bool))) (.slice (.pair (.int .i64) (.pair (.int .i64) (.pair (.int .i64) (.pair (.int .i64) (.int .i64)))))))))))))))))]), (98, [(0, .int .i64), (1, .slice (.pair (.int .i64) (.pair (.int .i64) (.pair (.pair (.int .i64) (.pair (.slice (.str)) (.slice (.int .i64)))) (.pair (.pair (.int .i64) (.pair (.int .i64) (.pair (.int .i64) (.pair (.int .i64) (.pair (.int .i64) (.pair (.int .i64) (.pair (.int .i64) (.pair (.int .i64) (.int .i64))))))))) (.pair (.slice (.pair (.int .i64) (.pair (.slice (.int .i64)) (.int .i64)))) (.slice (.pair (.int .i64) (.pair (.int .i64) (.pair (.int .i64) (.pair (.slice (.pair (.int .i64) (.bool))) (.slice (.pair (.int .i64) (.pair (.int .i64) (.pair (.int .i64) (.pair (.int .i64) (.int .i64)))))))))))))))))]), (105, [(0, .int .i64), (1, .slice (.str)), (2, .slice (.int .i64))]), (108, [(0, .slice (.pair (.int .i64) (.pair (.slice (.int .i64)) (.int .i64)))), (1, .slice (.pair (.int .i64) (.pair (.int .i64) (.pair (.int .i64) (.pair (.slice (.pair (.int .i64) (.bool))) (.slice (.pair (.int .i64) (.pair (.int .i64) (.pair (.int .i64) (.pair (.int .i64) (.int .i64)))))))))))]), (110, [(0, .int .i64), (1, .int .i64), (2, .pair (.int .i64) (.pair (.slice (.str)) (.slice (.int .i64)))), (5, .pair (.int .i64) (.pair (.int .i64) (.pair (.int .i64) (.pair (.int .i64) (.pair (.int .i64) (.pair (.int .i64) (.pair (.int .i64) (.pair (.int .i64) (.int .i64))))))))), (14, .pair (.slice (.pair (.int .i64) (.pair (.slice (.int .i64)) (.int .i64)))) (.slice (.pair (.int .i64) (.pair (.int .i64) (.pair (.int .i64) (.pair (.slice (.pair (.int .i64) (.bool))) (.slice (.pair (.int .i64) (.pair (.int .i64) (.pair (.int .i64) (.pair (.int .i64) (.int .i64))))))))))))]), (113, [(0, .int .i64), (1, .slice (.str)), (2, .slice (.int .i64))]), (116, [(0, .slice (.pair (.int .i64) (.pair (.slice (.int .i64)) (.int .i64)))), (1, .slice (.pair (.int .i64) (.pair (.int .i64) (.pair (.int .i64) (.pair (.slice (.pair (.int .i64) (.bool))) (.slice (.pair (.int .i64) (.pair (.int .i64) (.pair (.int .i64) (.pair (.int .i64) (.int .i64)))))))))))]), (118, [(0, .int .i64), (1, .int .i64), (2, .pair (.int .i64) (.pair (.slice (.str)) (.slice (.int .i64)))), (5, .pair (.int .i64) (.pair (.int .i64) (.pair (.int .i64) (.pair (.int .i64) (.pair (.int .i64) (.pair (.int .i64) (.pair (.int .i64) (.pair (.int .i64) (.int .i64))))))))), (14, .pair (.slice (.pair (.int .i64) (.pair (.slice (.int .i64)) (.int .i64)))) (.slice (.pair (.int .i64) (.pair (.int .i64) (.pair (.int .i64) (.pair (.slice (.pair (.int .i64) (.bool))) (.slice (.pair (.int .i64) (.pair (.int .i64) (.pair (.int .i64) (.pair (.int .i64) (.int .i64))))))))))))]), (130, [(0, .int .i64), (1, .int .i64), (2, .int .i64), (3, .int .i64), (4, .int .i64)]), (132, [(0, .int .i64), (1, .int .i64), (2, .int .i64), (3, .int .i64), (4, .int .i64)]), (134, [(0, .int .i64), (1, .int .i64), (2, .int .i64)]), (136, [(0, .int .i64), (1, .int .i64), (2, .int .i64)]), (149, [(0, .int .i64), (1, .slice (.int .i64)), (2, .int .i64)]), (151, [(0, .int .i64), (1, .slice (.int .i64)), (2, .int .i64)]), (177, [(0, .int .i64), (1, .int .i64), (2, .int .i64), (3, .slice (.pair (.int .i64) (.bool))), (4, .slice (.pair (.int .i64) (.pair (.int .i64) (.pair (.int .i64) (.pair (.int .i64) (.int .i64))))))]), (189, [(0, .int .i64), (1, .int .i64), (2, .int .i64), (3, .int .i64)]), (191, [(0, .int .i64), (1, .int .i64), (2, .int .i64), (3, .int .i64)]), (206, [(0, .int .i64), (1, .bool)]), (216, [(0, .int .i64), (1, .int .i64)]), (222, [(0, .int .i64), (1, .int .i64), (2, .int .i64), (3, .slice (.pair (.int .i64) (.bool))), (4, .slice (.pair (.int .i64) (.pair (.int .i64) (.pair (.int .i64) (.pair (.int .i64) (.int .i64))))))]), (230, [(0, .int .i64), (1, .bool)])]
def eqs : List Nat := [25, 33, 39, 42, 72, 76, 85, 130, 132, 134, 136, 189, 191, 206, 216, 230]
set_option maxRecDepth 100000 in
theorem tys_ok : tysB Try.prog tys = true := by kernel_rfl
set_option maxRecDepth 100000 in
theorem flds_ok : allFldsB Try.prog flds = true := by kernel_rfl
set_option maxRecDepth 100000 in
theorem eqs_ok : eqsB Try.prog tys eqs = true := by kernel_rfl
theorem mixed : Try.prog.follows .mixedOrders = true := by kernel_rfl
noncomputable def mkC (n : Nat) (res keep : List Nat) (l : List (Known Try.prog)) : Ctx := ⟨n, tys, flds, res, keep, fnOf l, eqs⟩
theorem mkC_ok (n : Nat) (res keep : List Nat) (l : List (Known Try.prog)) : CtxOk Try.prog (mkC n res keep l) := ctxOk tys_ok flds_ok eqs_ok
noncomputable def F15 : Fun := ⟨[.slice (.pair (.int .i64) (.pair (.int .i64) (.pair (.int .i64) (.pair (.int .i64) (.int .i64))))), .int .i64], [.pure (.int .i64)], fun x => szPre x.1 x.2.1, fun x => (szF (.slice (.pair (.int .i64) (.pair (.int .i64) (.pair (.int .i64) (.pair (.int .i64) (.int .i64)))))) x.1 x.2.1, ())⟩
set_option maxRecDepth 100000 in
/-- loop.example.g00597.laws.szKeyS -/
theorem F15_ok : Meets Try.prog 15 F15 := by
  refine meets_of_vc (C := mkC 12 [4] [0,1,4,10] []) (mkC_ok _ _ _ _) (fnOf_ok _) Try.func15 rfl rfl rfl (by decide) rfl ?_
  rintro ⟨a0, (a1 : Int), _⟩ hwf hpre ⟨P, C, B, X, w0, M0⟩ hG rfl rfl
  show Vc _ _ [(0, ⟨0, 0, .c (.pure (.slice (.pair (.int .i64) (.pair (.int .i64) (.pair (.int .i64) (.pair (.int .i64) (.int .i64))))))) a0⟩), (1, ⟨0, 0, .c (.pure (.int .i64)) a1⟩)] _
  have q0 : (0 : Int) ≤ a1 ∧ a1 ≤ (big20 : Int) := hpre
  have hb : List.length a0 ≤ bigLen := hwf.1.1
  have hw : IntKind.i64.wrap (a1 - (List.length a0 : Int)) = a1 - (List.length a0 : Int) := subW hpre hb
  refine Vc.seq ?_
  refine Vc.region hG rfl ?_ ?_
  · trivial
  refine Vc.seq ?_
  refine Vc.region hG rfl ?_ ?_
  · trivial
  refine Vc.seq ?_
  refine Vc.seq ?_
  refine Vc.region hG rfl ?_ ?_
  · trivial
  refine Vc.cond rfl (fun h0 => ?_) (fun h0 => ?_)
  · skip
    have g0 : a1 - (List.length a0 : Int) < 0 := by rw [← hw]; exact of_decide_eq_true h0
    refine Vc.seq ?_
    refine Vc.region hG rfl ?_ ?_
    · trivial
    refine Vc.ret ?_
    refine ⟨?_, trivial⟩
    show (-1 : Int) = if a1 - (List.length a0 : Int) < 0 then -1 else szL (szF (.pair (.int .i64) (.pair (.int .i64) (.pair (.int .i64) (.pair (.int .i64) (.int .i64)))))) a0 (a1 - (List.length a0 : Int))
    rw [if_pos g0]
  · skip
    have g0 : ¬ a1 - (List.length a0 : Int) < 0 := by rw [← hw]; exact of_decide_eq_false h0
    refine Vc.skip ?_
    refine Vc.seq ?_
    refine Vc.region hG rfl ?_ ?_
    · trivial
    refine Vc.ret ?_
    refine ⟨?_, trivial⟩
    show IntKind.i64.wrap (a1 - (List.length a0 : Int)) = if a1 - (List.length a0 : Int) < 0 then -1 else szL (szF (.pair (.int .i64) (.pair (.int .i64) (.pair (.int .i64) (.pair (.int .i64) (.int .i64)))))) a0 (a1 - (List.length a0 : Int))
    rw [if_neg g0, hw, szL_id (fun x l hl => szF_id (.pair (.int .i64) (.pair (.int .i64) (.pair (.int .i64) (.pair (.int .i64) (.int .i64))))) rfl x l hl) a0 _ (show (0 : Int) ≤ a1 - (List.length a0 : Int) from by omega)]
noncomputable def F16 : Fun := ⟨[.slice (.pair (.int .i64) (.pair (.int .i64) (.int .i64))), .int .i64], [.pure (.int .i64)], fun x => szPre x.1 x.2.1, fun x => (szF (.slice (.pair (.int .i64) (.pair (.int .i64) (.int .i64)))) x.1 x.2.1, ())⟩
set_option maxRecDepth 100000 in
/-- loop.example.g00597.laws.szAuthorityS -/
theorem F16_ok : Meets Try.prog 16 F16 := by
  refine meets_of_vc (C := mkC 12 [4] [0,1,4,10] []) (mkC_ok _ _ _ _) (fnOf_ok _) Try.func16 rfl rfl rfl (by decide) rfl ?_
  rintro ⟨a0, (a1 : Int), _⟩ hwf hpre ⟨P, C, B, X, w0, M0⟩ hG rfl rfl
  show Vc _ _ [(0, ⟨0, 0, .c (.pure (.slice (.pair (.int .i64) (.pair (.int .i64) (.int .i64))))) a0⟩), (1, ⟨0, 0, .c (.pure (.int .i64)) a1⟩)] _
  have q0 : (0 : Int) ≤ a1 ∧ a1 ≤ (big20 : Int) := hpre
  have hb : List.length a0 ≤ bigLen := hwf.1.1
  have hw : IntKind.i64.wrap (a1 - (List.length a0 : Int)) = a1 - (List.length a0 : Int) := subW hpre hb
  refine Vc.seq ?_
  refine Vc.region hG rfl ?_ ?_
  · trivial
  refine Vc.seq ?_
  refine Vc.region hG rfl ?_ ?_
  · trivial
  refine Vc.seq ?_
  refine Vc.seq ?_
  refine Vc.region hG rfl ?_ ?_
  · trivial
  refine Vc.cond rfl (fun h0 => ?_) (fun h0 => ?_)
  · skip
    have g0 : a1 - (List.length a0 : Int) < 0 := by rw [← hw]; exact of_decide_eq_true h0
    refine Vc.seq ?_
    refine Vc.region hG rfl ?_ ?_
    · trivial
    refine Vc.ret ?_
    refine ⟨?_, trivial⟩
    show (-1 : Int) = if a1 - (List.length a0 : Int) < 0 then -1 else szL (szF (.pair (.int .i64) (.pair (.int .i64) (.int .i64)))) a0 (a1 - (List.length a0 : Int))
    rw [if_pos g0]
  · skip
    have g0 : ¬ a1 - (List.length a0 : Int) < 0 := by rw [← hw]; exact of_decide_eq_false h0
    refine Vc.skip ?_
    refine Vc.seq ?_
    refine Vc.region hG rfl ?_ ?_
    · trivial
    refine Vc.ret ?_
    refine ⟨?_, trivial⟩
    show IntKind.i64.wrap (a1 - (List.length a0 : Int)) = if a1 - (List.length a0 : Int) < 0 then -1 else szL (szF (.pair (.int .i64) (.pair (.int .i64) (.int .i64)))) a0 (a1 - (List.length a0 : Int))
    rw [if_neg g0, hw, szL_id (fun x l hl => szF_id (.pair (.int .i64) (.pair (.int .i64) (.int .i64))) rfl x l hl) a0 _ (show (0 : Int) ≤ a1 - (List.length a0 : Int) from by omega)]
noncomputable def F81 : Fun := ⟨[.slice (.pair (.int .i64) (.pair (.int .i64) (.pair (.int .i64) (.int .i64)))), .int .i64], [.pure (.int .i64)], fun x => szPre x.1 x.2.1, fun x => (szF (.slice (.pair (.int .i64) (.pair (.int .i64) (.pair (.int .i64) (.int .i64))))) x.1 x.2.1, ())⟩
set_option maxRecDepth 100000 in
/-- loop.example.g00597.laws.szMethodS -/
theorem F81_ok : Meets Try.prog 81 F81 := by
  refine meets_of_vc (C := mkC 12 [4] [0,1,4,10] []) (mkC_ok _ _ _ _) (fnOf_ok _) Try.func81 rfl rfl rfl (by decide) rfl ?_
  rintro ⟨a0, (a1 : Int), _⟩ hwf hpre ⟨P, C, B, X, w0, M0⟩ hG rfl rfl
  show Vc _ _ [(0, ⟨0, 0, .c (.pure (.slice (.pair (.int .i64) (.pair (.int .i64) (.pair (.int .i64) (.int .i64)))))) a0⟩), (1, ⟨0, 0, .c (.pure (.int .i64)) a1⟩)] _
  have q0 : (0 : Int) ≤ a1 ∧ a1 ≤ (big20 : Int) := hpre
  have hb : List.length a0 ≤ bigLen := hwf.1.1
  have hw : IntKind.i64.wrap (a1 - (List.length a0 : Int)) = a1 - (List.length a0 : Int) := subW hpre hb
  refine Vc.seq ?_
  refine Vc.region hG rfl ?_ ?_
  · trivial
  refine Vc.seq ?_
  refine Vc.region hG rfl ?_ ?_
  · trivial
  refine Vc.seq ?_
  refine Vc.seq ?_
  refine Vc.region hG rfl ?_ ?_
  · trivial
  refine Vc.cond rfl (fun h0 => ?_) (fun h0 => ?_)
  · skip
    have g0 : a1 - (List.length a0 : Int) < 0 := by rw [← hw]; exact of_decide_eq_true h0
    refine Vc.seq ?_
    refine Vc.region hG rfl ?_ ?_
    · trivial
    refine Vc.ret ?_
    refine ⟨?_, trivial⟩
    show (-1 : Int) = if a1 - (List.length a0 : Int) < 0 then -1 else szL (szF (.pair (.int .i64) (.pair (.int .i64) (.pair (.int .i64) (.int .i64))))) a0 (a1 - (List.length a0 : Int))
    rw [if_pos g0]
  · skip
    have g0 : ¬ a1 - (List.length a0 : Int) < 0 := by rw [← hw]; exact of_decide_eq_false h0
    refine Vc.skip ?_
    refine Vc.seq ?_
    refine Vc.region hG rfl ?_ ?_
    · trivial
    refine Vc.ret ?_
    refine ⟨?_, trivial⟩
    show IntKind.i64.wrap (a1 - (List.length a0 : Int)) = if a1 - (List.length a0 : Int) < 0 then -1 else szL (szF (.pair (.int .i64) (.pair (.int .i64) (.pair (.int .i64) (.int .i64))))) a0 (a1 - (List.length a0 : Int))
    rw [if_neg g0, hw, szL_id (fun x l hl => szF_id (.pair (.int .i64) (.pair (.int .i64) (.pair (.int .i64) (.int .i64)))) rfl x l hl) a0 _ (show (0 : Int) ≤ a1 - (List.length a0 : Int) from by omega)]
noncomputable def F38 : Fun := ⟨[.pair (.slice (.pair (.int .i64) (.pair (.int .i64) (.pair (.int .i64) (.pair (.int .i64) (.int .i64)))))) (.pair (.slice (.pair (.int .i64) (.pair (.int .i64) (.int .i64)))) (.pair (.slice (.pair (.int .i64) (.pair (.int .i64) (.pair (.int .i64) (.int .i64))))) (.pair (.int .i64) (.int .i64)))), .int .i64], [.pure (.int .i64)], fun x => szPre x.1 x.2.1, fun x => (szF (.pair (.slice (.pair (.int .i64) (.pair (.int .i64) (.pair (.int .i64) (.pair (.int .i64) (.int .i64)))))) (.pair (.slice (.pair (.int .i64) (.pair (.int .i64) (.int .i64)))) (.pair (.slice (.pair (.int .i64) (.pair (.int .i64) (.pair (.int .i64) (.int .i64))))) (.pair (.int .i64) (.int .i64))))) x.1 x.2.1, ())⟩
set_option maxRecDepth 100000 in
/-- loop.example.g00597.laws.szFrame -/
theorem F38_ok : Meets Try.prog 38 F38 := by
  refine meets_of_vc (C := mkC 24 [4] [0,1,2,4,10,16,22] [⟨15, _, F15_ok⟩, ⟨16, _, F16_ok⟩, ⟨81, _, F81_ok⟩]) (mkC_ok _ _ _ _) (fnOf_ok _) Try.func38 rfl rfl rfl (by decide) rfl ?_
  rintro ⟨a0, (a1 : Int), _⟩ hwf hpre ⟨P, C, B, X, w0, M0⟩ hG rfl rfl
  show Vc _ _ [(0, ⟨0, 0, .c (.pure (.pair (.slice (.pair (.int .i64) (.pair (.int .i64) (.pair (.int .i64) (.pair (.int .i64) (.int .i64)))))) (.pair (.slice (.pair (.int .i64) (.pair (.int .i64) (.int .i64)))) (.pair (.slice (.pair (.int .i64) (.pair (.int .i64) (.pair (.int .i64) (.int .i64))))) (.pair (.int .i64) (.int .i64)))))) a0⟩), (1, ⟨0, 0, .c (.pure (.int .i64)) a1⟩)] _
  have q0 : (0 : Int) ≤ a1 ∧ a1 ≤ (big20 : Int) := hpre
  refine Vc.seq ?_
  refine Vc.region hG rfl ?_ ?_
  · trivial
  refine Vc.seq ?_
  refine Vc.region hG rfl ?_ ?_
  · exact (show (0 : Int) ≤ a1 ∧ a1 ≤ (big20 : Int) from ⟨by omega, by omega⟩)
  refine Vc.seq ?_
  refine Vc.seq ?_
  refine Vc.region hG rfl ?_ ?_
  · trivial
  refine Vc.cond rfl (fun h0 => ?_) (fun h0 => ?_)
  · skip
    have m0 := szF_m1 (.slice (.pair (.int .i64) (.pair (.int .i64) (.pair (.int .i64) (.pair (.int .i64) (.int .i64)))))) rfl a0.1 (a1) (show (0 : Int) ≤ a1 from by omega)
    have g0 : szF (.slice (.pair (.int .i64) (.pair (.int .i64) (.pair (.int .i64) (.pair (.int .i64) (.int .i64)))))) a0.1 (a1) < 0 := of_decide_eq_true h0
    refine Vc.seq ?_
    refine Vc.region hG rfl ?_ ?_
    · trivial
    refine Vc.ret ?_
    refine ⟨?_, trivial⟩
    show (-1 : Int) = szF (.pair (.slice (.pair (.int .i64) (.pair (.int .i64) (.pair (.int .i64) (.pair (.int .i64) (.int .i64)))))) (.pair (.slice (.pair (.int .i64) (.pair (.int .i64) (.int .i64)))) (.pair (.slice (.pair (.int .i64) (.pair (.int .i64) (.pair (.int .i64) (.int .i64))))) (.pair (.int .i64) (.int .i64))))) a0 a1
    refine Eq.trans ?_ (szSpine _ _ (show szF (.pair (.slice (.pair (.int .i64) (.pair (.int .i64) (.pair (.int .i64) (.pair (.int .i64) (.int .i64)))))) (.pair (.slice (.pair (.int .i64) (.pair (.int .i64) (.int .i64)))) (.pair (.slice (.pair (.int .i64) (.pair (.int .i64) (.pair (.int .i64) (.int .i64))))) (.pair (.int .i64) (.int .i64))))) a0 a1 = (if szF (.slice (.pair (.int .i64) (.pair (.int .i64) (.pair (.int .i64) (.pair (.int .i64) (.int .i64)))))) a0.1 (a1) < 0 then -1 else (if szF (.slice (.pair (.int .i64) (.pair (.int .i64) (.int .i64)))) a0.2.1 (szF (.slice (.pair (.int .i64) (.pair (.int .i64) (.pair (.int .i64) (.pair (.int .i64) (.int .i64)))))) a0.1 (a1)) < 0 then -1 else (if szF (.slice (.pair (.int .i64) (.pair (.int .i64) (.pair (.int .i64) (.int .i64))))) a0.2.2.1 (szF (.slice (.pair (.int .i64) (.pair (.int .i64) (.int .i64)))) a0.2.1 (szF (.slice (.pair (.int .i64) (.pair (.int .i64) (.pair (.int .i64) (.pair (.int .i64) (.int .i64)))))) a0.1 (a1))) < 0 then -1 else (if szF (.int .i64) a0.2.2.2.1 (szF (.slice (.pair (.int .i64) (.pair (.int .i64) (.pair (.int .i64) (.int .i64))))) a0.2.2.1 (szF (.slice (.pair (.int .i64) (.pair (.int .i64) (.int .i64)))) a0.2.1 (szF (.slice (.pair (.int .i64) (.pair (.int .i64) (.pair (.int .i64) (.pair (.int .i64) (.int .i64)))))) a0.1 (a1)))) < 0 then -1 else szF (.int .i64) a0.2.2.2.2 (szF (.int .i64) a0.2.2.2.1 (szF (.slice (.pair (.int .i64) (.pair (.int .i64) (.pair (.int .i64) (.int .i64))))) a0.2.2.1 (szF (.slice (.pair (.int .i64) (.pair (.int .i64) (.int .i64)))) a0.2.1 (szF (.slice (.pair (.int .i64) (.pair (.int .i64) (.pair (.int .i64) (.pair (.int .i64) (.int .i64)))))) a0.1 (a1))))))))) from rfl))
    rw [if_pos g0]
  · skip
    have m0 := szF_m1 (.slice (.pair (.int .i64) (.pair (.int .i64) (.pair (.int .i64) (.pair (.int .i64) (.int .i64)))))) rfl a0.1 (a1) (show (0 : Int) ≤ a1 from by omega)
    have g0 : ¬ szF (.slice (.pair (.int .i64) (.pair (.int .i64) (.pair (.int .i64) (.pair (.int .i64) (.int .i64)))))) a0.1 (a1) < 0 := of_decide_eq_false h0
    have k0 := szF_le (.slice (.pair (.int .i64) (.pair (.int .i64) (.pair (.int .i64) (.pair (.int .i64) (.int .i64)))))) a0.1 (a1)
    refine Vc.skip ?_
    refine Vc.seq ?_
    refine Vc.region hG rfl ?_ ?_
    · exact (show (0 : Int) ≤ szF (.slice (.pair (.int .i64) (.pair (.int .i64) (.pair (.int .i64) (.pair (.int .i64) (.int .i64)))))) a0.1 (a1) ∧ szF (.slice (.pair (.int .i64) (.pair (.int .i64) (.pair (.int .i64) (.pair (.int .i64) (.int .i64)))))) a0.1 (a1) ≤ (big20 : Int) from ⟨by omega, by omega⟩)
    refine Vc.seq ?_
    refine Vc.seq ?_
    refine Vc.region hG rfl ?_ ?_
    · trivial
    refine Vc.cond rfl (fun h1 => ?_) (fun h1 => ?_)
    · skip
      have m1 := szF_m1 (.slice (.pair (.int .i64) (.pair (.int .i64) (.int .i64)))) rfl a0.2.1 (szF (.slice (.pair (.int .i64) (.pair (.int .i64) (.pair (.int .i64) (.pair (.int .i64) (.int .i64)))))) a0.1 (a1)) (show (0 : Int) ≤ szF (.slice (.pair (.int .i64) (.pair (.int .i64) (.pair (.int .i64) (.pair (.int .i64) (.int .i64)))))) a0.1 (a1) from by omega)
      have g1 : szF (.slice (.pair (.int .i64) (.pair (.int .i64) (.int .i64)))) a0.2.1 (szF (.slice (.pair (.int .i64) (.pair (.int .i64) (.pair (.int .i64) (.pair (.int .i64) (.int .i64)))))) a0.1 (a1)) < 0 := of_decide_eq_true h1
      refine Vc.seq ?_
      refine Vc.region hG rfl ?_ ?_
      · trivial
      refine Vc.ret ?_
      refine ⟨?_, trivial⟩
      show (-1 : Int) = szF (.pair (.slice (.pair (.int .i64) (.pair (.int .i64) (.pair (.int .i64) (.pair (.int .i64) (.int .i64)))))) (.pair (.slice (.pair (.int .i64) (.pair (.int .i64) (.int .i64)))) (.pair (.slice (.pair (.int .i64) (.pair (.int .i64) (.pair (.int .i64) (.int .i64))))) (.pair (.int .i64) (.int .i64))))) a0 a1
      refine Eq.trans ?_ (szSpine _ _ (show szF (.pair (.slice (.pair (.int .i64) (.pair (.int .i64) (.pair (.int .i64) (.pair (.int .i64) (.int .i64)))))) (.pair (.slice (.pair (.int .i64) (.pair (.int .i64) (.int .i64)))) (.pair (.slice (.pair (.int .i64) (.pair (.int .i64) (.pair (.int .i64) (.int .i64))))) (.pair (.int .i64) (.int .i64))))) a0 a1 = (if szF (.slice (.pair (.int .i64) (.pair (.int .i64) (.pair (.int .i64) (.pair (.int .i64) (.int .i64)))))) a0.1 (a1) < 0 then -1 else (if szF (.slice (.pair (.int .i64) (.pair (.int .i64) (.int .i64)))) a0.2.1 (szF (.slice (.pair (.int .i64) (.pair (.int .i64) (.pair (.int .i64) (.pair (.int .i64) (.int .i64)))))) a0.1 (a1)) < 0 then -1 else (if szF (.slice (.pair (.int .i64) (.pair (.int .i64) (.pair (.int .i64) (.int .i64))))) a0.2.2.1 (szF (.slice (.pair (.int .i64) (.pair (.int .i64) (.int .i64)))) a0.2.1 (szF (.slice (.pair (.int .i64) (.pair (.int .i64) (.pair (.int .i64) (.pair (.int .i64) (.int .i64)))))) a0.1 (a1))) < 0 then -1 else (if szF (.int .i64) a0.2.2.2.1 (szF (.slice (.pair (.int .i64) (.pair (.int .i64) (.pair (.int .i64) (.int .i64))))) a0.2.2.1 (szF (.slice (.pair (.int .i64) (.pair (.int .i64) (.int .i64)))) a0.2.1 (szF (.slice (.pair (.int .i64) (.pair (.int .i64) (.pair (.int .i64) (.pair (.int .i64) (.int .i64)))))) a0.1 (a1)))) < 0 then -1 else szF (.int .i64) a0.2.2.2.2 (szF (.int .i64) a0.2.2.2.1 (szF (.slice (.pair (.int .i64) (.pair (.int .i64) (.pair (.int .i64) (.int .i64))))) a0.2.2.1 (szF (.slice (.pair (.int .i64) (.pair (.int .i64) (.int .i64)))) a0.2.1 (szF (.slice (.pair (.int .i64) (.pair (.int .i64) (.pair (.int .i64) (.pair (.int .i64) (.int .i64)))))) a0.1 (a1))))))))) from rfl))
      rw [if_neg g0]
      rw [if_pos g1]
    · skip
      have m1 := szF_m1 (.slice (.pair (.int .i64) (.pair (.int .i64) (.int .i64)))) rfl a0.2.1 (szF (.slice (.pair (.int .i64) (.pair (.int .i64) (.pair (.int .i64) (.pair (.int .i64) (.int .i64)))))) a0.1 (a1)) (show (0 : Int) ≤ szF (.slice (.pair (.int .i64) (.pair (.int .i64) (.pair (.int .i64) (.pair (.int .i64) (.int .i64)))))) a0.1 (a1) from by omega)
      have g1 : ¬ szF (.slice (.pair (.int .i64) (.pair (.int .i64) (.int .i64)))) a0.2.1 (szF (.slice (.pair (.int .i64) (.pair (.int .i64) (.pair (.int .i64) (.pair (.int .i64) (.int .i64)))))) a0.1 (a1)) < 0 := of_decide_eq_false h1
      have k1 := szF_le (.slice (.pair (.int .i64) (.pair (.int .i64) (.int .i64)))) a0.2.1 (szF (.slice (.pair (.int .i64) (.pair (.int .i64) (.pair (.int .i64) (.pair (.int .i64) (.int .i64)))))) a0.1 (a1))
      refine Vc.skip ?_
      refine Vc.seq ?_
      refine Vc.region hG rfl ?_ ?_
      · exact (show (0 : Int) ≤ szF (.slice (.pair (.int .i64) (.pair (.int .i64) (.int .i64)))) a0.2.1 (szF (.slice (.pair (.int .i64) (.pair (.int .i64) (.pair (.int .i64) (.pair (.int .i64) (.int .i64)))))) a0.1 (a1)) ∧ szF (.slice (.pair (.int .i64) (.pair (.int .i64) (.int .i64)))) a0.2.1 (szF (.slice (.pair (.int .i64) (.pair (.int .i64) (.pair (.int .i64) (.pair (.int .i64) (.int .i64)))))) a0.1 (a1)) ≤ (big20 : Int) from ⟨by omega, by omega⟩)
      refine Vc.seq ?_
      refine Vc.seq ?_
      refine Vc.region hG rfl ?_ ?_
      · trivial
      refine Vc.cond rfl (fun h2 => ?_) (fun h2 => ?_)
      · skip
        have m2 := szF_m1 (.slice (.pair (.int .i64) (.pair (.int .i64) (.pair (.int .i64) (.int .i64))))) rfl a0.2.2.1 (szF (.slice (.pair (.int .i64) (.pair (.int .i64) (.int .i64)))) a0.2.1 (szF (.slice (.pair (.int .i64) (.pair (.int .i64) (.pair (.int .i64) (.pair (.int .i64) (.int .i64)))))) a0.1 (a1))) (show (0 : Int) ≤ szF (.slice (.pair (.int .i64) (.pair (.int .i64) (.int .i64)))) a0.2.1 (szF (.slice (.pair (.int .i64) (.pair (.int .i64) (.pair (.int .i64) (.pair (.int .i64) (.int .i64)))))) a0.1 (a1)) from by omega)
        have g2 : szF (.slice (.pair (.int .i64) (.pair (.int .i64) (.pair (.int .i64) (.int .i64))))) a0.2.2.1 (szF (.slice (.pair (.int .i64) (.pair (.int .i64) (.int .i64)))) a0.2.1 (szF (.slice (.pair (.int .i64) (.pair (.int .i64) (.pair (.int .i64) (.pair (.int .i64) (.int .i64)))))) a0.1 (a1))) < 0 := of_decide_eq_true h2
        refine Vc.seq ?_
        refine Vc.region hG rfl ?_ ?_
        · trivial
        refine Vc.ret ?_
        refine ⟨?_, trivial⟩
        show (-1 : Int) = szF (.pair (.slice (.pair (.int .i64) (.pair (.int .i64) (.pair (.int .i64) (.pair (.int .i64) (.int .i64)))))) (.pair (.slice (.pair (.int .i64) (.pair (.int .i64) (.int .i64)))) (.pair (.slice (.pair (.int .i64) (.pair (.int .i64) (.pair (.int .i64) (.int .i64))))) (.pair (.int .i64) (.int .i64))))) a0 a1
        refine Eq.trans ?_ (szSpine _ _ (show szF (.pair (.slice (.pair (.int .i64) (.pair (.int .i64) (.pair (.int .i64) (.pair (.int .i64) (.int .i64)))))) (.pair (.slice (.pair (.int .i64) (.pair (.int .i64) (.int .i64)))) (.pair (.slice (.pair (.int .i64) (.pair (.int .i64) (.pair (.int .i64) (.int .i64))))) (.pair (.int .i64) (.int .i64))))) a0 a1 = (if szF (.slice (.pair (.int .i64) (.pair (.int .i64) (.pair (.int .i64) (.pair (.int .i64) (.int .i64)))))) a0.1 (a1) < 0 then -1 else (if szF (.slice (.pair (.int .i64) (.pair (.int .i64) (.int .i64)))) a0.2.1 (szF (.slice (.pair (.int .i64) (.pair (.int .i64) (.pair (.int .i64) (.pair (.int .i64) (.int .i64)))))) a0.1 (a1)) < 0 then -1 else (if szF (.slice (.pair (.int .i64) (.pair (.int .i64) (.pair (.int .i64) (.int .i64))))) a0.2.2.1 (szF (.slice (.pair (.int .i64) (.pair (.int .i64) (.int .i64)))) a0.2.1 (szF (.slice (.pair (.int .i64) (.pair (.int .i64) (.pair (.int .i64) (.pair (.int .i64) (.int .i64)))))) a0.1 (a1))) < 0 then -1 else (if szF (.int .i64) a0.2.2.2.1 (szF (.slice (.pair (.int .i64) (.pair (.int .i64) (.pair (.int .i64) (.int .i64))))) a0.2.2.1 (szF (.slice (.pair (.int .i64) (.pair (.int .i64) (.int .i64)))) a0.2.1 (szF (.slice (.pair (.int .i64) (.pair (.int .i64) (.pair (.int .i64) (.pair (.int .i64) (.int .i64)))))) a0.1 (a1)))) < 0 then -1 else szF (.int .i64) a0.2.2.2.2 (szF (.int .i64) a0.2.2.2.1 (szF (.slice (.pair (.int .i64) (.pair (.int .i64) (.pair (.int .i64) (.int .i64))))) a0.2.2.1 (szF (.slice (.pair (.int .i64) (.pair (.int .i64) (.int .i64)))) a0.2.1 (szF (.slice (.pair (.int .i64) (.pair (.int .i64) (.pair (.int .i64) (.pair (.int .i64) (.int .i64)))))) a0.1 (a1))))))))) from rfl))
        rw [if_neg g0]
        rw [if_neg g1]
        rw [if_pos g2]
      · skip
        have m2 := szF_m1 (.slice (.pair (.int .i64) (.pair (.int .i64) (.pair (.int .i64) (.int .i64))))) rfl a0.2.2.1 (szF (.slice (.pair (.int .i64) (.pair (.int .i64) (.int .i64)))) a0.2.1 (szF (.slice (.pair (.int .i64) (.pair (.int .i64) (.pair (.int .i64) (.pair (.int .i64) (.int .i64)))))) a0.1 (a1))) (show (0 : Int) ≤ szF (.slice (.pair (.int .i64) (.pair (.int .i64) (.int .i64)))) a0.2.1 (szF (.slice (.pair (.int .i64) (.pair (.int .i64) (.pair (.int .i64) (.pair (.int .i64) (.int .i64)))))) a0.1 (a1)) from by omega)
        have g2 : ¬ szF (.slice (.pair (.int .i64) (.pair (.int .i64) (.pair (.int .i64) (.int .i64))))) a0.2.2.1 (szF (.slice (.pair (.int .i64) (.pair (.int .i64) (.int .i64)))) a0.2.1 (szF (.slice (.pair (.int .i64) (.pair (.int .i64) (.pair (.int .i64) (.pair (.int .i64) (.int .i64)))))) a0.1 (a1))) < 0 := of_decide_eq_false h2
        have k2 := szF_le (.slice (.pair (.int .i64) (.pair (.int .i64) (.pair (.int .i64) (.int .i64))))) a0.2.2.1 (szF (.slice (.pair (.int .i64) (.pair (.int .i64) (.int .i64)))) a0.2.1 (szF (.slice (.pair (.int .i64) (.pair (.int .i64) (.pair (.int .i64) (.pair (.int .i64) (.int .i64)))))) a0.1 (a1)))
        refine Vc.skip ?_
        refine Vc.seq ?_
        refine Vc.region hG rfl ?_ ?_
        · trivial
        refine Vc.ret ?_
        refine ⟨?_, trivial⟩
        show szF (.slice (.pair (.int .i64) (.pair (.int .i64) (.pair (.int .i64) (.int .i64))))) a0.2.2.1 (szF (.slice (.pair (.int .i64) (.pair (.int .i64) (.int .i64)))) a0.2.1 (szF (.slice (.pair (.int .i64) (.pair (.int .i64) (.pair (.int .i64) (.pair (.int .i64) (.int .i64)))))) a0.1 (a1))) = szF (.pair (.slice (.pair (.int .i64) (.pair (.int .i64) (.pair (.int .i64) (.pair (.int .i64) (.int .i64)))))) (.pair (.slice (.pair (.int .i64) (.pair (.int .i64) (.int .i64)))) (.pair (.slice (.pair (.int .i64) (.pair (.int .i64) (.pair (.int .i64) (.int .i64))))) (.pair (.int .i64) (.int .i64))))) a0 a1
        refine Eq.trans ?_ (szSpine _ _ (show szF (.pair (.slice (.pair (.int .i64) (.pair (.int .i64) (.pair (.int .i64) (.pair (.int .i64) (.int .i64)))))) (.pair (.slice (.pair (.int .i64) (.pair (.int .i64) (.int .i64)))) (.pair (.slice (.pair (.int .i64) (.pair (.int .i64) (.pair (.int .i64) (.int .i64))))) (.pair (.int .i64) (.int .i64))))) a0 a1 = (if szF (.slice (.pair (.int .i64) (.pair (.int .i64) (.pair (.int .i64) (.pair (.int .i64) (.int .i64)))))) a0.1 (a1) < 0 then -1 else (if szF (.slice (.pair (.int .i64) (.pair (.int .i64) (.int .i64)))) a0.2.1 (szF (.slice (.pair (.int .i64) (.pair (.int .i64) (.pair (.int .i64) (.pair (.int .i64) (.int .i64)))))) a0.1 (a1)) < 0 then -1 else (if szF (.slice (.pair (.int .i64) (.pair (.int .i64) (.pair (.int .i64) (.int .i64))))) a0.2.2.1 (szF (.slice (.pair (.int .i64) (.pair (.int .i64) (.int .i64)))) a0.2.1 (szF (.slice (.pair (.int .i64) (.pair (.int .i64) (.pair (.int .i64) (.pair (.int .i64) (.int .i64)))))) a0.1 (a1))) < 0 then -1 else (if szF (.int .i64) a0.2.2.2.1 (szF (.slice (.pair (.int .i64) (.pair (.int .i64) (.pair (.int .i64) (.int .i64))))) a0.2.2.1 (szF (.slice (.pair (.int .i64) (.pair (.int .i64) (.int .i64)))) a0.2.1 (szF (.slice (.pair (.int .i64) (.pair (.int .i64) (.pair (.int .i64) (.pair (.int .i64) (.int .i64)))))) a0.1 (a1)))) < 0 then -1 else szF (.int .i64) a0.2.2.2.2 (szF (.int .i64) a0.2.2.2.1 (szF (.slice (.pair (.int .i64) (.pair (.int .i64) (.pair (.int .i64) (.int .i64))))) a0.2.2.1 (szF (.slice (.pair (.int .i64) (.pair (.int .i64) (.int .i64)))) a0.2.1 (szF (.slice (.pair (.int .i64) (.pair (.int .i64) (.pair (.int .i64) (.pair (.int .i64) (.int .i64)))))) a0.1 (a1))))))))) from rfl))
        rw [if_neg g0]
        rw [if_neg g1]
        rw [if_neg g2]
        rw [szF_id (.int .i64) rfl a0.2.2.2.1 (szF (.slice (.pair (.int .i64) (.pair (.int .i64) (.pair (.int .i64) (.int .i64))))) a0.2.2.1 (szF (.slice (.pair (.int .i64) (.pair (.int .i64) (.int .i64)))) a0.2.1 (szF (.slice (.pair (.int .i64) (.pair (.int .i64) (.pair (.int .i64) (.pair (.int .i64) (.int .i64)))))) a0.1 (a1)))) (show (0 : Int) ≤ szF (.slice (.pair (.int .i64) (.pair (.int .i64) (.pair (.int .i64) (.int .i64))))) a0.2.2.1 (szF (.slice (.pair (.int .i64) (.pair (.int .i64) (.int .i64)))) a0.2.1 (szF (.slice (.pair (.int .i64) (.pair (.int .i64) (.pair (.int .i64) (.pair (.int .i64) (.int .i64)))))) a0.1 (a1))) from by omega)]
        rw [if_neg (show ¬ szF (.slice (.pair (.int .i64) (.pair (.int .i64) (.pair (.int .i64) (.int .i64))))) a0.2.2.1 (szF (.slice (.pair (.int .i64) (.pair (.int .i64) (.int .i64)))) a0.2.1 (szF (.slice (.pair (.int .i64) (.pair (.int .i64) (.pair (.int .i64) (.pair (.int .i64) (.int .i64)))))) a0.1 (a1))) < 0 from by omega)]
        rw [szF_id (.int .i64) rfl a0.2.2.2.2 (szF (.slice (.pair (.int .i64) (.pair (.int .i64) (.pair (.int .i64) (.int .i64))))) a0.2.2.1 (szF (.slice (.pair (.int .i64) (.pair (.int .i64) (.int .i64)))) a0.2.1 (szF (.slice (.pair (.int .i64) (.pair (.int .i64) (.pair (.int .i64) (.pair (.int .i64) (.int .i64)))))) a0.1 (a1)))) (show (0 : Int) ≤ szF (.slice (.pair (.int .i64) (.pair (.int .i64) (.pair (.int .i64) (.int .i64))))) a0.2.2.1 (szF (.slice (.pair (.int .i64) (.pair (.int .i64) (.int .i64)))) a0.2.1 (szF (.slice (.pair (.int .i64) (.pair (.int .i64) (.pair (.int .i64) (.pair (.int .i64) (.int .i64)))))) a0.1 (a1))) from by omega)]
noncomputable def F127 : Fun := ⟨[.slice (.int .i64), .int .i64], [.pure (.int .i64)], fun x => szPre x.1 x.2.1, fun x => (szF (.slice (.int .i64)) x.1 x.2.1, ())⟩
set_option maxRecDepth 100000 in
/-- loop.example.g00597.laws.szIntS -/
theorem F127_ok : Meets Try.prog 127 F127 := by
  refine meets_of_vc (C := mkC 12 [4] [0,1,4,10] []) (mkC_ok _ _ _ _) (fnOf_ok _) Try.func127 rfl rfl rfl (by decide) rfl ?_
  rintro ⟨a0, (a1 : Int), _⟩ hwf hpre ⟨P, C, B, X, w0, M0⟩ hG rfl rfl
  show Vc _ _ [(0, ⟨0, 0, .c (.pure (.slice (.int .i64))) a0⟩), (1, ⟨0, 0, .c (.pure (.int .i64)) a1⟩)] _
  have q0 : (0 : Int) ≤ a1 ∧ a1 ≤ (big20 : Int) := hpre
  have hb : List.length a0 ≤ bigLen := hwf.1.1
  have hw : IntKind.i64.wrap (a1 - (List.length a0 : Int)) = a1 - (List.length a0 : Int) := subW hpre hb
  refine Vc.seq ?_
  refine Vc.region hG rfl ?_ ?_
  · trivial
  refine Vc.seq ?_
  refine Vc.region hG rfl ?_ ?_
  · trivial
  refine Vc.seq ?_
  refine Vc.seq ?_
  refine Vc.region hG rfl ?_ ?_
  · trivial
  refine Vc.cond rfl (fun h0 => ?_) (fun h0 => ?_)
  · skip
    have g0 : a1 - (List.length a0 : Int) < 0 := by rw [← hw]; exact of_decide_eq_true h0
    refine Vc.seq ?_
    refine Vc.region hG rfl ?_ ?_
    · trivial
    refine Vc.ret ?_
    refine ⟨?_, trivial⟩
    show (-1 : Int) = if a1 - (List.length a0 : Int) < 0 then -1 else szL (szF (.int .i64)) a0 (a1 - (List.length a0 : Int))
    rw [if_pos g0]
  · skip
    have g0 : ¬ a1 - (List.length a0 : Int) < 0 := by rw [← hw]; exact of_decide_eq_false h0
    refine Vc.skip ?_
    refine Vc.seq ?_
    refine Vc.region hG rfl ?_ ?_
    · trivial
    refine Vc.ret ?_
    refine ⟨?_, trivial⟩
    show IntKind.i64.wrap (a1 - (List.length a0 : Int)) = if a1 - (List.length a0 : Int) < 0 then -1 else szL (szF (.int .i64)) a0 (a1 - (List.length a0 : Int))
    rw [if_neg g0, hw, szL_id (fun x l hl => szF_id (.int .i64) rfl x l hl) a0 _ (show (0 : Int) ≤ a1 - (List.length a0 : Int) from by omega)]
noncomputable def F82 : Fun := ⟨[.pair (.int .i64) (.pair (.slice (.int .i64)) (.int .i64)), .int .i64], [.pure (.int .i64)], fun x => szPre x.1 x.2.1, fun x => (szF (.pair (.int .i64) (.pair (.slice (.int .i64)) (.int .i64))) x.1 x.2.1, ())⟩
set_option maxRecDepth 100000 in
/-- loop.example.g00597.laws.szPiece -/
theorem F82_ok : Meets Try.prog 82 F82 := by
  refine meets_of_vc (C := mkC 12 [4] [0,1,2,4,10] [⟨127, _, F127_ok⟩]) (mkC_ok _ _ _ _) (fnOf_ok _) Try.func82 rfl rfl rfl (by decide) rfl ?_
  rintro ⟨a0, (a1 : Int), _⟩ hwf hpre ⟨P, C, B, X, w0, M0⟩ hG rfl rfl
  show Vc _ _ [(0, ⟨0, 0, .c (.pure (.pair (.int .i64) (.pair (.slice (.int .i64)) (.int .i64)))) a0⟩), (1, ⟨0, 0, .c (.pure (.int .i64)) a1⟩)] _
  have q0 : (0 : Int) ≤ a1 ∧ a1 ≤ (big20 : Int) := hpre
  refine Vc.seq ?_
  refine Vc.region hG rfl ?_ ?_
  · trivial
  refine Vc.seq ?_
  refine Vc.region hG rfl ?_ ?_
  · exact (show (0 : Int) ≤ a1 ∧ a1 ≤ (big20 : Int) from ⟨by omega, by omega⟩)
  refine Vc.seq ?_
  refine Vc.seq ?_
  refine Vc.region hG rfl ?_ ?_
  · trivial
  refine Vc.cond rfl (fun h0 => ?_) (fun h0 => ?_)
  · skip
    have m0 := szF_m1 (.slice (.int .i64)) rfl a0.2.1 (a1) (show (0 : Int) ≤ a1 from by omega)
    have g0 : szF (.slice (.int .i64)) a0.2.1 (a1) < 0 := of_decide_eq_true h0
    refine Vc.seq ?_
    refine Vc.region hG rfl ?_ ?_
    · trivial
    refine Vc.ret ?_
    refine ⟨?_, trivial⟩
    show (-1 : Int) = szF (.pair (.int .i64) (.pair (.slice (.int .i64)) (.int .i64))) a0 a1
    refine Eq.trans ?_ (szSpine _ _ (show szF (.pair (.int .i64) (.pair (.slice (.int .i64)) (.int .i64))) a0 a1 = (if szF (.int .i64) a0.1 (a1) < 0 then -1 else (if szF (.slice (.int .i64)) a0.2.1 (szF (.int .i64) a0.1 (a1)) < 0 then -1 else szF (.int .i64) a0.2.2 (szF (.slice (.int .i64)) a0.2.1 (szF (.int .i64) a0.1 (a1))))) from rfl))
    rw [szF_id (.int .i64) rfl a0.1 (a1) (show (0 : Int) ≤ a1 from by omega)]
    rw [if_neg (show ¬ a1 < 0 from by omega)]
    rw [if_pos g0]
  · skip
    have m0 := szF_m1 (.slice (.int .i64)) rfl a0.2.1 (a1) (show (0 : Int) ≤ a1 from by omega)
    have g0 : ¬ szF (.slice (.int .i64)) a0.2.1 (a1) < 0 := of_decide_eq_false h0
    have k0 := szF_le (.slice (.int .i64)) a0.2.1 (a1)
    refine Vc.skip ?_
    refine Vc.seq ?_
    refine Vc.region hG rfl ?_ ?_
    · trivial
    refine Vc.ret ?_
    refine ⟨?_, trivial⟩
    show szF (.slice (.int .i64)) a0.2.1 (a1) = szF (.pair (.int .i64) (.pair (.slice (.int .i64)) (.int .i64))) a0 a1
    refine Eq.trans ?_ (szSpine _ _ (show szF (.pair (.int .i64) (.pair (.slice (.int .i64)) (.int .i64))) a0 a1 = (if szF (.int .i64) a0.1 (a1) < 0 then -1 else (if szF (.slice (.int .i64)) a0.2.1 (szF (.int .i64) a0.1 (a1)) < 0 then -1 else szF (.int .i64) a0.2.2 (szF (.slice (.int .i64)) a0.2.1 (szF (.int .i64) a0.1 (a1))))) from rfl))
    rw [szF_id (.int .i64) rfl a0.1 (a1) (show (0 : Int) ≤ a1 from by omega)]
    rw [if_neg (show ¬ a1 < 0 from by omega)]
    rw [if_neg g0]
    rw [szF_id (.int .i64) rfl a0.2.2 (szF (.slice (.int .i64)) a0.2.1 (a1)) (show (0 : Int) ≤ szF (.slice (.int .i64)) a0.2.1 (a1) from by omega)]
noncomputable def F39 : Fun := ⟨[.slice (.pair (.int .i64) (.pair (.slice (.int .i64)) (.int .i64))), .int .i64], [.pure (.int .i64)], fun x => szPre x.1 x.2.1, fun x => (szF (.slice (.pair (.int .i64) (.pair (.slice (.int .i64)) (.int .i64)))) x.1 x.2.1, ())⟩
set_option maxRecDepth 100000 in
/-- loop.example.g00597.laws.szPieceS -/
theorem F39_ok : Meets Try.prog 39 F39 := by
  refine meets_of_vc (C := mkC 27 [4] [0,1,4,5,11,15,25] [⟨82, _, F82_ok⟩]) (mkC_ok _ _ _ _) (fnOf_ok _) Try.func39 rfl rfl rfl (by decide) rfl ?_
  rintro ⟨a0, (a1 : Int), _⟩ hwf hpre ⟨P, C, B, X, w0, M0⟩ hG rfl rfl
  show Vc _ _ [(0, ⟨0, 0, .c (.pure (.slice (.pair (.int .i64) (.pair (.slice (.int .i64)) (.int .i64))))) a0⟩), (1, ⟨0, 0, .c (.pure (.int .i64)) a1⟩)] _
  have q0 : (0 : Int) ≤ a1 ∧ a1 ≤ (big20 : Int) := hpre
  have hb : List.length a0 ≤ bigLen := hwf.1.1
  have hw : IntKind.i64.wrap (a1 - (List.length a0 : Int)) = a1 - (List.length a0 : Int) := subW hpre hb
  refine Vc.seq ?_
  refine Vc.region hG rfl ?_ ?_
  · trivial
  refine Vc.seq ?_
  refine Vc.region hG rfl ?_ ?_
  · trivial
  refine Vc.seq ?_
  refine Vc.seq ?_
  refine Vc.region hG rfl ?_ ?_
  · trivial
  refine Vc.cond rfl (fun h0 => ?_) (fun h0 => ?_)
  · skip
    have g0 : a1 - (List.length a0 : Int) < 0 := by rw [← hw]; exact of_decide_eq_true h0
    refine Vc.seq ?_
    refine Vc.region hG rfl ?_ ?_
    · trivial
    refine Vc.ret ?_
    refine ⟨?_, trivial⟩
    show (-1 : Int) = if a1 - (List.length a0 : Int) < 0 then -1 else szL (szF (.pair (.int .i64) (.pair (.slice (.int .i64)) (.int .i64)))) a0 (a1 - (List.length a0 : Int))
    rw [if_pos g0]
  · skip
    have g0 : ¬ a1 - (List.length a0 : Int) < 0 := by rw [← hw]; exact of_decide_eq_false h0
    refine Vc.skip ?_
    refine Vc.seq ?_
    refine Vc.seq ?_
    refine Vc.region hG rfl ?_ ?_
    · trivial
    refine Vc.block ?_
    -- slots [1, 5]; frame [0, 11]
    refine Vc.loopF [(1, false, .pure (.int .i64)), (5, false, .pure (.int .i64))] [0, 11] (fun v => szInv (szF (.pair (.int .i64) (.pair (.slice (.int .i64)) (.int .i64)))) a0 (a1 - (List.length a0 : Int)) v.1 v.2.1) (fun v => ((List.length a0 : Int) - v.2.1).toNat) rfl ?_ ?_
    · show szInv (szF (.pair (.int .i64) (.pair (.slice (.int .i64)) (.int .i64)))) a0 (a1 - (List.length a0 : Int)) (IntKind.i64.wrap (a1 - (List.length a0 : Int))) 0
      rw [hw]
      exact szStart (by omega) (by omega)
    rintro ⟨(l : Int), (i : Int), _⟩ hI
    have hI : szInv (szF (.pair (.int .i64) (.pair (.slice (.int .i64)) (.int .i64)))) a0 (a1 - (List.length a0 : Int)) l i := hI
    refine Vc.seq ?_
    refine Vc.seq ?_
    refine Vc.region hG rfl ?_ ?_
    · trivial
    refine Vc.cond rfl (fun h1 => ?_) (fun h1 => ?_)
    · skip
      have hl : i < (List.length a0 : Int) := of_decide_eq_true h1
      refine Vc.skip ?_
      refine Vc.seq ?_
      refine Vc.block ?_
      refine Vc.seq ?_
      refine Vc.region hG rfl ?_ ?_
      · exact ⟨upRange hI.1 hl, ⟨hI.2.1, hI.2.2.1⟩⟩
      refine Vc.seq ?_
      refine Vc.region hG rfl ?_ ?_
      · trivial
      refine Vc.cond rfl (fun h2 => ?_) (fun h2 => ?_)
      · skip
        have g2 : szF (.pair (.int .i64) (.pair (.slice (.int .i64)) (.int .i64))) (List.getD a0 i.toNat (dflt (.pair (.int .i64) (.pair (.slice (.int .i64)) (.int .i64))))) l < 0 := of_decide_eq_true h2
        refine Vc.seq ?_
        refine Vc.region hG rfl ?_ ?_
        · trivial
        refine Vc.ret ?_
        refine ⟨?_, trivial⟩
        show (-1 : Int) = if a1 - (List.length a0 : Int) < 0 then -1 else szL (szF (.pair (.int .i64) (.pair (.slice (.int .i64)) (.int .i64)))) a0 (a1 - (List.length a0 : Int))
        rw [if_neg g0, (szStep (d := dflt (.pair (.int .i64) (.pair (.slice (.int .i64)) (.int .i64)))) hI (szF_le (.pair (.int .i64) (.pair (.slice (.int .i64)) (.int .i64)))) hl hb).1 g2]
      · skip
        have g2 : ¬ szF (.pair (.int .i64) (.pair (.slice (.int .i64)) (.int .i64))) (List.getD a0 i.toNat (dflt (.pair (.int .i64) (.pair (.slice (.int .i64)) (.int .i64))))) l < 0 := of_decide_eq_false h2
        refine Vc.skip ?_
        refine Vc.region hG rfl ?_ ?_
        · trivial
        refine ⟨rfl, ?_⟩
        exact ⟨(szStep (d := dflt (.pair (.int .i64) (.pair (.slice (.int .i64)) (.int .i64)))) hI (szF_le (.pair (.int .i64) (.pair (.slice (.int .i64)) (.int .i64)))) hl hb).2 g2, (upStep hI.1 hl hb).2.2⟩
    · skip
      have hl : ¬ i < (List.length a0 : Int) := of_decide_eq_false h1
      refine Vc.exit ?_
      refine Vc.seq ?_
      refine Vc.region hG rfl ?_ ?_
      · trivial
      refine Vc.ret ?_
      refine ⟨?_, trivial⟩
      show l = if a1 - (List.length a0 : Int) < 0 then -1 else szL (szF (.pair (.int .i64) (.pair (.slice (.int .i64)) (.int .i64)))) a0 (a1 - (List.length a0 : Int))
      rw [if_neg g0, szEnd hI hl]
noncomputable def F69 : Fun := ⟨[.pair (.int .i64) (.pair (.int .i64) (.pair (.int .i64) (.pair (.int .i64) (.int .i64))))], [.pure (.pair (.int .i64) (.pair (.int .i64) (.pair (.int .i64) (.pair (.int .i64) (.int .i64)))))], fun _ => True, fun x => (id x.1, ())⟩
set_option maxRecDepth 100000 in
/-- loop.example.g00597.laws.toKey -/
theorem F69_ok : Meets Try.prog 69 F69 := by
  refine meets_of_vc (C := mkC 20 [2] [0,1,2,3] []) (mkC_ok _ _ _ _) (fnOf_ok _) Try.func69 rfl rfl rfl (by decide) rfl ?_
  rintro ⟨a0, _⟩ hwf hpre ⟨P, C, B, X, w0, M0⟩ hG rfl rfl
  show Vc _ _ [(0, ⟨0, 0, .c (.pure (.pair (.int .i64) (.pair (.int .i64) (.pair (.int .i64) (.pair (.int .i64) (.int .i64)))))) a0⟩)] _
  refine Vc.seq ?_
  refine Vc.region hG rfl ?_ ?_
  · trivial
  refine Vc.seq ?_
  refine Vc.region hG rfl ?_ ?_
  · trivial
  refine Vc.seq ?_
  refine Vc.region hG rfl ?_ ?_
  · trivial
  refine Vc.seq ?_
  refine Vc.region hG rfl ?_ ?_
  · trivial
  refine Vc.seq ?_
  refine Vc.region hG rfl ?_ ?_
  · trivial
  refine Vc.seq ?_
  refine Vc.region hG rfl ?_ ?_
  · trivial
  refine Vc.seq ?_
  refine Vc.region hG rfl ?_ ?_
  · trivial
  refine Vc.seq ?_
  refine Vc.region hG rfl ?_ ?_
  · trivial
  refine Vc.ret ?_
  refine ⟨?_, trivial⟩
  all_goals exact rfl
noncomputable def F18 : Fun := ⟨[.slice (.pair (.int .i64) (.pair (.int .i64) (.pair (.int .i64) (.pair (.int .i64) (.int .i64)))))], [.own (.pure (.pair (.int .i64) (.pair (.int .i64) (.pair (.int .i64) (.pair (.int .i64) (.int .i64))))))], fun x => Sm big20 (.slice (.pair (.int .i64) (.pair (.int .i64) (.pair (.int .i64) (.pair (.int .i64) (.int .i64)))))) x.1, fun x => (id x.1, ())⟩
set_option maxRecDepth 100000 in
/-- loop.example.g00597.laws.toKeyS -/
theorem F18_ok : Meets Try.prog 18 F18 := by
  refine meets_of_vc (C := mkC 23 [2] [0,2,3,4,11] [⟨69, _, F69_ok⟩]) (mkC_ok _ _ _ _) (fnOf_ok _) Try.func18 rfl rfl rfl (by decide) rfl ?_
  rintro ⟨a0, _⟩ hwf hpre ⟨P, C, B, X, w0, M0⟩ hG rfl rfl
  show Vc _ _ [(0, ⟨0, 0, .c (.pure (.slice (.pair (.int .i64) (.pair (.int .i64) (.pair (.int .i64) (.pair (.int .i64) (.int .i64))))))) a0⟩)] _
  have hp : _ ∧ _ := hpre
  have hb : List.length a0 ≤ bigLen := hwf.1.1
  refine Vc.seq ?_
  refine Vc.region hG rfl ?_ ?_
  · trivial
  refine Vc.seq ?_
  refine Vc.region hG rfl ?_ ?_
  · exact ⟨rfl, Int.natCast_nonneg _, mkSmall hp.1⟩
  refine Vc.seq ?_
  refine Vc.seq ?_
  refine Vc.region hG rfl ?_ ?_
  · trivial
  refine Vc.block ?_
  -- slots [3, 4]; frame [0, 2]
  refine Vc.loopF [(3, false, .own (.pure (.pair (.int .i64) (.pair (.int .i64) (.pair (.int .i64) (.pair (.int .i64) (.int .i64))))))), (4, false, .pure (.int .i64))] [0, 2] (fun v => toInv a0 (dflt (.pair (.int .i64) (.pair (.int .i64) (.pair (.int .i64) (.pair (.int .i64) (.int .i64)))))) v.1 v.2.1) (fun v => ((List.length a0 : Int) - v.2.1).toNat) rfl ?_ ?_
  · exact toStart
  rintro ⟨ys, (i : Int), _⟩ hI
  have hI : toInv a0 (dflt (.pair (.int .i64) (.pair (.int .i64) (.pair (.int .i64) (.pair (.int .i64) (.int .i64)))))) ys i := hI
  refine Vc.seq ?_
  refine Vc.seq ?_
  refine Vc.region hG rfl ?_ ?_
  · trivial
  refine Vc.cond rfl (fun h0 => ?_) (fun h0 => ?_)
  · skip
    have hl : i < (List.length a0 : Int) := of_decide_eq_true h0
    refine Vc.skip ?_
    refine Vc.seq ?_
    refine Vc.block ?_
    refine Vc.region hG rfl ?_ ?_
    · exact ⟨(toRange hI hl).1, trivial, (toRange hI hl).2⟩
    refine Vc.region hG rfl ?_ ?_
    · trivial
    refine ⟨rfl, ?_⟩
    exact ⟨toStep hI hl hb, toMu hI hl hb⟩
  · skip
    have hl : ¬ i < (List.length a0 : Int) := of_decide_eq_false h0
    refine Vc.exit ?_
    refine Vc.seq ?_
    refine Vc.region hG rfl ?_ ?_
    · trivial
    refine Vc.ret ?_
    refine ⟨?_, trivial⟩
    exact toEnd hI hl
noncomputable def F70 : Fun := ⟨[.pair (.int .i64) (.pair (.int .i64) (.int .i64))], [.pure (.pair (.int .i64) (.pair (.int .i64) (.int .i64)))], fun _ => True, fun x => (id x.1, ())⟩
set_option maxRecDepth 100000 in
/-- loop.example.g00597.laws.toAuthority -/
theorem F70_ok : Meets Try.prog 70 F70 := by
  refine meets_of_vc (C := mkC 14 [2] [0,1,2,3] []) (mkC_ok _ _ _ _) (fnOf_ok _) Try.func70 rfl rfl rfl (by decide) rfl ?_
  rintro ⟨a0, _⟩ hwf hpre ⟨P, C, B, X, w0, M0⟩ hG rfl rfl
  show Vc _ _ [(0, ⟨0, 0, .c (.pure (.pair (.int .i64) (.pair (.int .i64) (.int .i64)))) a0⟩)] _
  refine Vc.seq ?_
  refine Vc.region hG rfl ?_ ?_
  · trivial
  refine Vc.seq ?_
  refine Vc.region hG rfl ?_ ?_
  · trivial
  refine Vc.seq ?_
  refine Vc.region hG rfl ?_ ?_
  · trivial
  refine Vc.seq ?_
  refine Vc.region hG rfl ?_ ?_
  · trivial
  refine Vc.seq ?_
  refine Vc.region hG rfl ?_ ?_
  · trivial
  refine Vc.seq ?_
  refine Vc.region hG rfl ?_ ?_
  · trivial
  refine Vc.ret ?_
  refine ⟨?_, trivial⟩
  all_goals exact rfl
noncomputable def F19 : Fun := ⟨[.slice (.pair (.int .i64) (.pair (.int .i64) (.int .i64)))], [.own (.pure (.pair (.int .i64) (.pair (.int .i64) (.int .i64))))], fun x => Sm big20 (.slice (.pair (.int .i64) (.pair (.int .i64) (.int .i64)))) x.1, fun x => (id x.1, ())⟩
set_option maxRecDepth 100000 in
/-- loop.example.g00597.laws.toAuthorityS -/
theorem F19_ok : Meets Try.prog 19 F19 := by
  refine meets_of_vc (C := mkC 23 [2] [0,2,3,4,11] [⟨70, _, F70_ok⟩]) (mkC_ok _ _ _ _) (fnOf_ok _) Try.func19 rfl rfl rfl (by decide) rfl ?_
  rintro ⟨a0, _⟩ hwf hpre ⟨P, C, B, X, w0, M0⟩ hG rfl rfl
  show Vc _ _ [(0, ⟨0, 0, .c (.pure (.slice (.pair (.int .i64) (.pair (.int .i64) (.int .i64))))) a0⟩)] _
  have hp : _ ∧ _ := hpre
  have hb : List.length a0 ≤ bigLen := hwf.1.1
  refine Vc.seq ?_
  refine Vc.region hG rfl ?_ ?_
  · trivial
  refine Vc.seq ?_
  refine Vc.region hG rfl ?_ ?_
  · exact ⟨rfl, Int.natCast_nonneg _, mkSmall hp.1⟩
  refine Vc.seq ?_
  refine Vc.seq ?_
  refine Vc.region hG rfl ?_ ?_
  · trivial
  refine Vc.block ?_
  -- slots [3, 4]; frame [0, 2]
  refine Vc.loopF [(3, false, .own (.pure (.pair (.int .i64) (.pair (.int .i64) (.int .i64))))), (4, false, .pure (.int .i64))] [0, 2] (fun v => toInv a0 (dflt (.pair (.int .i64) (.pair (.int .i64) (.int .i64)))) v.1 v.2.1) (fun v => ((List.length a0 : Int) - v.2.1).toNat) rfl ?_ ?_
  · exact toStart
  rintro ⟨ys, (i : Int), _⟩ hI
  have hI : toInv a0 (dflt (.pair (.int .i64) (.pair (.int .i64) (.int .i64)))) ys i := hI
  refine Vc.seq ?_
  refine Vc.seq ?_
  refine Vc.region hG rfl ?_ ?_
  · trivial
  refine Vc.cond rfl (fun h0 => ?_) (fun h0 => ?_)
  · skip
    have hl : i < (List.length a0 : Int) := of_decide_eq_true h0
    refine Vc.skip ?_
    refine Vc.seq ?_
    refine Vc.block ?_
    refine Vc.region hG rfl ?_ ?_
    · exact ⟨(toRange hI hl).1, trivial, (toRange hI hl).2⟩
    refine Vc.region hG rfl ?_ ?_
    · trivial
    refine ⟨rfl, ?_⟩
    exact ⟨toStep hI hl hb, toMu hI hl hb⟩
  · skip
    have hl : ¬ i < (List.length a0 : Int) := of_decide_eq_false h0
    refine Vc.exit ?_
    refine Vc.seq ?_
    refine Vc.region hG rfl ?_ ?_
    · trivial
    refine Vc.ret ?_
    refine ⟨?_, trivial⟩
    exact toEnd hI hl
noncomputable def F133 : Fun := ⟨[.pair (.int .i64) (.pair (.int .i64) (.pair (.int .i64) (.int .i64)))], [.pure (.pair (.int .i64) (.pair (.int .i64) (.pair (.int .i64) (.int .i64))))], fun _ => True, fun x => (id x.1, ())⟩
set_option maxRecDepth 100000 in
/-- loop.example.g00597.laws.toMethod -/
theorem F133_ok : Meets Try.prog 133 F133 := by
  refine meets_of_vc (C := mkC 17 [2] [0,1,2,3] []) (mkC_ok _ _ _ _) (fnOf_ok _) Try.func133 rfl rfl rfl (by decide) rfl ?_
  rintro ⟨a0, _⟩ hwf hpre ⟨P, C, B, X, w0, M0⟩ hG rfl rfl
  show Vc _ _ [(0, ⟨0, 0, .c (.pure (.pair (.int .i64) (.pair (.int .i64) (.pair (.int .i64) (.int .i64))))) a0⟩)] _
  refine Vc.seq ?_
  refine Vc.region hG rfl ?_ ?_
  · trivial
  refine Vc.seq ?_
  refine Vc.region hG rfl ?_ ?_
  · trivial
  refine Vc.seq ?_
  refine Vc.region hG rfl ?_ ?_
  · trivial
  refine Vc.seq ?_
  refine Vc.region hG rfl ?_ ?_
  · trivial
  refine Vc.seq ?_
  refine Vc.region hG rfl ?_ ?_
  · trivial
  refine Vc.seq ?_
  refine Vc.region hG rfl ?_ ?_
  · trivial
  refine Vc.seq ?_
  refine Vc.region hG rfl ?_ ?_
  · trivial
  refine Vc.ret ?_
  refine ⟨?_, trivial⟩
  all_goals exact rfl
noncomputable def F85 : Fun := ⟨[.slice (.pair (.int .i64) (.pair (.int .i64) (.pair (.int .i64) (.int .i64))))], [.own (.pure (.pair (.int .i64) (.pair (.int .i64) (.pair (.int .i64) (.int .i64)))))], fun x => Sm big20 (.slice (.pair (.int .i64) (.pair (.int .i64) (.pair (.int .i64) (.int .i64))))) x.1, fun x => (id x.1, ())⟩
set_option maxRecDepth 100000 in
/-- loop.example.g00597.laws.toMethodS -/
theorem F85_ok : Meets Try.prog 85 F85 := by
  refine meets_of_vc (C := mkC 23 [2] [0,2,3,4,11] [⟨133, _, F133_ok⟩]) (mkC_ok _ _ _ _) (fnOf_ok _) Try.func85 rfl rfl rfl (by decide) rfl ?_
  rintro ⟨a0, _⟩ hwf hpre ⟨P, C, B, X, w0, M0⟩ hG rfl rfl
  show Vc _ _ [(0, ⟨0, 0, .c (.pure (.slice (.pair (.int .i64) (.pair (.int .i64) (.pair (.int .i64) (.int .i64)))))) a0⟩)] _
  have hp : _ ∧ _ := hpre
  have hb : List.length a0 ≤ bigLen := hwf.1.1
  refine Vc.seq ?_
  refine Vc.region hG rfl ?_ ?_
  · trivial
  refine Vc.seq ?_
  refine Vc.region hG rfl ?_ ?_
  · exact ⟨rfl, Int.natCast_nonneg _, mkSmall hp.1⟩
  refine Vc.seq ?_
  refine Vc.seq ?_
  refine Vc.region hG rfl ?_ ?_
  · trivial
  refine Vc.block ?_
  -- slots [3, 4]; frame [0, 2]
  refine Vc.loopF [(3, false, .own (.pure (.pair (.int .i64) (.pair (.int .i64) (.pair (.int .i64) (.int .i64)))))), (4, false, .pure (.int .i64))] [0, 2] (fun v => toInv a0 (dflt (.pair (.int .i64) (.pair (.int .i64) (.pair (.int .i64) (.int .i64))))) v.1 v.2.1) (fun v => ((List.length a0 : Int) - v.2.1).toNat) rfl ?_ ?_
  · exact toStart
  rintro ⟨ys, (i : Int), _⟩ hI
  have hI : toInv a0 (dflt (.pair (.int .i64) (.pair (.int .i64) (.pair (.int .i64) (.int .i64))))) ys i := hI
  refine Vc.seq ?_
  refine Vc.seq ?_
  refine Vc.region hG rfl ?_ ?_
  · trivial
  refine Vc.cond rfl (fun h0 => ?_) (fun h0 => ?_)
  · skip
    have hl : i < (List.length a0 : Int) := of_decide_eq_true h0
    refine Vc.skip ?_
    refine Vc.seq ?_
    refine Vc.block ?_
    refine Vc.region hG rfl ?_ ?_
    · exact ⟨(toRange hI hl).1, trivial, (toRange hI hl).2⟩
    refine Vc.region hG rfl ?_ ?_
    · trivial
    refine ⟨rfl, ?_⟩
    exact ⟨toStep hI hl hb, toMu hI hl hb⟩
  · skip
    have hl : ¬ i < (List.length a0 : Int) := of_decide_eq_false h0
    refine Vc.exit ?_
    refine Vc.seq ?_
    refine Vc.region hG rfl ?_ ?_
    · trivial
    refine Vc.ret ?_
    refine ⟨?_, trivial⟩
    exact toEnd hI hl
noncomputable def F41 : Fun := ⟨[.pair (.slice (.pair (.int .i64) (.pair (.int .i64) (.pair (.int .i64) (.pair (.int .i64) (.int .i64)))))) (.pair (.slice (.pair (.int .i64) (.pair (.int .i64) (.int .i64)))) (.pair (.slice (.pair (.int .i64) (.pair (.int .i64) (.pair (.int .i64) (.int .i64))))) (.pair (.int .i64) (.int .i64))))], [.pair (.own (.pure (.pair (.int .i64) (.pair (.int .i64) (.pair (.int .i64) (.pair (.int .i64) (.int .i64))))))) (.pair (.own (.pure (.pair (.int .i64) (.pair (.int .i64) (.int .i64))))) (.pair (.own (.pure (.pair (.int .i64) (.pair (.int .i64) (.pair (.int .i64) (.int .i64)))))) (.pure (.pair (.int .i64) (.int .i64)))))], fun x => Sm big20 (.pair (.slice (.pair (.int .i64) (.pair (.int .i64) (.pair (.int .i64) (.pair (.int .i64) (.int .i64)))))) (.pair (.slice (.pair (.int .i64) (.pair (.int .i64) (.int .i64)))) (.pair (.slice (.pair (.int .i64) (.pair (.int .i64) (.pair (.int .i64) (.int .i64))))) (.pair (.int .i64) (.int .i64))))) x.1, fun x => (id x.1, ())⟩
set_option maxRecDepth 100000 in
/-- loop.example.g00597.laws.toFrame -/
theorem F41_ok : Meets Try.prog 41 F41 := by
  refine meets_of_vc (C := mkC 23 [2] [0,1,2,3] [⟨18, _, F18_ok⟩, ⟨19, _, F19_ok⟩, ⟨85, _, F85_ok⟩]) (mkC_ok _ _ _ _) (fnOf_ok _) Try.func41 rfl rfl rfl (by decide) rfl ?_
  rintro ⟨a0, _⟩ hwf hpre ⟨P, C, B, X, w0, M0⟩ hG rfl rfl
  show Vc _ _ [(0, ⟨0, 0, .c (.pure (.pair (.slice (.pair (.int .i64) (.pair (.int .i64) (.pair (.int .i64) (.pair (.int .i64) (.int .i64)))))) (.pair (.slice (.pair (.int .i64) (.pair (.int .i64) (.int .i64)))) (.pair (.slice (.pair (.int .i64) (.pair (.int .i64) (.pair (.int .i64) (.int .i64))))) (.pair (.int .i64) (.int .i64)))))) a0⟩)] _
  have hp0 : _ ∧ _ := hpre
  have hp1 : _ ∧ _ := hp0.2
  have hp2 : _ ∧ _ := hp1.2
  have hp3 : _ ∧ _ := hp2.2
  refine Vc.seq ?_
  refine Vc.region hG rfl ?_ ?_
  · trivial
  refine Vc.seq ?_
  refine Vc.region hG rfl ?_ ?_
  · trivial
  refine Vc.seq ?_
  refine Vc.region hG rfl ?_ ?_
  · exact hp0.1
  refine Vc.seq ?_
  refine Vc.region hG rfl ?_ ?_
  · exact hp1.1
  refine Vc.seq ?_
  refine Vc.region hG rfl ?_ ?_
  · exact hp2.1
  refine Vc.seq ?_
  refine Vc.region hG rfl ?_ ?_
  · trivial
  refine Vc.seq ?_
  refine Vc.region hG rfl ?_ ?_
  · trivial
  refine Vc.seq ?_
  refine Vc.region hG rfl ?_ ?_
  · trivial
  refine Vc.ret ?_
  refine ⟨?_, trivial⟩
  all_goals exact rfl
noncomputable def F134 : Fun := ⟨[.slice (.int .i64)], [.own (.pure (.int .i64))], fun x => Sm big20 (.slice (.int .i64)) x.1, fun x => (id x.1, ())⟩
set_option maxRecDepth 100000 in
/-- loop.example.g00597.laws.toIntS -/
theorem F134_ok : Meets Try.prog 134 F134 := by
  refine meets_of_vc (C := mkC 22 [2] [0,2,3,4,11] []) (mkC_ok _ _ _ _) (fnOf_ok _) Try.func134 rfl rfl rfl (by decide) rfl ?_
  rintro ⟨a0, _⟩ hwf hpre ⟨P, C, B, X, w0, M0⟩ hG rfl rfl
  show Vc _ _ [(0, ⟨0, 0, .c (.pure (.slice (.int .i64))) a0⟩)] _
  have hp : _ ∧ _ := hpre
  have hb : List.length a0 ≤ bigLen := hwf.1.1
  refine Vc.seq ?_
  refine Vc.region hG rfl ?_ ?_
  · trivial
  refine Vc.seq ?_
  refine Vc.region hG rfl ?_ ?_
  · exact ⟨rfl, Int.natCast_nonneg _, mkSmall hp.1⟩
  refine Vc.seq ?_
  refine Vc.seq ?_
  refine Vc.region hG rfl ?_ ?_
  · trivial
  refine Vc.block ?_
  -- slots [3, 4]; frame [0, 2]
  refine Vc.loopF [(3, false, .own (.pure (.int .i64))), (4, false, .pure (.int .i64))] [0, 2] (fun v => toInv a0 (dflt (.int .i64)) v.1 v.2.1) (fun v => ((List.length a0 : Int) - v.2.1).toNat) rfl ?_ ?_
  · exact toStart
  rintro ⟨ys, (i : Int), _⟩ hI
  have hI : toInv a0 (dflt (.int .i64)) ys i := hI
  refine Vc.seq ?_
  refine Vc.seq ?_
  refine Vc.region hG rfl ?_ ?_
  · trivial
  refine Vc.cond rfl (fun h0 => ?_) (fun h0 => ?_)
  · skip
    have hl : i < (List.length a0 : Int) := of_decide_eq_true h0
    refine Vc.skip ?_
    refine Vc.seq ?_
    refine Vc.block ?_
    refine Vc.region hG rfl ?_ ?_
    · exact ⟨(toRange hI hl).1, (toRange hI hl).2⟩
    refine Vc.region hG rfl ?_ ?_
    · trivial
    refine ⟨rfl, ?_⟩
    exact ⟨toStep hI hl hb, toMu hI hl hb⟩
  · skip
    have hl : ¬ i < (List.length a0 : Int) := of_decide_eq_false h0
    refine Vc.exit ?_
    refine Vc.seq ?_
    refine Vc.region hG rfl ?_ ?_
    · trivial
    refine Vc.ret ?_
    refine ⟨?_, trivial⟩
    exact toEnd hI hl
noncomputable def F86 : Fun := ⟨[.pair (.int .i64) (.pair (.slice (.int .i64)) (.int .i64))], [.pair (.pure (.int .i64)) (.pair (.own (.pure (.int .i64))) (.pure (.int .i64)))], fun x => Sm big20 (.pair (.int .i64) (.pair (.slice (.int .i64)) (.int .i64))) x.1, fun x => (id x.1, ())⟩
set_option maxRecDepth 100000 in
/-- loop.example.g00597.laws.toPiece -/
theorem F86_ok : Meets Try.prog 86 F86 := by
  refine meets_of_vc (C := mkC 15 [2] [0,1,2,3] [⟨134, _, F134_ok⟩]) (mkC_ok _ _ _ _) (fnOf_ok _) Try.func86 rfl rfl rfl (by decide) rfl ?_
  rintro ⟨a0, _⟩ hwf hpre ⟨P, C, B, X, w0, M0⟩ hG rfl rfl
  show Vc _ _ [(0, ⟨0, 0, .c (.pure (.pair (.int .i64) (.pair (.slice (.int .i64)) (.int .i64)))) a0⟩)] _
  have hp0 : _ ∧ _ := hpre
  have hp1 : _ ∧ _ := hp0.2
  refine Vc.seq ?_
  refine Vc.region hG rfl ?_ ?_
  · trivial
  refine Vc.seq ?_
  refine Vc.region hG rfl ?_ ?_
  · trivial
  refine Vc.seq ?_
  refine Vc.region hG rfl ?_ ?_
  · trivial
  refine Vc.seq ?_
  refine Vc.region hG rfl ?_ ?_
  · exact hp1.1
  refine Vc.seq ?_
  refine Vc.region hG rfl ?_ ?_
  · trivial
  refine Vc.seq ?_
  refine Vc.region hG rfl ?_ ?_
  · trivial
  refine Vc.ret ?_
  refine ⟨?_, trivial⟩
  all_goals exact rfl
noncomputable def F42 : Fun := ⟨[.slice (.pair (.int .i64) (.pair (.slice (.int .i64)) (.int .i64)))], [.own (.pair (.pure (.int .i64)) (.pair (.own (.pure (.int .i64))) (.pure (.int .i64))))], fun x => Sm big20 (.slice (.pair (.int .i64) (.pair (.slice (.int .i64)) (.int .i64)))) x.1, fun x => (id x.1, ())⟩
set_option maxRecDepth 100000 in
/-- loop.example.g00597.laws.toPieceS -/
theorem F42_ok : Meets Try.prog 42 F42 := by
  refine meets_of_vc (C := mkC 23 [2] [0,2,3,4,11] [⟨86, _, F86_ok⟩]) (mkC_ok _ _ _ _) (fnOf_ok _) Try.func42 rfl rfl rfl (by decide) rfl ?_
  rintro ⟨a0, _⟩ hwf hpre ⟨P, C, B, X, w0, M0⟩ hG rfl rfl
  show Vc _ _ [(0, ⟨0, 0, .c (.pure (.slice (.pair (.int .i64) (.pair (.slice (.int .i64)) (.int .i64))))) a0⟩)] _
  have hp : _ ∧ _ := hpre
  have hb : List.length a0 ≤ bigLen := hwf.1.1
  refine Vc.seq ?_
  refine Vc.region hG rfl ?_ ?_
  · trivial
  refine Vc.seq ?_
  refine Vc.region hG rfl ?_ ?_
  · exact ⟨rfl, Int.natCast_nonneg _, mkSmall hp.1⟩
  refine Vc.seq ?_
  refine Vc.seq ?_
  refine Vc.region hG rfl ?_ ?_
  · trivial
  refine Vc.block ?_
  -- slots [3, 4]; frame [0, 2]
  refine Vc.loopF [(3, false, .own (.pair (.pure (.int .i64)) (.pair (.own (.pure (.int .i64))) (.pure (.int .i64))))), (4, false, .pure (.int .i64))] [0, 2] (fun v => toInv a0 (dflt (.pair (.int .i64) (.pair (.slice (.int .i64)) (.int .i64)))) v.1 v.2.1) (fun v => ((List.length a0 : Int) - v.2.1).toNat) rfl ?_ ?_
  · exact toStart
  rintro ⟨ys, (i : Int), _⟩ hI
  have hI : toInv a0 (dflt (.pair (.int .i64) (.pair (.slice (.int .i64)) (.int .i64)))) ys i := hI
  refine Vc.seq ?_
  refine Vc.seq ?_
  refine Vc.region hG rfl ?_ ?_
  · trivial
  refine Vc.cond rfl (fun h0 => ?_) (fun h0 => ?_)
  · skip
    have hl : i < (List.length a0 : Int) := of_decide_eq_true h0
    refine Vc.skip ?_
    refine Vc.seq ?_
    refine Vc.block ?_
    refine Vc.region hG rfl ?_ ?_
    · exact ⟨(toRange hI hl).1, hp.2 _ (toElem hI hl), (toRange hI hl).2⟩
    refine Vc.region hG rfl ?_ ?_
    · trivial
    refine ⟨rfl, ?_⟩
    exact ⟨toStep hI hl hb, toMu hI hl hb⟩
  · skip
    have hl : ¬ i < (List.length a0 : Int) := of_decide_eq_false h0
    refine Vc.exit ?_
    refine Vc.seq ?_
    refine Vc.region hG rfl ?_ ?_
    · trivial
    refine Vc.ret ?_
    refine ⟨?_, trivial⟩
    exact toEnd hI hl
noncomputable def F43 : Fun := ⟨[.pair (.int .i64) (.pair (.int .i64) (.pair (.int .i64) (.pair (.int .i64) (.pair (.int .i64) (.pair (.int .i64) (.pair (.int .i64) (.pair (.int .i64) (.int .i64))))))))], [.pure (.pair (.int .i64) (.pair (.int .i64) (.pair (.int .i64) (.pair (.int .i64) (.pair (.int .i64) (.pair (.int .i64) (.pair (.int .i64) (.pair (.int .i64) (.int .i64)))))))))], fun _ => True, fun x => (id x.1, ())⟩
set_option maxRecDepth 100000 in
/-- loop.example.g00597.laws.toSignature -/
theorem F43_ok : Meets Try.prog 43 F43 := by
  refine meets_of_vc (C := mkC 32 [2] [0,1,2,3] []) (mkC_ok _ _ _ _) (fnOf_ok _) Try.func43 rfl rfl rfl (by decide) rfl ?_
  rintro ⟨a0, _⟩ hwf hpre ⟨P, C, B, X, w0, M0⟩ hG rfl rfl
  show Vc _ _ [(0, ⟨0, 0, .c (.pure (.pair (.int .i64) (.pair (.int .i64) (.pair (.int .i64) (.pair (.int .i64) (.pair (.int .i64) (.pair (.int .i64) (.pair (.int .i64) (.pair (.int .i64) (.int .i64)))))))))) a0⟩)] _
  refine Vc.seq ?_
  refine Vc.region hG rfl ?_ ?_
  · trivial
  refine Vc.seq ?_
  refine Vc.region hG rfl ?_ ?_
  · trivial
  refine Vc.seq ?_
  refine Vc.region hG rfl ?_ ?_
  · trivial
  refine Vc.seq ?_
  refine Vc.region hG rfl ?_ ?_
  · trivial
  refine Vc.seq ?_
  refine Vc.region hG rfl ?_ ?_
  · trivial
  refine Vc.seq ?_
  refine Vc.region hG rfl ?_ ?_
  · trivial
  refine Vc.seq ?_
  refine Vc.region hG rfl ?_ ?_
  · trivial
  refine Vc.seq ?_
  refine Vc.region hG rfl ?_ ?_
  · trivial
  refine Vc.seq ?_
  refine Vc.region hG rfl ?_ ?_
  · trivial
  refine Vc.seq ?_
  refine Vc.region hG rfl ?_ ?_
  · trivial
  refine Vc.seq ?_
  refine Vc.region hG rfl ?_ ?_
  · trivial
  refine Vc.seq ?_
  refine Vc.region hG rfl ?_ ?_
  · trivial
  refine Vc.ret ?_
  refine ⟨?_, trivial⟩
  all_goals exact rfl
noncomputable def F96 : Fun := ⟨[.int .i64, .int .i64, .int .i64], [.pure (.bool)], fun _ => True, fun x => (inRangeF x.1 x.2.1 x.2.2.1, ())⟩
set_option maxRecDepth 100000 in
/-- loop.example.g00597.spec.l1In -/
theorem F96_ok : Meets Try.prog 96 F96 := by
  refine meets_of_vc (C := mkC 15 [6] [0,1,2,6] []) (mkC_ok _ _ _ _) (fnOf_ok _) Try.func96 rfl rfl rfl (by decide) rfl ?_
  rintro ⟨(a0 : Int), (a1 : Int), (a2 : Int), _⟩ hwf hpre ⟨P, C, B, X, w0, M0⟩ hG rfl rfl
  show Vc _ _ [(0, ⟨0, 0, .c (.pure (.int .i64)) a0⟩), (1, ⟨0, 0, .c (.pure (.int .i64)) a1⟩), (2, ⟨0, 0, .c (.pure (.int .i64)) a2⟩)] _
  refine Vc.seq ?_
  refine Vc.region hG rfl ?_ ?_
  · trivial
  refine Vc.seq ?_
  refine Vc.region hG rfl ?_ ?_
  · trivial
  refine Vc.ret ?_
  refine ⟨?_, trivial⟩
  all_goals exact rfl
noncomputable def F128 : Fun := ⟨[.pair (.int .i64) (.pair (.slice (.int .i64)) (.int .i64))], [.pure (.int .i64)], fun _ => True, fun x => (kindF x.1, ())⟩
set_option maxRecDepth 100000 in
/-- loop.example.g00597.spec.KindOfPiece -/
theorem F128_ok : Meets Try.prog 128 F128 := by
  refine meets_of_vc (C := mkC 31 [2] [0,1,2,14,26] [⟨96, _, F96_ok⟩]) (mkC_ok _ _ _ _) (fnOf_ok _) Try.func128 rfl rfl rfl (by decide) rfl ?_
  rintro ⟨a0, _⟩ hwf hpre ⟨P, C, B, X, w0, M0⟩ hG rfl rfl
  show Vc _ _ [(0, ⟨0, 0, .c (.pure (.pair (.int .i64) (.pair (.slice (.int .i64)) (.int .i64)))) a0⟩)] _
  refine Vc.seq ?_
  refine Vc.region hG rfl ?_ ?_
  · trivial
  refine Vc.seq ?_
  refine Vc.seq ?_
  refine Vc.region hG rfl ?_ ?_
  · exact ⟨fun h => kLen h, fun _ => trivial⟩
  refine Vc.cond rfl (fun h0 => ?_) (fun h0 => ?_)
  · skip
    have g0 : kb1 a0 = true := h0
    refine Vc.seq ?_
    refine Vc.region hG rfl ?_ ?_
    · trivial
    refine Vc.ret ?_
    refine ⟨?_, trivial⟩
    exact kind0 g0
  · skip
    have g0 : kb1 a0 = false := h0
    refine Vc.skip ?_
    refine Vc.seq ?_
    refine Vc.seq ?_
    refine Vc.regionD mixed hG rfl (by kernel_rfl) ?_ ?_
    · exact ⟨kLen1 g0, kIdx g0⟩
    refine Vc.cond rfl (fun h1 => ?_) (fun h1 => ?_)
    · skip
      have g1 : kb2 a0 = true := h1
      refine Vc.seq ?_
      refine Vc.region hG rfl ?_ ?_
      · trivial
      refine Vc.ret ?_
      refine ⟨?_, trivial⟩
      exact kind1 g1
    · skip
      have g1 : kb2 a0 = false := h1
      refine Vc.skip ?_
      refine Vc.seq ?_
      refine Vc.region hG rfl ?_ ?_
      · exact kLen1 g0
      refine Vc.ret ?_
      refine ⟨?_, trivial⟩
      exact kind2 g0 g1
noncomputable def F83 : Fun := ⟨[.pair (.int .i64) (.pair (.slice (.int .i64)) (.int .i64))], [.pure (.pair (.int .i64) (.pair (.int .i64) (.pair (.int .i64) (.pair (.int .i64) (.pair (.int .i64) (.pair (.int .i64) (.int .i64))))))), .pure (.bool)], fun _ => True, fun x => ((pieceCertF x.1).1, (pieceCertF x.1).2, ())⟩
set_option maxRecDepth 100000 in
/-- loop.example.g00597.spec.PieceCert -/
theorem F83_ok : Meets Try.prog 83 F83 := by
  refine meets_of_vc (C := mkC 44 [2, 3] [0,1,2,3,15] [⟨128, _, F128_ok⟩]) (mkC_ok _ _ _ _) (fnOf_ok _) Try.func83 rfl rfl rfl (by decide) rfl ?_
  rintro ⟨a0, _⟩ hwf hpre ⟨P, C, B, X, w0, M0⟩ hG rfl rfl
  show Vc _ _ [(0, ⟨0, 0, .c (.pure (.pair (.int .i64) (.pair (.slice (.int .i64)) (.int .i64)))) a0⟩)] _
  refine Vc.seq ?_
  refine Vc.region hG rfl ?_ ?_
  · trivial
  refine Vc.seq ?_
  refine Vc.seq ?_
  refine Vc.regionD mixed hG rfl (by kernel_rfl) ?_ ?_
  · exact ⟨trivial, fun h => seven (kind7 h) 6 (by decide)⟩
  refine Vc.cond rfl (fun h0 => ?_) (fun h0 => ?_)
  · skip
    have g0 : pcBad a0 = true := h0
    refine Vc.seq ?_
    refine Vc.region hG rfl ?_ ?_
    · trivial
    refine Vc.ret ?_
    have e := pc0 g0
    refine ⟨?_, ?_, trivial⟩
    · exact (congrArg Prod.fst e).symm
    · exact (congrArg Prod.snd e).symm
  · skip
    have g0 : pcBad a0 = false := h0
    refine Vc.skip ?_
    refine Vc.seq ?_
    refine Vc.regionD mixed hG rfl (by kernel_rfl) ?_ ?_
    · exact ⟨seven (pc7 g0) 1 (by decide), seven (pc7 g0) 2 (by decide), seven (pc7 g0) 3 (by decide), seven (pc7 g0) 4 (by decide), seven (pc7 g0) 5 (by decide), seven (pc7 g0) 6 (by decide)⟩
    refine Vc.ret ?_
    have e := pc1 g0
    refine ⟨?_, ?_, trivial⟩
    · exact (congrArg Prod.fst e).symm
    · exact (congrArg Prod.snd e).symm
noncomputable def F169 : Fun := ⟨[.pair (.int .i64) (.pair (.int .i64) (.pair (.int .i64) (.pair (.int .i64) (.pair (.int .i64) (.pair (.int .i64) (.int .i64))))))], [.pure (.pair (.int .i64) (.int .i64))], fun _ => True, fun x => (certSpanF x.1, ())⟩
set_option maxRecDepth 100000 in
/-- loop.example.g00597.spec.CertSpan -/
theorem F169_ok : Meets Try.prog 169 F169 := by
  refine meets_of_vc (C := mkC 8 [2] [0,1,2] []) (mkC_ok _ _ _ _) (fnOf_ok _) Try.func169 rfl rfl rfl (by decide) rfl ?_
  rintro ⟨a0, _⟩ hwf hpre ⟨P, C, B, X, w0, M0⟩ hG rfl rfl
  show Vc _ _ [(0, ⟨0, 0, .c (.pure (.pair (.int .i64) (.pair (.int .i64) (.pair (.int .i64) (.pair (.int .i64) (.pair (.int .i64) (.pair (.int .i64) (.int .i64)))))))) a0⟩)] _
  refine Vc.seq ?_
  refine Vc.region hG rfl ?_ ?_
  · trivial
  refine Vc.seq ?_
  refine Vc.region hG rfl ?_ ?_
  · trivial
  refine Vc.ret ?_
  refine ⟨?_, trivial⟩
  all_goals exact rfl
noncomputable def F97 : Fun := ⟨[.int .i64], [.pure (.bool)], fun _ => True, fun x => (isTimeF x.1, ())⟩
set_option maxRecDepth 100000 in
/-- loop.example.g00597.spec.l4Time -/
theorem F97_ok : Meets Try.prog 97 F97 := by
  refine meets_of_vc (C := mkC 5 [2] [0,2] [⟨96, _, F96_ok⟩]) (mkC_ok _ _ _ _) (fnOf_ok _) Try.func97 rfl rfl rfl (by decide) rfl ?_
  rintro ⟨(a0 : Int), _⟩ hwf hpre ⟨P, C, B, X, w0, M0⟩ hG rfl rfl
  show Vc _ _ [(0, ⟨0, 0, .c (.pure (.int .i64)) a0⟩)] _
  refine Vc.seq ?_
  refine Vc.region hG rfl ?_ ?_
  · trivial
  refine Vc.seq ?_
  refine Vc.region hG rfl ?_ ?_
  · trivial
  refine Vc.ret ?_
  refine ⟨?_, trivial⟩
  all_goals exact rfl
noncomputable def F168 : Fun := ⟨[.pair (.int .i64) (.int .i64)], [.pure (.bool)], fun _ => True, fun x => (isSpanF x.1, ())⟩
set_option maxRecDepth 100000 in
/-- loop.example.g00597.spec.IsSpan -/
theorem F168_ok : Meets Try.prog 168 F168 := by
  refine meets_of_vc (C := mkC 18 [2] [0,1,2] [⟨97, _, F97_ok⟩]) (mkC_ok _ _ _ _) (fnOf_ok _) Try.func168 rfl rfl rfl (by decide) rfl ?_
  rintro ⟨a0, _⟩ hwf hpre ⟨P, C, B, X, w0, M0⟩ hG rfl rfl
  show Vc _ _ [(0, ⟨0, 0, .c (.pure (.pair (.int .i64) (.int .i64))) a0⟩)] _
  refine Vc.seq ?_
  refine Vc.region hG rfl ?_ ?_
  · trivial
  refine Vc.seq ?_
  refine Vc.region hG rfl ?_ ?_
  · repeat' (first | exact trivial | refine And.intro ?_ ?_ | intro _)
  refine Vc.ret ?_
  refine ⟨?_, trivial⟩
  all_goals exact rfl
noncomputable def F129 : Fun := ⟨[.pair (.int .i64) (.pair (.int .i64) (.pair (.int .i64) (.pair (.int .i64) (.pair (.int .i64) (.pair (.int .i64) (.int .i64))))))], [.pure (.bool)], fun _ => True, fun x => (isCertF x.1, ())⟩
set_option maxRecDepth 100000 in
/-- loop.example.g00597.spec.IsCert -/
theorem F129_ok : Meets Try.prog 129 F129 := by
  refine meets_of_vc (C := mkC 33 [2] [0,1,2] [⟨96, _, F96_ok⟩, ⟨169, _, F169_ok⟩, ⟨168, _, F168_ok⟩]) (mkC_ok _ _ _ _) (fnOf_ok _) Try.func129 rfl rfl rfl (by decide) rfl ?_
  rintro ⟨a0, _⟩ hwf hpre ⟨P, C, B, X, w0, M0⟩ hG rfl rfl
  show Vc _ _ [(0, ⟨0, 0, .c (.pure (.pair (.int .i64) (.pair (.int .i64) (.pair (.int .i64) (.pair (.int .i64) (.pair (.int .i64) (.pair (.int .i64) (.int .i64)))))))) a0⟩)] _
  refine Vc.seq ?_
  refine Vc.region hG rfl ?_ ?_
  · trivial
  refine Vc.seq ?_
  refine Vc.region hG rfl ?_ ?_
  · repeat' (first | exact trivial | refine And.intro ?_ ?_ | intro _)
  refine Vc.ret ?_
  refine ⟨?_, trivial⟩
  all_goals exact rfl
noncomputable def F131 : Fun := ⟨[.pair (.int .i64) (.pair (.int .i64) (.pair (.int .i64) (.pair (.int .i64) (.pair (.int .i64) (.pair (.int .i64) (.int .i64))))))], [.own (.pure (.int .i64))], fun _ => True, fun x => (certIntsF x.1, ())⟩
set_option maxRecDepth 100000 in
/-- loop.example.g00597.spec.CertInts -/
theorem F131_ok : Meets Try.prog 131 F131 := by
  refine meets_of_vc (C := mkC 16 [2] [0,1,2] []) (mkC_ok _ _ _ _) (fnOf_ok _) Try.func131 rfl rfl rfl (by decide) rfl ?_
  rintro ⟨a0, _⟩ hwf hpre ⟨P, C, B, X, w0, M0⟩ hG rfl rfl
  show Vc _ _ [(0, ⟨0, 0, .c (.pure (.pair (.int .i64) (.pair (.int .i64) (.pair (.int .i64) (.pair (.int .i64) (.pair (.int .i64) (.pair (.int .i64) (.int .i64)))))))) a0⟩)] _
  refine Vc.seq ?_
  refine Vc.region hG rfl ?_ ?_
  · trivial
  refine Vc.seq ?_
  refine Vc.region hG rfl ?_ ?_
  · trivial
  refine Vc.ret ?_
  refine ⟨?_, trivial⟩
  all_goals exact rfl
noncomputable def F164 : Fun := ⟨[.slice (.pair (.int .i64) (.pair (.int .i64) (.pair (.int .i64) (.pair (.int .i64) (.int .i64))))), .int .i64], [.pure (.int .i64)], fun _ => True, fun x => ((fun a0 a1 => findI (fun x => x.1 == a1) a0) x.1 x.2.1, ())⟩
set_option maxRecDepth 100000 in
/-- loop.example.g00597.spec.FindKey -/
theorem F164_ok : Meets Try.prog 164 F164 := by
  refine meets_of_vc (C := mkC 20 [4] [0,1,4,5,9,18] []) (mkC_ok _ _ _ _) (fnOf_ok _) Try.func164 rfl rfl rfl (by decide) rfl ?_
  rintro ⟨a0, (a1 : Int), _⟩ hwf hpre ⟨P, C, B, X, w0, M0⟩ hG rfl rfl
  show Vc _ _ [(0, ⟨0, 0, .c (.pure (.slice (.pair (.int .i64) (.pair (.int .i64) (.pair (.int .i64) (.pair (.int .i64) (.int .i64))))))) a0⟩), (1, ⟨0, 0, .c (.pure (.int .i64)) a1⟩)] _
  have hb : List.length a0 ≤ bigLen := hwf.1.1
  refine Vc.seq ?_
  refine Vc.region hG rfl ?_ ?_
  · trivial
  refine Vc.seq ?_
  refine Vc.seq ?_
  refine Vc.region hG rfl ?_ ?_
  · trivial
  refine Vc.block ?_
  -- slots [5]; frame [0, 1]
  refine Vc.loopF [(5, false, .pure (.int .i64))] [0, 1] (fun v => fInv (fun x => x.1 == a1) a0 v.1) (fun v => ((List.length a0 : Int) - v.1).toNat) rfl ?_ ?_
  · exact fStart
  rintro ⟨(i : Int), _⟩ hI
  have hI : fInv (fun x => x.1 == a1) a0 i := hI
  refine Vc.seq ?_
  refine Vc.seq ?_
  refine Vc.region hG rfl ?_ ?_
  · trivial
  refine Vc.cond rfl (fun h0 => ?_) (fun h0 => ?_)
  · skip
    have hl : i < (List.length a0 : Int) := of_decide_eq_true h0
    refine Vc.skip ?_
    refine Vc.seq ?_
    refine Vc.block ?_
    refine Vc.seq ?_
    refine Vc.region hG rfl ?_ ?_
    · exact fRange hI hl
    refine Vc.cond rfl (fun h1 => ?_) (fun h1 => ?_)
    · skip
      have g1 : (fun x => x.1 == a1) (List.getD a0 i.toNat (dflt (.pair (.int .i64) (.pair (.int .i64) (.pair (.int .i64) (.pair (.int .i64) (.int .i64))))))) = true := h1
      refine Vc.seq ?_
      refine Vc.region hG rfl ?_ ?_
      · trivial
      refine Vc.ret ?_
      refine ⟨?_, trivial⟩
      exact fHit hI hl g1
    · skip
      have g1 : (fun x => x.1 == a1) (List.getD a0 i.toNat (dflt (.pair (.int .i64) (.pair (.int .i64) (.pair (.int .i64) (.pair (.int .i64) (.int .i64))))))) = false := h1
      refine Vc.skip ?_
      refine Vc.region hG rfl ?_ ?_
      · trivial
      refine ⟨rfl, ?_⟩
      exact fStep hI hl hb g1
  · skip
    have hl : ¬ i < (List.length a0 : Int) := of_decide_eq_false h0
    refine Vc.exit ?_
    refine Vc.seq ?_
    refine Vc.region hG rfl ?_ ?_
    · trivial
    refine Vc.ret ?_
    refine ⟨?_, trivial⟩
    exact fEnd hI hl
noncomputable def F176 : Fun := ⟨[.int .i64, .int .i64], [.pure (.int .i64)], fun _ => True, fun x => (modF x.1 x.2.1, ())⟩
set_option maxRecDepth 100000 in
/-- loop.example.g00597.spec.Mod -/
theorem F176_ok : Meets Try.prog 176 F176 := by
  refine meets_of_vc (C := mkC 15 [4] [0,1,4,7] [⟨96, _, F96_ok⟩]) (mkC_ok _ _ _ _) (fnOf_ok _) Try.func176 rfl rfl rfl (by decide) rfl ?_
  rintro ⟨(a0 : Int), (a1 : Int), _⟩ hwf hpre ⟨P, C, B, X, w0, M0⟩ hG rfl rfl
  show Vc _ _ [(0, ⟨0, 0, .c (.pure (.int .i64)) a0⟩), (1, ⟨0, 0, .c (.pure (.int .i64)) a1⟩)] _
  refine Vc.seq ?_
  refine Vc.region hG rfl ?_ ?_
  · trivial
  refine Vc.seq ?_
  refine Vc.seq ?_
  refine Vc.region hG rfl ?_ ?_
  · trivial
  refine Vc.cond rfl (fun h0 => ?_) (fun h0 => ?_)
  · skip
    have g0 : (!(inRangeF a1 1 1000000000000)) = true := h0
    refine Vc.seq ?_
    refine Vc.region hG rfl ?_ ?_
    · trivial
    refine Vc.ret ?_
    refine ⟨?_, trivial⟩
    show (0 : Int) = modF a0 a1
    unfold modF
    rw [if_neg (by simpa using g0)]
  · skip
    have g0 : (!(inRangeF a1 1 1000000000000)) = false := h0
    refine Vc.skip ?_
    refine Vc.seq ?_
    refine Vc.region hG rfl ?_ ?_
    · exact ⟨inR_pos h0, inR_pos h0⟩
    refine Vc.ret ?_
    refine ⟨?_, trivial⟩
    show _ = modF a0 a1
    unfold modF
    rw [if_pos (by simpa using g0)]
noncomputable def F156 : Fun := ⟨[.slice (.int .i64)], [.pure (.int .i64)], fun _ => True, fun x => (hashF x.1, ())⟩
set_option maxRecDepth 100000 in
/-- loop.example.g00597.spec.Hash -/
theorem F156_ok : Meets Try.prog 156 F156 := by
  refine meets_of_vc (C := mkC 22 [2] [0,2,3,4,8] [⟨176, _, F176_ok⟩]) (mkC_ok _ _ _ _) (fnOf_ok _) Try.func156 rfl rfl rfl (by decide) rfl ?_
  rintro ⟨a0, _⟩ hwf hpre ⟨P, C, B, X, w0, M0⟩ hG rfl rfl
  show Vc _ _ [(0, ⟨0, 0, .c (.pure (.slice (.int .i64))) a0⟩)] _
  have hb : List.length a0 ≤ bigLen := hwf.1.1
  refine Vc.seq ?_
  refine Vc.region hG rfl ?_ ?_
  · trivial
  refine Vc.seq ?_
  refine Vc.region hG rfl ?_ ?_
  · trivial
  refine Vc.seq ?_
  refine Vc.seq ?_
  refine Vc.region hG rfl ?_ ?_
  · trivial
  refine Vc.block ?_
  -- slots [3, 4]; frame [0, 2]
  refine Vc.loopF [(3, false, .pure (.int .i64)), (4, false, .pure (.int .i64))] [0, 2] (fun v => foInv (hstep) (11) a0 v.1 v.2.1) (fun v => ((List.length a0 : Int) - v.2.1).toNat) rfl ?_ ?_
  · exact foStart
  rintro ⟨acc, (i : Int), _⟩ hI
  have hI : foInv (hstep) (11) a0 acc i := hI
  refine Vc.seq ?_
  refine Vc.seq ?_
  refine Vc.region hG rfl ?_ ?_
  · trivial
  refine Vc.cond rfl (fun h0 => ?_) (fun h0 => ?_)
  · skip
    have hl : i < (List.length a0 : Int) := of_decide_eq_true h0
    refine Vc.skip ?_
    refine Vc.seq ?_
    refine Vc.block ?_
    refine Vc.region hG rfl ?_ ?_
    · exact ⟨foRange hI hl, trivial, (show (2147483647 : Int) ≠ 0 by decide)⟩
    refine Vc.region hG rfl ?_ ?_
    · trivial
    refine ⟨rfl, ?_⟩
    exact foStep hI hl hb
  · skip
    have hl : ¬ i < (List.length a0 : Int) := of_decide_eq_false h0
    refine Vc.exit ?_
    refine Vc.seq ?_
    refine Vc.region hG rfl ?_ ?_
    · trivial
    refine Vc.ret ?_
    refine ⟨?_, trivial⟩
    exact foEnd hI hl
noncomputable def F182 : Fun := ⟨[.int .i64, .slice (.int .i64)], [.pure (.int .i64)], fun x => (fun (_ : Int) (l : List Int) => l.length ≤ 1000000001) x.1 x.2.1, fun x => (keyedF x.1 x.2.1, ())⟩
set_option maxRecDepth 100000 in
/-- loop.example.g00597.spec.KeyedHash -/
theorem F182_ok : Meets Try.prog 182 F182 := by
  refine meets_of_vc (C := mkC 13 [4] [0,1,4] [⟨156, _, F156_ok⟩]) (mkC_ok _ _ _ _) (fnOf_ok _) Try.func182 rfl rfl rfl (by decide) rfl ?_
  rintro ⟨(a0 : Int), a1, _⟩ hwf hpre ⟨P, C, B, X, w0, M0⟩ hG rfl rfl
  show Vc _ _ [(0, ⟨0, 0, .c (.pure (.int .i64)) a0⟩), (1, ⟨0, 0, .c (.pure (.slice (.int .i64))) a1⟩)] _
  have hp : List.length a1 ≤ 1000000001 := hpre
  refine Vc.seq ?_
  refine Vc.region hG rfl ?_ ?_
  · trivial
  refine Vc.seq ?_
  refine Vc.region hG rfl ?_ ?_
  · refine ⟨?_, ?_, trivial⟩
    · show 1 + List.length a1 ≤ maxApp
      unfold maxApp; omega
    · show (List.length a1 + 1) + 1 ≤ maxApp
      unfold maxApp; omega
  refine Vc.ret ?_
  refine ⟨?_, trivial⟩
  all_goals exact rfl
noncomputable def F165 : Fun := ⟨[.pair (.int .i64) (.pair (.int .i64) (.pair (.int .i64) (.pair (.int .i64) (.int .i64)))), .slice (.int .i64)], [.pure (.int .i64)], fun x => (fun (_ : Key) (l : List Int) => smallL l) x.1 x.2.1, fun x => (markWithF x.1 x.2.1, ())⟩
set_option maxRecDepth 100000 in
/-- loop.example.g00597.spec.MarkWith -/
theorem F165_ok : Meets Try.prog 165 F165 := by
  refine meets_of_vc (C := mkC 13 [4] [0,1,2,4] [⟨182, _, F182_ok⟩]) (mkC_ok _ _ _ _) (fnOf_ok _) Try.func165 rfl rfl rfl (by decide) rfl ?_
  rintro ⟨a0, a1, _⟩ hwf hpre ⟨P, C, B, X, w0, M0⟩ hG rfl rfl
  show Vc _ _ [(0, ⟨0, 0, .c (.pure (.pair (.int .i64) (.pair (.int .i64) (.pair (.int .i64) (.pair (.int .i64) (.int .i64)))))) a0⟩), (1, ⟨0, 0, .c (.pure (.slice (.int .i64))) a1⟩)] _
  have hp : List.length a1 ≤ 1000000000 := hpre
  refine Vc.seq ?_
  refine Vc.region hG rfl ?_ ?_
  · trivial
  refine Vc.seq ?_
  refine Vc.regionD mixed hG rfl (by kernel_rfl) ?_ ?_
  · refine ⟨?_, ?_⟩
    · show 1 + List.length a1 ≤ maxApp
      unfold maxApp; omega
    · show List.length a1 + 1 ≤ 1000000001
      omega
  refine Vc.ret ?_
  refine ⟨?_, trivial⟩
  all_goals exact rfl
noncomputable def F130 : Fun := ⟨[.slice (.pair (.int .i64) (.pair (.int .i64) (.pair (.int .i64) (.pair (.int .i64) (.int .i64))))), .int .i64, .slice (.int .i64), .int .i64], [.pure (.bool)], fun x => (fun (_ : List Key) (_ : Int) (l : List Int) (_ : Int) => smallL l) x.1 x.2.1 x.2.2.1 x.2.2.2.1, fun x => (checkMarkF x.1 x.2.1 x.2.2.1 x.2.2.2.1, ())⟩
set_option maxRecDepth 100000 in
/-- loop.example.g00597.spec.CheckMark -/
theorem F130_ok : Meets Try.prog 130 F130 := by
  refine meets_of_vc (C := mkC 25 [8] [0,1,2,3,8,9] [⟨164, _, F164_ok⟩, ⟨165, _, F165_ok⟩]) (mkC_ok _ _ _ _) (fnOf_ok _) Try.func130 rfl rfl rfl (by decide) rfl ?_
  rintro ⟨a0, (a1 : Int), a2, (a3 : Int), _⟩ hwf hpre ⟨P, C, B, X, w0, M0⟩ hG rfl rfl
  show Vc _ _ [(0, ⟨0, 0, .c (.pure (.slice (.pair (.int .i64) (.pair (.int .i64) (.pair (.int .i64) (.pair (.int .i64) (.int .i64))))))) a0⟩), (1, ⟨0, 0, .c (.pure (.int .i64)) a1⟩), (2, ⟨0, 0, .c (.pure (.slice (.int .i64))) a2⟩), (3, ⟨0, 0, .c (.pure (.int .i64)) a3⟩)] _
  have hp : smallL a2 := hpre
  refine Vc.seq ?_
  refine Vc.region hG rfl ?_ ?_
  · trivial
  refine Vc.seq ?_
  refine Vc.region hG rfl ?_ ?_
  · trivial
  refine Vc.seq ?_
  refine Vc.region hG rfl ?_ ?_
  · exact ⟨fun h => findRange (show ¬ keyI a0 a1 < 0 from by have : keyI a0 a1 ≥ 0 := of_decide_eq_true h; omega), fun _ => hp⟩
  refine Vc.ret ?_
  refine ⟨?_, trivial⟩
  all_goals exact rfl
noncomputable def F132 : Fun := ⟨[.slice (.pair (.int .i64) (.pair (.int .i64) (.pair (.int .i64) (.pair (.int .i64) (.int .i64))))), .int .i64], [.pure (.int .i64)], fun _ => True, fun x => (ownerF x.1 x.2.1, ())⟩
set_option maxRecDepth 100000 in
/-- loop.example.g00597.spec.OwnerOf -/
theorem F132_ok : Meets Try.prog 132 F132 := by
  refine meets_of_vc (C := mkC 16 [4] [0,1,4,5,10] [⟨164, _, F164_ok⟩]) (mkC_ok _ _ _ _) (fnOf_ok _) Try.func132 rfl rfl rfl (by decide) rfl ?_
  rintro ⟨a0, (a1 : Int), _⟩ hwf hpre ⟨P, C, B, X, w0, M0⟩ hG rfl rfl
  show Vc _ _ [(0, ⟨0, 0, .c (.pure (.slice (.pair (.int .i64) (.pair (.int .i64) (.pair (.int .i64) (.pair (.int .i64) (.int .i64))))))) a0⟩), (1, ⟨0, 0, .c (.pure (.int .i64)) a1⟩)] _
  refine Vc.seq ?_
  refine Vc.region hG rfl ?_ ?_
  · trivial
  refine Vc.seq ?_
  refine Vc.region hG rfl ?_ ?_
  · trivial
  refine Vc.seq ?_
  refine Vc.seq ?_
  refine Vc.region hG rfl ?_ ?_
  · trivial
  refine Vc.cond rfl (fun h0 => ?_) (fun h0 => ?_)
  · skip
    have g0 : keyI a0 a1 < 0 := of_decide_eq_true h0
    refine Vc.seq ?_
    refine Vc.region hG rfl ?_ ?_
    · trivial
    refine Vc.ret ?_
    refine ⟨?_, trivial⟩
    exact owner0 g0
  · skip
    have g0 : ¬ keyI a0 a1 < 0 := of_decide_eq_false h0
    refine Vc.skip ?_
    refine Vc.seq ?_
    refine Vc.region hG rfl ?_ ?_
    · exact findRange g0
    refine Vc.ret ?_
    refine ⟨?_, trivial⟩
    exact owner1 g0
noncomputable def F84 : Fun := ⟨[.slice (.pair (.int .i64) (.pair (.int .i64) (.pair (.int .i64) (.pair (.int .i64) (.int .i64))))), .pair (.int .i64) (.pair (.int .i64) (.pair (.int .i64) (.pair (.int .i64) (.pair (.int .i64) (.pair (.int .i64) (.int .i64))))))], [.pure (.bool)], fun _ => True, fun x => (checkCertF x.1 x.2.1, ())⟩
set_option maxRecDepth 100000 in
/-- loop.example.g00597.spec.CheckCert -/
theorem F84_ok : Meets Try.prog 84 F84 := by
  refine meets_of_vc (C := mkC 26 [4] [0,1,3,4] [⟨129, _, F129_ok⟩, ⟨131, _, F131_ok⟩, ⟨130, _, F130_ok⟩, ⟨132, _, F132_ok⟩]) (mkC_ok _ _ _ _) (fnOf_ok _) Try.func84 rfl rfl rfl (by decide) rfl ?_
  rintro ⟨a0, a1, _⟩ hwf hpre ⟨P, C, B, X, w0, M0⟩ hG rfl rfl
  show Vc _ _ [(0, ⟨0, 0, .c (.pure (.slice (.pair (.int .i64) (.pair (.int .i64) (.pair (.int .i64) (.pair (.int .i64) (.int .i64))))))) a0⟩), (1, ⟨0, 0, .c (.pure (.pair (.int .i64) (.pair (.int .i64) (.pair (.int .i64) (.pair (.int .i64) (.pair (.int .i64) (.pair (.int .i64) (.int .i64)))))))) a1⟩)] _
  refine Vc.seq ?_
  refine Vc.region hG rfl ?_ ?_
  · trivial
  refine Vc.seq ?_
  refine Vc.regionD mixed hG rfl (by kernel_rfl) ?_ ?_
  · exact ⟨trivial, fun _ => trivial, fun _ => smallLit (n := 7) rfl (by decide), fun _ => trivial⟩
  refine Vc.ret ?_
  refine ⟨?_, trivial⟩
  all_goals exact rfl
noncomputable def F40 : Fun := ⟨[.pair (.slice (.pair (.int .i64) (.pair (.int .i64) (.pair (.int .i64) (.pair (.int .i64) (.int .i64)))))) (.pair (.slice (.pair (.int .i64) (.pair (.int .i64) (.int .i64)))) (.pair (.slice (.pair (.int .i64) (.pair (.int .i64) (.pair (.int .i64) (.int .i64))))) (.pair (.int .i64) (.int .i64)))), .slice (.pair (.int .i64) (.pair (.slice (.int .i64)) (.int .i64))), .pair (.int .i64) (.pair (.int .i64) (.pair (.int .i64) (.pair (.int .i64) (.pair (.int .i64) (.pair (.int .i64) (.pair (.int .i64) (.pair (.int .i64) (.int .i64))))))))], [.pure (.pair (.int .i64) (.pair (.int .i64) (.pair (.int .i64) (.pair (.int .i64) (.pair (.int .i64) (.pair (.int .i64) (.int .i64))))))), .pure (.bool)], fun _ => True, fun x => (((fun a0 a1 a2 => certForF a0.1 a1 a2) x.1 x.2.1 x.2.2.1).1, ((fun a0 a1 a2 => certForF a0.1 a1 a2) x.1 x.2.1 x.2.2.1).2, ())⟩
set_option maxRecDepth 100000 in
/-- loop.example.g00597.spec.CertFor -/
theorem F40_ok : Meets Try.prog 40 F40 := by
  refine meets_of_vc (C := mkC 56 [6, 7] [0,1,2,3,5,6,7,8,9,10,11,12,17,48,53] [⟨83, _, F83_ok⟩, ⟨84, _, F84_ok⟩]) (mkC_ok _ _ _ _) (fnOf_ok _) Try.func40 rfl rfl rfl (by decide) rfl ?_
  rintro ⟨a0, a1, a2, _⟩ hwf hpre ⟨P, C, B, X, w0, M0⟩ hG rfl rfl
  show Vc _ _ [(0, ⟨0, 0, .c (.pure (.pair (.slice (.pair (.int .i64) (.pair (.int .i64) (.pair (.int .i64) (.pair (.int .i64) (.int .i64)))))) (.pair (.slice (.pair (.int .i64) (.pair (.int .i64) (.int .i64)))) (.pair (.slice (.pair (.int .i64) (.pair (.int .i64) (.pair (.int .i64) (.int .i64))))) (.pair (.int .i64) (.int .i64)))))) a0⟩), (1, ⟨0, 0, .c (.pure (.slice (.pair (.int .i64) (.pair (.slice (.int .i64)) (.int .i64))))) a1⟩), (2, ⟨0, 0, .c (.pure (.pair (.int .i64) (.pair (.int .i64) (.pair (.int .i64) (.pair (.int .i64) (.pair (.int .i64) (.pair (.int .i64) (.pair (.int .i64) (.pair (.int .i64) (.int .i64)))))))))) a2⟩)] _
  have hb : List.length a1 ≤ bigLen := hwf.2.1.1
  refine Vc.seq ?_
  refine Vc.region hG rfl ?_ ?_
  · trivial
  refine Vc.seq ?_
  refine Vc.region hG rfl ?_ ?_
  · trivial
  refine Vc.seq ?_
  refine Vc.region hG rfl ?_ ?_
  · trivial
  refine Vc.seq ?_
  refine Vc.seq ?_
  refine Vc.region hG rfl ?_ ?_
  · trivial
  refine Vc.block ?_
  -- slots [8, 9, 10]; frame [0, 1, 2, 3, 5, 6, 7, 53]
  refine Vc.loopF [(8, true, .pure (.pair (.int .i64) (.pair (.int .i64) (.pair (.int .i64) (.pair (.int .i64) (.pair (.int .i64) (.pair (.int .i64) (.int .i64)))))))), (9, false, .pure (.int .i64)), (10, false, .pure (.int .i64))] [0, 1, 2, 3, 5, 6, 7, 53] (fun v => cfInv a0.1 a2 a1 v.1 v.2.1 v.2.2.1) (fun v => ((List.length a1 : Int) - v.2.2.1).toNat) rfl ?_ ?_
  · exact cfStart
  rintro ⟨c, (n : Int), (i : Int), _⟩ hI
  have hI : cfInv a0.1 a2 a1 c n i := hI
  refine Vc.seq ?_
  refine Vc.seq ?_
  refine Vc.region hG rfl ?_ ?_
  · trivial
  refine Vc.cond rfl (fun h0 => ?_) (fun h0 => ?_)
  · skip
    have hl : i < (List.length a1 : Int) := of_decide_eq_true h0
    refine Vc.skip ?_
    refine Vc.seq ?_
    refine Vc.block ?_
    refine Vc.seq ?_
    refine Vc.region hG rfl ?_ ?_
    · exact ⟨cfRange hI hl, trivial⟩
    refine Vc.seq ?_
    refine Vc.region hG rfl ?_ ?_
    · repeat' (first | exact trivial | refine And.intro ?_ ?_ | intro _)
    refine Vc.cond rfl (fun h1 => ?_) (fun h1 => ?_)
    · skip
      have g1 : cfTest a0.1 a2 (List.getD a1 i.toNat (dflt (.pair (.int .i64) (.pair (.slice (.int .i64)) (.int .i64))))) = true := h1
      refine Vc.seq ?_
      refine Vc.region hG rfl ?_ ?_
      · trivial
      refine Vc.region hG rfl ?_ ?_
      · trivial
      refine Vc.region hG rfl ?_ ?_
      · trivial
      refine ⟨rfl, ?_⟩
      first | exact cfGo1 hI hl hb g1 | exact cfGo0 hI hl hb g1
    · skip
      have g1 : cfTest a0.1 a2 (List.getD a1 i.toNat (dflt (.pair (.int .i64) (.pair (.slice (.int .i64)) (.int .i64))))) = false := h1
      refine Vc.skip ?_
      refine Vc.region hG rfl ?_ ?_
      · trivial
      refine ⟨rfl, ?_⟩
      first | exact cfGo1 hI hl hb g1 | exact cfGo0 hI hl hb g1
  · skip
    have hl : ¬ i < (List.length a1 : Int) := of_decide_eq_false h0
    refine Vc.exit ?_
    refine Vc.seq ?_
    refine Vc.seq ?_
    refine Vc.region hG rfl ?_ ?_
    · trivial
    refine Vc.cond rfl (fun h2 => ?_) (fun h2 => ?_)
    · skip
      have g2 : (n != 1) = true := h2
      refine Vc.seq ?_
      refine Vc.region hG rfl ?_ ?_
      · trivial
      refine Vc.ret ?_
      have e := cfEnd0 hI hl g2
      refine ⟨?_, ?_, trivial⟩
      · exact (congrArg Prod.fst e).symm
      · exact (congrArg Prod.snd e).symm
    · skip
      have g2 : (n != 1) = false := h2
      refine Vc.skip ?_
      refine Vc.seq ?_
      refine Vc.region hG rfl ?_ ?_
      · trivial
      refine Vc.ret ?_
      have e := cfEnd1 hI hl g2
      refine ⟨?_, ?_, trivial⟩
      · exact (congrArg Prod.fst e).symm
      · exact (congrArg Prod.snd e).symm
noncomputable def F104 : Fun := ⟨[.int .i64, .int .i64, .int .i64], [.pure (.bool)], fun _ => True, fun x => (inRangeF x.1 x.2.1 x.2.2.1, ())⟩
set_option maxRecDepth 100000 in
/-- loop.example.g00597.impl.InRange -/
theorem F104_ok : Meets Try.prog 104 F104 := by
  refine meets_of_vc (C := mkC 15 [6] [0,1,2,6] []) (mkC_ok _ _ _ _) (fnOf_ok _) Try.func104 rfl rfl rfl (by decide) rfl ?_
  rintro ⟨(a0 : Int), (a1 : Int), (a2 : Int), _⟩ hwf hpre ⟨P, C, B, X, w0, M0⟩ hG rfl rfl
  show Vc _ _ [(0, ⟨0, 0, .c (.pure (.int .i64)) a0⟩), (1, ⟨0, 0, .c (.pure (.int .i64)) a1⟩), (2, ⟨0, 0, .c (.pure (.int .i64)) a2⟩)] _
  refine Vc.seq ?_
  refine Vc.region hG rfl ?_ ?_
  · trivial
  refine Vc.seq ?_
  refine Vc.region hG rfl ?_ ?_
  · trivial
  refine Vc.ret ?_
  refine ⟨?_, trivial⟩
  all_goals exact rfl
noncomputable def F135 : Fun := ⟨[.pair (.int .i64) (.pair (.slice (.int .i64)) (.int .i64))], [.pure (.int .i64)], fun _ => True, fun x => (kindF x.1, ())⟩
set_option maxRecDepth 100000 in
/-- loop.example.g00597.impl.KindOfPiece -/
theorem F135_ok : Meets Try.prog 135 F135 := by
  refine meets_of_vc (C := mkC 32 [2] [0,1,2,27] [⟨104, _, F104_ok⟩]) (mkC_ok _ _ _ _) (fnOf_ok _) Try.func135 rfl rfl rfl (by decide) rfl ?_
  rintro ⟨a0, _⟩ hwf hpre ⟨P, C, B, X, w0, M0⟩ hG rfl rfl
  show Vc _ _ [(0, ⟨0, 0, .c (.pure (.pair (.int .i64) (.pair (.slice (.int .i64)) (.int .i64)))) a0⟩)] _
  refine Vc.seq ?_
  refine Vc.region hG rfl ?_ ?_
  · trivial
  refine Vc.seq ?_
  refine Vc.seq ?_
  refine Vc.regionD mixed hG rfl (by kernel_rfl) ?_ ?_
  · exact ⟨fun h => kLen h, fun _ => trivial, fun h => kLen1 h, fun h => kIdx h⟩
  refine Vc.cond rfl (fun h0 => ?_) (fun h0 => ?_)
  · skip
    have g0 : pick2 (kb1 a0) true (kb2 a0) = true := h0
    refine Vc.seq ?_
    refine Vc.region hG rfl ?_ ?_
    · trivial
    refine Vc.ret ?_
    refine ⟨?_, trivial⟩
    exact kindI g0
  · skip
    have g0 : pick2 (kb1 a0) true (kb2 a0) = false := h0
    refine Vc.skip ?_
    refine Vc.seq ?_
    refine Vc.region hG rfl ?_ ?_
    · exact kLen1 (orF g0).1
    refine Vc.ret ?_
    refine ⟨?_, trivial⟩
    exact kind2 (orF g0).1 (orF g0).2
noncomputable def F87 : Fun := ⟨[.pair (.int .i64) (.pair (.slice (.int .i64)) (.int .i64))], [.pure (.pair (.int .i64) (.pair (.int .i64) (.pair (.int .i64) (.pair (.int .i64) (.pair (.int .i64) (.pair (.int .i64) (.int .i64))))))), .pure (.bool)], fun _ => True, fun x => ((pieceCertF x.1).1, (pieceCertF x.1).2, ())⟩
set_option maxRecDepth 100000 in
/-- loop.example.g00597.impl.PieceCert -/
theorem F87_ok : Meets Try.prog 87 F87 := by
  refine meets_of_vc (C := mkC 41 [2, 3] [0,1,2,3,4,16] [⟨135, _, F135_ok⟩]) (mkC_ok _ _ _ _) (fnOf_ok _) Try.func87 rfl rfl rfl (by decide) rfl ?_
  rintro ⟨a0, _⟩ hwf hpre ⟨P, C, B, X, w0, M0⟩ hG rfl rfl
  show Vc _ _ [(0, ⟨0, 0, .c (.pure (.pair (.int .i64) (.pair (.slice (.int .i64)) (.int .i64)))) a0⟩)] _
  refine Vc.seq ?_
  refine Vc.region hG rfl ?_ ?_
  · trivial
  refine Vc.seq ?_
  refine Vc.seq ?_
  refine Vc.regionD mixed hG rfl (by kernel_rfl) ?_ ?_
  · exact ⟨trivial, fun h => seven (kind7 h) 6 (by decide)⟩
  refine Vc.cond rfl (fun h0 => ?_) (fun h0 => ?_)
  · skip
    have g0 : pcBad a0 = true := h0
    refine Vc.seq ?_
    refine Vc.region hG rfl ?_ ?_
    · trivial
    refine Vc.ret ?_
    have e := pc0 g0
    refine ⟨?_, ?_, trivial⟩
    · exact (congrArg Prod.fst e).symm
    · exact (congrArg Prod.snd e).symm
  · skip
    have g0 : pcBad a0 = false := h0
    refine Vc.skip ?_
    refine Vc.seq ?_
    refine Vc.region hG rfl ?_ ?_
    · trivial
    refine Vc.seq ?_
    refine Vc.regionD mixed hG rfl (by kernel_rfl) ?_ ?_
    · exact ⟨seven (pc7 g0) 1 (by decide), seven (pc7 g0) 2 (by decide), seven (pc7 g0) 3 (by decide), seven (pc7 g0) 4 (by decide), seven (pc7 g0) 5 (by decide), seven (pc7 g0) 6 (by decide)⟩
    refine Vc.ret ?_
    have e := pc1 g0
    refine ⟨?_, ?_, trivial⟩
    · exact (congrArg Prod.fst e).symm
    · exact (congrArg Prod.snd e).symm
noncomputable def F171 : Fun := ⟨[.pair (.int .i64) (.pair (.int .i64) (.pair (.int .i64) (.pair (.int .i64) (.pair (.int .i64) (.pair (.int .i64) (.int .i64))))))], [.pure (.pair (.int .i64) (.int .i64))], fun _ => True, fun x => (certSpanF x.1, ())⟩
set_option maxRecDepth 100000 in
/-- loop.example.g00597.impl.CertSpan -/
theorem F171_ok : Meets Try.prog 171 F171 := by
  refine meets_of_vc (C := mkC 8 [2] [0,1,2] []) (mkC_ok _ _ _ _) (fnOf_ok _) Try.func171 rfl rfl rfl (by decide) rfl ?_
  rintro ⟨a0, _⟩ hwf hpre ⟨P, C, B, X, w0, M0⟩ hG rfl rfl
  show Vc _ _ [(0, ⟨0, 0, .c (.pure (.pair (.int .i64) (.pair (.int .i64) (.pair (.int .i64) (.pair (.int .i64) (.pair (.int .i64) (.pair (.int .i64) (.int .i64)))))))) a0⟩)] _
  refine Vc.seq ?_
  refine Vc.region hG rfl ?_ ?_
  · trivial
  refine Vc.seq ?_
  refine Vc.region hG rfl ?_ ?_
  · trivial
  refine Vc.ret ?_
  refine ⟨?_, trivial⟩
  all_goals exact rfl
noncomputable def F105 : Fun := ⟨[.int .i64], [.pure (.bool)], fun _ => True, fun x => (isTimeF x.1, ())⟩
set_option maxRecDepth 100000 in
/-- loop.example.g00597.impl.isTime -/
theorem F105_ok : Meets Try.prog 105 F105 := by
  refine meets_of_vc (C := mkC 5 [2] [0,2] [⟨104, _, F104_ok⟩]) (mkC_ok _ _ _ _) (fnOf_ok _) Try.func105 rfl rfl rfl (by decide) rfl ?_
  rintro ⟨(a0 : Int), _⟩ hwf hpre ⟨P, C, B, X, w0, M0⟩ hG rfl rfl
  show Vc _ _ [(0, ⟨0, 0, .c (.pure (.int .i64)) a0⟩)] _
  refine Vc.seq ?_
  refine Vc.region hG rfl ?_ ?_
  · trivial
  refine Vc.seq ?_
  refine Vc.region hG rfl ?_ ?_
  · trivial
  refine Vc.ret ?_
  refine ⟨?_, trivial⟩
  all_goals exact rfl
noncomputable def F170 : Fun := ⟨[.pair (.int .i64) (.int .i64)], [.pure (.bool)], fun _ => True, fun x => (isSpanF x.1, ())⟩
set_option maxRecDepth 100000 in
/-- loop.example.g00597.impl.IsSpan -/
theorem F170_ok : Meets Try.prog 170 F170 := by
  refine meets_of_vc (C := mkC 18 [2] [0,1,2] [⟨105, _, F105_ok⟩]) (mkC_ok _ _ _ _) (fnOf_ok _) Try.func170 rfl rfl rfl (by decide) rfl ?_
  rintro ⟨a0, _⟩ hwf hpre ⟨P, C, B, X, w0, M0⟩ hG rfl rfl
  show Vc _ _ [(0, ⟨0, 0, .c (.pure (.pair (.int .i64) (.int .i64))) a0⟩)] _
  refine Vc.seq ?_
  refine Vc.region hG rfl ?_ ?_
  · trivial
  refine Vc.seq ?_
  refine Vc.region hG rfl ?_ ?_
  · repeat' (first | exact trivial | refine And.intro ?_ ?_ | intro _)
  refine Vc.ret ?_
  refine ⟨?_, trivial⟩
  all_goals exact rfl
noncomputable def F136 : Fun := ⟨[.pair (.int .i64) (.pair (.int .i64) (.pair (.int .i64) (.pair (.int .i64) (.pair (.int .i64) (.pair (.int .i64) (.int .i64))))))], [.pure (.bool)], fun _ => True, fun x => (isCertF x.1, ())⟩
set_option maxRecDepth 100000 in
/-- loop.example.g00597.impl.IsCert -/
theorem F136_ok : Meets Try.prog 136 F136 := by
  refine meets_of_vc (C := mkC 33 [2] [0,1,2] [⟨104, _, F104_ok⟩, ⟨171, _, F171_ok⟩, ⟨170, _, F170_ok⟩]) (mkC_ok _ _ _ _) (fnOf_ok _) Try.func136 rfl rfl rfl (by decide) rfl ?_
  rintro ⟨a0, _⟩ hwf hpre ⟨P, C, B, X, w0, M0⟩ hG rfl rfl
  show Vc _ _ [(0, ⟨0, 0, .c (.pure (.pair (.int .i64) (.pair (.int .i64) (.pair (.int .i64) (.pair (.int .i64) (.pair (.int .i64) (.pair (.int .i64) (.int .i64)))))))) a0⟩)] _
  refine Vc.seq ?_
  refine Vc.region hG rfl ?_ ?_
  · trivial
  refine Vc.seq ?_
  refine Vc.region hG rfl ?_ ?_
  · repeat' (first | exact trivial | refine And.intro ?_ ?_ | intro _)
  refine Vc.ret ?_
  refine ⟨?_, trivial⟩
  all_goals exact rfl
noncomputable def F138 : Fun := ⟨[.pair (.int .i64) (.pair (.int .i64) (.pair (.int .i64) (.pair (.int .i64) (.pair (.int .i64) (.pair (.int .i64) (.int .i64))))))], [.own (.pure (.int .i64))], fun _ => True, fun x => (certIntsF x.1, ())⟩
set_option maxRecDepth 100000 in
/-- loop.example.g00597.impl.CertInts -/
theorem F138_ok : Meets Try.prog 138 F138 := by
  refine meets_of_vc (C := mkC 16 [2] [0,1,2] []) (mkC_ok _ _ _ _) (fnOf_ok _) Try.func138 rfl rfl rfl (by decide) rfl ?_
  rintro ⟨a0, _⟩ hwf hpre ⟨P, C, B, X, w0, M0⟩ hG rfl rfl
  show Vc _ _ [(0, ⟨0, 0, .c (.pure (.pair (.int .i64) (.pair (.int .i64) (.pair (.int .i64) (.pair (.int .i64) (.pair (.int .i64) (.pair (.int .i64) (.int .i64)))))))) a0⟩)] _
  refine Vc.seq ?_
  refine Vc.region hG rfl ?_ ?_
  · trivial
  refine Vc.seq ?_
  refine Vc.region hG rfl ?_ ?_
  · trivial
  refine Vc.ret ?_
  refine ⟨?_, trivial⟩
  all_goals exact rfl
noncomputable def F172 : Fun := ⟨[.slice (.pair (.int .i64) (.pair (.int .i64) (.pair (.int .i64) (.pair (.int .i64) (.int .i64))))), .int .i64], [.pure (.int .i64)], fun _ => True, fun x => ((fun a0 a1 => findI (fun x => x.1 == a1) a0) x.1 x.2.1, ())⟩
set_option maxRecDepth 100000 in
/-- loop.example.g00597.impl.FindKey -/
theorem F172_ok : Meets Try.prog 172 F172 := by
  refine meets_of_vc (C := mkC 20 [4] [0,1,4,5,6,7,8,9,10,17] []) (mkC_ok _ _ _ _) (fnOf_ok _) Try.func172 rfl rfl rfl (by decide) rfl ?_
  rintro ⟨a0, (a1 : Int), _⟩ hwf hpre ⟨P, C, B, X, w0, M0⟩ hG rfl rfl
  show Vc _ _ [(0, ⟨0, 0, .c (.pure (.slice (.pair (.int .i64) (.pair (.int .i64) (.pair (.int .i64) (.pair (.int .i64) (.int .i64))))))) a0⟩), (1, ⟨0, 0, .c (.pure (.int .i64)) a1⟩)] _
  have hb : List.length a0 ≤ bigLen := hwf.1.1
  refine Vc.seq ?_
  refine Vc.region hG rfl ?_ ?_
  · trivial
  refine Vc.seq ?_
  refine Vc.seq ?_
  refine Vc.region hG rfl ?_ ?_
  · trivial
  refine Vc.block ?_
  -- slots [9]; frame [0, 1, 7, 8]
  refine Vc.loopF [(9, false, .pure (.int .i64))] [0, 1, 7, 8] (fun v => fInv (fun x => x.1 == a1) a0 v.1) (fun v => ((List.length a0 : Int) - v.1).toNat) rfl ?_ ?_
  · exact fStart
  rintro ⟨(i : Int), _⟩ hI
  have hI : fInv (fun x => x.1 == a1) a0 i := hI
  refine Vc.seq ?_
  refine Vc.region hG rfl ?_ ?_
  · trivial
  refine Vc.seq ?_
  refine Vc.cond rfl (fun h0 => ?_) (fun h0 => ?_)
  · skip
    have hl : i < (List.length a0 : Int) := of_decide_eq_true h0
    refine Vc.skip ?_
    refine Vc.seq ?_
    refine Vc.block ?_
    refine Vc.seq ?_
    refine Vc.region hG rfl ?_ ?_
    · exact fRange hI hl
    refine Vc.seq ?_
    refine Vc.region hG rfl ?_ ?_
    · trivial
    refine Vc.cond rfl (fun h1 => ?_) (fun h1 => ?_)
    · skip
      have g1 : (fun x => x.1 == a1) (List.getD a0 i.toNat (dflt (.pair (.int .i64) (.pair (.int .i64) (.pair (.int .i64) (.pair (.int .i64) (.int .i64))))))) = true := h1
      refine Vc.seq ?_
      refine Vc.region hG rfl ?_ ?_
      · trivial
      refine Vc.ret ?_
      refine ⟨?_, trivial⟩
      exact fHit hI hl g1
    · skip
      have g1 : (fun x => x.1 == a1) (List.getD a0 i.toNat (dflt (.pair (.int .i64) (.pair (.int .i64) (.pair (.int .i64) (.pair (.int .i64) (.int .i64))))))) = false := h1
      refine Vc.skip ?_
      refine Vc.region hG rfl ?_ ?_
      · trivial
      refine ⟨rfl, ?_⟩
      exact fStep hI hl hb g1
  · skip
    have hl : ¬ i < (List.length a0 : Int) := of_decide_eq_false h0
    refine Vc.exit ?_
    refine Vc.seq ?_
    refine Vc.region hG rfl ?_ ?_
    · trivial
    refine Vc.ret ?_
    refine ⟨?_, trivial⟩
    exact fEnd hI hl
noncomputable def F178 : Fun := ⟨[.int .i64, .int .i64], [.pure (.int .i64)], fun _ => True, fun x => (modF x.1 x.2.1, ())⟩
set_option maxRecDepth 100000 in
/-- loop.example.g00597.impl.Mod -/
theorem F178_ok : Meets Try.prog 178 F178 := by
  refine meets_of_vc (C := mkC 15 [4] [0,1,4,7] [⟨104, _, F104_ok⟩]) (mkC_ok _ _ _ _) (fnOf_ok _) Try.func178 rfl rfl rfl (by decide) rfl ?_
  rintro ⟨(a0 : Int), (a1 : Int), _⟩ hwf hpre ⟨P, C, B, X, w0, M0⟩ hG rfl rfl
  show Vc _ _ [(0, ⟨0, 0, .c (.pure (.int .i64)) a0⟩), (1, ⟨0, 0, .c (.pure (.int .i64)) a1⟩)] _
  refine Vc.seq ?_
  refine Vc.region hG rfl ?_ ?_
  · trivial
  refine Vc.seq ?_
  refine Vc.seq ?_
  refine Vc.region hG rfl ?_ ?_
  · trivial
  refine Vc.cond rfl (fun h0 => ?_) (fun h0 => ?_)
  · skip
    have g0 : (!(inRangeF a1 1 1000000000000)) = true := h0
    refine Vc.seq ?_
    refine Vc.region hG rfl ?_ ?_
    · trivial
    refine Vc.ret ?_
    refine ⟨?_, trivial⟩
    show (0 : Int) = modF a0 a1
    unfold modF
    rw [if_neg (by simpa using g0)]
  · skip
    have g0 : (!(inRangeF a1 1 1000000000000)) = false := h0
    refine Vc.skip ?_
    refine Vc.seq ?_
    refine Vc.region hG rfl ?_ ?_
    · exact ⟨inR_pos h0, inR_pos h0⟩
    refine Vc.ret ?_
    refine ⟨?_, trivial⟩
    show _ = modF a0 a1
    unfold modF
    rw [if_pos (by simpa using g0)]
noncomputable def F159 : Fun := ⟨[.slice (.int .i64)], [.pure (.int .i64)], fun _ => True, fun x => (hashF x.1, ())⟩
set_option maxRecDepth 100000 in
/-- loop.example.g00597.impl.Hash -/
theorem F159_ok : Meets Try.prog 159 F159 := by
  refine meets_of_vc (C := mkC 21 [2] [0,2,3,5,6,7,8,9] [⟨178, _, F178_ok⟩]) (mkC_ok _ _ _ _) (fnOf_ok _) Try.func159 rfl rfl rfl (by decide) rfl ?_
  rintro ⟨a0, _⟩ hwf hpre ⟨P, C, B, X, w0, M0⟩ hG rfl rfl
  show Vc _ _ [(0, ⟨0, 0, .c (.pure (.slice (.int .i64))) a0⟩)] _
  have hb : List.length a0 ≤ bigLen := hwf.1.1
  refine Vc.seq ?_
  refine Vc.region hG rfl ?_ ?_
  · trivial
  refine Vc.seq ?_
  refine Vc.region hG rfl ?_ ?_
  · trivial
  refine Vc.seq ?_
  refine Vc.seq ?_
  refine Vc.region hG rfl ?_ ?_
  · trivial
  refine Vc.block ?_
  -- slots [3, 8]; frame [0, 2, 6, 7]
  refine Vc.loopF [(3, false, .pure (.int .i64)), (8, false, .pure (.int .i64))] [0, 2, 6, 7] (fun v => foInv (hstep) (11) a0 v.1 v.2.1) (fun v => ((List.length a0 : Int) - v.2.1).toNat) rfl ?_ ?_
  · exact foStart
  rintro ⟨acc, (i : Int), _⟩ hI
  have hI : foInv (hstep) (11) a0 acc i := hI
  refine Vc.seq ?_
  refine Vc.region hG rfl ?_ ?_
  · trivial
  refine Vc.seq ?_
  refine Vc.cond rfl (fun h0 => ?_) (fun h0 => ?_)
  · skip
    have hl : i < (List.length a0 : Int) := of_decide_eq_true h0
    refine Vc.skip ?_
    refine Vc.seq ?_
    refine Vc.block ?_
    refine Vc.seq ?_
    refine Vc.region hG rfl ?_ ?_
    · exact foRange hI hl
    refine Vc.region hG rfl ?_ ?_
    · exact ⟨trivial, (show (2147483647 : Int) ≠ 0 by decide)⟩
    refine Vc.region hG rfl ?_ ?_
    · trivial
    refine ⟨rfl, ?_⟩
    exact foStep hI hl hb
  · skip
    have hl : ¬ i < (List.length a0 : Int) := of_decide_eq_false h0
    refine Vc.exit ?_
    refine Vc.seq ?_
    refine Vc.region hG rfl ?_ ?_
    · trivial
    refine Vc.ret ?_
    refine ⟨?_, trivial⟩
    exact foEnd hI hl
noncomputable def F188 : Fun := ⟨[.int .i64, .slice (.int .i64)], [.pure (.int .i64)], fun x => (fun (_ : Int) (l : List Int) => l.length ≤ 1000000001) x.1 x.2.1, fun x => (keyedF x.1 x.2.1, ())⟩
set_option maxRecDepth 100000 in
/-- loop.example.g00597.impl.KeyedHash -/
theorem F188_ok : Meets Try.prog 188 F188 := by
  refine meets_of_vc (C := mkC 13 [4] [0,1,4] [⟨159, _, F159_ok⟩]) (mkC_ok _ _ _ _) (fnOf_ok _) Try.func188 rfl rfl rfl (by decide) rfl ?_
  rintro ⟨(a0 : Int), a1, _⟩ hwf hpre ⟨P, C, B, X, w0, M0⟩ hG rfl rfl
  show Vc _ _ [(0, ⟨0, 0, .c (.pure (.int .i64)) a0⟩), (1, ⟨0, 0, .c (.pure (.slice (.int .i64))) a1⟩)] _
  have hp : List.length a1 ≤ 1000000001 := hpre
  refine Vc.seq ?_
  refine Vc.region hG rfl ?_ ?_
  · trivial
  refine Vc.seq ?_
  refine Vc.region hG rfl ?_ ?_
  · refine ⟨?_, ?_, trivial⟩
    · show 1 + List.length a1 ≤ maxApp
      unfold maxApp; omega
    · show (List.length a1 + 1) + 1 ≤ maxApp
      unfold maxApp; omega
  refine Vc.ret ?_
  refine ⟨?_, trivial⟩
  all_goals exact rfl
noncomputable def F183 : Fun := ⟨[.pair (.int .i64) (.pair (.int .i64) (.pair (.int .i64) (.pair (.int .i64) (.int .i64)))), .slice (.int .i64)], [.pure (.int .i64)], fun x => (fun (_ : Key) (l : List Int) => smallL l) x.1 x.2.1, fun x => (markWithF x.1 x.2.1, ())⟩
set_option maxRecDepth 100000 in
/-- loop.example.g00597.impl.MarkWith -/
theorem F183_ok : Meets Try.prog 183 F183 := by
  refine meets_of_vc (C := mkC 13 [4] [0,1,2,4] [⟨188, _, F188_ok⟩]) (mkC_ok _ _ _ _) (fnOf_ok _) Try.func183 rfl rfl rfl (by decide) rfl ?_
  rintro ⟨a0, a1, _⟩ hwf hpre ⟨P, C, B, X, w0, M0⟩ hG rfl rfl
  show Vc _ _ [(0, ⟨0, 0, .c (.pure (.pair (.int .i64) (.pair (.int .i64) (.pair (.int .i64) (.pair (.int .i64) (.int .i64)))))) a0⟩), (1, ⟨0, 0, .c (.pure (.slice (.int .i64))) a1⟩)] _
  have hp : List.length a1 ≤ 1000000000 := hpre
  refine Vc.seq ?_
  refine Vc.region hG rfl ?_ ?_
  · trivial
  refine Vc.seq ?_
  refine Vc.regionD mixed hG rfl (by kernel_rfl) ?_ ?_
  · refine ⟨?_, ?_⟩
    · show 1 + List.length a1 ≤ maxApp
      unfold maxApp; omega
    · show List.length a1 + 1 ≤ 1000000001
      omega
  refine Vc.ret ?_
  refine ⟨?_, trivial⟩
  all_goals exact rfl
noncomputable def F167 : Fun := ⟨[.slice (.pair (.int .i64) (.pair (.int .i64) (.pair (.int .i64) (.pair (.int .i64) (.int .i64))))), .int .i64, .slice (.int .i64)], [.pure (.int .i64), .pure (.bool)], fun x => (fun (_ : List Key) (_ : Int) (l : List Int) => smallL l) x.1 x.2.1 x.2.2.1, fun x => ((markByF x.1 x.2.1 x.2.2.1).1, (markByF x.1 x.2.1 x.2.2.1).2, ())⟩
set_option maxRecDepth 100000 in
/-- loop.example.g00597.impl.markBy -/
theorem F167_ok : Meets Try.prog 167 F167 := by
  refine meets_of_vc (C := mkC 20 [6, 7] [0,1,2,6,7,8,13] [⟨172, _, F172_ok⟩, ⟨183, _, F183_ok⟩]) (mkC_ok _ _ _ _) (fnOf_ok _) Try.func167 rfl rfl rfl (by decide) rfl ?_
  rintro ⟨a0, (a1 : Int), a2, _⟩ hwf hpre ⟨P, C, B, X, w0, M0⟩ hG rfl rfl
  show Vc _ _ [(0, ⟨0, 0, .c (.pure (.slice (.pair (.int .i64) (.pair (.int .i64) (.pair (.int .i64) (.pair (.int .i64) (.int .i64))))))) a0⟩), (1, ⟨0, 0, .c (.pure (.int .i64)) a1⟩), (2, ⟨0, 0, .c (.pure (.slice (.int .i64))) a2⟩)] _
  have hp : smallL a2 := hpre
  refine Vc.seq ?_
  refine Vc.region hG rfl ?_ ?_
  · trivial
  refine Vc.seq ?_
  refine Vc.region hG rfl ?_ ?_
  · trivial
  refine Vc.seq ?_
  refine Vc.seq ?_
  refine Vc.region hG rfl ?_ ?_
  · trivial
  refine Vc.cond rfl (fun h0 => ?_) (fun h0 => ?_)
  · skip
    have g0 : keyI a0 a1 < 0 := of_decide_eq_true h0
    refine Vc.seq ?_
    refine Vc.region hG rfl ?_ ?_
    · trivial
    refine Vc.ret ?_
    have e := markBy_no (l := a2) g0
    refine ⟨?_, ?_, trivial⟩
    · exact (congrArg Prod.fst e).symm
    · exact (congrArg Prod.snd e).symm
  · skip
    have g0 : ¬ keyI a0 a1 < 0 := of_decide_eq_false h0
    refine Vc.skip ?_
    refine Vc.seq ?_
    refine Vc.region hG rfl ?_ ?_
    · exact ⟨findRange g0, hp⟩
    refine Vc.ret ?_
    have e := markBy_yes (l := a2) g0
    refine ⟨?_, ?_, trivial⟩
    · exact (congrArg Prod.fst e).symm
    · exact (congrArg Prod.snd e).symm
noncomputable def F137 : Fun := ⟨[.slice (.pair (.int .i64) (.pair (.int .i64) (.pair (.int .i64) (.pair (.int .i64) (.int .i64))))), .int .i64, .slice (.int .i64), .int .i64], [.pure (.bool)], fun x => (fun (_ : List Key) (_ : Int) (l : List Int) (_ : Int) => smallL l) x.1 x.2.1 x.2.2.1 x.2.2.2.1, fun x => (checkMarkF x.1 x.2.1 x.2.2.1 x.2.2.2.1, ())⟩
set_option maxRecDepth 100000 in
/-- loop.example.g00597.impl.CheckMark -/
theorem F137_ok : Meets Try.prog 137 F137 := by
  refine meets_of_vc (C := mkC 24 [8] [0,1,2,3,8,9,10] [⟨167, _, F167_ok⟩]) (mkC_ok _ _ _ _) (fnOf_ok _) Try.func137 rfl rfl rfl (by decide) rfl ?_
  rintro ⟨a0, (a1 : Int), a2, (a3 : Int), _⟩ hwf hpre ⟨P, C, B, X, w0, M0⟩ hG rfl rfl
  show Vc _ _ [(0, ⟨0, 0, .c (.pure (.slice (.pair (.int .i64) (.pair (.int .i64) (.pair (.int .i64) (.pair (.int .i64) (.int .i64))))))) a0⟩), (1, ⟨0, 0, .c (.pure (.int .i64)) a1⟩), (2, ⟨0, 0, .c (.pure (.slice (.int .i64))) a2⟩), (3, ⟨0, 0, .c (.pure (.int .i64)) a3⟩)] _
  have hp : smallL a2 := hpre
  refine Vc.seq ?_
  refine Vc.region hG rfl ?_ ?_
  · trivial
  refine Vc.seq ?_
  refine Vc.region hG rfl ?_ ?_
  · exact hp
  refine Vc.seq ?_
  refine Vc.region hG rfl ?_ ?_
  · trivial
  refine Vc.ret ?_
  refine ⟨?_, trivial⟩
  exact checkMark_by a0 a1 a2 a3
noncomputable def F139 : Fun := ⟨[.slice (.pair (.int .i64) (.pair (.int .i64) (.pair (.int .i64) (.pair (.int .i64) (.int .i64))))), .int .i64], [.pure (.int .i64)], fun _ => True, fun x => (ownerF x.1 x.2.1, ())⟩
set_option maxRecDepth 100000 in
/-- loop.example.g00597.impl.OwnerOf -/
theorem F139_ok : Meets Try.prog 139 F139 := by
  refine meets_of_vc (C := mkC 16 [4] [0,1,4,5,10] [⟨172, _, F172_ok⟩]) (mkC_ok _ _ _ _) (fnOf_ok _) Try.func139 rfl rfl rfl (by decide) rfl ?_
  rintro ⟨a0, (a1 : Int), _⟩ hwf hpre ⟨P, C, B, X, w0, M0⟩ hG rfl rfl
  show Vc _ _ [(0, ⟨0, 0, .c (.pure (.slice (.pair (.int .i64) (.pair (.int .i64) (.pair (.int .i64) (.pair (.int .i64) (.int .i64))))))) a0⟩), (1, ⟨0, 0, .c (.pure (.int .i64)) a1⟩)] _
  refine Vc.seq ?_
  refine Vc.region hG rfl ?_ ?_
  · trivial
  refine Vc.seq ?_
  refine Vc.seq ?_
  refine Vc.region hG rfl ?_ ?_
  · trivial
  refine Vc.seq ?_
  refine Vc.region hG rfl ?_ ?_
  · trivial
  refine Vc.cond rfl (fun h0 => ?_) (fun h0 => ?_)
  · skip
    have g0 : ¬ keyI a0 a1 < 0 := Int.not_lt.2 (of_decide_eq_true h0)
    refine Vc.seq ?_
    refine Vc.region hG rfl ?_ ?_
    · exact findRange g0
    refine Vc.ret ?_
    refine ⟨?_, trivial⟩
    exact owner1 g0
  · skip
    have g0 : keyI a0 a1 < 0 := Int.not_le.1 (of_decide_eq_false h0)
    refine Vc.skip ?_
    refine Vc.seq ?_
    refine Vc.region hG rfl ?_ ?_
    · trivial
    refine Vc.ret ?_
    refine ⟨?_, trivial⟩
    exact owner0 g0
noncomputable def F88 : Fun := ⟨[.slice (.pair (.int .i64) (.pair (.int .i64) (.pair (.int .i64) (.pair (.int .i64) (.int .i64))))), .pair (.int .i64) (.pair (.int .i64) (.pair (.int .i64) (.pair (.int .i64) (.pair (.int .i64) (.pair (.int .i64) (.int .i64))))))], [.pure (.bool)], fun _ => True, fun x => (checkCertF x.1 x.2.1, ())⟩
set_option maxRecDepth 100000 in
/-- loop.example.g00597.impl.CheckCert -/
theorem F88_ok : Meets Try.prog 88 F88 := by
  refine meets_of_vc (C := mkC 26 [4] [0,1,3,4] [⟨136, _, F136_ok⟩, ⟨138, _, F138_ok⟩, ⟨137, _, F137_ok⟩, ⟨139, _, F139_ok⟩]) (mkC_ok _ _ _ _) (fnOf_ok _) Try.func88 rfl rfl rfl (by decide) rfl ?_
  rintro ⟨a0, a1, _⟩ hwf hpre ⟨P, C, B, X, w0, M0⟩ hG rfl rfl
  show Vc _ _ [(0, ⟨0, 0, .c (.pure (.slice (.pair (.int .i64) (.pair (.int .i64) (.pair (.int .i64) (.pair (.int .i64) (.int .i64))))))) a0⟩), (1, ⟨0, 0, .c (.pure (.pair (.int .i64) (.pair (.int .i64) (.pair (.int .i64) (.pair (.int .i64) (.pair (.int .i64) (.pair (.int .i64) (.int .i64)))))))) a1⟩)] _
  refine Vc.seq ?_
  refine Vc.region hG rfl ?_ ?_
  · trivial
  refine Vc.seq ?_
  refine Vc.regionD mixed hG rfl (by kernel_rfl) ?_ ?_
  · exact ⟨trivial, fun _ => trivial, fun _ => smallLit (n := 7) rfl (by decide), fun _ => trivial⟩
  refine Vc.ret ?_
  refine ⟨?_, trivial⟩
  exact checkCertI a0 a1
noncomputable def F44 : Fun := ⟨[.pair (.slice (.pair (.int .i64) (.pair (.int .i64) (.pair (.int .i64) (.pair (.int .i64) (.int .i64)))))) (.pair (.slice (.pair (.int .i64) (.pair (.int .i64) (.int .i64)))) (.pair (.slice (.pair (.int .i64) (.pair (.int .i64) (.pair (.int .i64) (.int .i64))))) (.pair (.int .i64) (.int .i64)))), .slice (.pair (.int .i64) (.pair (.slice (.int .i64)) (.int .i64))), .pair (.int .i64) (.pair (.int .i64) (.pair (.int .i64) (.pair (.int .i64) (.pair (.int .i64) (.pair (.int .i64) (.pair (.int .i64) (.pair (.int .i64) (.int .i64))))))))], [.pure (.pair (.int .i64) (.pair (.int .i64) (.pair (.int .i64) (.pair (.int .i64) (.pair (.int .i64) (.pair (.int .i64) (.int .i64))))))), .pure (.bool)], fun _ => True, fun x => (((fun a0 a1 a2 => certForF a0.1 a1 a2) x.1 x.2.1 x.2.2.1).1, ((fun a0 a1 a2 => certForF a0.1 a1 a2) x.1 x.2.1 x.2.2.1).2, ())⟩
set_option maxRecDepth 100000 in
/-- loop.example.g00597.impl.CertFor -/
theorem F44_ok : Meets Try.prog 44 F44 := by
  refine meets_of_vc (C := mkC 54 [6, 7] [0,1,2,3,5,6,7,8,9,11,12,13,14,15,16,17,45,51] [⟨87, _, F87_ok⟩, ⟨88, _, F88_ok⟩]) (mkC_ok _ _ _ _) (fnOf_ok _) Try.func44 rfl rfl rfl (by decide) rfl ?_
  rintro ⟨a0, a1, a2, _⟩ hwf hpre ⟨P, C, B, X, w0, M0⟩ hG rfl rfl
  show Vc _ _ [(0, ⟨0, 0, .c (.pure (.pair (.slice (.pair (.int .i64) (.pair (.int .i64) (.pair (.int .i64) (.pair (.int .i64) (.int .i64)))))) (.pair (.slice (.pair (.int .i64) (.pair (.int .i64) (.int .i64)))) (.pair (.slice (.pair (.int .i64) (.pair (.int .i64) (.pair (.int .i64) (.int .i64))))) (.pair (.int .i64) (.int .i64)))))) a0⟩), (1, ⟨0, 0, .c (.pure (.slice (.pair (.int .i64) (.pair (.slice (.int .i64)) (.int .i64))))) a1⟩), (2, ⟨0, 0, .c (.pure (.pair (.int .i64) (.pair (.int .i64) (.pair (.int .i64) (.pair (.int .i64) (.pair (.int .i64) (.pair (.int .i64) (.pair (.int .i64) (.pair (.int .i64) (.int .i64)))))))))) a2⟩)] _
  have hb : List.length a1 ≤ bigLen := hwf.2.1.1
  refine Vc.seq ?_
  refine Vc.region hG rfl ?_ ?_
  · trivial
  refine Vc.seq ?_
  refine Vc.region hG rfl ?_ ?_
  · trivial
  refine Vc.seq ?_
  refine Vc.region hG rfl ?_ ?_
  · trivial
  refine Vc.seq ?_
  refine Vc.seq ?_
  refine Vc.region hG rfl ?_ ?_
  · trivial
  refine Vc.block ?_
  -- slots [8, 9, 16]; frame [0, 1, 2, 3, 5, 6, 7, 14, 15, 51]
  refine Vc.loopF [(8, true, .pure (.pair (.int .i64) (.pair (.int .i64) (.pair (.int .i64) (.pair (.int .i64) (.pair (.int .i64) (.pair (.int .i64) (.int .i64)))))))), (9, false, .pure (.int .i64)), (16, false, .pure (.int .i64))] [0, 1, 2, 3, 5, 6, 7, 14, 15, 51] (fun v => cfInv a0.1 a2 a1 v.1 v.2.1 v.2.2.1) (fun v => ((List.length a1 : Int) - v.2.2.1).toNat) rfl ?_ ?_
  · exact cfStart
  rintro ⟨c, (n : Int), (i : Int), _⟩ hI
  have hI : cfInv a0.1 a2 a1 c n i := hI
  refine Vc.seq ?_
  refine Vc.region hG rfl ?_ ?_
  · trivial
  refine Vc.seq ?_
  refine Vc.cond rfl (fun h0 => ?_) (fun h0 => ?_)
  · skip
    have hl : i < (List.length a1 : Int) := of_decide_eq_true h0
    refine Vc.skip ?_
    refine Vc.seq ?_
    refine Vc.block ?_
    refine Vc.seq ?_
    refine Vc.region hG rfl ?_ ?_
    · exact cfRange hI hl
    refine Vc.seq ?_
    refine Vc.region hG rfl ?_ ?_
    · trivial
    refine Vc.seq ?_
    refine Vc.region hG rfl ?_ ?_
    · repeat' (first | exact trivial | refine And.intro ?_ ?_ | intro _)
    refine Vc.cond rfl (fun h1 => ?_) (fun h1 => ?_)
    · skip
      have g1 : cfTest a0.1 a2 (List.getD a1 i.toNat (dflt (.pair (.int .i64) (.pair (.slice (.int .i64)) (.int .i64))))) = true := h1
      refine Vc.seq ?_
      refine Vc.region hG rfl ?_ ?_
      · trivial
      refine Vc.region hG rfl ?_ ?_
      · trivial
      refine Vc.region hG rfl ?_ ?_
      · trivial
      refine ⟨rfl, ?_⟩
      first | exact cfGo1 hI hl hb g1 | exact cfGo0 hI hl hb g1
    · skip
      have g1 : cfTest a0.1 a2 (List.getD a1 i.toNat (dflt (.pair (.int .i64) (.pair (.slice (.int .i64)) (.int .i64))))) = false := h1
      refine Vc.skip ?_
      refine Vc.region hG rfl ?_ ?_
      · trivial
      refine ⟨rfl, ?_⟩
      first | exact cfGo1 hI hl hb g1 | exact cfGo0 hI hl hb g1
  · skip
    have hl : ¬ i < (List.length a1 : Int) := of_decide_eq_false h0
    refine Vc.exit ?_
    refine Vc.seq ?_
    refine Vc.seq ?_
    refine Vc.region hG rfl ?_ ?_
    · trivial
    refine Vc.cond rfl (fun h2 => ?_) (fun h2 => ?_)
    · skip
      have g2 : (n != 1) = true := h2
      refine Vc.seq ?_
      refine Vc.region hG rfl ?_ ?_
      · trivial
      refine Vc.ret ?_
      have e := cfEnd0 hI hl g2
      refine ⟨?_, ?_, trivial⟩
      · exact (congrArg Prod.fst e).symm
      · exact (congrArg Prod.snd e).symm
    · skip
      have g2 : (n != 1) = false := h2
      refine Vc.skip ?_
      refine Vc.seq ?_
      refine Vc.region hG rfl ?_ ?_
      · trivial
      refine Vc.ret ?_
      have e := cfEnd1 hI hl g2
      refine ⟨?_, ?_, trivial⟩
      · exact (congrArg Prod.fst e).symm
      · exact (congrArg Prod.snd e).symm
noncomputable def F45 : Fun := ⟨[.pair (.int .i64) (.pair (.int .i64) (.pair (.int .i64) (.pair (.int .i64) (.pair (.int .i64) (.pair (.int .i64) (.int .i64)))))), .pair (.int .i64) (.pair (.int .i64) (.pair (.int .i64) (.pair (.int .i64) (.pair (.int .i64) (.pair (.int .i64) (.int .i64))))))], [.pure (.bool)], fun _ => True, fun x => (eqC x.1 x.2.1, ())⟩
set_option maxRecDepth 100000 in
/-- loop.example.g00597.laws.eqCert -/
theorem F45_ok : Meets Try.prog 45 F45 := by
  refine meets_of_vc (C := mkC 40 [4] [0,1,2,3,4,9,14,19,24,29,34,39] []) (mkC_ok _ _ _ _) (fnOf_ok _) Try.func45 rfl rfl rfl (by decide) rfl ?_
  rintro ⟨a0, a1, _⟩ hwf hpre ⟨P, C, B, X, w0, M0⟩ hG rfl rfl
  show Vc _ _ [(0, ⟨0, 0, .c (.pure (.pair (.int .i64) (.pair (.int .i64) (.pair (.int .i64) (.pair (.int .i64) (.pair (.int .i64) (.pair (.int .i64) (.int .i64)))))))) a0⟩), (1, ⟨0, 0, .c (.pure (.pair (.int .i64) (.pair (.int .i64) (.pair (.int .i64) (.pair (.int .i64) (.pair (.int .i64) (.pair (.int .i64) (.int .i64)))))))) a1⟩)] _
  refine Vc.seq ?_
  refine Vc.region hG rfl ?_ ?_
  · trivial
  refine Vc.seq ?_
  refine Vc.seq ?_
  refine Vc.region hG rfl ?_ ?_
  · trivial
  refine Vc.cond rfl (fun h0 => ?_) (fun h0 => ?_)
  · skip
    refine Vc.seq ?_
    refine Vc.region hG rfl ?_ ?_
    · trivial
    refine Vc.ret ?_
    refine ⟨?_, trivial⟩
    exact eqC_no (fun e => absurd (show (a0.1 != a1.1) = true from h0) (by have e : a0 = a1 := e; rw [e]; simp))
  · skip
    have g0 : a0.1 = a1.1 := bneI h0
    refine Vc.skip ?_
    refine Vc.seq ?_
    refine Vc.seq ?_
    refine Vc.region hG rfl ?_ ?_
    · trivial
    refine Vc.cond rfl (fun h1 => ?_) (fun h1 => ?_)
    · skip
      refine Vc.seq ?_
      refine Vc.region hG rfl ?_ ?_
      · trivial
      refine Vc.ret ?_
      refine ⟨?_, trivial⟩
      exact eqC_no (fun e => absurd (show (a0.2.1 != a1.2.1) = true from h1) (by have e : a0 = a1 := e; rw [e]; simp))
    · skip
      have g1 : a0.2.1 = a1.2.1 := bneI h1
      refine Vc.skip ?_
      refine Vc.seq ?_
      refine Vc.seq ?_
      refine Vc.region hG rfl ?_ ?_
      · trivial
      refine Vc.cond rfl (fun h2 => ?_) (fun h2 => ?_)
      · skip
        refine Vc.seq ?_
        refine Vc.region hG rfl ?_ ?_
        · trivial
        refine Vc.ret ?_
        refine ⟨?_, trivial⟩
        exact eqC_no (fun e => absurd (show (a0.2.2.1 != a1.2.2.1) = true from h2) (by have e : a0 = a1 := e; rw [e]; simp))
      · skip
        have g2 : a0.2.2.1 = a1.2.2.1 := bneI h2
        refine Vc.skip ?_
        refine Vc.seq ?_
        refine Vc.seq ?_
        refine Vc.region hG rfl ?_ ?_
        · trivial
        refine Vc.cond rfl (fun h3 => ?_) (fun h3 => ?_)
        · skip
          refine Vc.seq ?_
          refine Vc.region hG rfl ?_ ?_
          · trivial
          refine Vc.ret ?_
          refine ⟨?_, trivial⟩
          exact eqC_no (fun e => absurd (show (a0.2.2.2.1 != a1.2.2.2.1) = true from h3) (by have e : a0 = a1 := e; rw [e]; simp))
        · skip
          have g3 : a0.2.2.2.1 = a1.2.2.2.1 := bneI h3
          refine Vc.skip ?_
          refine Vc.seq ?_
          refine Vc.seq ?_
          refine Vc.region hG rfl ?_ ?_
          · trivial
          refine Vc.cond rfl (fun h4 => ?_) (fun h4 => ?_)
          · skip
            refine Vc.seq ?_
            refine Vc.region hG rfl ?_ ?_
            · trivial
            refine Vc.ret ?_
            refine ⟨?_, trivial⟩
            exact eqC_no (fun e => absurd (show (a0.2.2.2.2.1 != a1.2.2.2.2.1) = true from h4) (by have e : a0 = a1 := e; rw [e]; simp))
          · skip
            have g4 : a0.2.2.2.2.1 = a1.2.2.2.2.1 := bneI h4
            refine Vc.skip ?_
            refine Vc.seq ?_
            refine Vc.seq ?_
            refine Vc.region hG rfl ?_ ?_
            · trivial
            refine Vc.cond rfl (fun h5 => ?_) (fun h5 => ?_)
            · skip
              refine Vc.seq ?_
              refine Vc.region hG rfl ?_ ?_
              · trivial
              refine Vc.ret ?_
              refine ⟨?_, trivial⟩
              exact eqC_no (fun e => absurd (show (a0.2.2.2.2.2.1 != a1.2.2.2.2.2.1) = true from h5) (by have e : a0 = a1 := e; rw [e]; simp))
            · skip
              have g5 : a0.2.2.2.2.2.1 = a1.2.2.2.2.2.1 := bneI h5
              refine Vc.skip ?_
              refine Vc.seq ?_
              refine Vc.seq ?_
              refine Vc.region hG rfl ?_ ?_
              · trivial
              refine Vc.cond rfl (fun h6 => ?_) (fun h6 => ?_)
              · skip
                refine Vc.seq ?_
                refine Vc.region hG rfl ?_ ?_
                · trivial
                refine Vc.ret ?_
                refine ⟨?_, trivial⟩
                exact eqC_no (fun e => absurd (show (a0.2.2.2.2.2.2 != a1.2.2.2.2.2.2) = true from h6) (by have e : a0 = a1 := e; rw [e]; simp))
              · skip
                have g6 : a0.2.2.2.2.2.2 = a1.2.2.2.2.2.2 := bneI h6
                refine Vc.skip ?_
                refine Vc.seq ?_
                refine Vc.region hG rfl ?_ ?_
                · trivial
                refine Vc.ret ?_
                refine ⟨?_, trivial⟩
                exact eqC_yes (Prod.ext g0 (Prod.ext g1 (Prod.ext g2 (Prod.ext g3 (Prod.ext g4 (Prod.ext g5 g6))))))
noncomputable def F72 : Fun := ⟨[.pair (.int .i64) (.pair (.int .i64) (.pair (.int .i64) (.pair (.int .i64) (.int .i64)))), .pair (.int .i64) (.pair (.int .i64) (.pair (.int .i64) (.pair (.int .i64) (.int .i64))))], [.pure (.bool)], fun _ => True, fun x => (eqC x.1 x.2.1, ())⟩
set_option maxRecDepth 100000 in
/-- loop.example.g00597.laws.eqKey -/
theorem F72_ok : Meets Try.prog 72 F72 := by
  refine meets_of_vc (C := mkC 30 [4] [0,1,2,3,4,9,14,19,24,29] []) (mkC_ok _ _ _ _) (fnOf_ok _) Try.func72 rfl rfl rfl (by decide) rfl ?_
  rintro ⟨a0, a1, _⟩ hwf hpre ⟨P, C, B, X, w0, M0⟩ hG rfl rfl
  show Vc _ _ [(0, ⟨0, 0, .c (.pure (.pair (.int .i64) (.pair (.int .i64) (.pair (.int .i64) (.pair (.int .i64) (.int .i64)))))) a0⟩), (1, ⟨0, 0, .c (.pure (.pair (.int .i64) (.pair (.int .i64) (.pair (.int .i64) (.pair (.int .i64) (.int .i64)))))) a1⟩)] _
  refine Vc.seq ?_
  refine Vc.region hG rfl ?_ ?_
  · trivial
  refine Vc.seq ?_
  refine Vc.seq ?_
  refine Vc.region hG rfl ?_ ?_
  · trivial
  refine Vc.cond rfl (fun h0 => ?_) (fun h0 => ?_)
  · skip
    refine Vc.seq ?_
    refine Vc.region hG rfl ?_ ?_
    · trivial
    refine Vc.ret ?_
    refine ⟨?_, trivial⟩
    exact eqC_no (fun e => absurd (show (a0.1 != a1.1) = true from h0) (by have e : a0 = a1 := e; rw [e]; simp))
  · skip
    have g0 : a0.1 = a1.1 := bneI h0
    refine Vc.skip ?_
    refine Vc.seq ?_
    refine Vc.seq ?_
    refine Vc.region hG rfl ?_ ?_
    · trivial
    refine Vc.cond rfl (fun h1 => ?_) (fun h1 => ?_)
    · skip
      refine Vc.seq ?_
      refine Vc.region hG rfl ?_ ?_
      · trivial
      refine Vc.ret ?_
      refine ⟨?_, trivial⟩
      exact eqC_no (fun e => absurd (show (a0.2.1 != a1.2.1) = true from h1) (by have e : a0 = a1 := e; rw [e]; simp))
    · skip
      have g1 : a0.2.1 = a1.2.1 := bneI h1
      refine Vc.skip ?_
      refine Vc.seq ?_
      refine Vc.seq ?_
      refine Vc.region hG rfl ?_ ?_
      · trivial
      refine Vc.cond rfl (fun h2 => ?_) (fun h2 => ?_)
      · skip
        refine Vc.seq ?_
        refine Vc.region hG rfl ?_ ?_
        · trivial
        refine Vc.ret ?_
        refine ⟨?_, trivial⟩
        exact eqC_no (fun e => absurd (show (a0.2.2.1 != a1.2.2.1) = true from h2) (by have e : a0 = a1 := e; rw [e]; simp))
      · skip
        have g2 : a0.2.2.1 = a1.2.2.1 := bneI h2
        refine Vc.skip ?_
        refine Vc.seq ?_
        refine Vc.seq ?_
        refine Vc.region hG rfl ?_ ?_
        · trivial
        refine Vc.cond rfl (fun h3 => ?_) (fun h3 => ?_)
        · skip
          refine Vc.seq ?_
          refine Vc.region hG rfl ?_ ?_
          · trivial
          refine Vc.ret ?_
          refine ⟨?_, trivial⟩
          exact eqC_no (fun e => absurd (show (a0.2.2.2.1 != a1.2.2.2.1) = true from h3) (by have e : a0 = a1 := e; rw [e]; simp))
        · skip
          have g3 : a0.2.2.2.1 = a1.2.2.2.1 := bneI h3
          refine Vc.skip ?_
          refine Vc.seq ?_
          refine Vc.seq ?_
          refine Vc.region hG rfl ?_ ?_
          · trivial
          refine Vc.cond rfl (fun h4 => ?_) (fun h4 => ?_)
          · skip
            refine Vc.seq ?_
            refine Vc.region hG rfl ?_ ?_
            · trivial
            refine Vc.ret ?_
            refine ⟨?_, trivial⟩
            exact eqC_no (fun e => absurd (show (a0.2.2.2.2 != a1.2.2.2.2) = true from h4) (by have e : a0 = a1 := e; rw [e]; simp))
          · skip
            have g4 : a0.2.2.2.2 = a1.2.2.2.2 := bneI h4
            refine Vc.skip ?_
            refine Vc.seq ?_
            refine Vc.region hG rfl ?_ ?_
            · trivial
            refine Vc.ret ?_
            refine ⟨?_, trivial⟩
            exact eqC_yes (Prod.ext g0 (Prod.ext g1 (Prod.ext g2 (Prod.ext g3 g4))))
noncomputable def F22 : Fun := ⟨[.slice (.pair (.int .i64) (.pair (.int .i64) (.pair (.int .i64) (.pair (.int .i64) (.int .i64))))), .slice (.pair (.int .i64) (.pair (.int .i64) (.pair (.int .i64) (.pair (.int .i64) (.int .i64)))))], [.pure (.bool)], fun _ => True, fun x => (eqC x.1 x.2.1, ())⟩
set_option maxRecDepth 100000 in
/-- loop.example.g00597.laws.eqKeyS -/
theorem F22_ok : Meets Try.prog 22 F22 := by
  refine meets_of_vc (C := mkC 27 [4] [0,1,4,5,10,14,26] [⟨72, _, F72_ok⟩]) (mkC_ok _ _ _ _) (fnOf_ok _) Try.func22 rfl rfl rfl (by decide) rfl ?_
  rintro ⟨a0, a1, _⟩ hwf hpre ⟨P, C, B, X, w0, M0⟩ hG rfl rfl
  show Vc _ _ [(0, ⟨0, 0, .c (.pure (.slice (.pair (.int .i64) (.pair (.int .i64) (.pair (.int .i64) (.pair (.int .i64) (.int .i64))))))) a0⟩), (1, ⟨0, 0, .c (.pure (.slice (.pair (.int .i64) (.pair (.int .i64) (.pair (.int .i64) (.pair (.int .i64) (.int .i64))))))) a1⟩)] _
  have hb : List.length a0 ≤ bigLen := hwf.1.1
  refine Vc.seq ?_
  refine Vc.region hG rfl ?_ ?_
  · trivial
  refine Vc.seq ?_
  refine Vc.seq ?_
  refine Vc.region hG rfl ?_ ?_
  · trivial
  refine Vc.cond rfl (fun h0 => ?_) (fun h0 => ?_)
  · skip
    refine Vc.seq ?_
    refine Vc.region hG rfl ?_ ?_
    · trivial
    refine Vc.ret ?_
    refine ⟨?_, trivial⟩
    exact eqC_no (fun e => absurd (show ((List.length a0 : Int) != (List.length a1 : Int)) = true from h0) (by have e : a0 = a1 := e; rw [e]; simp))
  · skip
    have g0 : List.length a0 = List.length a1 := lenEq h0
    refine Vc.skip ?_
    refine Vc.seq ?_
    refine Vc.seq ?_
    refine Vc.region hG rfl ?_ ?_
    · trivial
    refine Vc.block ?_
    -- slots [5]; frame [0, 1, 10]
    refine Vc.loopF [(5, false, .pure (.int .i64))] [0, 1, 10] (fun v => eqInv a0 a1 v.1) (fun v => ((List.length a0 : Int) - v.1).toNat) rfl ?_ ?_
    · exact eqStart g0
    rintro ⟨(i : Int), _⟩ hI
    have hI : eqInv a0 a1 i := hI
    refine Vc.seq ?_
    refine Vc.seq ?_
    refine Vc.region hG rfl ?_ ?_
    · trivial
    refine Vc.cond rfl (fun h1 => ?_) (fun h1 => ?_)
    · skip
      have hl : i < (List.length a0 : Int) := of_decide_eq_true h1
      refine Vc.skip ?_
      refine Vc.seq ?_
      refine Vc.block ?_
      refine Vc.seq ?_
      refine Vc.regionD mixed hG rfl (by kernel_rfl) ?_ ?_
      · exact ⟨(eqRange hI hl).1, (eqRange hI hl).2, trivial⟩
      refine Vc.cond rfl (fun h2 => ?_) (fun h2 => ?_)
      · skip
        have g2 : (!(eqC (List.getD a0 i.toNat (dflt (.pair (.int .i64) (.pair (.int .i64) (.pair (.int .i64) (.pair (.int .i64) (.int .i64))))))) (List.getD a1 i.toNat (dflt (.pair (.int .i64) (.pair (.int .i64) (.pair (.int .i64) (.pair (.int .i64) (.int .i64))))))))) = true := h2
        refine Vc.seq ?_
        refine Vc.region hG rfl ?_ ?_
        · trivial
        refine Vc.ret ?_
        refine ⟨?_, trivial⟩
        exact eqNo (d := dflt (.pair (.int .i64) (.pair (.int .i64) (.pair (.int .i64) (.pair (.int .i64) (.int .i64)))))) (i := i) (fun e => by rw [e, eqC_self] at g2; cases g2)
      · skip
        have g2 : (List.getD a0 i.toNat (dflt (.pair (.int .i64) (.pair (.int .i64) (.pair (.int .i64) (.pair (.int .i64) (.int .i64))))))) = (List.getD a1 i.toNat (dflt (.pair (.int .i64) (.pair (.int .i64) (.pair (.int .i64) (.pair (.int .i64) (.int .i64))))))) := notC h2
        refine Vc.skip ?_
        refine Vc.region hG rfl ?_ ?_
        · trivial
        refine ⟨rfl, ?_⟩
        exact ⟨eqStep (d := dflt (.pair (.int .i64) (.pair (.int .i64) (.pair (.int .i64) (.pair (.int .i64) (.int .i64)))))) hI hl hb g2, (upStep hI.1 hl hb).2.2⟩
    · skip
      have hl : ¬ i < (List.length a0 : Int) := of_decide_eq_false h1
      refine Vc.exit ?_
      refine Vc.seq ?_
      refine Vc.region hG rfl ?_ ?_
      · trivial
      refine Vc.ret ?_
      refine ⟨?_, trivial⟩
      exact eqC_yes (eqEnd hI hl)
noncomputable def F73 : Fun := ⟨[.pair (.int .i64) (.pair (.int .i64) (.int .i64)), .pair (.int .i64) (.pair (.int .i64) (.int .i64))], [.pure (.bool)], fun _ => True, fun x => (eqC x.1 x.2.1, ())⟩
set_option maxRecDepth 100000 in
/-- loop.example.g00597.laws.eqAuthority -/
theorem F73_ok : Meets Try.prog 73 F73 := by
  refine meets_of_vc (C := mkC 20 [4] [0,1,2,3,4,9,14,19] []) (mkC_ok _ _ _ _) (fnOf_ok _) Try.func73 rfl rfl rfl (by decide) rfl ?_
  rintro ⟨a0, a1, _⟩ hwf hpre ⟨P, C, B, X, w0, M0⟩ hG rfl rfl
  show Vc _ _ [(0, ⟨0, 0, .c (.pure (.pair (.int .i64) (.pair (.int .i64) (.int .i64)))) a0⟩), (1, ⟨0, 0, .c (.pure (.pair (.int .i64) (.pair (.int .i64) (.int .i64)))) a1⟩)] _
  refine Vc.seq ?_
  refine Vc.region hG rfl ?_ ?_
  · trivial
  refine Vc.seq ?_
  refine Vc.seq ?_
  refine Vc.region hG rfl ?_ ?_
  · trivial
  refine Vc.cond rfl (fun h0 => ?_) (fun h0 => ?_)
  · skip
    refine Vc.seq ?_
    refine Vc.region hG rfl ?_ ?_
    · trivial
    refine Vc.ret ?_
    refine ⟨?_, trivial⟩
    exact eqC_no (fun e => absurd (show (a0.1 != a1.1) = true from h0) (by have e : a0 = a1 := e; rw [e]; simp))
  · skip
    have g0 : a0.1 = a1.1 := bneI h0
    refine Vc.skip ?_
    refine Vc.seq ?_
    refine Vc.seq ?_
    refine Vc.region hG rfl ?_ ?_
    · trivial
    refine Vc.cond rfl (fun h1 => ?_) (fun h1 => ?_)
    · skip
      refine Vc.seq ?_
      refine Vc.region hG rfl ?_ ?_
      · trivial
      refine Vc.ret ?_
      refine ⟨?_, trivial⟩
      exact eqC_no (fun e => absurd (show (a0.2.1 != a1.2.1) = true from h1) (by have e : a0 = a1 := e; rw [e]; simp))
    · skip
      have g1 : a0.2.1 = a1.2.1 := bneI h1
      refine Vc.skip ?_
      refine Vc.seq ?_
      refine Vc.seq ?_
      refine Vc.region hG rfl ?_ ?_
      · trivial
      refine Vc.cond rfl (fun h2 => ?_) (fun h2 => ?_)
      · skip
        refine Vc.seq ?_
        refine Vc.region hG rfl ?_ ?_
        · trivial
        refine Vc.ret ?_
        refine ⟨?_, trivial⟩
        exact eqC_no (fun e => absurd (show (a0.2.2 != a1.2.2) = true from h2) (by have e : a0 = a1 := e; rw [e]; simp))
      · skip
        have g2 : a0.2.2 = a1.2.2 := bneI h2
        refine Vc.skip ?_
        refine Vc.seq ?_
        refine Vc.region hG rfl ?_ ?_
        · trivial
        refine Vc.ret ?_
        refine ⟨?_, trivial⟩
        exact eqC_yes (Prod.ext g0 (Prod.ext g1 g2))
noncomputable def F23 : Fun := ⟨[.slice (.pair (.int .i64) (.pair (.int .i64) (.int .i64))), .slice (.pair (.int .i64) (.pair (.int .i64) (.int .i64)))], [.pure (.bool)], fun _ => True, fun x => (eqC x.1 x.2.1, ())⟩
set_option maxRecDepth 100000 in
/-- loop.example.g00597.laws.eqAuthorityS -/
theorem F23_ok : Meets Try.prog 23 F23 := by
  refine meets_of_vc (C := mkC 27 [4] [0,1,4,5,10,14,26] [⟨73, _, F73_ok⟩]) (mkC_ok _ _ _ _) (fnOf_ok _) Try.func23 rfl rfl rfl (by decide) rfl ?_
  rintro ⟨a0, a1, _⟩ hwf hpre ⟨P, C, B, X, w0, M0⟩ hG rfl rfl
  show Vc _ _ [(0, ⟨0, 0, .c (.pure (.slice (.pair (.int .i64) (.pair (.int .i64) (.int .i64))))) a0⟩), (1, ⟨0, 0, .c (.pure (.slice (.pair (.int .i64) (.pair (.int .i64) (.int .i64))))) a1⟩)] _
  have hb : List.length a0 ≤ bigLen := hwf.1.1
  refine Vc.seq ?_
  refine Vc.region hG rfl ?_ ?_
  · trivial
  refine Vc.seq ?_
  refine Vc.seq ?_
  refine Vc.region hG rfl ?_ ?_
  · trivial
  refine Vc.cond rfl (fun h0 => ?_) (fun h0 => ?_)
  · skip
    refine Vc.seq ?_
    refine Vc.region hG rfl ?_ ?_
    · trivial
    refine Vc.ret ?_
    refine ⟨?_, trivial⟩
    exact eqC_no (fun e => absurd (show ((List.length a0 : Int) != (List.length a1 : Int)) = true from h0) (by have e : a0 = a1 := e; rw [e]; simp))
  · skip
    have g0 : List.length a0 = List.length a1 := lenEq h0
    refine Vc.skip ?_
    refine Vc.seq ?_
    refine Vc.seq ?_
    refine Vc.region hG rfl ?_ ?_
    · trivial
    refine Vc.block ?_
    -- slots [5]; frame [0, 1, 10]
    refine Vc.loopF [(5, false, .pure (.int .i64))] [0, 1, 10] (fun v => eqInv a0 a1 v.1) (fun v => ((List.length a0 : Int) - v.1).toNat) rfl ?_ ?_
    · exact eqStart g0
    rintro ⟨(i : Int), _⟩ hI
    have hI : eqInv a0 a1 i := hI
    refine Vc.seq ?_
    refine Vc.seq ?_
    refine Vc.region hG rfl ?_ ?_
    · trivial
    refine Vc.cond rfl (fun h1 => ?_) (fun h1 => ?_)
    · skip
      have hl : i < (List.length a0 : Int) := of_decide_eq_true h1
      refine Vc.skip ?_
      refine Vc.seq ?_
      refine Vc.block ?_
      refine Vc.seq ?_
      refine Vc.regionD mixed hG rfl (by kernel_rfl) ?_ ?_
      · exact ⟨(eqRange hI hl).1, (eqRange hI hl).2, trivial⟩
      refine Vc.cond rfl (fun h2 => ?_) (fun h2 => ?_)
      · skip
        have g2 : (!(eqC (List.getD a0 i.toNat (dflt (.pair (.int .i64) (.pair (.int .i64) (.int .i64))))) (List.getD a1 i.toNat (dflt (.pair (.int .i64) (.pair (.int .i64) (.int .i64))))))) = true := h2
        refine Vc.seq ?_
        refine Vc.region hG rfl ?_ ?_
        · trivial
        refine Vc.ret ?_
        refine ⟨?_, trivial⟩
        exact eqNo (d := dflt (.pair (.int .i64) (.pair (.int .i64) (.int .i64)))) (i := i) (fun e => by rw [e, eqC_self] at g2; cases g2)
      · skip
        have g2 : (List.getD a0 i.toNat (dflt (.pair (.int .i64) (.pair (.int .i64) (.int .i64))))) = (List.getD a1 i.toNat (dflt (.pair (.int .i64) (.pair (.int .i64) (.int .i64))))) := notC h2
        refine Vc.skip ?_
        refine Vc.region hG rfl ?_ ?_
        · trivial
        refine ⟨rfl, ?_⟩
        exact ⟨eqStep (d := dflt (.pair (.int .i64) (.pair (.int .i64) (.int .i64)))) hI hl hb g2, (upStep hI.1 hl hb).2.2⟩
    · skip
      have hl : ¬ i < (List.length a0 : Int) := of_decide_eq_false h1
      refine Vc.exit ?_
      refine Vc.seq ?_
      refine Vc.region hG rfl ?_ ?_
      · trivial
      refine Vc.ret ?_
      refine ⟨?_, trivial⟩
      exact eqC_yes (eqEnd hI hl)
noncomputable def F140 : Fun := ⟨[.pair (.int .i64) (.pair (.int .i64) (.pair (.int .i64) (.int .i64))), .pair (.int .i64) (.pair (.int .i64) (.pair (.int .i64) (.int .i64)))], [.pure (.bool)], fun _ => True, fun x => (eqC x.1 x.2.1, ())⟩
set_option maxRecDepth 100000 in
/-- loop.example.g00597.laws.eqMethod -/
theorem F140_ok : Meets Try.prog 140 F140 := by
  refine meets_of_vc (C := mkC 25 [4] [0,1,2,3,4,9,14,19,24] []) (mkC_ok _ _ _ _) (fnOf_ok _) Try.func140 rfl rfl rfl (by decide) rfl ?_
  rintro ⟨a0, a1, _⟩ hwf hpre ⟨P, C, B, X, w0, M0⟩ hG rfl rfl
  show Vc _ _ [(0, ⟨0, 0, .c (.pure (.pair (.int .i64) (.pair (.int .i64) (.pair (.int .i64) (.int .i64))))) a0⟩), (1, ⟨0, 0, .c (.pure (.pair (.int .i64) (.pair (.int .i64) (.pair (.int .i64) (.int .i64))))) a1⟩)] _
  refine Vc.seq ?_
  refine Vc.region hG rfl ?_ ?_
  · trivial
  refine Vc.seq ?_
  refine Vc.seq ?_
  refine Vc.region hG rfl ?_ ?_
  · trivial
  refine Vc.cond rfl (fun h0 => ?_) (fun h0 => ?_)
  · skip
    refine Vc.seq ?_
    refine Vc.region hG rfl ?_ ?_
    · trivial
    refine Vc.ret ?_
    refine ⟨?_, trivial⟩
    exact eqC_no (fun e => absurd (show (a0.1 != a1.1) = true from h0) (by have e : a0 = a1 := e; rw [e]; simp))
  · skip
    have g0 : a0.1 = a1.1 := bneI h0
    refine Vc.skip ?_
    refine Vc.seq ?_
    refine Vc.seq ?_
    refine Vc.region hG rfl ?_ ?_
    · trivial
    refine Vc.cond rfl (fun h1 => ?_) (fun h1 => ?_)
    · skip
      refine Vc.seq ?_
      refine Vc.region hG rfl ?_ ?_
      · trivial
      refine Vc.ret ?_
      refine ⟨?_, trivial⟩
      exact eqC_no (fun e => absurd (show (a0.2.1 != a1.2.1) = true from h1) (by have e : a0 = a1 := e; rw [e]; simp))
    · skip
      have g1 : a0.2.1 = a1.2.1 := bneI h1
      refine Vc.skip ?_
      refine Vc.seq ?_
      refine Vc.seq ?_
      refine Vc.region hG rfl ?_ ?_
      · trivial
      refine Vc.cond rfl (fun h2 => ?_) (fun h2 => ?_)
      · skip
        refine Vc.seq ?_
        refine Vc.region hG rfl ?_ ?_
        · trivial
        refine Vc.ret ?_
        refine ⟨?_, trivial⟩
        exact eqC_no (fun e => absurd (show (a0.2.2.1 != a1.2.2.1) = true from h2) (by have e : a0 = a1 := e; rw [e]; simp))
      · skip
        have g2 : a0.2.2.1 = a1.2.2.1 := bneI h2
        refine Vc.skip ?_
        refine Vc.seq ?_
        refine Vc.seq ?_
        refine Vc.region hG rfl ?_ ?_
        · trivial
        refine Vc.cond rfl (fun h3 => ?_) (fun h3 => ?_)
        · skip
          refine Vc.seq ?_
          refine Vc.region hG rfl ?_ ?_
          · trivial
          refine Vc.ret ?_
          refine ⟨?_, trivial⟩
          exact eqC_no (fun e => absurd (show (a0.2.2.2 != a1.2.2.2) = true from h3) (by have e : a0 = a1 := e; rw [e]; simp))
        · skip
          have g3 : a0.2.2.2 = a1.2.2.2 := bneI h3
          refine Vc.skip ?_
          refine Vc.seq ?_
          refine Vc.region hG rfl ?_ ?_
          · trivial
          refine Vc.ret ?_
          refine ⟨?_, trivial⟩
          exact eqC_yes (Prod.ext g0 (Prod.ext g1 (Prod.ext g2 g3)))
noncomputable def F89 : Fun := ⟨[.slice (.pair (.int .i64) (.pair (.int .i64) (.pair (.int .i64) (.int .i64)))), .slice (.pair (.int .i64) (.pair (.int .i64) (.pair (.int .i64) (.int .i64))))], [.pure (.bool)], fun _ => True, fun x => (eqC x.1 x.2.1, ())⟩
set_option maxRecDepth 100000 in
/-- loop.example.g00597.laws.eqMethodS -/
theorem F89_ok : Meets Try.prog 89 F89 := by
  refine meets_of_vc (C := mkC 27 [4] [0,1,4,5,10,14,26] [⟨140, _, F140_ok⟩]) (mkC_ok _ _ _ _) (fnOf_ok _) Try.func89 rfl rfl rfl (by decide) rfl ?_
  rintro ⟨a0, a1, _⟩ hwf hpre ⟨P, C, B, X, w0, M0⟩ hG rfl rfl
  show Vc _ _ [(0, ⟨0, 0, .c (.pure (.slice (.pair (.int .i64) (.pair (.int .i64) (.pair (.int .i64) (.int .i64)))))) a0⟩), (1, ⟨0, 0, .c (.pure (.slice (.pair (.int .i64) (.pair (.int .i64) (.pair (.int .i64) (.int .i64)))))) a1⟩)] _
  have hb : List.length a0 ≤ bigLen := hwf.1.1
  refine Vc.seq ?_
  refine Vc.region hG rfl ?_ ?_
  · trivial
  refine Vc.seq ?_
  refine Vc.seq ?_
  refine Vc.region hG rfl ?_ ?_
  · trivial
  refine Vc.cond rfl (fun h0 => ?_) (fun h0 => ?_)
  · skip
    refine Vc.seq ?_
    refine Vc.region hG rfl ?_ ?_
    · trivial
    refine Vc.ret ?_
    refine ⟨?_, trivial⟩
    exact eqC_no (fun e => absurd (show ((List.length a0 : Int) != (List.length a1 : Int)) = true from h0) (by have e : a0 = a1 := e; rw [e]; simp))
  · skip
    have g0 : List.length a0 = List.length a1 := lenEq h0
    refine Vc.skip ?_
    refine Vc.seq ?_
    refine Vc.seq ?_
    refine Vc.region hG rfl ?_ ?_
    · trivial
    refine Vc.block ?_
    -- slots [5]; frame [0, 1, 10]
    refine Vc.loopF [(5, false, .pure (.int .i64))] [0, 1, 10] (fun v => eqInv a0 a1 v.1) (fun v => ((List.length a0 : Int) - v.1).toNat) rfl ?_ ?_
    · exact eqStart g0
    rintro ⟨(i : Int), _⟩ hI
    have hI : eqInv a0 a1 i := hI
    refine Vc.seq ?_
    refine Vc.seq ?_
    refine Vc.region hG rfl ?_ ?_
    · trivial
    refine Vc.cond rfl (fun h1 => ?_) (fun h1 => ?_)
    · skip
      have hl : i < (List.length a0 : Int) := of_decide_eq_true h1
      refine Vc.skip ?_
      refine Vc.seq ?_
      refine Vc.block ?_
      refine Vc.seq ?_
      refine Vc.regionD mixed hG rfl (by kernel_rfl) ?_ ?_
      · exact ⟨(eqRange hI hl).1, (eqRange hI hl).2, trivial⟩
      refine Vc.cond rfl (fun h2 => ?_) (fun h2 => ?_)
      · skip
        have g2 : (!(eqC (List.getD a0 i.toNat (dflt (.pair (.int .i64) (.pair (.int .i64) (.pair (.int .i64) (.int .i64)))))) (List.getD a1 i.toNat (dflt (.pair (.int .i64) (.pair (.int .i64) (.pair (.int .i64) (.int .i64)))))))) = true := h2
        refine Vc.seq ?_
        refine Vc.region hG rfl ?_ ?_
        · trivial
        refine Vc.ret ?_
        refine ⟨?_, trivial⟩
        exact eqNo (d := dflt (.pair (.int .i64) (.pair (.int .i64) (.pair (.int .i64) (.int .i64))))) (i := i) (fun e => by rw [e, eqC_self] at g2; cases g2)
      · skip
        have g2 : (List.getD a0 i.toNat (dflt (.pair (.int .i64) (.pair (.int .i64) (.pair (.int .i64) (.int .i64)))))) = (List.getD a1 i.toNat (dflt (.pair (.int .i64) (.pair (.int .i64) (.pair (.int .i64) (.int .i64)))))) := notC h2
        refine Vc.skip ?_
        refine Vc.region hG rfl ?_ ?_
        · trivial
        refine ⟨rfl, ?_⟩
        exact ⟨eqStep (d := dflt (.pair (.int .i64) (.pair (.int .i64) (.pair (.int .i64) (.int .i64))))) hI hl hb g2, (upStep hI.1 hl hb).2.2⟩
    · skip
      have hl : ¬ i < (List.length a0 : Int) := of_decide_eq_false h1
      refine Vc.exit ?_
      refine Vc.seq ?_
      refine Vc.region hG rfl ?_ ?_
      · trivial
      refine Vc.ret ?_
      refine ⟨?_, trivial⟩
      exact eqC_yes (eqEnd hI hl)
noncomputable def F46 : Fun := ⟨[.pair (.slice (.pair (.int .i64) (.pair (.int .i64) (.pair (.int .i64) (.pair (.int .i64) (.int .i64)))))) (.pair (.slice (.pair (.int .i64) (.pair (.int .i64) (.int .i64)))) (.pair (.slice (.pair (.int .i64) (.pair (.int .i64) (.pair (.int .i64) (.int .i64))))) (.pair (.int .i64) (.int .i64)))), .pair (.slice (.pair (.int .i64) (.pair (.int .i64) (.pair (.int .i64) (.pair (.int .i64) (.int .i64)))))) (.pair (.slice (.pair (.int .i64) (.pair (.int .i64) (.int .i64)))) (.pair (.slice (.pair (.int .i64) (.pair (.int .i64) (.pair (.int .i64) (.int .i64))))) (.pair (.int .i64) (.int .i64))))], [.pure (.bool)], fun _ => True, fun x => (eqC x.1 x.2.1, ())⟩
set_option maxRecDepth 100000 in
/-- loop.example.g00597.laws.eqFrame -/
theorem F46_ok : Meets Try.prog 46 F46 := by
  refine meets_of_vc (C := mkC 33 [4] [0,1,2,3,4,10,16,22,27,32] [⟨22, _, F22_ok⟩, ⟨23, _, F23_ok⟩, ⟨89, _, F89_ok⟩]) (mkC_ok _ _ _ _) (fnOf_ok _) Try.func46 rfl rfl rfl (by decide) rfl ?_
  rintro ⟨a0, a1, _⟩ hwf hpre ⟨P, C, B, X, w0, M0⟩ hG rfl rfl
  show Vc _ _ [(0, ⟨0, 0, .c (.pure (.pair (.slice (.pair (.int .i64) (.pair (.int .i64) (.pair (.int .i64) (.pair (.int .i64) (.int .i64)))))) (.pair (.slice (.pair (.int .i64) (.pair (.int .i64) (.int .i64)))) (.pair (.slice (.pair (.int .i64) (.pair (.int .i64) (.pair (.int .i64) (.int .i64))))) (.pair (.int .i64) (.int .i64)))))) a0⟩), (1, ⟨0, 0, .c (.pure (.pair (.slice (.pair (.int .i64) (.pair (.int .i64) (.pair (.int .i64) (.pair (.int .i64) (.int .i64)))))) (.pair (.slice (.pair (.int .i64) (.pair (.int .i64) (.int .i64)))) (.pair (.slice (.pair (.int .i64) (.pair (.int .i64) (.pair (.int .i64) (.int .i64))))) (.pair (.int .i64) (.int .i64)))))) a1⟩)] _
  refine Vc.seq ?_
  refine Vc.region hG rfl ?_ ?_
  · trivial
  refine Vc.seq ?_
  refine Vc.seq ?_
  refine Vc.region hG rfl ?_ ?_
  · trivial
  refine Vc.cond rfl (fun h0 => ?_) (fun h0 => ?_)
  · skip
    refine Vc.seq ?_
    refine Vc.region hG rfl ?_ ?_
    · trivial
    refine Vc.ret ?_
    refine ⟨?_, trivial⟩
    exact eqC_no (fun e => absurd (show (!(eqC a0.1 a1.1)) = true from h0) (by have e : a0 = a1 := e; rw [e, eqC_self]; decide))
  · skip
    have g0 : a0.1 = a1.1 := notC h0
    refine Vc.skip ?_
    refine Vc.seq ?_
    refine Vc.seq ?_
    refine Vc.region hG rfl ?_ ?_
    · trivial
    refine Vc.cond rfl (fun h1 => ?_) (fun h1 => ?_)
    · skip
      refine Vc.seq ?_
      refine Vc.region hG rfl ?_ ?_
      · trivial
      refine Vc.ret ?_
      refine ⟨?_, trivial⟩
      exact eqC_no (fun e => absurd (show (!(eqC a0.2.1 a1.2.1)) = true from h1) (by have e : a0 = a1 := e; rw [e, eqC_self]; decide))
    · skip
      have g1 : a0.2.1 = a1.2.1 := notC h1
      refine Vc.skip ?_
      refine Vc.seq ?_
      refine Vc.seq ?_
      refine Vc.region hG rfl ?_ ?_
      · trivial
      refine Vc.cond rfl (fun h2 => ?_) (fun h2 => ?_)
      · skip
        refine Vc.seq ?_
        refine Vc.region hG rfl ?_ ?_
        · trivial
        refine Vc.ret ?_
        refine ⟨?_, trivial⟩
        exact eqC_no (fun e => absurd (show (!(eqC a0.2.2.1 a1.2.2.1)) = true from h2) (by have e : a0 = a1 := e; rw [e, eqC_self]; decide))
      · skip
        have g2 : a0.2.2.1 = a1.2.2.1 := notC h2
        refine Vc.skip ?_
        refine Vc.seq ?_
        refine Vc.seq ?_
        refine Vc.region hG rfl ?_ ?_
        · trivial
        refine Vc.cond rfl (fun h3 => ?_) (fun h3 => ?_)
        · skip
          refine Vc.seq ?_
          refine Vc.region hG rfl ?_ ?_
          · trivial
          refine Vc.ret ?_
          refine ⟨?_, trivial⟩
          exact eqC_no (fun e => absurd (show (a0.2.2.2.1 != a1.2.2.2.1) = true from h3) (by have e : a0 = a1 := e; rw [e]; simp))
        · skip
          have g3 : a0.2.2.2.1 = a1.2.2.2.1 := bneI h3
          refine Vc.skip ?_
          refine Vc.seq ?_
          refine Vc.seq ?_
          refine Vc.region hG rfl ?_ ?_
          · trivial
          refine Vc.cond rfl (fun h4 => ?_) (fun h4 => ?_)
          · skip
            refine Vc.seq ?_
            refine Vc.region hG rfl ?_ ?_
            · trivial
            refine Vc.ret ?_
            refine ⟨?_, trivial⟩
            exact eqC_no (fun e => absurd (show (a0.2.2.2.2 != a1.2.2.2.2) = true from h4) (by have e : a0 = a1 := e; rw [e]; simp))
          · skip
            have g4 : a0.2.2.2.2 = a1.2.2.2.2 := bneI h4
            refine Vc.skip ?_
            refine Vc.seq ?_
            refine Vc.region hG rfl ?_ ?_
            · trivial
            refine Vc.ret ?_
            refine ⟨?_, trivial⟩
            exact eqC_yes (Prod.ext g0 (Prod.ext g1 (Prod.ext g2 (Prod.ext g3 g4))))
noncomputable def F141 : Fun := ⟨[.slice (.int .i64), .slice (.int .i64)], [.pure (.bool)], fun _ => True, fun x => (eqC x.1 x.2.1, ())⟩
set_option maxRecDepth 100000 in
/-- loop.example.g00597.laws.eqIntS -/
theorem F141_ok : Meets Try.prog 141 F141 := by
  refine meets_of_vc (C := mkC 26 [4] [0,1,4,5,10,14,25] []) (mkC_ok _ _ _ _) (fnOf_ok _) Try.func141 rfl rfl rfl (by decide) rfl ?_
  rintro ⟨a0, a1, _⟩ hwf hpre ⟨P, C, B, X, w0, M0⟩ hG rfl rfl
  show Vc _ _ [(0, ⟨0, 0, .c (.pure (.slice (.int .i64))) a0⟩), (1, ⟨0, 0, .c (.pure (.slice (.int .i64))) a1⟩)] _
  have hb : List.length a0 ≤ bigLen := hwf.1.1
  refine Vc.seq ?_
  refine Vc.region hG rfl ?_ ?_
  · trivial
  refine Vc.seq ?_
  refine Vc.seq ?_
  refine Vc.region hG rfl ?_ ?_
  · trivial
  refine Vc.cond rfl (fun h0 => ?_) (fun h0 => ?_)
  · skip
    refine Vc.seq ?_
    refine Vc.region hG rfl ?_ ?_
    · trivial
    refine Vc.ret ?_
    refine ⟨?_, trivial⟩
    exact eqC_no (fun e => absurd (show ((List.length a0 : Int) != (List.length a1 : Int)) = true from h0) (by have e : a0 = a1 := e; rw [e]; simp))
  · skip
    have g0 : List.length a0 = List.length a1 := lenEq h0
    refine Vc.skip ?_
    refine Vc.seq ?_
    refine Vc.seq ?_
    refine Vc.region hG rfl ?_ ?_
    · trivial
    refine Vc.block ?_
    -- slots [5]; frame [0, 1, 10]
    refine Vc.loopF [(5, false, .pure (.int .i64))] [0, 1, 10] (fun v => eqInv a0 a1 v.1) (fun v => ((List.length a0 : Int) - v.1).toNat) rfl ?_ ?_
    · exact eqStart g0
    rintro ⟨(i : Int), _⟩ hI
    have hI : eqInv a0 a1 i := hI
    refine Vc.seq ?_
    refine Vc.seq ?_
    refine Vc.region hG rfl ?_ ?_
    · trivial
    refine Vc.cond rfl (fun h1 => ?_) (fun h1 => ?_)
    · skip
      have hl : i < (List.length a0 : Int) := of_decide_eq_true h1
      refine Vc.skip ?_
      refine Vc.seq ?_
      refine Vc.block ?_
      refine Vc.seq ?_
      refine Vc.regionD mixed hG rfl (by kernel_rfl) ?_ ?_
      · exact ⟨(eqRange hI hl).1, (eqRange hI hl).2⟩
      refine Vc.cond rfl (fun h2 => ?_) (fun h2 => ?_)
      · skip
        have g2 : ((List.getD a0 i.toNat (dflt (.int .i64))) != (List.getD a1 i.toNat (dflt (.int .i64)))) = true := h2
        refine Vc.seq ?_
        refine Vc.region hG rfl ?_ ?_
        · trivial
        refine Vc.ret ?_
        refine ⟨?_, trivial⟩
        exact eqNo (d := dflt (.int .i64)) (i := i) (fun e => by rw [e] at g2; simp at g2)
      · skip
        have g2 : (List.getD a0 i.toNat (dflt (.int .i64))) = (List.getD a1 i.toNat (dflt (.int .i64))) := bneI h2
        refine Vc.skip ?_
        refine Vc.region hG rfl ?_ ?_
        · trivial
        refine ⟨rfl, ?_⟩
        exact ⟨eqStep (d := dflt (.int .i64)) hI hl hb g2, (upStep hI.1 hl hb).2.2⟩
    · skip
      have hl : ¬ i < (List.length a0 : Int) := of_decide_eq_false h1
      refine Vc.exit ?_
      refine Vc.seq ?_
      refine Vc.region hG rfl ?_ ?_
      · trivial
      refine Vc.ret ?_
      refine ⟨?_, trivial⟩
      exact eqC_yes (eqEnd hI hl)
noncomputable def F90 : Fun := ⟨[.pair (.int .i64) (.pair (.slice (.int .i64)) (.int .i64)), .pair (.int .i64) (.pair (.slice (.int .i64)) (.int .i64))], [.pure (.bool)], fun _ => True, fun x => (eqC x.1 x.2.1, ())⟩
set_option maxRecDepth 100000 in
/-- loop.example.g00597.laws.eqPiece -/
theorem F90_ok : Meets Try.prog 90 F90 := by
  refine meets_of_vc (C := mkC 21 [4] [0,1,2,3,4,9,15,20] [⟨141, _, F141_ok⟩]) (mkC_ok _ _ _ _) (fnOf_ok _) Try.func90 rfl rfl rfl (by decide) rfl ?_
  rintro ⟨a0, a1, _⟩ hwf hpre ⟨P, C, B, X, w0, M0⟩ hG rfl rfl
  show Vc _ _ [(0, ⟨0, 0, .c (.pure (.pair (.int .i64) (.pair (.slice (.int .i64)) (.int .i64)))) a0⟩), (1, ⟨0, 0, .c (.pure (.pair (.int .i64) (.pair (.slice (.int .i64)) (.int .i64)))) a1⟩)] _
  refine Vc.seq ?_
  refine Vc.region hG rfl ?_ ?_
  · trivial
  refine Vc.seq ?_
  refine Vc.seq ?_
  refine Vc.region hG rfl ?_ ?_
  · trivial
  refine Vc.cond rfl (fun h0 => ?_) (fun h0 => ?_)
  · skip
    refine Vc.seq ?_
    refine Vc.region hG rfl ?_ ?_
    · trivial
    refine Vc.ret ?_
    refine ⟨?_, trivial⟩
    exact eqC_no (fun e => absurd (show (a0.1 != a1.1) = true from h0) (by have e : a0 = a1 := e; rw [e]; simp))
  · skip
    have g0 : a0.1 = a1.1 := bneI h0
    refine Vc.skip ?_
    refine Vc.seq ?_
    refine Vc.seq ?_
    refine Vc.region hG rfl ?_ ?_
    · trivial
    refine Vc.cond rfl (fun h1 => ?_) (fun h1 => ?_)
    · skip
      refine Vc.seq ?_
      refine Vc.region hG rfl ?_ ?_
      · trivial
      refine Vc.ret ?_
      refine ⟨?_, trivial⟩
      exact eqC_no (fun e => absurd (show (!(eqC a0.2.1 a1.2.1)) = true from h1) (by have e : a0 = a1 := e; rw [e, eqC_self]; decide))
    · skip
      have g1 : a0.2.1 = a1.2.1 := notC h1
      refine Vc.skip ?_
      refine Vc.seq ?_
      refine Vc.seq ?_
      refine Vc.region hG rfl ?_ ?_
      · trivial
      refine Vc.cond rfl (fun h2 => ?_) (fun h2 => ?_)
      · skip
        refine Vc.seq ?_
        refine Vc.region hG rfl ?_ ?_
        · trivial
        refine Vc.ret ?_
        refine ⟨?_, trivial⟩
        exact eqC_no (fun e => absurd (show (a0.2.2 != a1.2.2) = true from h2) (by have e : a0 = a1 := e; rw [e]; simp))
      · skip
        have g2 : a0.2.2 = a1.2.2 := bneI h2
        refine Vc.skip ?_
        refine Vc.seq ?_
        refine Vc.region hG rfl ?_ ?_
        · trivial
        refine Vc.ret ?_
        refine ⟨?_, trivial⟩
        exact eqC_yes (Prod.ext g0 (Prod.ext g1 g2))
noncomputable def F47 : Fun := ⟨[.slice (.pair (.int .i64) (.pair (.slice (.int .i64)) (.int .i64))), .slice (.pair (.int .i64) (.pair (.slice (.int .i64)) (.int .i64)))], [.pure (.bool)], fun _ => True, fun x => (eqC x.1 x.2.1, ())⟩
set_option maxRecDepth 100000 in
/-- loop.example.g00597.laws.eqPieceS -/
theorem F47_ok : Meets Try.prog 47 F47 := by
  refine meets_of_vc (C := mkC 27 [4] [0,1,4,5,10,14,26] [⟨90, _, F90_ok⟩]) (mkC_ok _ _ _ _) (fnOf_ok _) Try.func47 rfl rfl rfl (by decide) rfl ?_
  rintro ⟨a0, a1, _⟩ hwf hpre ⟨P, C, B, X, w0, M0⟩ hG rfl rfl
  show Vc _ _ [(0, ⟨0, 0, .c (.pure (.slice (.pair (.int .i64) (.pair (.slice (.int .i64)) (.int .i64))))) a0⟩), (1, ⟨0, 0, .c (.pure (.slice (.pair (.int .i64) (.pair (.slice (.int .i64)) (.int .i64))))) a1⟩)] _
  have hb : List.length a0 ≤ bigLen := hwf.1.1
  refine Vc.seq ?_
  refine Vc.region hG rfl ?_ ?_
  · trivial
  refine Vc.seq ?_
  refine Vc.seq ?_
  refine Vc.region hG rfl ?_ ?_
  · trivial
  refine Vc.cond rfl (fun h0 => ?_) (fun h0 => ?_)
  · skip
    refine Vc.seq ?_
    refine Vc.region hG rfl ?_ ?_
    · trivial
    refine Vc.ret ?_
    refine ⟨?_, trivial⟩
    exact eqC_no (fun e => absurd (show ((List.length a0 : Int) != (List.length a1 : Int)) = true from h0) (by have e : a0 = a1 := e; rw [e]; simp))
  · skip
    have g0 : List.length a0 = List.length a1 := lenEq h0
    refine Vc.skip ?_
    refine Vc.seq ?_
    refine Vc.seq ?_
    refine Vc.region hG rfl ?_ ?_
    · trivial
    refine Vc.block ?_
    -- slots [5]; frame [0, 1, 10]
    refine Vc.loopF [(5, false, .pure (.int .i64))] [0, 1, 10] (fun v => eqInv a0 a1 v.1) (fun v => ((List.length a0 : Int) - v.1).toNat) rfl ?_ ?_
    · exact eqStart g0
    rintro ⟨(i : Int), _⟩ hI
    have hI : eqInv a0 a1 i := hI
    refine Vc.seq ?_
    refine Vc.seq ?_
    refine Vc.region hG rfl ?_ ?_
    · trivial
    refine Vc.cond rfl (fun h1 => ?_) (fun h1 => ?_)
    · skip
      have hl : i < (List.length a0 : Int) := of_decide_eq_true h1
      refine Vc.skip ?_
      refine Vc.seq ?_
      refine Vc.block ?_
      refine Vc.seq ?_
      refine Vc.regionD mixed hG rfl (by kernel_rfl) ?_ ?_
      · exact ⟨(eqRange hI hl).1, (eqRange hI hl).2, trivial⟩
      refine Vc.cond rfl (fun h2 => ?_) (fun h2 => ?_)
      · skip
        have g2 : (!(eqC (List.getD a0 i.toNat (dflt (.pair (.int .i64) (.pair (.slice (.int .i64)) (.int .i64))))) (List.getD a1 i.toNat (dflt (.pair (.int .i64) (.pair (.slice (.int .i64)) (.int .i64))))))) = true := h2
        refine Vc.seq ?_
        refine Vc.region hG rfl ?_ ?_
        · trivial
        refine Vc.ret ?_
        refine ⟨?_, trivial⟩
        exact eqNo (d := dflt (.pair (.int .i64) (.pair (.slice (.int .i64)) (.int .i64)))) (i := i) (fun e => by rw [e, eqC_self] at g2; cases g2)
      · skip
        have g2 : (List.getD a0 i.toNat (dflt (.pair (.int .i64) (.pair (.slice (.int .i64)) (.int .i64))))) = (List.getD a1 i.toNat (dflt (.pair (.int .i64) (.pair (.slice (.int .i64)) (.int .i64))))) := notC h2
        refine Vc.skip ?_
        refine Vc.region hG rfl ?_ ?_
        · trivial
        refine ⟨rfl, ?_⟩
        exact ⟨eqStep (d := dflt (.pair (.int .i64) (.pair (.slice (.int .i64)) (.int .i64)))) hI hl hb g2, (upStep hI.1 hl hb).2.2⟩
    · skip
      have hl : ¬ i < (List.length a0 : Int) := of_decide_eq_false h1
      refine Vc.exit ?_
      refine Vc.seq ?_
      refine Vc.region hG rfl ?_ ?_
      · trivial
      refine Vc.ret ?_
      refine ⟨?_, trivial⟩
      exact eqC_yes (eqEnd hI hl)
noncomputable def F7 : Fun := ⟨[.pair (.slice (.pair (.int .i64) (.pair (.int .i64) (.pair (.int .i64) (.pair (.int .i64) (.int .i64)))))) (.pair (.slice (.pair (.int .i64) (.pair (.int .i64) (.int .i64)))) (.pair (.slice (.pair (.int .i64) (.pair (.int .i64) (.pair (.int .i64) (.int .i64))))) (.pair (.int .i64) (.int .i64)))), .slice (.pair (.int .i64) (.pair (.slice (.int .i64)) (.int .i64))), .pair (.int .i64) (.pair (.int .i64) (.pair (.int .i64) (.pair (.int .i64) (.pair (.int .i64) (.pair (.int .i64) (.pair (.int .i64) (.pair (.int .i64) (.int .i64))))))))], [.pure (.bool)], fun _ => True, fun x => ((fun _ _ _ => true) x.1 x.2.1 x.2.2.1, ())⟩
set_option maxRecDepth 100000 in
/-- loop.example.g00597.laws.FnExactCertFor -/
theorem F7_ok : Meets Try.prog 7 F7 := by
  refine meets_of_vc (C := mkC 65 [6] [0,1,2,3,5,6,7,8,9,10,11,12,13,18,23,54,59,64] [⟨38, _, F38_ok⟩, ⟨39, _, F39_ok⟩, ⟨41, _, F41_ok⟩, ⟨42, _, F42_ok⟩, ⟨43, _, F43_ok⟩, ⟨40, _, F40_ok⟩, ⟨44, _, F44_ok⟩, ⟨45, _, F45_ok⟩, ⟨46, _, F46_ok⟩, ⟨47, _, F47_ok⟩]) (mkC_ok _ _ _ _) (fnOf_ok _) Try.func7 rfl rfl rfl (by decide) rfl ?_
  rintro ⟨a0, a1, a2, _⟩ hwf hpre ⟨P, C, B, X, w0, M0⟩ hG rfl rfl
  show Vc _ _ [(0, ⟨0, 0, .c (.pure (.pair (.slice (.pair (.int .i64) (.pair (.int .i64) (.pair (.int .i64) (.pair (.int .i64) (.int .i64)))))) (.pair (.slice (.pair (.int .i64) (.pair (.int .i64) (.int .i64)))) (.pair (.slice (.pair (.int .i64) (.pair (.int .i64) (.pair (.int .i64) (.int .i64))))) (.pair (.int .i64) (.int .i64)))))) a0⟩), (1, ⟨0, 0, .c (.pure (.slice (.pair (.int .i64) (.pair (.slice (.int .i64)) (.int .i64))))) a1⟩), (2, ⟨0, 0, .c (.pure (.pair (.int .i64) (.pair (.int .i64) (.pair (.int .i64) (.pair (.int .i64) (.pair (.int .i64) (.pair (.int .i64) (.pair (.int .i64) (.pair (.int .i64) (.int .i64)))))))))) a2⟩)] _
  have q0 : (0 : Int) ≤ 1048576 ∧ (1048576 : Int) ≤ (big20 : Int) := by decide
  refine Vc.seq ?_
  refine Vc.region hG rfl ?_ ?_
  · trivial
  refine Vc.seq ?_
  refine Vc.region hG rfl ?_ ?_
  · trivial
  refine Vc.seq ?_
  refine Vc.region hG rfl ?_ ?_
  · exact (show (0 : Int) ≤ 1048576 ∧ 1048576 ≤ (big20 : Int) from ⟨by omega, by omega⟩)
  refine Vc.seq ?_
  refine Vc.seq ?_
  refine Vc.region hG rfl ?_ ?_
  · trivial
  refine Vc.cond rfl (fun h0 => ?_) (fun h0 => ?_)
  · skip
    refine Vc.seq ?_
    refine Vc.region hG rfl ?_ ?_
    · trivial
    refine Vc.ret ?_
    refine ⟨?_, trivial⟩
    all_goals exact rfl
  · skip
    have g0 : ¬ szF (.pair (.slice (.pair (.int .i64) (.pair (.int .i64) (.pair (.int .i64) (.pair (.int .i64) (.int .i64)))))) (.pair (.slice (.pair (.int .i64) (.pair (.int .i64) (.int .i64)))) (.pair (.slice (.pair (.int .i64) (.pair (.int .i64) (.pair (.int .i64) (.int .i64))))) (.pair (.int .i64) (.int .i64))))) a0 (1048576) < 0 := of_decide_eq_false h0
    have k0 := szF_le (.pair (.slice (.pair (.int .i64) (.pair (.int .i64) (.pair (.int .i64) (.pair (.int .i64) (.int .i64)))))) (.pair (.slice (.pair (.int .i64) (.pair (.int .i64) (.int .i64)))) (.pair (.slice (.pair (.int .i64) (.pair (.int .i64) (.pair (.int .i64) (.int .i64))))) (.pair (.int .i64) (.int .i64))))) a0 (1048576)
    have hs0 : Sm big20 (.pair (.slice (.pair (.int .i64) (.pair (.int .i64) (.pair (.int .i64) (.pair (.int .i64) (.int .i64)))))) (.pair (.slice (.pair (.int .i64) (.pair (.int .i64) (.int .i64)))) (.pair (.slice (.pair (.int .i64) (.pair (.int .i64) (.pair (.int .i64) (.int .i64))))) (.pair (.int .i64) (.int .i64))))) a0 := szF_sm (n := big20) (.pair (.slice (.pair (.int .i64) (.pair (.int .i64) (.pair (.int .i64) (.pair (.int .i64) (.int .i64)))))) (.pair (.slice (.pair (.int .i64) (.pair (.int .i64) (.int .i64)))) (.pair (.slice (.pair (.int .i64) (.pair (.int .i64) (.pair (.int .i64) (.int .i64))))) (.pair (.int .i64) (.int .i64))))) a0 (1048576) (by omega) (by omega)
    refine Vc.skip ?_
    refine Vc.seq ?_
    refine Vc.region hG rfl ?_ ?_
    · exact (show (0 : Int) ≤ szF (.pair (.slice (.pair (.int .i64) (.pair (.int .i64) (.pair (.int .i64) (.pair (.int .i64) (.int .i64)))))) (.pair (.slice (.pair (.int .i64) (.pair (.int .i64) (.int .i64)))) (.pair (.slice (.pair (.int .i64) (.pair (.int .i64) (.pair (.int .i64) (.int .i64))))) (.pair (.int .i64) (.int .i64))))) a0 (1048576) ∧ szF (.pair (.slice (.pair (.int .i64) (.pair (.int .i64) (.pair (.int .i64) (.pair (.int .i64) (.int .i64)))))) (.pair (.slice (.pair (.int .i64) (.pair (.int .i64) (.int .i64)))) (.pair (.slice (.pair (.int .i64) (.pair (.int .i64) (.pair (.int .i64) (.int .i64))))) (.pair (.int .i64) (.int .i64))))) a0 (1048576) ≤ (big20 : Int) from ⟨by omega, by omega⟩)
    refine Vc.seq ?_
    refine Vc.seq ?_
    refine Vc.region hG rfl ?_ ?_
    · trivial
    refine Vc.cond rfl (fun h1 => ?_) (fun h1 => ?_)
    · skip
      refine Vc.seq ?_
      refine Vc.region hG rfl ?_ ?_
      · trivial
      refine Vc.ret ?_
      refine ⟨?_, trivial⟩
      all_goals exact rfl
    · skip
      have g1 : ¬ szF (.slice (.pair (.int .i64) (.pair (.slice (.int .i64)) (.int .i64)))) a1 (szF (.pair (.slice (.pair (.int .i64) (.pair (.int .i64) (.pair (.int .i64) (.pair (.int .i64) (.int .i64)))))) (.pair (.slice (.pair (.int .i64) (.pair (.int .i64) (.int .i64)))) (.pair (.slice (.pair (.int .i64) (.pair (.int .i64) (.pair (.int .i64) (.int .i64))))) (.pair (.int .i64) (.int .i64))))) a0 (1048576)) < 0 := of_decide_eq_false h1
      have k1 := szF_le (.slice (.pair (.int .i64) (.pair (.slice (.int .i64)) (.int .i64)))) a1 (szF (.pair (.slice (.pair (.int .i64) (.pair (.int .i64) (.pair (.int .i64) (.pair (.int .i64) (.int .i64)))))) (.pair (.slice (.pair (.int .i64) (.pair (.int .i64) (.int .i64)))) (.pair (.slice (.pair (.int .i64) (.pair (.int .i64) (.pair (.int .i64) (.int .i64))))) (.pair (.int .i64) (.int .i64))))) a0 (1048576))
      have hs1 : Sm big20 (.slice (.pair (.int .i64) (.pair (.slice (.int .i64)) (.int .i64)))) a1 := szF_sm (n := big20) (.slice (.pair (.int .i64) (.pair (.slice (.int .i64)) (.int .i64)))) a1 (szF (.pair (.slice (.pair (.int .i64) (.pair (.int .i64) (.pair (.int .i64) (.pair (.int .i64) (.int .i64)))))) (.pair (.slice (.pair (.int .i64) (.pair (.int .i64) (.int .i64)))) (.pair (.slice (.pair (.int .i64) (.pair (.int .i64) (.pair (.int .i64) (.int .i64))))) (.pair (.int .i64) (.int .i64))))) a0 (1048576)) (by omega) (by omega)
      refine Vc.skip ?_
      refine Vc.seq ?_
      refine Vc.regionD mixed hG rfl (by kernel_rfl) ?_ ?_
      · exact ⟨hs0, hs1, trivial, trivial⟩
      refine Vc.seq ?_
      refine Vc.region hG rfl ?_ ?_
      · exact hs0
      refine Vc.seq ?_
      refine Vc.region hG rfl ?_ ?_
      · exact hs1
      refine Vc.seq ?_
      refine Vc.regionD mixed hG rfl (by kernel_rfl) ?_ ?_
      · exact ⟨trivial, trivial⟩
      refine Vc.seq ?_
      refine Vc.seq ?_
      refine Vc.region hG rfl ?_ ?_
      · exact trivial
      refine Vc.cond rfl (fun h2 => ?_) (fun h2 => ?_)
      · skip
        exact (ne_self2CB h2).elim
      · skip
        refine Vc.skip ?_
        refine Vc.seq ?_
        refine Vc.seq ?_
        refine Vc.regionD mixed hG rfl (by kernel_rfl) ?_ ?_
        · exact ⟨hs0, trivial⟩
        refine Vc.cond rfl (fun h3 => ?_) (fun h3 => ?_)
        · skip
          exact (ne_selfC h3).elim
        · skip
          refine Vc.skip ?_
          refine Vc.seq ?_
          refine Vc.seq ?_
          refine Vc.region hG rfl ?_ ?_
          · exact ⟨hs1, trivial⟩
          refine Vc.cond rfl (fun h4 => ?_) (fun h4 => ?_)
          · skip
            exact (ne_selfC h4).elim
          · skip
            refine Vc.skip ?_
            refine Vc.seq ?_
            refine Vc.region hG rfl ?_ ?_
            · trivial
            refine Vc.ret ?_
            refine ⟨?_, trivial⟩
            all_goals exact rfl
end Fw
