/- Walks of functions of the program: what each computes. Conditions: those that each contract names. -/
import Derived.Test.YtacmkmcclbpolaaP2
import Derived.Test.YtacmkmcclbpolaaProg
namespace Fw
open Go Go.Proofs
set_option linter.unusedSimpArgs false
abbrev Z0 : Sh := .pure (.slice (.int .u8))
abbrev Y1 : Ty := .pair (.int .i64) (.int .i64)
abbrev Z2 : Sh := .pure Y1
abbrev Y3 : Ty := .pair (.int .i64) Y1
abbrev Y4 : Ty := .pair (.slice (.int .u8)) Y1
abbrev Z5 : Sh := .pure Y4
abbrev Y6 : Ty := .pair (.int .i64) Y3
abbrev Z7 : Sh := .pure Y6
def tys : List (Nat × Ty) := [(2, .int .i64), (3, .int .i64), (4, .bool), (5, .int .u8), (6, .int .u8), (8, .pair (.int .i64) (.pair (.int .i64) (.pair (.bool) (.int .u8)))), (9, .str), (10, .str), (11, .str), (12, .int .u64), (14, .pair (.str) (.int .u64)), (21, .int .i32), (22, .slice (.int .u8)), (25, .pair (.int .i64) (.int .i64)), (27, .pair (.int .i64) (.pair (.int .i64) (.pair (.int .i64) (.int .i64)))), (38, .arr 4 (.str)), (39, .arr 10 (.str)), (42, .pair (.slice (.int .u8)) (.pair (.int .i64) (.int .i64))), (46, .slice (.int .i64)), (50, .int .u64), (58, .int .u32), (59, .int .u8), (60, .int .u8), (63, .int .i32), (64, .int .i32)]
def flds : List (Nat × List (Nat × Ty)) := [(8, [(0, .int .i64), (1, .int .i64), (2, .bool), (3, .int .u8)]), (14, [(0, .str), (1, .int .u64)]), (25, [(0, .int .i64), (1, .int .i64)]), (27, [(0, .int .i64), (1, .int .i64), (2, .pair (.int .i64) (.int .i64))]), (42, [(0, .slice (.int .u8)), (1, .int .i64), (2, .int .i64)])]
def eqs : List Nat := [25, 27]
set_option maxRecDepth 100000 in
theorem tys_ok : tysB Try.prog tys = true := by kernel_rfl
set_option maxRecDepth 100000 in
theorem flds_ok : allFldsB Try.prog flds = true := by kernel_rfl
set_option maxRecDepth 100000 in
theorem eqs_ok : eqsB Try.prog tys eqs = true := by kernel_rfl
theorem mixed : Try.prog.follows .mixedOrders = true := by kernel_rfl
noncomputable def mkC (n : Nat) (res keep : List Nat) (l : List (Known Try.prog)) : Ctx := ⟨n, tys, flds, res, keep, fnOf l, eqs, fun _ => none, [], fun _ => none, false, fun _ => none, false, fun _ => none⟩
theorem mkC_ok (n : Nat) (res keep : List Nat) (l : List (Known Try.prog)) : CtxOk Try.prog (mkC n res keep l) := ctxOk tys_ok flds_ok eqs_ok (fun _ _ h => by cases h) (fun _ _ h => by cases h)
noncomputable def mkCM (n : Nat) (res keep : List Nat) (l : List (Known Try.prog)) (lm : List (KnownM Try.prog)) (lt : List (KnownT Try.prog)) (pins : List Nat) : Ctx := ⟨n, tys, flds, res, keep, fnOf l, eqs, fnOfM lm, pins, fnOfT lt, false, fun _ => none, false, fun _ => none⟩
theorem mkCM_ok (n : Nat) (res keep : List Nat) (l : List (Known Try.prog)) (lm : List (KnownM Try.prog)) (lt : List (KnownT Try.prog)) (pins : List Nat) : CtxOk Try.prog (mkCM n res keep l lm lt pins) := ctxOk tys_ok flds_ok eqs_ok (fnOfM_ok lm) (fnOfT_ok lt)
noncomputable def mkCK (n : Nat) (res keep : List Nat) (l : List (Known Try.prog)) (lm : List (KnownM Try.prog)) (lt : List (KnownT Try.prog)) (lk : List (KnownK Try.prog)) (pins : List Nat) : Ctx := ⟨n, tys, flds, res, keep, fnOf l, eqs, fnOfM lm, pins, fnOfT lt, false, fnOfK lk, false, fun _ => none⟩
theorem mkCK_ok (n : Nat) (res keep : List Nat) (l : List (Known Try.prog)) (lm : List (KnownM Try.prog)) (lt : List (KnownT Try.prog)) (lk : List (KnownK Try.prog)) (pins : List Nat) : CtxOk Try.prog (mkCK n res keep l lm lt lk pins) := ctxOk tys_ok flds_ok eqs_ok (fnOfM_ok lm) (fnOfT_ok lt) (fnOfK_ok lk)
noncomputable def mkCP (n : Nat) (res keep : List Nat) (l : List (Known Try.prog)) (lm : List (KnownM Try.prog)) (lt : List (KnownT Try.prog)) (lp : List (KnownP Try.prog)) (pins : List Nat) : Ctx := ⟨n, tys, flds, res, keep, fnOf l, eqs, fnOfM lm, pins, fnOfT lt, false, fun _ => none, false, fnOfP lp⟩
theorem mkCP_ok (n : Nat) (res keep : List Nat) (l : List (Known Try.prog)) (lm : List (KnownM Try.prog)) (lt : List (KnownT Try.prog)) (lp : List (KnownP Try.prog)) (pins : List Nat) : CtxOk Try.prog (mkCP n res keep l lm lt lp pins) := ctxOk tys_ok flds_ok eqs_ok (fnOfM_ok lm) (fnOfT_ok lt) (fun _ _ h => by cases h) (fnOfP_ok lp)
end Fw
