/- Each operation does what is computed of it: arithmetic, indexes, parts of values. Conditions: none. -/
import Derived.Test.YtnbpojalpdldnaaFw11
import Derived.IntWalk
namespace Fw
open Go

theorem inR_wrap (k : IntKind) (n : Int) : inR k (k.wrap n) := by
  cases k <;> simp only [inR, IntKind.wrap, IntKind.min, IntKind.max, IntKind.signed, IntKind.bits] <;> simp <;> (try split) <;> omega

theorem inR_tmod {k : IntKind} {x y : Int} (hx : inR k x) : inR k (x.tmod y) := by
  have h0 : 0 ≤ k.max ∧ k.min ≤ 0 := by cases k <;> decide
  have h1 : (x.tmod y).natAbs ≤ x.natAbs := by rw [Int.natAbs_tmod]; exact Nat.mod_le _ _
  have h2 : 0 ≤ x → 0 ≤ x.tmod y := fun h => Int.tmod_nonneg _ h
  have h3 : x ≤ 0 → x.tmod y ≤ 0 := fun h => by
    have e : x.tmod y = -((-x).tmod y) := by rw [Int.neg_tmod, Int.neg_neg]
    have := Int.tmod_nonneg y (show 0 ≤ -x by omega)
    omega
  unfold inR at *; omega

section
variable {n B : Nat} {X : List Nat} {w0 : World} {M0 M : Mem} {ω : Own} {ρ : Env} {tmps : Array Value} {w : World} {P : Program} {C : Ctx}

theorem put_int (S : St0 n B X w0 M0 M ω ρ tmps w) {d : Nat} (hd : d < n) {k : IntKind} {x : Int} (hx : inR k x) :
    St0 n B X w0 M0 M (settle n d ω) (ρ.puts [w1 d (.c (.pure (.int k)) x)]) (tmps.setIfInBounds d (.int k x)) w :=
  put_pure S hd (t := .int k) (cs := [.int k x]) rfl ⟨rfl, hx⟩
theorem put_bool (S : St0 n B X w0 M0 M ω ρ tmps w) {d : Nat} (hd : d < n) {x : Bool} :
    St0 n B X w0 M0 M (settle n d ω) (ρ.puts [w1 d (.c (.pure .bool) x)]) (tmps.setIfInBounds d (.bool x)) w :=
  put_pure S hd (t := .bool) (cs := [.bool x]) rfl rfl
theorem put_str (S : St0 n B X w0 M0 M ω ρ tmps w) {d : Nat} (hd : d < n) {x : List UInt8} (hx : x.length ≤ bigLen) {s : ByteArray} (hs : s = ⟨x.toArray⟩) :
    St0 n B X w0 M0 M (settle n d ω) (ρ.puts [w1 d (.c (.pure .str) x)]) (tmps.setIfInBounds d (.string s)) w :=
  put_pure S hd (t := .str) (cs := [.string s]) rfl ⟨by rw [hs], hx⟩

theorem exMovePtr_ok (S : St0 n B X w0 M0 M ω ρ tmps w) {d : Nat} (hd : d < n) {q : Opd} {o : Nat} {ws : List Wr} {cs : List Prop}
    (h : exMovePtr d q o = some (ws, cs)) {v : Value} (hq : OpdR n M ω w ρ (vl tmps) q v) :
    ∃ b p, v = .pointer (some ⟨b, p, none⟩) ∧ ∃ M' ω', St0 n B X w0 M0 M' ω' (ρ.puts ws) (tmps.setIfInBounds d (.pointer (some ⟨b, p + o, none⟩))) w := by
  unfold exMovePtr at h
  split at h
  · rename_i u x off ha
    have hr := hq.rel (by rw [ha]; intro _ _ _ _ _ e; cases e)
    rw [ha] at hr
    obtain ⟨b, p, cs', h1, h2, h3⟩ := hr
    simp only [out1, Option.some.injEq, Prod.mk.injEq] at h
    obtain ⟨rfl, rfl⟩ := h
    exact ⟨b, p + off, h1, _, _, put_ref S hd (t := 0) (by intros; intro e; cases e) (by intros; intro e; cases e) (by intros; intro e; cases e) ⟨b, p, cs', by rw [Nat.add_assoc], h2, h3⟩⟩
  · rename_i k g ag off ha
    have hr := hq.rel (by rw [ha]; intro _ _ _ _ _ e; cases e)
    rw [ha] at hr
    obtain ⟨h1, b, cs', h2, h3, h4⟩ := hr
    simp only [out1, Option.some.injEq, Prod.mk.injEq] at h
    obtain ⟨rfl, rfl⟩ := h
    exact ⟨b, off, h2, _, _, put_ref S hd (t := 0) (by intros; intro e; cases e) (by intros; intro e; cases e) (by intros; intro e; cases e) ⟨h1, b, cs', rfl, h3, h4⟩⟩
  · rename_i k g ver off et i eo arr ha
    have hr := hq.rel (by rw [ha]; intro _ _ _ _ _ e; cases e)
    have htg := hq.tgt k (by rw [ha]; rfl)
    rw [ha] at hr
    obtain ⟨h1, h2⟩ := hr
    split at h
    · rename_i hc
      rw [htg] at hc
      simp only [out1, Option.some.injEq, Prod.mk.injEq] at h
      obtain ⟨rfl, rfl⟩ := h
      have he := h2 hc
      unfold ElpR at he
      cases arr with
      | none =>
        simp only [Option.isSome_none, Bool.false_eq_true, if_false] at he
        obtain ⟨pc, k1, a, len, cap, k2, k0, k3, k4⟩ := he
        refine ⟨a.block, _, k4, _, _, put_ref S hd (t := 0) (by intros; intro e; cases e) (by intros; intro e; cases e) (by intros; intro e; cases e) ⟨h1, fun _ => ?_⟩⟩
        unfold ElpR
        simp only [Option.isSome_none, Bool.false_eq_true, if_false]
        exact ⟨pc, k1, a, len, cap, k2, k0, k3, by simp only [Nat.add_assoc]⟩
      | some m =>
        simp only [Option.isSome_some, if_true] at he
        obtain ⟨k0, b, k1, k2⟩ := he
        refine ⟨b, _, k2, _, _, put_ref S hd (t := 0) (by intros; intro e; cases e) (by intros; intro e; cases e) (by intros; intro e; cases e) ⟨h1, fun _ => ?_⟩⟩
        unfold ElpR
        simp only [Option.isSome_some, if_true]
        exact ⟨k0, b, k1, by simp only [Nat.add_assoc]⟩
    · cases h
  · obtain ⟨j, g, off, e, h1, h2⟩ := ptrK_ok S h
    obtain ⟨hj, rfl, hro, hp⟩ := h2 v hq
    split at h1
    · rename_i hg
      simp only [out1, Option.some.injEq, Prod.mk.injEq] at h1
      obtain ⟨rfl, rfl⟩ := h1
      obtain ⟨b, hb, hv⟩ := hp hg
      exact ⟨b, off, hv, _, _, put_ref S hd (t := 0) (by intros; intro e; cases e) (by intros; intro e; cases e) (by intros; intro e; cases e) ⟨hro, fun _ => ⟨b, hb, rfl⟩⟩⟩
    · cases h1

theorem run_fieldAt (hC : CtxOk P C) {t : TypeId} {l : List (Nat × Ty)} (hl : look C.flds t = some l) {f o : Nat} {T : Ty} (hf : l[f]? = some (o, T)) (b p : Nat) :
    (Instr.fieldAt t (.pointer (some ⟨b, p, none⟩)) f).run P w = .ok (.pointer (some ⟨b, p + o, none⟩)) w := by
  obtain ⟨fs, h1, h2⟩ := hC.flds t l hl
  obtain ⟨fd, h3, h4, h5, h6⟩ := h2 f o T hf
  simp only [Instr.fieldAt, Sem.run_bind, run_underlying' h1, Result.andThen_ok, h3, Instr.sureAddr, Sem.run_pure, fieldPlace, run_sizeOf h5, if_neg h6, addr_add, h4]

theorem exFieldAddr_ok (hC : CtxOk P C) (S : St0 n B X w0 M0 M ω ρ tmps w) {t : TypeId} {d f : Nat} (hd : d < n) {q : Opd} {ws : List Wr} {cs : List Prop}
    (h : exFieldAddr C t d q f = some (ws, cs)) {v : Value} (hq : OpdR n M ω w ρ (vl tmps) q v) : Res n B X w0 M0 ρ tmps d ws ((Instr.fieldAt t v f).run P w) := by
  unfold exFieldAddr at h
  split at h
  · rename_i l hl
    split at h
    · rename_i o T hf
      obtain ⟨b, p, hv, M', ω', hS⟩ := exMovePtr_ok S hd h hq
      subst hv
      exact ⟨_, w, M', ω', run_fieldAt hC hl hf b p, hS⟩
    · cases h
  · cases h

theorem exUn_ok (S : St0 n B X w0 M0 M ω ρ tmps w) {d : Nat} (hd : d < n) {op : UnOp} {T : Ty} {q : Opd} {ws : List Wr} {cs : List Prop}
    (h : exUn op d T q = some (ws, cs)) {v : Value} (hq : OpdR n M ω w ρ (vl tmps) q v) : Res n B X w0 M0 ρ tmps d ws ((Op.unary op v).run P w) := by
  unfold exUn at h
  split at h
  · obtain ⟨x, h1, h2⟩ := rd_bool S h
    simp only [out1, Option.some.injEq, Prod.mk.injEq] at h1
    obtain ⟨rfl, rfl⟩ := h1
    rw [h2 v hq]
    exact ⟨_, w, _, _, rfl, put_bool S hd⟩
  · obtain ⟨x, h1, h2⟩ := rd_int S h
    simp only [out1, Option.some.injEq, Prod.mk.injEq] at h1
    obtain ⟨rfl, rfl⟩ := h1
    rw [(h2 v hq).1]
    exact ⟨_, w, _, _, rfl, put_int S hd (inR_wrap _ _)⟩
  · cases h

theorem run_eqGuard_int (op : BinOp) (t : TypeId) (x y : Operand) (k k' : IntKind) (a b : Int) : (eqGuard op t x y (.int k a) (.int k' b)).run P w = .ok () w := by
  unfold eqGuard; cases op <;> rfl
theorem run_eqGuard_str (op : BinOp) (t : TypeId) (x y : Operand) (a b : ByteArray) : (eqGuard op t x y (.string a) (.string b)).run P w = .ok () w := by
  unfold eqGuard; cases op <;> rfl
theorem run_eqGuard_bool (op : BinOp) (t : TypeId) (x y : Operand) (a b : Bool) : (eqGuard op t x y (.bool a) (.bool b)).run P w = .ok () w := by
  unfold eqGuard; cases op <;> rfl

theorem inR_fdiv {k : IntKind} {x : Int} (hx : inR k x) (m : Nat) : inR k (x.fdiv (2 ^ m)) := by
  have h0 : 0 ≤ k.max ∧ k.min ≤ 0 := by cases k <;> decide
  have hp : (0 : Int) < 2 ^ m := Int.pow_pos (by decide)
  rw [Int.fdiv_eq_ediv_of_nonneg _ (Int.le_of_lt hp)]
  unfold inR at *
  rcases Int.lt_or_le x 0 with hn | hp'
  · have h1 : x ≤ x / 2 ^ m := by
      have := Int.mul_ediv_add_emod x (2 ^ m)
      have h2 := Int.emod_nonneg x (Int.ne_of_gt hp)
      have h3 : x / 2 ^ m < 0 := Int.ediv_neg_of_neg_of_pos hn hp
      have h4 : x ≤ x / 2 ^ m := by
        rw [Int.le_ediv_iff_mul_le hp]
        have : x * 2 ^ m ≤ x * 1 := Int.mul_le_mul_of_nonpos_left (by omega) (by omega)
        omega
      exact h4
    have h3 : x / 2 ^ m < 0 := Int.ediv_neg_of_neg_of_pos hn hp
    omega
  · have h1 : x / 2 ^ m ≤ x := Int.ediv_le_self _ hp'
    have h2 : 0 ≤ x / 2 ^ m := Int.ediv_nonneg hp' (Int.le_of_lt hp)
    omega

theorem binInt_ok (S : St0 n B X w0 M0 M ω ρ tmps w) {d : Nat} (hd : d < n) {op : BinOp} {k : IntKind} {x y : Int} {r : A} {cs : List Prop}
    (h : binInt op k x y = some (r, cs)) (hcs : ∀ p ∈ cs, p) (hx : inR k x) (t : TypeId) :
    Res n B X w0 M0 ρ tmps d [w1 d r] ((binOp op t (.int k x) (.int k y)).run P w) := by
  cases op <;> simp only [binInt, Option.some.injEq, Prod.mk.injEq, reduceCtorEq] at h
  all_goals obtain ⟨rfl, rfl⟩ := h
  case add => exact ⟨_, w, _, _, by simp [binOp, Op.intArith], put_int S hd (inR_wrap _ _)⟩
  case sub => exact ⟨_, w, _, _, by simp [binOp, Op.intArith], put_int S hd (inR_wrap _ _)⟩
  case mul => exact ⟨_, w, _, _, by simp [binOp, Op.intArith], put_int S hd (inR_wrap _ _)⟩
  case quo =>
    have hy0 : y ≠ 0 := hcs _ (by simp)
    exact ⟨_, w, _, _, by simp [binOp, Op.intDiv, hy0], put_int S hd (inR_wrap _ _)⟩
  case rem =>
    have hy0 : y ≠ 0 := hcs _ (by simp)
    exact ⟨_, w, _, _, by simp [binOp, Op.intDiv, hy0], put_int S hd (inR_tmod hx)⟩
  case and => exact ⟨_, w, _, _, by simp [binOp, Op.intBits], put_int S hd (inR_wrap _ _)⟩
  case or => exact ⟨_, w, _, _, by simp [binOp, Op.intBits], put_int S hd (inR_wrap _ _)⟩
  case xor => exact ⟨_, w, _, _, by simp [binOp, Op.intBits], put_int S hd (inR_wrap _ _)⟩
  case eql => exact ⟨_, w, _, _, by simp [binOp, Op.intCmp], put_bool S hd⟩
  case neq => exact ⟨_, w, _, _, by simp [binOp, Op.intCmp], put_bool S hd⟩
  case lss => exact ⟨_, w, _, _, by simp [binOp, Op.intCmp], put_bool S hd⟩
  case leq => exact ⟨_, w, _, _, by simp [binOp, Op.intCmp], put_bool S hd⟩
  case gtr => exact ⟨_, w, _, _, by simp [binOp, Op.intCmp], put_bool S hd⟩
  case geq => exact ⟨_, w, _, _, by simp [binOp, Op.intCmp], put_bool S hd⟩

theorem shiftInt_ok (S : St0 n B X w0 M0 M ω ρ tmps w) {d : Nat} (hd : d < n) {op : BinOp} {k k2 : IntKind} {x y : Int} {r : A} {cs : List Prop}
    (h : shiftInt op k x y = some (r, cs)) (hcs : ∀ p ∈ cs, p) (hx : inR k x) (t : TypeId) :
    Res n B X w0 M0 ρ tmps d [w1 d r] ((binOp op t (.int k x) (.int k2 y)).run P w) := by
  cases op <;> simp only [shiftInt, Option.some.injEq, Prod.mk.injEq, reduceCtorEq] at h
  all_goals
    obtain ⟨rfl, rfl⟩ := h
    have hy0 : 0 ≤ y := hcs _ (by simp)
    have hlt : ¬ y < 0 := by omega
  case shl => exact ⟨_, w, _, _, by simp only [binOp, Op.shift, if_neg hlt]; rfl, put_int S hd (inR_wrap _ _)⟩
  case shr => exact ⟨_, w, _, _, by simp only [binOp, Op.shift, if_neg hlt]; rfl, put_int S hd (inR_fdiv hx _)⟩

end
end Fw
