/- Each operation does what is computed of it: operators, indexes, tuples, calls. Conditions: none. -/
import Derived.Test.YtnbpojalpdldnaaFw12
import Derived.Laws.StructEq
namespace Fw
open Go

theorem str_toList (x : List UInt8) : (ByteArray.mk x.toArray).toList = x := by
  have h : ∀ (b : ByteArray) (i : Nat) (r : List UInt8), ByteArray.toList.loop b i r = r.reverse ++ b.data.toList.drop i := by
    intro b i r
    fun_induction ByteArray.toList.loop b i r with
    | case1 i r h ih =>
      rw [ih]
      have hi : i < b.data.toList.length := by simpa using h
      rw [List.drop_eq_getElem_cons hi]
      have : b.get! i = b.data.toList[i] := by
        have h' : i < b.data.size := by simpa using hi
        simp only [ByteArray.get!, getElem!_pos b.data i h']; rfl
      simp [this]
    | case2 i r h =>
      have : b.data.toList.length ≤ i := by simp at h; simpa using h
      rw [List.drop_eq_nil_of_le this]; simp
  unfold ByteArray.toList
  rw [h]; simp

section
variable {n B : Nat} {X : List Nat} {w0 : World} {M0 M : Mem} {ω : Own} {ρ : Env} {tmps : Array Value} {w : World} {P : Program} {C : Ctx}

theorem binStr_ok (S : St0 n B X w0 M0 M ω ρ tmps w) {d : Nat} (hd : d < n) {op : BinOp} {x y : List UInt8} {r : A} {cs : List Prop}
    (h : binStr op x y = some (r, cs)) (hcs : ∀ p ∈ cs, p) (t : TypeId) :
    Res n B X w0 M0 ρ tmps d [w1 d r] ((binOp op t (.string ⟨x.toArray⟩) (.string ⟨y.toArray⟩)).run P w) := by
  cases op <;> simp only [binStr, Option.some.injEq, Prod.mk.injEq, reduceCtorEq] at h
  all_goals obtain ⟨rfl, rfl⟩ := h
  case add =>
    have hl : x.length + y.length ≤ bigLen := hcs _ (by simp)
    refine ⟨.string (⟨x.toArray⟩ ++ ⟨y.toArray⟩), w, _, _, ?_, put_str S hd (x := x ++ y) (by simpa using hl) ?_⟩
    · have e1 : (ByteArray.mk x.toArray).size = x.length := by simp [ByteArray.size]
      have e2 : (ByteArray.mk y.toArray).size = y.length := by simp [ByteArray.size]
      have hm : ¬ (((ByteArray.mk x.toArray).size + (ByteArray.mk y.toArray).size : Nat) : Int) > IntKind.i64.max := by
        rw [e1, e2]
        have : IntKind.i64.max = 9223372036854775807 := by decide
        rw [this]; unfold bigLen at hl; omega
      simp only [binOp, Op.stringOp, if_neg hm, Sem.run_pure]
    · apply ByteArray.ext; simp
  case eql => exact ⟨_, w, _, _, by simp [binOp, Op.stringOp], put_bool S hd⟩
  case neq => exact ⟨.bool (x != y), w, _, _, by simp only [binOp, Op.stringOp, str_toList]; rfl, put_bool S hd⟩

theorem str_toListEq (x y : List UInt8) : ((ByteArray.mk x.toArray).toList == (ByteArray.mk y.toArray).toList) = (x == y) := by
  rw [ByteArray.toList_eq, ByteArray.toList_eq]
/-- comparing field by field -/
theorem run_part {t : TypeId} {T : Ty} (hT : TyR P t T) {pre cs post : List Value} {v : Value} (hl : cs.length = T.size) (hv : ValC T.ag v cs) :
    (part t (pre ++ cs ++ post).toArray pre.length).run P w = .ok v w := by
  unfold part
  rw [Sem.run_bind, run_isAgg hT, Result.andThen_ok]
  unfold ValC at hv
  cases hag : T.ag with
  | true =>
    rw [hag] at hv
    simp only [if_true] at hv ⊢
    subst hv
    rw [Sem.run_bind, run_sizeOf hT, Result.andThen_ok, ← hl]
    simp
  | false =>
    rw [hag] at hv
    simp only [Bool.false_eq_true, if_false] at hv ⊢
    subst hv
    simp
theorem run_eqFields {M1 M2 : Mem} {d : Nat} {go : TypeId → Ty → Bool} (hgo : ∀ t T, go t T = true → TyR P t T ∧ ∀ (x y : El T) (v1 v2 : Value) (c1 c2 : List Value), ValC T.ag v1 c1 → Enc M1 T c1 x → ValC T.ag v2 c2 → Enc M2 T c2 y →
    (Op.equalIn d t v1 v2).run P w = .ok (El.eq T x y) w) : ∀ (fs : List Go.Field) (T : Ty) (pre1 pre2 c1 c2 : List Value) (x y : El T), fldEqB go fs pre1.length T = true → pre1.length = pre2.length → Enc M1 T c1 x → Enc M2 T c2 y →
    (Op.eqFields d (pre1 ++ c1).toArray (pre2 ++ c2).toArray fs).run P w = .ok (El.eq T x y) w
  | [], T, _, _, _, _, _, _, h, _, _, _ => by simp [fldEqB] at h
  | [f], T, pre1, pre2, c1, c2, x, y, h, hp, h1, h2 => by
    simp only [fldEqB, Bool.and_eq_true, beq_iff_eq, bne_iff_ne] at h
    obtain ⟨⟨e1, e2⟩, e3⟩ := h
    obtain ⟨hT, hq⟩ := hgo _ _ e3
    have l1 := Enc.length _ _ _ h1
    have l2 := Enc.length _ _ _ h2
    have v1 := mkVal_ok (ag := T.ag) (cs := c1) (fun hg => by rw [l1]; exact Ty.size_sc T hg)
    have v2 := mkVal_ok (ag := T.ag) (cs := c2) (fun hg => by rw [l2]; exact Ty.size_sc T hg)
    have p1 := run_part (P := P) (w := w) hT (pre := pre1) (post := []) l1 v1
    have p2 := run_part (P := P) (w := w) hT (pre := pre2) (post := []) l2 v2
    rw [List.append_nil] at p1 p2
    have q := hq x y _ _ c1 c2 v1 h1 v2 h2
    simp only [Op.eqFields, if_pos e2, Sem.run_bind, e1, p1, Result.andThen_ok, hp ▸ p2, q]
    cases El.eq T x y <;> rfl
  | f :: f' :: r, T, pre1, pre2, c1, c2, x, y, h, hp, h1, h2 => by
    cases T with
    | pair A B =>
      simp only [fldEqB, Bool.and_eq_true, beq_iff_eq, bne_iff_ne] at h
      obtain ⟨⟨⟨e1, e2⟩, e3⟩, e4⟩ := h
      obtain ⟨hT, hq⟩ := hgo _ _ e3
      obtain ⟨a1, b1, rfl, g1, g2⟩ := h1
      obtain ⟨a2, b2, rfl, k1, k2⟩ := h2
      have l1 := Enc.length _ _ _ g1
      have l2 := Enc.length _ _ _ k1
      have v1 := mkVal_ok (ag := A.ag) (cs := a1) (fun hg => by rw [l1]; exact Ty.size_sc A hg)
      have v2 := mkVal_ok (ag := A.ag) (cs := a2) (fun hg => by rw [l2]; exact Ty.size_sc A hg)
      have p1 := run_part (P := P) (w := w) hT (pre := pre1) (post := b1) l1 v1
      have p2 := run_part (P := P) (w := w) hT (pre := pre2) (post := b2) l2 v2
      have q := hq x.1 y.1 _ _ a1 a2 v1 g1 v2 k1
      have ih := run_eqFields hgo (f' :: r) B (pre1 ++ a1) (pre2 ++ a2) b1 b2 x.2 y.2 (by rw [List.length_append, l1]; exact e4) (by simp [hp, l1, l2]) g2 k2
      rw [List.append_assoc] at p1 p2
      rw [List.append_assoc, List.append_assoc] at ih
      rw [Op.eqFields, if_pos e2]
      simp only [Sem.run_bind, e1, p1, Result.andThen_ok, hp ▸ p2, q]
      show _ = Result.ok (El.eq A x.1 y.1 && El.eq B x.2 y.2) w
      cases El.eq A x.1 y.1
      · rfl
      · simpa using ih
    | _ => simp [fldEqB] at h
theorem run_equalIn {M1 M2 : Mem} : ∀ (m : Nat) (t : TypeId) (T : Ty), eqB P m t T = true → ∀ (d : Nat), m ≤ d → ∀ (x y : El T) (v1 v2 : Value) (c1 c2 : List Value), ValC T.ag v1 c1 → Enc M1 T c1 x → ValC T.ag v2 c2 → Enc M2 T c2 y →
    (Op.equalIn d t v1 v2).run P w = .ok (El.eq T x y) w
  | 0, _, _, h, _, _, _, _, _, _, _, _, _, _, _, _ => by simp [eqB] at h
  | m + 1, t, T, h, 0, hd, _, _, _, _, _, _, _, _, _, _ => by omega
  | m + 1, t, T, h, d + 1, hd, x, y, v1, v2, c1, c2, hv1, h1, hv2, h2 => by
    simp only [eqB, Bool.and_eq_true, beq_iff_eq] at h
    obtain ⟨_, h⟩ := h
    cases hu : P.underlying t with
    | none => rw [hu] at h; cases T <;> cases h
    | some dsc =>
      rw [hu] at h
      cases T with
      | int k =>
        cases dsc with
        | int k' =>
          have e1 : c1 = [v1] := hv1
          have e2 : c2 = [v2] := hv2
          subst e1; subst e2
          obtain ⟨f1, _⟩ := h1
          obtain ⟨f2, _⟩ := h2
          simp only [List.cons.injEq, and_true] at f1 f2
          subst f1; subst f2
          rw [run_equalIn_int w d t k _ x y hu]; rfl
        | _ => cases h
      | bool =>
        cases dsc with
        | bool =>
          have e1 : c1 = [v1] := hv1
          have e2 : c2 = [v2] := hv2
          subst e1; subst e2
          have f1 : [v1] = [Value.bool x] := h1
          have f2 : [v2] = [Value.bool y] := h2
          simp only [List.cons.injEq, and_true] at f1 f2
          subst f1; subst f2
          rw [run_equalIn_bool w d t x y hu]; rfl
        | _ => cases h
      | str =>
        cases dsc with
        | string =>
          have e1 : c1 = [v1] := hv1
          have e2 : c2 = [v2] := hv2
          subst e1; subst e2
          obtain ⟨f1, _⟩ := h1
          obtain ⟨f2, _⟩ := h2
          simp only [List.cons.injEq, and_true] at f1 f2
          subst f1; subst f2
          rw [run_equalIn_string w d t _ _ hu, str_toListEq]; rfl
        | _ => cases h
      | slice e => cases dsc <;> cases h
      | arr m e => cases dsc <;> cases h
      | pair a b =>
        cases dsc with
        | struct fs =>
          simp only [Bool.and_eq_true, Bool.not_eq_true'] at h
          have hf : P.fieldsOf t = fs := by unfold Program.fieldsOf; rw [hu]
          have e1 : v1 = .agg c1.toArray := hv1
          have e2 : v2 = .agg c2.toArray := hv2
          subst e1; subst e2
          rw [run_equalIn_agg w d t _ _ (by rw [hf]; exact hu) h.1, hf]
          exact run_eqFields (fun t T ht => ⟨⟨12, by
            cases m with
            | zero => simp [eqB] at ht
            | succ m => simp only [eqB, Bool.and_eq_true, beq_iff_eq] at ht; exact ht.1⟩, fun x y v1 v2 c1 c2 g1 g2 g3 g4 => run_equalIn m t T ht d (by omega) x y v1 v2 c1 c2 g1 g2 g3 g4⟩) fs.toList (.pair a b) [] [] c1 c2 x y h.2 rfl h1 h2
        | _ => cases h

theorem exBin_ok (hC : CtxOk P C) (S : St0 n B X w0 M0 M ω ρ tmps w) {op : BinOp} {t u : TypeId} {d : Nat} (hd : d < n) {q1 q2 : Opd} {ws : List Wr} {cs : List Prop}
    (h : exBin C op t u d q1 q2 = some (ws, cs)) (hcs : ∀ p ∈ cs, p) {v1 v2 : Value} (hq1 : OpdR n M ω w ρ (vl tmps) q1 v1) (hq2 : OpdR n M ω w ρ (vl tmps) q2 v2) (a b : Operand) :
    Res n B X w0 M0 ρ tmps d ws ((do eqGuard op t a b v1 v2; binOp op t v1 v2 : Sem Value).run P w) := by
  unfold exBin at h
  split at h
  · rename_i k hk
    have shift : ∀ (k2 : IntKind), (rd (.int k) q1 fun x => rd (.int k2) q2 fun y => match shiftInt op k x y with | some (r, cs) => some ([w1 d r], cs) | none => none) = some (ws, cs) →
        Res n B X w0 M0 ρ tmps d ws ((do eqGuard op t a b v1 v2; binOp op t v1 v2 : Sem Value).run P w) := by
      intro k2 h
      obtain ⟨x, h1, h2⟩ := rd_int S h
      obtain ⟨y, h3, h4⟩ := rd_int S h1
      obtain ⟨e1, r1⟩ := h2 v1 hq1
      obtain ⟨e2, r2⟩ := h4 v2 hq2
      subst e1; subst e2
      split at h3
      · rename_i r cs' hr
        simp only [Option.some.injEq, Prod.mk.injEq] at h3
        obtain ⟨rfl, rfl⟩ := h3
        simp only [Sem.run_bind, run_eqGuard_int, Result.andThen_ok]
        exact shiftInt_ok S hd hr hcs r1 t
      · cases h3
    have arith : (rd (.int k) q1 fun x => rd (.int k) q2 fun y => match binInt op k x y with | some (r, cs) => some ([w1 d r], cs) | none => none) = some (ws, cs) →
        Res n B X w0 M0 ρ tmps d ws ((do eqGuard op t a b v1 v2; binOp op t v1 v2 : Sem Value).run P w) := by
      intro h
      obtain ⟨x, h1, h2⟩ := rd_int S h
      obtain ⟨y, h3, h4⟩ := rd_int S h1
      obtain ⟨e1, r1⟩ := h2 v1 hq1
      obtain ⟨e2, r2⟩ := h4 v2 hq2
      subst e1; subst e2
      split at h3
      · rename_i r cs' hr
        simp only [Option.some.injEq, Prod.mk.injEq] at h3
        obtain ⟨rfl, rfl⟩ := h3
        simp only [Sem.run_bind, run_eqGuard_int, Result.andThen_ok]
        exact binInt_ok S hd hr hcs r1 t
      · cases h3
    split at h
    · split at h
      · exact shift _ h
      · cases h
    · split at h
      · exact shift _ h
      · cases h
    · exact arith h
  · obtain ⟨x, h1, h2⟩ := rd_str S h
    obtain ⟨y, h3, h4⟩ := rd_str S h1
    obtain ⟨e1, r1⟩ := h2 v1 hq1
    obtain ⟨e2, r2⟩ := h4 v2 hq2
    subst e1; subst e2
    split at h3
    · rename_i r cs' hr
      simp only [Option.some.injEq, Prod.mk.injEq] at h3
      obtain ⟨rfl, rfl⟩ := h3
      simp only [Sem.run_bind, run_eqGuard_str, Result.andThen_ok]
      exact binStr_ok S hd hr hcs t
    · cases h3
  · rename_i hT
    have hu : P.underlying t = some .bool := (hC.ty t _ hT).under
    obtain ⟨x, h1, h2⟩ := rd_bool S h
    obtain ⟨y, h3, h4⟩ := rd_bool S h1
    have e1 := h2 v1 hq1
    have e2 := h4 v2 hq2
    subst e1; subst e2
    have heq : (Op.equal t (.bool x) (.bool y)).run P w = .ok (x == y) w := by
      unfold Op.equal Op.maxDepth Op.equalIn
      simp only [Sem.run_bind, run_underlying' hu, Result.andThen_ok, Sem.run_pure]
    split at h3
    · simp only [out1, Option.some.injEq, Prod.mk.injEq] at h3
      obtain ⟨rfl, rfl⟩ := h3
      exact ⟨.bool (x == y), w, _, _, by simp only [Sem.run_bind, run_eqGuard_bool, Result.andThen_ok, binOp, heq, Sem.run_pure], put_bool S hd⟩
    · simp only [out1, Option.some.injEq, Prod.mk.injEq] at h3
      obtain ⟨rfl, rfl⟩ := h3
      exact ⟨.bool (x != y), w, _, _, by simp only [Sem.run_bind, run_eqGuard_bool, Result.andThen_ok, binOp, heq, Sem.run_pure]; rfl, put_bool S hd⟩
    · cases h3
  · rename_i T1 T2 hT
    split at h
    · rename_i heqs
      obtain ⟨hE, hG⟩ := hC.eq t _ heqs hT
      obtain ⟨x, h1, h2⟩ := rd_ok S h
      obtain ⟨y, h3, h4⟩ := rd_ok S h1
      obtain ⟨c1, e1, e2⟩ := h2 v1 hq1
      obtain ⟨c2, e3, e4⟩ := h4 v2 hq2
      have f1 : v1 = .agg c1.toArray := e1
      have f2 : v2 = .agg c2.toArray := e3
      have heq := run_equalIn (P := P) (w := w) 8 t (.pair T1 T2) hE 10000 (by decide) x y v1 v2 c1 c2 e1 e2 e3 e4
      subst f1; subst f2
      split at h3
      · simp only [out1, Option.some.injEq, Prod.mk.injEq] at h3
        obtain ⟨rfl, rfl⟩ := h3
        exact ⟨.bool (El.eq (.pair T1 T2) x y), w, _, _, by rw [Sem.run_bind, run_eqGuard_agg w _ _ _ _ _ _ hG, Result.andThen_ok, run_eql_struct, heq]; rfl, put_bool S hd⟩
      · simp only [out1, Option.some.injEq, Prod.mk.injEq] at h3
        obtain ⟨rfl, rfl⟩ := h3
        exact ⟨.bool (!(El.eq (.pair T1 T2) x y)), w, _, _, by rw [Sem.run_bind, run_eqGuard_agg w _ _ _ _ _ _ hG, Result.andThen_ok, run_neq_struct, heq]; rfl, put_bool S hd⟩
      · cases h3
    · cases h
  · cases h

theorem getD_of_lt {α : Type} (xs : List α) (i : Nat) (d : α) (h : i < xs.length) : xs[i]? = some (xs.getD i d) := by
  rw [List.getElem?_eq_getElem h, List.getD_eq_getElem?_getD, List.getElem?_eq_getElem h]; rfl

theorem exIndex_ok (hC : CtxOk P C) (S : St0 n B X w0 M0 M ω ρ tmps w) {t : TypeId} {d : Nat} (hd : d < n) {q1 q2 : Opd} {ws : List Wr} {cs : List Prop}
    (h : exIndex C t d q1 q2 = some (ws, cs)) (hcs : ∀ p ∈ cs, p) {v1 v2 : Value} (hq1 : OpdR n M ω w ρ (vl tmps) q1 v1) (hq2 : OpdR n M ω w ρ (vl tmps) q2 v2) :
    Res n B X w0 M0 ρ tmps d ws ((Instr.index t v1 v2).run P w) := by
  unfold exIndex at h
  obtain ⟨idx, h1, h2⟩ := rd_int S h
  obtain ⟨ev, ri⟩ := h2 v2 hq2
  subst ev
  split at h1
  · rename_i m e hT
    have hTy := hC.ty t _ hT
    split at h1
    · rename_i hf
      obtain ⟨xs, h3, h4⟩ := rd_ok S h1
      obtain ⟨c1, e1, g1⟩ := h4 v1 hq1
      simp only [Option.some.injEq, Prod.mk.injEq] at h3
      obtain ⟨rfl, rfl⟩ := h3
      have hr : inRange idx m := hcs _ (by simp)
      obtain ⟨te, hu, hTe⟩ := hTy.under
      have ev1 : v1 = .agg c1.toArray := e1
      subst ev1
      obtain ⟨hl, hg⟩ := g1
      have hx := getD_of_lt xs idx.toNat (dflt e) (by unfold inRange at hr; omega)
      have hen := Groups.get xs c1 idx.toNat _ hg hx
      have hsz : e.size = 1 := Ty.size_sc e hf.2
      have hlen := Enc.length _ _ _ hen
      rw [hsz] at hen hlen
      obtain ⟨c, hc⟩ : ∃ c, (c1.drop (idx.toNat * 1)).take 1 = [c] := by
        match (c1.drop (idx.toNat * 1)).take 1, hlen with
        | [c], _ => exact ⟨c, rfl⟩
      rw [hc] at hen
      have hci : c1[idx.toNat]? = some c := by
        have : (c1.drop (idx.toNat * 1))[0]? = some c := by
          have := congrArg (fun l => l[0]?) hc
          simpa using this
        simpa using this
      refine ⟨c, w, _, _, ?_, put_pure S hd (t := e) (cs := [c]) (by unfold ValC; rw [hf.2]; simp) (Enc.flat e _ _ hf.1 hen)⟩
      have hpart : (part te c1.toArray idx.toNat).run P w = .ok c w := by
        simp only [part, Sem.run_bind, run_isAgg hTe, hf.2, Result.andThen_ok, Bool.false_eq_true, if_false]
        have : c1.toArray[idx.toNat]? = some c := by simpa using hci
        rw [this]; rfl
      unfold inRange at hr
      simp only [Instr.index, asIntOf, Sem.run_bind, Sem.run_pure, Result.andThen_ok, run_underlying' hu, if_pos hr, run_sizeOf hTe, hsz, Nat.mul_one, hpart]
    · cases h1
  · rename_i hT
    have hTy := hC.ty t _ hT
    have hu : P.underlying t = some .string := hTy.under
    obtain ⟨xs, h3, h4⟩ := rd_str S h1
    obtain ⟨e1, g1⟩ := h4 v1 hq1
    subst e1
    simp only [Option.some.injEq, Prod.mk.injEq] at h3
    obtain ⟨rfl, rfl⟩ := h3
    have hr : inRange idx xs.length := hcs _ (by simp)
    have hx := getD_of_lt xs idx.toNat 0 (by unfold inRange at hr; omega)
    refine ⟨.int .u8 ((xs.getD idx.toNat 0).toNat : Int), w, _, _, ?_, put_int S hd ?_⟩
    · unfold inRange at hr
      have hg : (ByteArray.mk xs.toArray)[idx.toNat]? = some (xs.getD idx.toNat 0) := by
        rw [← hx]
        have hlt : idx.toNat < xs.length := by omega
        rw [List.getElem?_eq_getElem hlt]
        have hb : idx.toNat < (ByteArray.mk xs.toArray).size := by simpa [ByteArray.size] using hlt
        rw [getElem?_pos (ByteArray.mk xs.toArray) idx.toNat hb]
        rfl
      simp only [Instr.index, asIntOf, Sem.run_bind, Sem.run_pure, Result.andThen_ok, run_underlying' hu, if_pos hr.1, hg]
    · have := (xs.getD idx.toNat 0).toNat_lt
      constructor
      · show (0 : Int) ≤ _; omega
      · show _ ≤ (255 : Int); omega
  · cases h1

theorem exLen_ok (hC : CtxOk P C) (S : St0 n B X w0 M0 M ω ρ tmps w) {t : TypeId} {d : Nat} (hd : d < n) {q : Opd} {ws : List Wr} {cs : List Prop}
    (h : exLen C t d q = some (ws, cs)) {v : Value} (hq : OpdR n M ω w ρ (vl tmps) q v) (u : TypeId) : Res n B X w0 M0 ρ tmps d ws ((Builtin.len_ #[t] u #[v]).run P w) := by
  have hin : ∀ m : Nat, m ≤ bigLen → inR .i64 (m : Int) := by
    intro m hm; unfold bigLen at hm
    constructor
    · show (-9223372036854775808 : Int) ≤ _; omega
    · show _ ≤ (9223372036854775807 : Int); omega
  unfold exLen at h
  split at h
  · rename_i e hT
    obtain ⟨te, hu, hTe⟩ := (hC.ty t _ hT).under
    obtain ⟨xs, h1, h2⟩ := rd_ok S h
    obtain ⟨c1, e1, a, cap, g1, g2, g3, g4⟩ := h2 v hq
    simp only [out1, Option.some.injEq, Prod.mk.injEq] at h1
    obtain ⟨rfl, rfl⟩ := h1
    have ev : c1 = [v] := e1
    rw [ev] at g1
    have := (List.cons.inj g1).1
    subst this
    exact ⟨_, w, _, _, by simp [Builtin.len_, run_underlying' hu, goInt], put_int S hd (hin _ (Nat.le_trans g2 g3))⟩
  · rename_i hT
    have hu : P.underlying t = some .string := (hC.ty t _ hT).under
    obtain ⟨xs, h3, h4⟩ := rd_str S h
    obtain ⟨e1, g1⟩ := h4 v hq
    subst e1
    simp only [out1, Option.some.injEq, Prod.mk.injEq] at h3
    obtain ⟨rfl, rfl⟩ := h3
    exact ⟨.int .i64 (xs.length : Int), w, _, _, by
      have hz : (ByteArray.mk xs.toArray).size = xs.length := by simp [ByteArray.size]
      simp [Builtin.len_, run_underlying' hu, goInt, hz], put_int S hd (hin _ g1)⟩
  · cases h

theorem exMinMax_ok (S : St0 n B X w0 M0 M ω ρ tmps w) {mx : Bool} {d : Nat} (hd : d < n) {q1 q2 : Opd} {ws : List Wr} {cs : List Prop}
    (h : exMinMax mx d q1 q2 = some (ws, cs)) {v1 v2 : Value} (hq1 : OpdR n M ω w ρ (vl tmps) q1 v1) (hq2 : OpdR n M ω w ρ (vl tmps) q2 v2) (ts : Array TypeId) (u : TypeId) :
    Res n B X w0 M0 ρ tmps d ws (((if mx = true then Builtin.max_ ts u #[v1, v2] else Builtin.min_ ts u #[v1, v2]) : Sem Value).run P w) := by
  unfold exMinMax at h
  obtain ⟨x, h1, h2⟩ := rd_int S h
  obtain ⟨y, h3, h4⟩ := rd_int S h1
  obtain ⟨e1, r1⟩ := h2 v1 hq1
  obtain ⟨e2, r2⟩ := h4 v2 hq2
  subst e1; subst e2
  simp only [out1, Option.some.injEq, Prod.mk.injEq] at h3
  obtain ⟨rfl, rfl⟩ := h3
  cases mx with
  | true =>
    refine ⟨.int .i64 (max x y), w, _, _, ?_, put_int S hd (x := max x y) ?_⟩
    · simp only [if_true, Builtin.max_, Builtin.max2, List.foldlM, Sem.run_bind, Sem.run_pure, Result.andThen_ok]
      congr 2
      split <;> omega
    · unfold inR at *; omega
  | false =>
    refine ⟨.int .i64 (min x y), w, _, _, ?_, put_int S hd (x := min x y) ?_⟩
    · simp only [Bool.false_eq_true, if_false, Builtin.min_, Builtin.min2, List.foldlM, Sem.run_bind, Sem.run_pure, Result.andThen_ok]
      congr 2
      split <;> omega
    · unfold inR at *; omega

end
end Fw
