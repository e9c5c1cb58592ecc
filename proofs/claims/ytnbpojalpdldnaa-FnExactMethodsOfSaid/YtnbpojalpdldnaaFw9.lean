/- Each operation does what is computed of it: copies, boxes, loads. Conditions: none. -/
import Derived.Test.YtnbpojalpdldnaaFw8
namespace Fw
open Go

/-- a struct's fields in the program's table -/
def FldR (P : Program) (t : TypeId) (l : List (Nat × Ty)) : Prop :=
  ∃ fs, P.underlying t = some (.struct fs) ∧ ∀ (i o : Nat) (T : Ty), l[i]? = some (o, T) → ∃ f : Go.Field, fs[i]? = some f ∧ f.offset = o ∧ TyR P f.type T ∧ T.size ≠ 0

/-- structs that are compared field by field -/
def fldEqB (go : TypeId → Ty → Bool) : List Go.Field → Nat → Ty → Bool
  | [f], off, T => f.offset == off && f.name != "_" && go f.type T
  | f :: f' :: r, off, .pair A B => f.offset == off && f.name != "_" && go f.type A && fldEqB go (f' :: r) (off + A.size) B
  | _, _, _ => false
def eqB (P : Program) : Nat → TypeId → Ty → Bool
  | 0, _, _ => false
  | n + 1, t, T => (tyOf P 12 t == some T) && (match T, P.underlying t with
    | .int _, some (.int _) => true
    | .bool, some .bool => true
    | .str, some .string => true
    | .pair a b, some (.struct fs) => !P.stoodInHeld t && fldEqB (eqB P n) fs.toList 0 (.pair a b)
    | _, _ => false)
def EqR (P : Program) (t : TypeId) (T : Ty) : Prop := eqB P 8 t T = true ∧ P.eqGuardType P.depth t = false

def emp : Mem := fun _ _ => none
/-- function f keeps the contract F -/
structure MeetsM (P : Program) (f : Nat) (F : MFun) : Prop where
  fn : ∃ fn, P.funcs[f]? = some fn ∧ (fn.name == "runtime.NumGoroutine") = false ∧ fn.body.isNone = false
  closed : F.s.closed = true
  noref : F.s.noref = true
  call : ∀ (w : World) (v : Value) (cs : List Value) (x : El F.s.ty) (bs : List Nat) (n : Int), inR .i64 n → ValC F.s.ag v cs → EncO emp (rows w) F.s cs x bs → bs.Nodup → F.pre x n →
    Calls P f #[v, .int .i64 n] w fun e w' => ∃ bs', e = .returned (.int .i64 (F.run x n)) ∧ inR .i64 (F.run x n) ∧ Fr w.heap.size bs w w' ∧ EncO emp (rows w') F.s cs (F.out x n) bs' ∧
      bs'.Nodup ∧ ∀ b ∈ bs', b ∈ bs ∨ w.heap.size ≤ b

/-- arguments as data -/
def ArgsR (M : Mem) : (ts : List Ty) → List Value → Vals ts → Prop
  | [], [], _ => True
  | t :: ts, v :: vs, x => (∃ cs, ValC t.ag v cs ∧ Enc M t cs x.1) ∧ ArgsR M ts vs x.2
  | _, _, _ => False

/-- function f keeps the contract F: its first argument is taken over -/
structure MeetsT (P : Program) (f : Nat) (F : TFun) : Prop where
  fn : ∃ fn, P.funcs[f]? = some fn ∧ (fn.name == "runtime.NumGoroutine") = false ∧ fn.body.isNone = false
  closed : F.s.closed = true
  noref : F.s.noref = true
  rclosed : F.res.closed = true
  call : ∀ (w : World) (M : Mem) (v : Value) (cs : List Value) (x : El F.s.ty) (bs : List Nat) (vs : List Value) (xs : Vals F.args), (∀ b o u, M b o = some u → w.cell? ⟨b, o, none⟩ = some u) → (∀ b ∈ bs, ∀ o, M b o = none) →
    ValC F.s.ag v cs → EncO emp (rows w) F.s cs x bs → bs.Nodup → ArgsR M F.args vs xs → F.pre x xs →
    Calls P f (v :: vs).toArray w fun e w' => ∃ r cs' bs', e = .returned r ∧ Fr w.heap.size bs w w' ∧ ValC F.res.ag r cs' ∧ EncO emp (rows w') F.res cs' (F.run x xs) bs' ∧
      bs'.Nodup ∧ ∀ b ∈ bs', b ∈ bs ∨ w.heap.size ≤ b

structure CtxOk (P : Program) (C : Ctx) : Prop where
  eq : ∀ t T, C.eqs.contains t = true → C.ty t = some T → EqR P t T
  ty : ∀ t T, C.ty t = some T → TyR P t T
  flds : ∀ t l, look C.flds t = some l → FldR P t l
  fnM : ∀ f F, C.fnM f = some F → MeetsM P f F
  fnT : ∀ f F, C.fnT f = some F → MeetsT P f F

theorem Env.puts_append (ρ : Env) : ∀ (ws ws' : List Wr), ρ.puts (ws ++ ws') = (ρ.puts ws).puts ws'
  | [], _ => rfl
  | w :: ws, ws' => by
    have ih : ∀ (ws : List Wr) (ρ : Env), ρ.puts (ws ++ ws') = (ρ.puts ws).puts ws' := by
      intro ws
      induction ws with
      | nil => intro ρ; rfl
      | cons w ws ih => intro ρ; exact ih (ρ.put w)
    exact ih (w :: ws) ρ

section
variable {n B : Nat} {X : List Nat} {w0 : World} {M0 M : Mem} {ω : Own} {ρ : Env} {tmps : Array Value} {w : World} {P : Program} {C : Ctx}

/-- the result of an operation that yields a value -/
def Res (n B : Nat) (X : List Nat) (w0 : World) (M0 : Mem) (ρ : Env) (tmps : Array Value) (d : Nat) (ws : List Wr) (r : Result Value) : Prop :=
  ∃ v' w' M' ω', r = .ok v' w' ∧ St0 n B X w0 M0 M' ω' (ρ.puts ws) (tmps.setIfInBounds d v') w'

theorem Rel0.frameRef {M M' : Mem} {ω ω' : Own} {w w' : World} {ρ ρ' : Env} {vals vals' : Vl} (S : Step n M M' ω ω' w w' ρ ρ' vals vals') {t t' : Nat}
    {v : Value} : ∀ {a : A}, (∀ s x, a ≠ .c s x) → (∀ l, a ≠ .tup l) → Rel0 n M ω w ρ vals t v a → Rel0 n M' ω' w' ρ' vals' t' v a
  | .junk, _, _, _ => trivial
  | .c s x, h, _, _ => (h s x rfl).elim
  | .tup l, _, h, _ => (h l rfl).elim
  | .ptr k g off, _, _, ⟨h1, h2⟩ => ⟨⟨h1.1, Nat.le_trans h1.2 (S.old k).g_le⟩, fun h3 => by
      have h4 : (ρ.get k).g = g := by have := (S.old k).g_le; have := h1.2; omega
      obtain ⟨b, h5, h6⟩ := h2 h4
      exact ⟨b, by rw [S.ptr k (by omega)]; exact h5, h6⟩⟩
  | .bor k g ver u x org e, _, _, ⟨h1, h2⟩ => ⟨h1.older (S.old k), fun h3 => by
      have hk := (S.old k).same h1.2.1 h1.2.2 h3.1 h3.2
      obtain ⟨cs, h4, h5, h6, h9⟩ := h2 ⟨by rw [hk]; exact h3.1, by rw [hk]; exact h3.2⟩
      refine ⟨cs, h4, Enc.mono (S.heap h1.1 hk.symm) u cs x h5, fun off ho => ?_, fun off et i eo he => ElC.frame S h1.1 hk.symm (h9 off et i eo he)⟩
      obtain ⟨pc, h7, h8⟩ := h6 off ho
      exact ⟨pc, Place.frame S h1.1 hk.symm h7, h8⟩⟩
  | .elp k g ver off et i eo arr, _, _, ⟨h1, h2⟩ => ⟨h1.older (S.old k), fun h3 => by
      have hk := (S.old k).same h1.2.1 h1.2.2 h3.1 h3.2
      have h4 := h2 ⟨by rw [hk]; exact h3.1, by rw [hk]; exact h3.2⟩
      unfold ElpR at *
      cases arr with
      | none =>
        simp only [Option.isSome_none, Bool.false_eq_true, if_false] at h4 ⊢
        obtain ⟨pc, h7, h8⟩ := h4
        exact ⟨pc, Place.frame S h1.1 hk.symm h7, h8⟩
      | some m =>
        simp only [Option.isSome_some, if_true] at h4 ⊢
        rw [S.ptr k (by rw [hk])]; exact h4⟩
  | .al k g ag off, _, _, ⟨h1, b, cs, h2, h3, h4⟩ => ⟨⟨h1.1, Nat.le_trans h1.2 (S.old k).g_le⟩, b, cs, h2, h3.mono S.mem, fun h5 => by
      have h6 : (ρ.get k).g = g := by have := (S.old k).g_le; have := h1.2; omega
      rw [S.ptr k (by omega)]; exact h4 h6⟩
  | .eptr u x off, _, _, ⟨b, o, cs, h1, h2, h3⟩ => ⟨b, o, cs, h1, h2.mono S.mem, Enc.mono S.mem u cs x h3⟩
  | .cond _ _ _ _ _, _, _, h => h.elim
  | .fn f, _, _, h => h

/-- a reference, or a function, is put into slot d -/
theorem put_ref (S : St0 n B X w0 M0 M ω ρ tmps w) {d : Nat} (hd : d < n) {v : Value} {a : A} {t : Nat} (h1 : ∀ s x, a ≠ .c s x) (h2 : ∀ l, a ≠ .tup l)
    (h3 : ∀ s g ver b a', a ≠ .cond s g ver b a') (hr : Rel0 n M ω w ρ (vl tmps) t v a) :
    St0 n B X w0 M0 M (settle n d ω) (ρ.puts [w1 d a]) (tmps.setIfInBounds d v) w :=
  put_ok S hd fun hst => by
    have := Rel0.frameRef (t' := d) hst h1 h2 hr
    cases a <;> first | exact this | exact (h3 _ _ _ _ _ rfl).elim

theorem get_w1_self (ρ : Env) (d : Nat) (a : A) : (ρ.puts [w1 d a]).get d = ⟨(ρ.get d).g + 1, 0, a⟩ := by
  show (ρ.put (w1 d a)).get d = _
  rw [Env.get_put]; simp [w1]
theorem get_w1_ne (ρ : Env) {d t : Nat} (a : A) (h : t ≠ d) : (ρ.puts [w1 d a]).get t = ρ.get t := by
  show (ρ.put (w1 d a)).get t = _
  rw [Env.get_put, if_neg (by simpa [w1] using h)]

/-- the slot's own variable is pointed to -/
theorem put_ptr (S : St0 n B X w0 M0 M ω ρ tmps w) {d j : Nat} (hd : d < n) (hj : j < n) {s : Sh} {x : El s.ty} (_ : (ρ.get j).a = .c (.ref s) x) (off : Nat)
    {v : Value} {b : Nat} (hb : vl tmps j = .pointer (some ⟨b, 0, none⟩)) (hv : v = .pointer (some ⟨b, off, none⟩)) :
    St0 n B X w0 M0 M (settle n d ω) (ρ.puts [w1 d (.ptr j (ρ.get j).g off)]) (tmps.setIfInBounds d v) w :=
  put_ref S hd (t := 0) (a := .ptr j (ρ.get j).g off) (by intros; intro e; cases e) (by intros; intro e; cases e) (by intros; intro e; cases e)
    ⟨⟨hj, Nat.le_refl _⟩, fun _ => ⟨b, hb, hv⟩⟩

theorem ref_ptr (S : St0 n B X w0 M0 M ω ρ tmps w) {j : Nat} (hj : j < n) {s : Sh} {x : El s.ty} (ha : (ρ.get j).a = .c (.ref s) x) :
    ∃ b row bss, vl tmps j = .pointer (some ⟨b, 0, none⟩) ∧ rows w b = some row ∧ EncO M (rows w) s row x bss ∧ (b :: bss).Nodup ∧ ∀ i ∈ b :: bss, ω i = some j := by
  have hr := S.slots j hj
  rw [ha] at hr
  obtain ⟨cs, bs, h1, ⟨b, row, bss, h2, h3, h4, h5⟩, h6, h7⟩ := hr
  subst h2; subst h3
  have h1' : [Value.pointer (some ⟨b, 0, none⟩)] = [vl tmps j] := h1
  exact ⟨b, row, bss, (List.cons.inj h1').1.symm, h4, h5, h6, h7⟩

/-- the rows of a slot's content are memory that may stand behind it -/
theorem heapOf_rows (S : St0 n B X w0 M0 M ω ρ tmps w) {j : Nat} {vj : Value} {b : Nat} {row : List Value} (h : rows w b = some row) (ho : ω b = some j) (hb : notBox vj b = true) :
    CellsAt (heapOf M ω w j vj) b 0 row := by
  intro i c hc
  unfold heapOf
  rw [(S.dis b j ho).2.2 (0 + i)]
  simp only [ho, hb, and_self, if_true]
  exact rows_full h i c hc
theorem M_heapOf (M : Mem) (ω : Own) (w : World) (j : Nat) (vj : Value) : M.le (heapOf M ω w j vj) := fun b o v hm => by unfold heapOf; rw [hm]

theorem noref_box {M : Mem} {R : RowFn} {s : Sh} (hn : s.noref = true) {v : Value} {cs : List Value} {bs : List Nat} {x : El s.ty} (h1 : ValC s.ag v cs) (h2 : EncO M R s cs x bs) :
    ∀ b ∈ bs, notBox v b = true := by
  intro b hb
  cases s with
  | ref s => simp [Sh.noref] at hn
  | pure u => rw [h2.1] at hb; simp at hb
  | nil e => rw [h2.1] at hb; simp at hb
  | hole u => rw [h2.1] at hb; simp at hb
  | own e =>
    rcases h2 with ⟨h2, _⟩ | ⟨b', cap, row, bss, _, h3, _⟩
    · rw [h2] at hb; simp at hb
    · have h1' : cs = [v] := h1
      rw [h3] at h1'
      rw [← (List.cons.inj h1').1]; rfl
  | pair a b' =>
    have : v = .agg cs.toArray := by have := h1; simpa [ValC, Sh.ag] using this
    rw [this]; rfl

theorem exCopy_ok (S : St0 n B X w0 M0 M ω ρ tmps w) {asg : Bool} {d : Nat} (hd : d < n) {q : Opd} {ws : List Wr} {cs : List Prop} (h : exCopy C asg d q = some (ws, cs))
    {v : Value} (hq : OpdR n M ω w ρ (vl tmps) q v) : ∃ M' ω', St0 n B X w0 M0 M' ω' (ρ.puts ws) (tmps.setIfInBounds d v) w := by
  unfold exCopy at h
  split at h
  · rename_i s x ha
    have hr := hq.rel (by rw [ha]; intro _ _ _ _ _ e; cases e)
    rw [ha] at hr
    obtain ⟨cs', bs, h1, h2, h3, h4⟩ := hr
    split at h
    · rename_i hf
      simp only [out1, Option.some.injEq, Prod.mk.injEq] at h
      obtain ⟨rfl, rfl⟩ := h
      have hbs := EncO.free s cs' x bs hf h2
      subst hbs
      exact ⟨_, _, put_c S hd h1 h2 h3 (by simp)⟩
    · split at h
      · rename_i j hj
        obtain ⟨e1, e2, e3⟩ := hq.slot j hj
        have hjn := e3 (by rw [ha]; intro e; cases e)
        rw [hj] at h4
        simp only [Option.getD_some] at h4
        split at h
        · simp only [Option.some.injEq, Prod.mk.injEq] at h
          obtain ⟨rfl, rfl⟩ := h
          obtain ⟨g1, g2⟩ := move_ok S (L := n) hjn
          exact ⟨_, _, put_c g1 hd h1 h2 h3 (fun b hb => ⟨n, Nat.le_refl _, by simp [h4 b hb]⟩)⟩
        · split at h
          · rename_i s' x' he
            simp only [out1, Option.some.injEq, Prod.mk.injEq] at h
            obtain ⟨rfl, rfl⟩ := h
            rw [e2] at he ⊢
            obtain ⟨b, row, bss, g1, _⟩ := ref_ptr S hjn he
            exact ⟨_, _, put_ptr S hd hjn he 0 g1 (by rw [e1]; exact g1)⟩
          · rename_i s' x' hnr he
            split at h
            · rename_i hn
              simp only [out1, Option.some.injEq, Prod.mk.injEq] at h
              obtain ⟨rfl, rfl⟩ := h
              rw [e2] at he ⊢
              have hs := S.slots j hjn
              rw [he] at hs
              obtain ⟨cs2, bs2, k1, k2, k3, k4⟩ := hs
              refine ⟨_, _, put_ref S hd (t := 0) (by intros; intro e; cases e) (by intros; intro e; cases e) (by intros; intro e; cases e) ⟨⟨hjn, Nat.le_refl _, fun _ => Nat.le_refl _⟩, fun _ => ?_⟩⟩
              have e1' : v = tmps.getD j undef := e1
              refine ⟨cs2, by rw [← Sh.ag_ty s' hn, e1']; exact k1, EncO.toEnc (M_heapOf _ _ _ _ _) s' cs2 x' bs2 hn (fun b hb row hrow => heapOf_rows S hrow (k4 b hb) (noref_box hn k1 k2 b hb)) k2, fun off ho => ?_, fun _ _ _ _ e => by cases e⟩
              simp only [Option.some.injEq] at ho
              subst ho
              refine ⟨cs2, ?_, ?_⟩
              · rw [he]
                cases s' with
                | ref s'' => simp [Sh.noref] at hn
                | _ => exact k1
              · have := EncO.length s' cs2 x' bs2 k2
                simp only [Bx.isT, if_true, List.drop_zero]
                rw [← Sh.size_ty s' hn, ← this, List.take_length]
            · cases h
          · cases h
      · cases h
  · rename_i k g ver t x org e ha
    have hr := hq.rel (by rw [ha]; intro _ _ _ _ _ e; cases e)
    rw [ha] at hr
    split at h
    · cases h
    · simp only [out1, Option.some.injEq, Prod.mk.injEq] at h
      obtain ⟨rfl, rfl⟩ := h
      exact ⟨_, _, put_ref S hd (by intros; intro e; cases e) (by intros; intro e; cases e) (by intros; intro e; cases e) hr⟩
  · rename_i k g off ha
    have hr := hq.rel (by rw [ha]; intro _ _ _ _ _ e; cases e)
    rw [ha] at hr
    simp only [out1, Option.some.injEq, Prod.mk.injEq] at h
    obtain ⟨rfl, rfl⟩ := h
    exact ⟨_, _, put_ref S hd (by intros; intro e; cases e) (by intros; intro e; cases e) (by intros; intro e; cases e) hr⟩
  · rename_i u x off ha
    have hr := hq.rel (by rw [ha]; intro _ _ _ _ _ e; cases e)
    rw [ha] at hr
    simp only [out1, Option.some.injEq, Prod.mk.injEq] at h
    obtain ⟨rfl, rfl⟩ := h
    exact ⟨_, _, put_ref S hd (by intros; intro e; cases e) (by intros; intro e; cases e) (by intros; intro e; cases e) hr⟩
  · rename_i k g ag off ha
    have hr := hq.rel (by rw [ha]; intro _ _ _ _ _ e; cases e)
    rw [ha] at hr
    simp only [out1, Option.some.injEq, Prod.mk.injEq] at h
    obtain ⟨rfl, rfl⟩ := h
    exact ⟨_, _, put_ref S hd (by intros; intro e; cases e) (by intros; intro e; cases e) (by intros; intro e; cases e) hr⟩
  · rename_i k g ver off et i eo arr ha
    have hr := hq.rel (by rw [ha]; intro _ _ _ _ _ e; cases e)
    rw [ha] at hr
    simp only [out1, Option.some.injEq, Prod.mk.injEq] at h
    obtain ⟨rfl, rfl⟩ := h
    exact ⟨_, _, put_ref S hd (by intros; intro e; cases e) (by intros; intro e; cases e) (by intros; intro e; cases e) hr⟩
  · rename_i f ha
    have hr := hq.rel (by rw [ha]; intro _ _ _ _ _ e; cases e)
    rw [ha] at hr
    simp only [out1, Option.some.injEq, Prod.mk.injEq] at h
    obtain ⟨rfl, rfl⟩ := h
    exact ⟨_, _, put_ref S hd (by intros; intro e; cases e) (by intros; intro e; cases e) (by intros; intro e; cases e) hr⟩
  · rename_i l ha
    have hr := hq.rel (by rw [ha]; intro _ _ _ _ _ e; cases e)
    rw [ha] at hr
    obtain ⟨vs, bs, h1, h2, h3, h4⟩ := hr
    split at h
    · rename_i j hj
      obtain ⟨_, _, e3⟩ := hq.slot j hj
      have hjn := e3 (by rw [ha]; intro e; cases e)
      rw [hj] at h4
      simp only [Option.getD_some] at h4
      simp only [Option.some.injEq, Prod.mk.injEq] at h
      obtain ⟨rfl, rfl⟩ := h
      obtain ⟨g1, _⟩ := move_ok S (L := n) hjn
      exact ⟨_, _, put_ok g1 hd (A := .tup l) fun _ => ⟨vs, bs, h1, h2, h3, fun b hb => settle_lim (L := n) (by simp [h4 b hb]) (Nat.le_refl _)⟩⟩
    · cases h
  · cases h

end
end Fw
