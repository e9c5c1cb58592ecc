/- Regions: in the order of the text, and in whatever order their edges allow. Conditions: none. -/
import Derived.Test.YtnbpojalpdldnaaFw16
namespace Fw
open Go

def forceA {R : Type} (a : A) (k : A → R) : R :=
  match a with
  | .junk => k .junk
  | .c s x => k (.c s x)
  | .ptr j g o => k (.ptr j g o)
  | .bor j g v t x o e => k (.bor j g v t x o e)
  | .elp j g v o t i e r => k (.elp j g v o t i e r)
  | .eptr t x o => k (.eptr t x o)
  | .al j g e o => k (.al j g e o)
  | .cond s g v w a => k (.cond s g v w a)
  | .tup l => k (.tup l)
  | .fn f => k (.fn f)
theorem forceA_eq {R : Type} (a : A) (k : A → R) : forceA a k = k a := by cases a <;> rfl

def natF {R : Type} (n : Nat) (k : Nat → R) : R :=
  match n with
  | 0 => k 0
  | 1 => k 1
  | 2 => k 2
  | 3 => k 3
  | 4 => k 4
  | 5 => k 5
  | 6 => k 6
  | m => k m
theorem natF_eq {R : Type} (n : Nat) (k : Nat → R) : natF n k = k n := by
  unfold natF; split <;> rfl
def putK {R : Type} (ρ : Env) (w : Wr) (k : Env → R) : R :=
  match w with
  | ⟨s, true, a⟩ => natF (ρ.get s).g fun g => natF ((ρ.get s).ver + 1) fun v => forceA a fun a => k ((s, ⟨g, v, a⟩) :: ρ)
  | ⟨s, false, a⟩ => natF ((ρ.get s).g + 1) fun g => forceA a fun a => k ((s, ⟨g, 0, a⟩) :: ρ)
theorem putK_eq {R : Type} (ρ : Env) (w : Wr) (k : Env → R) : putK ρ w k = k (ρ.put w) := by
  obtain ⟨s, kp, a⟩ := w
  cases kp <;> simp only [putK, forceA_eq, natF_eq, Env.put] <;> rfl
def putsK {R : Type} : Env → List Wr → (Env → R) → R
  | ρ, [], k => k ρ
  | ρ, w :: r, k => putK ρ w fun ρ' => putsK ρ' r k
theorem putsK_eq {R : Type} : ∀ (ws : List Wr) (ρ : Env) (k : Env → R), putsK ρ ws k = k (ρ.puts ws)
  | [], _, _ => rfl
  | w :: r, ρ, k => by simp only [putsK, putK_eq]; exact putsK_eq r (ρ.put w) k

/-- the slots that an operation looks at -/
def opdReads (ρ : Env) : Operand → List Nat
  | .tmp t => match (ρ.get t).a.tgt with | some k => [t, k] | none => [t]
  | _ => []
def condReads : A → List Nat
  | .cond s _ _ _ _ => [s]
  | _ => []
def readsOf (ops : List Oper) (ρ : Env) (o : Oper) : List Nat :=
  (match o.guard with
    | some (j, _) => (match dstOf ops j with | some s => s :: condReads (ρ.get s).a | none => [])
    | none => []) ++ o.op.operands.toList.flatMap (opdReads ρ)

structure Tr where
  rd : List Nat
  ws : List Wr
  cs : List Prop

/-- the operations in the order of the text: what each looks at, writes and asks -/
def trace (C : Ctx) (ops : List Oper) : List Oper → Env → Option (List Tr × Env)
  | [], ρ => some ([], ρ)
  | o :: r, ρ =>
    match step C ops ρ o with
    | some (ws, cs) => putsK ρ ws fun ρ' =>
      match trace C ops r ρ' with
      | some (T, ρ2) => some (⟨readsOf ops ρ o, ws, cs⟩ :: T, ρ2)
      | none => none
    | none => none

def condsOf : List Tr → Prop
  | [] => True
  | t :: T => (∀ p ∈ t.cs, p) ∧ condsOf T

def appK {R : Type} : List Prop → List Prop → (List Prop → R) → R
  | [], l, k => k l
  | p :: r, l, k => appK r l fun l' => k (p :: l')
theorem appK_eq {R : Type} : ∀ (a b : List Prop) (k : List Prop → R), appK a b k = k (a ++ b)
  | [], _, _ => rfl
  | p :: r, b, k => by simp only [appK, appK_eq r]; rfl
def conj : List Prop → Prop
  | [] => True
  | [p] => p
  | p :: q :: r => p ∧ conj (q :: r)
theorem conj_mem : ∀ (l : List Prop), conj l → ∀ p ∈ l, p
  | [], _, p, hp => by simp at hp
  | [q], h, p, hp => by rw [List.mem_singleton.1 hp]; exact h
  | q :: q' :: r, h, p, hp => by
    rcases List.mem_cons.1 hp with rfl | hp
    · exact h.1
    · exact conj_mem (q' :: r) h.2 p hp
/-- the same, without what only another order asks -/
def runK {R : Type} (C : Ctx) (ops : List Oper) : List Oper → Env → (List Prop → Env → Option R) → Option R
  | [], ρ, k => k [] ρ
  | o :: r, ρ, k =>
    match step C ops ρ o with
    | some (ws, cs) => putsK ρ ws fun ρ' => runK C ops r ρ' fun cs' ρ2 => appK cs cs' fun cs'' => k cs'' ρ2
    | none => none
def condsL (T : List Tr) : List Prop := T.flatMap (·.cs)
theorem condsL_of (T : List Tr) (h : ∀ p ∈ condsL T, p) : condsOf T := by
  induction T with
  | nil => trivial
  | cons t T ih => exact ⟨fun p hp => h p (by simp [condsL]; exact .inl hp), ih fun p hp => h p (by simp [condsL] at hp ⊢; exact .inr hp)⟩
theorem runK_ok {R : Type} {C : Ctx} {ops : List Oper} : ∀ (l : List Oper) (ρ : Env) (k : List Prop → Env → Option R) (r : R), runK C ops l ρ k = some r →
    ∃ T ρ2, trace C ops l ρ = some (T, ρ2) ∧ k (condsL T) ρ2 = some r
  | [], ρ, k, r, h => ⟨[], ρ, rfl, h⟩
  | o :: l, ρ, k, r, h => by
    simp only [runK] at h
    split at h
    · rename_i ws cs hs
      rw [putsK_eq] at h
      obtain ⟨T, ρ2, h1, h2⟩ := runK_ok l _ _ r h
      rw [appK_eq] at h2
      refine ⟨⟨readsOf ops ρ o, ws, cs⟩ :: T, ρ2, ?_, h2⟩
      simp only [trace, hs, putsK_eq, h1]
    · cases h

section
variable {B : Nat} {X : List Nat} {w0 : World} {M0 : Mem} {P : Program} {C : Ctx}

/-- slots that no operation writes -/
def PinOk (pins : List Nat) (ops : Array Oper) : Prop := ∀ o ∈ ops.toList, ∀ t ∈ pins, o.dst ≠ some t
def Pinned (pins : List Nat) (a a' : Array Value) : Prop := ∀ t ∈ pins, vl a' t = vl a t
theorem pin_put {pins : List Nat} {ops : Array Oper} (hp : PinOk pins ops) {i : Nat} {o : Oper} (hi : ops[i]? = some o) {a a' : Act} (h : ∃ v, a' = a.put o.dst v) {b : Array Value} (hb : Pinned pins b a.tmps) : Pinned pins b a'.tmps := by
  obtain ⟨v, rfl⟩ := h
  intro t ht
  have hm : o ∈ ops.toList := by
    have := (Array.getElem?_eq_some_iff.1 hi)
    obtain ⟨h1, h2⟩ := this
    rw [← h2]; simp
  have hne := hp o hm t ht
  rw [← hb t ht]
  cases hd : o.dst with
  | none => rfl
  | some d =>
    have hdt : t ≠ d := fun e => hne (by rw [hd, e])
    show (a.tmps.setIfInBounds d v).getD t undef = a.tmps.getD t undef
    rw [Array.getD_eq_getD_getElem?, Array.getD_eq_getD_getElem?, Array.getElem?_setIfInBounds_ne (Ne.symm hdt)]

theorem seq_ok (hC : CtxOk P C) (hF : ∀ f F, C.fn f = some F → Meets P f F) (hB : B ≤ w0.heap.size) {ops : Array Oper} {Q : Exit → Act → World → Prop} {df : List Deferred} {ρ2 : Env}
    {b : Array Value} (hp : PinOk C.pins ops) (hQ : ∀ a' w', a'.defers = df → Pinned C.pins b a'.tmps → Sim C.n B X w0 M0 ρ2 a'.tmps w' → Q .normal a' w') :
    ∀ (l : List Oper) (k : Nat) (T : List Tr) (ρ : Env) (a : Act) (w : World), (∀ j, l[j]? = ops[k + j]?) → trace C ops.toList l ρ = some (T, ρ2) → condsOf T →
      a.defers = df → Pinned C.pins b a.tmps → Sim C.n B X w0 M0 ρ a.tmps w → wpOps P ops Q (List.range' k l.length) a w
  | [], k, T, ρ, a, w, _, h, _, hd, hb, hS => by
    simp only [trace, Option.some.injEq, Prod.mk.injEq] at h
    obtain ⟨_, rfl⟩ := h
    exact hQ a w hd hb hS
  | o :: l, k, T, ρ, a, w, hl, h, hc, hd, hb, hS => by
    obtain ⟨M, ω, S⟩ := hS
    simp only [trace] at h
    split at h
    · rename_i ws cs hs
      rw [putsK_eq] at h
      split at h
      · rename_i T' ρ' ht
        simp only [Option.some.injEq, Prod.mk.injEq] at h
        obtain ⟨rfl, rfl⟩ := h
        have h0 : ops[k]? = some o := by simpa using (hl 0).symm
        show wpOps P ops Q (List.range' k (l.length + 1)) a w
        rw [List.range'_succ, wpOps_cons]
        refine step_ok hC hF S hB h0 hs hc.1 fun a' w' hd' hv hS' => ?_
        exact seq_ok hC hF hB hp hQ l (k + 1) T' _ a' w' (fun j => by have := hl (j + 1); simpa [Nat.add_assoc, Nat.add_comm 1 j] using this) ht hc.2 (hd'.trans hd) (pin_put hp h0 hv hb) hS'
      · cases h
    · cases h

/-- a region in the order of the text -/
theorem region_seq (hC : CtxOk P C) (hF : ∀ f F, C.fn f = some F → Meets P f F) (hB : B ≤ w0.heap.size) {id : Nat} {ops : Array Oper} {Q : Exit → Act → World → Prop} {ρ ρ2 : Env} {T : List Tr}
    (h : trace C ops.toList ops.toList ρ = some (T, ρ2)) (hc : condsOf T) {a : Act} {w : World} (hS : Sim C.n B X w0 M0 ρ a.tmps w)
    (hp : PinOk C.pins ops) (hQ : ∀ a' w', a'.defers = a.defers → Pinned C.pins a.tmps a'.tmps → Sim C.n B X w0 M0 ρ2 a'.tmps w' → Q .normal a' w') : (Code.region id ops false).wp P Q a w := by
  refine wp_region ?_
  have := seq_ok hC hF hB hp hQ ops.toList 0 T ρ a w (by simp) h hc rfl (fun _ _ => rfl) hS
  rw [List.range_eq_range']
  simpa using this

end

/-! ### whatever order -/

def maskOf (acc : List Nat) (o : Oper) : Nat :=
  o.after.toList.foldl (fun s e => if Region.binds .any e = true then s ||| 2 ^ e.on ||| acc.getD e.on 0 else s) 0
def masks : List Oper → List Nat → List Nat
  | [], acc => acc
  | o :: r, acc => masks r (acc ++ [maskOf acc o])

def meets (a b : List Nat) : Bool := a.any fun x => b.any fun y => Nat.beq x y
/-- the slots looked at and written, operation by operation -/
abbrev RW := List (List Nat × List Nat)
def rwOf (T : List Tr) : RW := T.map fun t => (t.rd, t.ws.map (·.slot))

def pairOk (ms : List Nat) (i j : Nat) (x y : List Nat × List Nat) : Bool :=
  -- i before j in the text
  !(meets x.2 (y.1 ++ y.2) || meets y.2 (x.1 ++ x.2)) || (ms.getD j 0).testBit i
def rowOk (ms : List Nat) (i : Nat) (x : List Nat × List Nat) : Nat → RW → Bool
  | _, [] => true
  | j, y :: r => pairOk ms i j x y && rowOk ms i x (j + 1) r
def allOk (ms : List Nat) : Nat → RW → Bool
  | _, [] => true
  | i, x :: r => rowOk ms i x (i + 1) r && allOk ms (i + 1) r
def edgesOk : Nat → List Oper → Bool
  | _, [] => true
  | i, o :: r => o.after.toList.all (fun e => !Region.binds .any e || decide (e.on < i)) && edgesOk (i + 1) r
def anyOk (ops : List Oper) (T : List Tr) : Bool := edgesOk 0 ops && allOk (masks ops []) 0 (rwOf T)

end Fw
