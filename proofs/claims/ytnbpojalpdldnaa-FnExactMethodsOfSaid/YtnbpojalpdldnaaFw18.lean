/- Control: what is to be shown of a body, and the contract that follows. Conditions: none. -/
import Derived.Test.YtnbpojalpdldnaaFw17
namespace Fw
open Go

def memb (x : Nat) : List Nat → Bool
  | [] => false
  | y :: r => if y = x then true else memb x r

/-- what may be kept of a slot's content when only the slots of ks are -/
def filtK {R : Type} (ks : List Nat) (a : A) (k : A → R) : R :=
  match a with
  | .c s x => k (.c s x)
  | .ptr j g o => if memb j ks = true then k (.ptr j g o) else k .junk
  | .bor j g v t x o e => if memb j ks = true then k (.bor j g v t x o e) else k .junk
  | .elp j g v o t i e r => if memb j ks = true then k (.elp j g v o t i e r) else k .junk
  | .al j g e o => if memb j ks = true then k (.al j g e o) else k .junk
  | .eptr t x o => k (.eptr t x o)
  | .tup l => k (.tup l)
  | .fn f => k (.fn f)
  | _ => k .junk
def filt (ks : List Nat) (a : A) : A := filtK ks a id
theorem filtK_eq {R : Type} (ks : List Nat) (a : A) (k : A → R) : filtK ks a k = k (filt ks a) := by
  unfold filt filtK
  cases a <;> simp only [] <;> (try rfl) <;> split <;> rfl

def keepK {R : Type} (all : List Nat) : List Nat → Env → (Env → R) → R
  | [], _, k => k []
  | s :: r, ρ, k => natF (ρ.get s).g fun g => natF (ρ.get s).ver fun v => filtK all (ρ.get s).a fun a => keepK all r ρ fun ρ' => k ((s, ⟨g, v, a⟩) :: ρ')
def keepE (all : List Nat) : List Nat → Env → Env
  | [], _ => []
  | s :: r, ρ => (s, ⟨(ρ.get s).g, (ρ.get s).ver, filt all (ρ.get s).a⟩) :: keepE all r ρ
theorem keepK_eq {R : Type} (all : List Nat) : ∀ (l : List Nat) (ρ : Env) (k : Env → R), keepK all l ρ k = k (keepE all l ρ)
  | [], _, _ => rfl
  | s :: r, ρ, k => by simp only [keepK, natF_eq, filtK_eq, keepK_eq all r]; rfl
theorem keepE_get (all : List Nat) : ∀ (l : List Nat) (ρ : Env) (t : Nat), (keepE all l ρ).get t = if t ∈ l then ⟨(ρ.get t).g, (ρ.get t).ver, filt all (ρ.get t).a⟩ else noEnt
  | [], _, _ => rfl
  | s :: r, ρ, t => by
    unfold keepE
    simp only [Env.get]
    by_cases h : s = t
    · subst h; simp
    · rw [if_neg h, keepE_get all r ρ t]; simp [Ne.symm h]
theorem memb_mem {x : Nat} : ∀ {l : List Nat}, memb x l = true → x ∈ l
  | y :: r, h => by
    unfold memb at h
    split at h
    · rename_i e; simp [e]
    · simp [memb_mem h]

section
variable {n B : Nat} {X : List Nat} {w0 : World} {M0 : Mem} {ρ : Env} {tmps : Array Value} {w : World}

theorem keep_ok (ks : List Nat) (hS : Sim n B X w0 M0 ρ tmps w) : Sim n B X w0 M0 (keepE ks ks ρ) tmps w := by
  obtain ⟨M, ω, S⟩ := hS
  have hg := keepE_get ks ks ρ
  refine ⟨M, ω, S.size, S.fr, S.m0, S.old, S.mem, S.dis, fun t ht => ?_, fun t ht => ?_⟩
  · rw [hg]
    split
    · simp only [S.high t ht]; rfl
    · rfl
  · rw [hg]
    split
    · simp only
      have hr := S.slots t ht
      generalize (ρ.get t).a = a at hr
      -- a reference that is kept points to a slot that is kept, and current is what was current
      have hent : ∀ k, memb k ks = true → (((keepE ks ks ρ).get k).g = (ρ.get k).g ∧ ((keepE ks ks ρ).get k).ver = (ρ.get k).ver ∧ ((keepE ks ks ρ).get k).a = filt ks (ρ.get k).a) := by
        intro k hk
        rw [hg, if_pos (memb_mem hk)]
        exact ⟨rfl, rfl, rfl⟩
      have hpl : ∀ k cs, Place ω w k (ρ.get k).a (vl tmps k) cs → Place ω w k (filt ks (ρ.get k).a) (vl tmps k) cs := by
        intro k cs h
        cases h' : (ρ.get k).a <;> rw [h'] at h <;> first | exact h | exact h.elim
      cases a with
      | junk => exact trivial
      | c s x => exact hr
      | ptr k g off =>
        by_cases hk : memb k ks = true
        · have ef : filt ks (.ptr k g off) = .ptr k g off := by simp [filt, filtK, hk]
          rw [ef]
          obtain ⟨e1, e2, e3⟩ := hent k hk
          obtain ⟨h1, h2⟩ := hr
          exact ⟨⟨h1.1, by rw [e1]; exact h1.2⟩, fun h => h2 (by rw [← e1]; exact h)⟩
        · have ef : filt ks (.ptr k g off) = .junk := by simp [filt, filtK, hk]
          rw [ef]; exact trivial
      | bor k g ver u x org e =>
        by_cases hk : memb k ks = true
        · have ef : filt ks (.bor k g ver u x org e) = .bor k g ver u x org e := by simp [filt, filtK, hk]
          rw [ef]
          obtain ⟨e1, e2, e3⟩ := hent k hk
          obtain ⟨h1, h2⟩ := hr
          refine ⟨⟨h1.1, by rw [e1]; exact h1.2.1, by rw [e1, e2]; exact h1.2.2⟩, fun h => ?_⟩
          obtain ⟨cs, g1, g2, g3, g4⟩ := h2 ⟨by rw [← e1]; exact h.1, by rw [← e2]; exact h.2⟩
          refine ⟨cs, g1, g2, fun off ho => ?_, fun off et i eo he => by
            obtain ⟨pc, b, len, cap, row, q1, q⟩ := g4 off et i eo he
            exact ⟨pc, b, len, cap, row, by rw [e3]; exact hpl k pc q1, q⟩⟩
          obtain ⟨pc, p1, p2⟩ := g3 off ho
          exact ⟨pc, by rw [e3]; exact hpl k pc p1, p2⟩
        · have ef : filt ks (.bor k g ver u x org e) = .junk := by simp [filt, filtK, hk]
          rw [ef]; exact trivial
      | elp k g ver off et i eo arr =>
        by_cases hk : memb k ks = true
        · have ef : filt ks (.elp k g ver off et i eo arr) = .elp k g ver off et i eo arr := by simp [filt, filtK, hk]
          rw [ef]
          obtain ⟨e1, e2, e3⟩ := hent k hk
          obtain ⟨h1, h2⟩ := hr
          refine ⟨⟨h1.1, by rw [e1]; exact h1.2.1, by rw [e1, e2]; exact h1.2.2⟩, fun h => ?_⟩
          have h3 := h2 ⟨by rw [← e1]; exact h.1, by rw [← e2]; exact h.2⟩
          unfold ElpR at *
          cases arr with
          | none =>
            simp only [Option.isSome_none, Bool.false_eq_true, if_false] at h3 ⊢
            obtain ⟨pc, k1, k2⟩ := h3
            exact ⟨pc, by rw [e3]; exact hpl k pc k1, k2⟩
          | some m => exact h3
        · have ef : filt ks (.elp k g ver off et i eo arr) = .junk := by simp [filt, filtK, hk]
          rw [ef]; exact trivial
      | al k g ag off =>
        by_cases hk : memb k ks = true
        · have ef : filt ks (.al k g ag off) = .al k g ag off := by simp [filt, filtK, hk]
          rw [ef]
          obtain ⟨e1, e2, e3⟩ := hent k hk
          obtain ⟨h1, b, cs, h2, h3, h4⟩ := hr
          exact ⟨⟨h1.1, by rw [e1]; exact h1.2⟩, b, cs, h2, h3, fun h => h4 (by rw [← e1]; exact h)⟩
        · have ef : filt ks (.al k g ag off) = .junk := by simp [filt, filtK, hk]
          rw [ef]; exact trivial
      | eptr u x off => exact hr
      | cond s g v b a => exact trivial
      | tup l => exact hr
      | fn f => exact hr
    · exact trivial

/-- ages begin anew; references are dropped; an empty slice is a row of none -/
def normA {R : Type} (a : A) (k : A → R) : R :=
  match a with
  | .c (.nil e) _ => k (.c (.own (.pure e)) [])
  | .c s x => k (.c s x)
  | .eptr t x o => k (.eptr t x o)
  | .fn f => k (.fn f)
  | _ => k .junk
theorem normA_eq {R : Type} (a : A) (k : A → R) : normA a k = k (normA a id) := by
  cases a with
  | c s x => cases s <;> rfl
  | _ => rfl
def normK {R : Type} : List Nat → Env → (Env → R) → R
  | [], _, k => k []
  | s :: r, ρ, k => normA (ρ.get s).a fun a => normK r ρ fun ρ' => k ((s, ⟨0, 0, a⟩) :: ρ')
def normE : List Nat → Env → Env
  | [], _ => []
  | s :: r, ρ => (s, ⟨0, 0, normA (ρ.get s).a id⟩) :: normE r ρ
theorem normK_eq {R : Type} : ∀ (l : List Nat) (ρ : Env) (k : Env → R), normK l ρ k = k (normE l ρ)
  | [], _, _ => rfl
  | s :: r, ρ, k => by
    unfold normK
    rw [normA_eq, normK_eq r]; rfl
theorem normE_get : ∀ (l : List Nat) (ρ : Env) (t : Nat), (normE l ρ).get t = if t ∈ l then ⟨0, 0, normA (ρ.get t).a id⟩ else noEnt
  | [], _, _ => rfl
  | s :: r, ρ, t => by
    unfold normE
    simp only [Env.get]
    by_cases h : s = t
    · subst h; simp
    · rw [if_neg h, normE_get r ρ t]; simp [Ne.symm h]
theorem norm_ok (L : List Nat) (hS : Sim n B X w0 M0 ρ tmps w) : Sim n B X w0 M0 (normE L ρ) tmps w := by
  obtain ⟨M, ω, S⟩ := hS
  have hg := normE_get L ρ
  refine ⟨M, ω, S.size, S.fr, S.m0, S.old, S.mem, S.dis, fun t ht => ?_, fun t ht => ?_⟩
  · rw [hg]
    split
    · simp only [S.high t ht]; rfl
    · rfl
  · rw [hg]
    split
    · simp only
      have hr := S.slots t ht
      generalize (ρ.get t).a = a at hr
      cases a with
      | c s x =>
        cases s with
        | nil e =>
          obtain ⟨cs, bs, h1, ⟨h2, h3, h4⟩, h5, h6⟩ := hr
          exact ⟨cs, bs, h1, .inl ⟨h2, h3, rfl⟩, h5, h6⟩
        | _ => exact hr
      | eptr u x off => exact hr
      | fn f => exact hr
      | _ => exact trivial
    · exact trivial
end

/-- the frame in which a body is looked at -/
structure Cfg where
  P : Program
  C : Ctx
  B : Nat
  X : List Nat
  w0 : World
  M0 : Mem
  pv : Vl
structure Cfg.Ok (G : Cfg) : Prop where
  ctx : CtxOk G.P G.C
  fn : ∀ f F, G.C.fn f = some F → Meets G.P f F
  base : G.B ≤ G.w0.heap.size

def Cfg.Sim (G : Cfg) (ρ : Env) (tmps : Array Value) (w : World) : Prop := Fw.Sim G.C.n G.B G.X G.w0 G.M0 ρ tmps w ∧ ∀ t ∈ G.C.pins, vl tmps t = G.pv t
/-- what is to be shown of a piece of code -/
def Vc (G : Cfg) (c : Code) (ρ : Env) (K : Exit → Env → Prop) : Prop :=
  ∀ (a : Act) (w : World), a.defers = [] → G.Sim ρ a.tmps w → c.wp G.P (fun e a' w' => ∃ ρ', K e ρ' ∧ a'.defers = [] ∧ G.Sim ρ' a'.tmps w') a w

section
variable {G : Cfg} {ρ : Env} {K : Exit → Env → Prop}

theorem Vc.mono {c : Code} {K' : Exit → Env → Prop} (h : Vc G c ρ K) (hk : ∀ e ρ', K e ρ' → K' e ρ') : Vc G c ρ K' :=
  fun a w hd hS => wp_mono (h a w hd hS) fun e _ _ ⟨ρ', h1, h2⟩ => ⟨ρ', hk e ρ' h1, h2⟩
theorem Vc.skip (h : K .normal ρ) : Vc G .skip ρ K := fun _ _ hd hS => wp_skip ⟨ρ, h, hd, hS⟩
theorem Vc.ret (h : K .ret ρ) : Vc G .ret ρ K := fun _ _ hd hS => wp_ret ⟨ρ, h, hd, hS⟩
theorem Vc.exit {id : Nat} (h : K (.exit id) ρ) : Vc G (.exit id) ρ K := fun _ _ hd hS => wp_exit ⟨ρ, h, hd, hS⟩

def seqK (G : Cfg) (y : Code) (K : Exit → Env → Prop) : Exit → Env → Prop
  | .normal, ρ => Vc G y ρ K
  | e, ρ => K e ρ
theorem Vc.seq {x y : Code} (h : Vc G x ρ (seqK G y K)) : Vc G (.seq x y) ρ K := fun a w hd hS =>
  wp_seq (wp_mono (h a w hd hS) fun e a' w' ⟨ρ', h1, h2, h3⟩ => by
    cases e <;> first | exact h1 a' w' h2 h3 | exact ⟨ρ', h1, h2, h3⟩)

def blockK (id : Nat) (K : Exit → Env → Prop) : Exit → Env → Prop
  | .exit i, ρ => if i = id then K .normal ρ else K (.exit i) ρ
  | e, ρ => K e ρ
theorem Vc.block {id : Nat} {c : Code} (h : Vc G c ρ (blockK id K)) : Vc G (.block id c) ρ K := fun a w hd hS =>
  wp_block (wp_mono (h a w hd hS) fun e a' w' ⟨ρ', h1, h2, h3⟩ => by
    cases e with
    | exit i =>
      show if i = id then _ else _
      have h1 : if i = id then K .normal ρ' else K (.exit i) ρ' := h1
      split
      · rename_i e; rw [if_pos e] at h1; exact ⟨ρ', h1, h2, h3⟩
      · rename_i e; rw [if_neg e] at h1; exact ⟨ρ', h1, h2, h3⟩
    | _ => exact ⟨ρ', h1, h2, h3⟩)

/-- a test: the slot's bool -/
def boolOf (ρ : Env) (c : Operand) : Option Bool :=
  match c with
  | .tmp t => match (ρ.get t).a with | .c (.pure .bool) b => some b | _ => none
  | _ => none
theorem Vc.cond {c : Operand} {x y : Code} {b : Bool} (hc : boolOf ρ c = some b) (ht : b = true → Vc G x ρ K) (hf : b = false → Vc G y ρ K) : Vc G (.cond c x y) ρ K := by
  intro a w hd hS
  obtain ⟨⟨M, ω, S⟩, hpn⟩ := hS
  have hv : a.eval c = .bool b := by
    unfold boolOf at hc
    split at hc
    · rename_i t
      split at hc
      · rename_i b' hb
        simp only [Option.some.injEq] at hc
        subst hc
        have htn : t < G.C.n := by
          rcases Nat.lt_or_ge t G.C.n with h | h
          · exact h
          · rw [S.high t h] at hb; cases hb
        have hr := S.slots t htn
        rw [hb] at hr
        obtain ⟨cs, bs, k1, ⟨k2, k3⟩, _⟩ := hr
        have e1 : cs = [a.tmps.getD t undef] := k1
        have e2 : cs = [.bool _] := k3
        rw [e1] at e2
        exact (List.cons.inj e2).1
      · cases hc
    · cases hc
  exact wp_cond_split hv (fun h => ht h a w hd ⟨⟨M, ω, S⟩, hpn⟩) (fun h => hf h a w hd ⟨⟨M, ω, S⟩, hpn⟩)

/-- a region: what it asks, and what it leaves of the slots -/
def pinB (pins : List Nat) (ops : List Oper) : Bool :=
  match pins with
  | [] => true
  | p :: r => ops.all fun o => match o.dst with | some d => !(memb d (p :: r)) | none => true
theorem pinB_ok {pins : List Nat} {ops : Array Oper} (h : pinB pins ops.toList = true) : PinOk pins ops := by
  intro o ho t ht hd
  unfold pinB at h
  split at h
  · simp at ht
  · rename_i p r
    have := List.all_eq_true.1 h o ho
    rw [hd] at this
    simp only [Bool.not_eq_true'] at this
    have hm : memb t (p :: r) = true := by
      have key : ∀ (l : List Nat), t ∈ l → memb t l = true := by
        intro l
        induction l with
        | nil => intro h; simp at h
        | cons y l ih =>
          intro h
          unfold memb
          split
          · rfl
          · rename_i hne
            rcases List.mem_cons.1 h with h | h
            · exact (hne h.symm).elim
            · exact ih h
      exact key _ ht
    rw [hm] at this; cases this
def regK (C : Ctx) (ops : List Oper) (ρ : Env) : Option (List Prop × Env) :=
  if pinB C.pins ops = true then runK C ops ops ρ fun cs ρ2 => keepK C.keep C.keep ρ2 (fun ρ' => some (cs, ρ')) else none
theorem Vc.region (hG : G.Ok) {id : Nat} {ops : Array Oper} {cs : List Prop} {ρ2 : Env} (h : regK G.C ops.toList ρ = some (cs, ρ2)) (hc : conj cs) (hK : K .normal ρ2) :
    Vc G (.region id ops false) ρ K := by
  intro a w hd hS
  unfold regK at h
  split at h
  case isFalse => cases h
  rename_i hpin
  obtain ⟨T, ρ', ht, h2⟩ := runK_ok _ _ _ _ h
  rw [keepK_eq] at h2
  simp only [Option.some.injEq, Prod.mk.injEq] at h2
  obtain ⟨rfl, rfl⟩ := h2
  exact region_seq hG.ctx hG.fn hG.base ht (condsL_of T (conj_mem _ hc)) hS.1 (pinB_ok hpin) fun a' w' hd' hpn hS' => ⟨_, hK, hd'.trans hd, keep_ok _ hS', fun t ht => (hpn t ht).trans (hS.2 t ht)⟩

/-- a loop: how its slots stand at the head of each round, what then holds, what goes down -/
theorem Vc.loop {c : Code} {V : Type} (L : List Nat) (σ : V → Env) (I : V → Prop) (μ : V → Nat) (h0 : ∃ v, I v ∧ normE L ρ = σ v)
    (round : ∀ v, I v → Vc G c (σ v) (fun e ρ' => match e with
      | .normal => ∃ v', I v' ∧ μ v' < μ v ∧ normE L ρ' = σ v'
      | e => K e ρ')) : Vc G (.loop c) ρ K := by
  intro a w hd hS
  obtain ⟨v0, hI0, e0⟩ := h0
  have hS0 : G.Sim (σ v0) a.tmps w := by rw [← e0]; exact ⟨norm_ok L hS.1, hS.2⟩
  have key : ∀ (m : Nat) (v : V) (a : Act) (w : World), μ v = m → I v → a.defers = [] → G.Sim (σ v) a.tmps w →
      ∀ (b : Frame) (k : List Item) (cs : List Frame), ∃ e a' w', (∃ ρ', K e ρ' ∧ a'.defers = [] ∧ G.Sim ρ' a'.tmps w') ∧
        Arrives G.P (lone (b.at a (.code c :: .inLoop c :: k)) cs w) b k cs e a' w' := by
    intro m
    induction m using Nat.strongRecOn with
    | _ m ih =>
      intro v a w hm hI hd hS b k cs
      obtain ⟨e, a₁, w₁, ⟨ρ', hq, hd', hS'⟩, harr⟩ := round v hI a w hd hS b (.inLoop c :: k) cs
      cases e with
      | normal =>
        obtain ⟨v', hI', hlt, he⟩ := hq
        have hS2 : G.Sim (σ v') a₁.tmps w₁ := by rw [← he]; exact ⟨norm_ok L hS'.1, hS'.2⟩
        obtain ⟨e₂, a₂, w₂, hq₂, harr₂⟩ := ih (μ v') (hm ▸ hlt) v' a₁ w₁ rfl hI' hd' hS2 b k cs
        exact ⟨e₂, a₂, w₂, hq₂, .of_steps (Steps.trans harr (.one step_inLoop)) harr₂⟩
      | exit id => exact ⟨_, a₁, w₁, ⟨ρ', hq, hd', hS'⟩, .pass (x := .inLoop c) rfl (fun _ _ => .inl (by simp)) harr⟩
      | goto l => exact ⟨_, a₁, w₁, ⟨ρ', hq, hd', hS'⟩, .pass (x := .inLoop c) rfl (fun _ _ => .inl (by simp)) harr⟩
      | ret => exact ⟨_, a₁, w₁, ⟨ρ', hq, hd', hS'⟩, .pass (x := .inLoop c) rfl (fun _ _ => .inl (by simp)) harr⟩
      | panic ch => exact ⟨_, a₁, w₁, ⟨ρ', hq, hd', hS'⟩, .pass (x := .inLoop c) rfl (fun _ _ => .inl (by simp)) harr⟩
      | outgrown => exact ⟨_, a₁, w₁, ⟨ρ', hq, hd', hS'⟩, .pass (x := .inLoop c) rfl (fun _ _ => .inl (by simp)) harr⟩
  intro b k cs
  obtain ⟨e, a', w', hq, harr⟩ := key _ v0 a w rfl hI0 hd hS0 b k cs
  exact ⟨e, a', w', hq, .of_steps (.one step_loop) harr⟩
end

end Fw
