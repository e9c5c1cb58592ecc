/- The rule for loops: the slots that change stand at given shapes, the others are as they were. Conditions: none. -/
import Derived.Test.YtnbpojalpdldnaaFwI
import Derived.Test.YtnbpojalpdldnaaFw19
namespace Fw
open Go

section
variable {n B : Nat} {X : List Nat} {w0 : World} {M0 M : Mem} {ω : Own} {ρ : Env} {tmps : Array Value} {w : World}

theorem keep_ok0 (ks : List Nat) (S : St0 n B X w0 M0 M ω ρ tmps w) : St0 n B X w0 M0 M ω (keepE ks ks ρ) tmps w := by
  have hg := keepE_get ks ks ρ
  refine ⟨S.size, S.fr, S.m0, S.old, S.mem, S.dis, fun t ht => ?_, fun t ht => ?_⟩
  · rw [hg]
    split
    · simp only [S.high t ht]; rfl
    · rfl
  · rw [hg]
    split
    · simp only
      have hr := S.slots t ht
      generalize (ρ.get t).a = a at hr
      have hent : ∀ k, memb k ks = true → (((keepE ks ks ρ).get k).g = (ρ.get k).g ∧ ((keepE ks ks ρ).get k).ver = (ρ.get k).ver ∧ ((keepE ks ks ρ).get k).a = filt ks (ρ.get k).a) := by
        intro k hk
        rw [hg, if_pos (memb_mem hk)]
        exact ⟨rfl, rfl, rfl⟩
      have hpl : ∀ k cs, Place ω w k (ρ.get k).a (vl tmps k) cs → Place ω w k (filt ks (ρ.get k).a) (vl tmps k) cs := by
        intro k cs h
        cases h' : (ρ.get k).a <;> rw [h'] at h <;> first | exact h | exact h.elim
      cases a with
      | junk => exact trivial
      | c s x => exact hr
      | ptr k g off =>
        by_cases hk : memb k ks = true
        · have ef : filt ks (.ptr k g off) = .ptr k g off := by simp [filt, filtK, hk]
          rw [ef]
          obtain ⟨e1, e2, e3⟩ := hent k hk
          obtain ⟨h1, h2⟩ := hr
          exact ⟨⟨h1.1, by rw [e1]; exact h1.2⟩, fun h => h2 (by rw [← e1]; exact h)⟩
        · have ef : filt ks (.ptr k g off) = .junk := by simp [filt, filtK, hk]
          rw [ef]; exact trivial
      | bor k g ver u x org e =>
        by_cases hk : memb k ks = true
        · have ef : filt ks (.bor k g ver u x org e) = .bor k g ver u x org e := by simp [filt, filtK, hk]
          rw [ef]
          obtain ⟨e1, e2, e3⟩ := hent k hk
          obtain ⟨h1, h2⟩ := hr
          refine ⟨⟨h1.1, by rw [e1]; exact h1.2.1, by rw [e1, e2]; exact h1.2.2⟩, fun h => ?_⟩
          obtain ⟨cs, g1, g2, g3, g4⟩ := h2 ⟨by rw [← e1]; exact h.1, by rw [← e2]; exact h.2⟩
          refine ⟨cs, g1, g2, fun off ho => ?_, fun off et i eo he => by
            obtain ⟨pc, b, len, cap, row, q1, q⟩ := g4 off et i eo he
            exact ⟨pc, b, len, cap, row, by rw [e3]; exact hpl k pc q1, q⟩⟩
          obtain ⟨pc, p1, p2⟩ := g3 off ho
          exact ⟨pc, by rw [e3]; exact hpl k pc p1, p2⟩
        · have ef : filt ks (.bor k g ver u x org e) = .junk := by simp [filt, filtK, hk]
          rw [ef]; exact trivial
      | elp k g ver off et i eo arr =>
        by_cases hk : memb k ks = true
        · have ef : filt ks (.elp k g ver off et i eo arr) = .elp k g ver off et i eo arr := by simp [filt, filtK, hk]
          rw [ef]
          obtain ⟨e1, e2, e3⟩ := hent k hk
          obtain ⟨h1, h2⟩ := hr
          refine ⟨⟨h1.1, by rw [e1]; exact h1.2.1, by rw [e1, e2]; exact h1.2.2⟩, fun h => ?_⟩
          have h3 := h2 ⟨by rw [← e1]; exact h.1, by rw [← e2]; exact h.2⟩
          unfold ElpR at *
          cases arr with
          | none =>
            simp only [Option.isSome_none, Bool.false_eq_true, if_false] at h3 ⊢
            obtain ⟨pc, k1, k2⟩ := h3
            exact ⟨pc, by rw [e3]; exact hpl k pc k1, k2⟩
          | some m => exact h3
        · have ef : filt ks (.elp k g ver off et i eo arr) = .junk := by simp [filt, filtK, hk]
          rw [ef]; exact trivial
      | al k g ag off =>
        by_cases hk : memb k ks = true
        · have ef : filt ks (.al k g ag off) = .al k g ag off := by simp [filt, filtK, hk]
          rw [ef]
          obtain ⟨e1, e2, e3⟩ := hent k hk
          obtain ⟨h1, b, cs, h2, h3, h4⟩ := hr
          exact ⟨⟨h1.1, by rw [e1]; exact h1.2⟩, b, cs, h2, h3, fun h => h4 (by rw [← e1]; exact h)⟩
        · have ef : filt ks (.al k g ag off) = .junk := by simp [filt, filtK, hk]
          rw [ef]; exact trivial
      | eptr u x off => exact hr
      | cond s g v b a => exact trivial
      | tup l => exact hr
      | fn f => exact hr
    · exact trivial

/-- a slot of which nothing was said: what it holds is told -/
theorem put_front (S : St0 n B X w0 M0 M ω ρ tmps w) {s : Nat} {sh : Sh} {z : El sh.ty} (hs : s < n) (he : ρ.get s = noEnt) (ho : Owns M ω w s sh z (vl tmps s)) :
    St0 n B X w0 M0 M ω ((s, ⟨0, 0, .c sh z⟩) :: ρ) tmps w := by
  have hget : ∀ t, Env.get ((s, ⟨0, 0, .c sh z⟩) :: ρ) t = if s = t then ⟨0, 0, .c sh z⟩ else ρ.get t := fun t => rfl
  have hg : ∀ t, (Env.get ((s, ⟨0, 0, .c sh z⟩) :: ρ) t).g = (ρ.get t).g ∧ (Env.get ((s, ⟨0, 0, .c sh z⟩) :: ρ) t).ver = (ρ.get t).ver := by
    intro t
    rw [hget]
    split
    · rename_i e; subst e; rw [he]; exact ⟨rfl, rfl⟩
    · exact ⟨rfl, rfl⟩
  have hpl : ∀ k cs, Place ω w k (ρ.get k).a (vl tmps k) cs → Place ω w k (Env.get ((s, ⟨0, 0, .c sh z⟩) :: ρ) k).a (vl tmps k) cs := by
    intro k cs h
    rw [hget]
    split
    · rename_i e; subst e; rw [he] at h; exact h.elim
    · exact h
  refine ⟨S.size, S.fr, S.m0, S.old, S.mem, S.dis, fun t ht => ?_, fun t ht => ?_⟩
  · rw [hget, if_neg (by omega)]; exact S.high t ht
  · rw [hget]
    split
    · rename_i e; subst e; exact ho
    · have hr := S.slots t ht
      revert hr
      generalize (ρ.get t).a = a
      intro hr
      have key : ∀ a, Rel0 n M ω w ρ (fun t => tmps.getD t undef) t (tmps.getD t undef) a → Rel0 n M ω w ((s, ⟨0, 0, .c sh z⟩) :: ρ) (fun t => tmps.getD t undef) t (tmps.getD t undef) a := by
        intro a hr
        cases a with
        | ptr k g off => exact ⟨⟨hr.1.1, by rw [(hg k).1]; exact hr.1.2⟩, fun h => hr.2 (by rw [← (hg k).1]; exact h)⟩
        | bor k g ver u x org e =>
          obtain ⟨h1, h2⟩ := hr
          refine ⟨⟨h1.1, by rw [(hg k).1]; exact h1.2.1, by rw [(hg k).1, (hg k).2]; exact h1.2.2⟩, fun h => ?_⟩
          obtain ⟨cs, g1, g2, g3, g4⟩ := h2 ⟨by rw [← (hg k).1]; exact h.1, by rw [← (hg k).2]; exact h.2⟩
          refine ⟨cs, g1, g2, fun off ho => ?_, fun off et i eo he => by
            obtain ⟨pc, b, len, cap, row, q1, q⟩ := g4 off et i eo he
            exact ⟨pc, b, len, cap, row, hpl k pc q1, q⟩⟩
          obtain ⟨pc, p1, p2⟩ := g3 off ho
          exact ⟨pc, hpl k pc p1, p2⟩
        | elp k g ver off et i eo arr =>
          obtain ⟨h1, h2⟩ := hr
          refine ⟨⟨h1.1, by rw [(hg k).1]; exact h1.2.1, by rw [(hg k).1, (hg k).2]; exact h1.2.2⟩, fun h => ?_⟩
          have h3 := h2 ⟨by rw [← (hg k).1]; exact h.1, by rw [← (hg k).2]; exact h.2⟩
          unfold ElpR at *
          cases arr with
          | none =>
            simp only [Option.isSome_none, Bool.false_eq_true, if_false] at h3 ⊢
            obtain ⟨pc, k1, k2⟩ := h3
            exact ⟨pc, hpl k pc k1, k2⟩
          | some m => exact h3
        | al k g ag off =>
          obtain ⟨h1, b, cs, h2, h3, h4⟩ := hr
          exact ⟨⟨h1.1, by rw [(hg k).1]; exact h1.2⟩, b, cs, h2, h3, fun h => h4 (by rw [← (hg k).1]; exact h)⟩
        | _ => exact hr
      cases a with
      | cond s' g ver b a =>
        obtain ⟨h1, h2⟩ := hr
        refine ⟨⟨h1.1, by rw [(hg s').1]; exact h1.2.1, by rw [(hg s').1, (hg s').2]; exact h1.2.2⟩, fun h => ?_⟩
        have h3 := h2 ⟨by rw [← (hg s').1]; exact h.1, by rw [← (hg s').2]; exact h.2⟩
        exact ⟨fun e => key a (h3.1 e), h3.2⟩
      | junk => exact trivial
      | c s' x => exact key (.c s' x) hr
      | ptr k g off => exact key (.ptr k g off) hr
      | bor k g ver u x org e => exact key (.bor k g ver u x org e) hr
      | elp k g ver off et i eo arr => exact key (.elp k g ver off et i eo arr) hr
      | eptr u x off => exact key (.eptr u x off) hr
      | al k g ag off => exact key (.al k g ag off) hr
      | tup l => exact key (.tup l) hr
      | fn f => exact key (.fn f) hr

/-- slots, whether a variable stands behind, shapes -/
abbrev LS := List (Nat × Bool × Sh)
@[reducible] def LV : LS → Type
  | [] => Unit
  | q :: r => El q.2.2.ty × LV r
def envL : (L : LS) → LV L → Env → Env
  | [], _, ρ => ρ
  | (s, true, sh) :: L, v, ρ => (s, ⟨0, 0, .c (.ref sh) v.1⟩) :: envL L v.2 ρ
  | (s, false, sh) :: L, v, ρ => (s, ⟨0, 0, .c sh v.1⟩) :: envL L v.2 ρ
def convA (r : Bool) (sh : Sh) (a : A) (k : El sh.ty → Prop) : Prop :=
  match r, a with
  | true, .c (.ref s') x => conv s' sh x k
  | true, _ => False
  | false, .c (.ref _) _ => False
  | false, .c s' x => conv s' sh x k
  | false, _ => False
def loopK : (L : LS) → Env → (LV L → Prop) → Prop
  | [], _, k => k ()
  | (s, r, sh) :: L, ρ, k => convA r sh (ρ.get s).a fun z => loopK L ρ fun v => k (z, v)

theorem convA_ok {r : Bool} {sh : Sh} {a : A} {k : El sh.ty → Prop} (h : convA r sh a k) {n t : Nat} {vals : Vl} {v : Value} (hr : Rel n M ω w ρ vals t v a) :
    ∃ z, k z ∧ Owns M ω w t (if r = true then .ref sh else sh) (cast (by cases r <;> rfl) z) v := by
  cases a with
  | c s x =>
    have hr : Owns M ω w t s x v := hr
    cases r with
    | true =>
      cases s with
      | ref s' =>
        have h : conv s' sh x k := h
        obtain ⟨z, h1, h2, h3⟩ := conv_ok (M := M) (R := rows w) s' sh x k h
        obtain ⟨cs, bs, g1, ⟨b, row, bss, g2, g3, g4, g5⟩, g6, g7⟩ := hr
        exact ⟨z, h1, cs, bs, g1, ⟨b, row, bss, g2, g3, g4, h3 row bss g5⟩, g6, g7⟩
      | _ => exact h.elim
    | false =>
      have h : conv s sh x k := by cases s <;> first | exact h | exact h.elim
      obtain ⟨z, h1, h2, h3⟩ := conv_ok (M := M) (R := rows w) s sh x k h
      obtain ⟨cs, bs, g1, g2, g3, g4⟩ := hr
      exact ⟨z, h1, cs, bs, by simp only [Bool.false_eq_true, if_false]; rw [← h2]; exact g1, h3 cs bs g2, g3, g4⟩
  | _ => cases r <;> exact h.elim

def noneOf (ks : List Nat) : LS → Bool
  | [] => true
  | q :: L => !(memb q.1 ks) && noneOf (q.1 :: ks) L
theorem loopK_ok (S : St0 n B X w0 M0 M ω ρ tmps w) : ∀ (L : LS) (ks : List Nat) (σ : Env) (k : LV L → Prop), noneOf ks L = true → loopK L ρ k →
    (∀ t, t ∉ ks → σ.get t = noEnt) → St0 n B X w0 M0 M ω σ tmps w → ∃ v, k v ∧ St0 n B X w0 M0 M ω (envL L v σ) tmps w
  | [], ks, σ, k, _, h, _, S' => ⟨(), h, S'⟩
  | (s, r, sh) :: L, ks, σ, k, hn, h, hks, S' => by
    simp only [noneOf, Bool.and_eq_true, Bool.not_eq_true'] at hn
    have hnot : ∀ {x : Nat} {l : List Nat}, memb x l = false → x ∉ l := fun hm hx => by rw [memb_of_mem hx] at hm; cases hm
    have hsn : s < n := by
      rcases Nat.lt_or_ge s n with h' | h'
      · exact h'
      · simp only [loopK] at h
        rw [S.high s h'] at h
        cases r <;> exact h.elim
    obtain ⟨z, h1, h2⟩ := convA_ok h (S.slots s hsn)
    -- the rest first
    obtain ⟨v, h3, S2⟩ := loopK_ok S L (s :: ks) σ _ hn.2 h1 (fun t ht => hks t (fun e => ht (List.mem_cons_of_mem _ e))) S'
    have hge : ∀ (L : LS) (ks : List Nat) (v : LV L), noneOf ks L = true → s ∈ ks → (envL L v σ).get s = σ.get s := by
      intro L
      induction L with
      | nil => intro ks v _ _; rfl
      | cons q L ih =>
        intro ks v hn hs
        obtain ⟨s', r', sh'⟩ := q
        simp only [noneOf, Bool.and_eq_true, Bool.not_eq_true'] at hn
        have hne : s' ≠ s := fun e => hnot hn.1 (e ▸ hs)
        have := ih (s' :: ks) v.2 hn.2 (List.mem_cons_of_mem _ hs)
        cases r' <;> (show (if s' = s then _ else Env.get (envL L v.2 σ) s) = _) <;> rw [if_neg hne] <;> exact this
    have he : (envL L v σ).get s = noEnt := by
      rw [hge L (s :: ks) v hn.2 (by simp)]
      exact hks s (hnot hn.1)
    refine ⟨(z, v), h3, ?_⟩
    cases r with
    | true => exact put_front (sh := .ref sh) (z := z) S2 hsn he h2
    | false => exact put_front (sh := sh) (z := z) S2 hsn he h2
end

section
variable {G : Cfg} {ρ : Env} {K : Exit → Env → Prop}

/-- a loop: its slots at the head of each round, what then holds, what goes down; the slots of F are as they were -/
theorem Vc.loopF {c : Code} (L : LS) (F : List Nat) (I : LV L → Prop) (μ : LV L → Nat) (hn : noneOf F L = true) (h0 : loopK L ρ I)
    (round : ∀ v, I v → Vc G c (envL L v (keepE F F ρ)) (fun e ρ' => match e with
      | .normal => keepE F F ρ' = keepE F F ρ ∧ loopK L ρ' (fun v' => I v' ∧ μ v' < μ v)
      | e => K e ρ')) : Vc G (.loop c) ρ K := by
  have enter : ∀ {ρ' : Env} {k : LV L → Prop} {tmps : Array Value} {w : World}, G.Sim ρ' tmps w → loopK L ρ' k → ∃ v, k v ∧ G.Sim (envL L v (keepE F F ρ')) tmps w := by
    intro ρ' k tmps w ⟨⟨M, ω, S⟩, hpn⟩ h
    obtain ⟨v, h1, h2⟩ := loopK_ok S L F (keepE F F ρ') k hn h (fun t ht => by rw [keepE_get, if_neg ht]) (keep_ok0 F S)
    exact ⟨v, h1, ⟨M, ω, h2⟩, hpn⟩
  intro a w hd hS
  obtain ⟨v0, hI0, hS0⟩ := enter hS h0
  have key : ∀ (m : Nat) (v : LV L) (a : Act) (w : World), μ v = m → I v → a.defers = [] → G.Sim (envL L v (keepE F F ρ)) a.tmps w →
      ∀ (b : Frame) (k : List Item) (cs : List Frame), ∃ e a' w', (∃ ρ', K e ρ' ∧ a'.defers = [] ∧ G.Sim ρ' a'.tmps w') ∧
        Arrives G.P (lone (b.at a (.code c :: .inLoop c :: k)) cs w) b k cs e a' w' := by
    intro m
    induction m using Nat.strongRecOn with
    | _ m ih =>
      intro v a w hm hI hd hS b k cs
      obtain ⟨e, a₁, w₁, ⟨ρ', hq, hd', hS'⟩, harr⟩ := round v hI a w hd hS b (.inLoop c :: k) cs
      cases e with
      | normal =>
        obtain ⟨hF, hq⟩ := hq
        obtain ⟨v', ⟨hI', hlt⟩, hS2⟩ := enter hS' hq
        rw [hF] at hS2
        obtain ⟨e₂, a₂, w₂, hq₂, harr₂⟩ := ih (μ v') (hm ▸ hlt) v' a₁ w₁ rfl hI' hd' hS2 b k cs
        exact ⟨e₂, a₂, w₂, hq₂, .of_steps (Steps.trans harr (.one step_inLoop)) harr₂⟩
      | exit id => exact ⟨_, a₁, w₁, ⟨ρ', hq, hd', hS'⟩, .pass (x := .inLoop c) rfl (fun _ _ => .inl (by simp)) harr⟩
      | goto l => exact ⟨_, a₁, w₁, ⟨ρ', hq, hd', hS'⟩, .pass (x := .inLoop c) rfl (fun _ _ => .inl (by simp)) harr⟩
      | ret => exact ⟨_, a₁, w₁, ⟨ρ', hq, hd', hS'⟩, .pass (x := .inLoop c) rfl (fun _ _ => .inl (by simp)) harr⟩
      | panic ch => exact ⟨_, a₁, w₁, ⟨ρ', hq, hd', hS'⟩, .pass (x := .inLoop c) rfl (fun _ _ => .inl (by simp)) harr⟩
      | outgrown => exact ⟨_, a₁, w₁, ⟨ρ', hq, hd', hS'⟩, .pass (x := .inLoop c) rfl (fun _ _ => .inl (by simp)) harr⟩
  intro b k cs
  obtain ⟨e, a', w', hq, harr⟩ := key _ v0 a w rfl hI0 hd hS0 b k cs
  exact ⟨e, a', w', hq, .of_steps (.one step_loop) harr⟩
end
/-! slots that are shared at the head of each round -/
def frzE : List Nat → Env → Env
  | [], ρ => ρ
  | j :: r, ρ => match froz (ρ.get j).a with
    | some a => frzE r (ρ.put ⟨j, true, a⟩)
    | none => frzE r ρ
def apart : List Nat → List Nat → Bool
  | [], _ => true
  | j :: r, F => !(memb j F) && apart r F
theorem keepE_put (all : List Nat) (w : Wr) : ∀ (l : List Nat) (ρ : Env), w.slot ∉ l → keepE all l (ρ.put w) = keepE all l ρ
  | [], _, _ => rfl
  | s :: r, ρ, h => by
    have hs : (ρ.put w).get s = ρ.get s := by rw [Env.get_put, if_neg (fun e => h (by simp [e]))]
    unfold keepE
    rw [hs, keepE_put all w r ρ (fun hm => h (by simp [hm]))]
theorem memb_iff {x : Nat} {l : List Nat} (h : memb x l = false) : x ∉ l := fun hm => by rw [memb_of_mem hm] at h; cases h
theorem keepE_frz (F : List Nat) : ∀ (Z : List Nat) (ρ : Env), apart Z F = true → keepE F F (frzE Z ρ) = keepE F F ρ
  | [], _, _ => rfl
  | j :: r, ρ, h => by
    simp only [apart, Bool.and_eq_true, Bool.not_eq_true'] at h
    unfold frzE
    split
    · rename_i a _
      rw [keepE_frz F r _ h.2, keepE_put F ⟨j, true, a⟩ F ρ (memb_iff h.1)]
    · exact keepE_frz F r ρ h.2
section
variable {n B : Nat} {X : List Nat} {w0 : World} {M0 : Mem} {tmps : Array Value} {w : World}
theorem frz_ok : ∀ (Z : List Nat) (ρ : Env), Sim n B X w0 M0 ρ tmps w → Sim n B X w0 M0 (frzE Z ρ) tmps w
  | [], _, h => h
  | j :: r, ρ, h => by
    unfold frzE
    split
    · rename_i a ha
      obtain ⟨M, ω, S⟩ := h
      have hj : j < n := by
        rcases Nat.lt_or_ge j n with h' | h'
        · exact h'
        · rw [S.high j h'] at ha; cases ha
      exact frz_ok r _ ⟨_, _, (freeze_ok S hj ha).1⟩
    · exact frz_ok r ρ h
end
section
variable {G : Cfg} {ρ : Env} {K : Exit → Env → Prop}
theorem Vc.loopZ {c : Code} (L : LS) (F Z : List Nat) (I : LV L → Prop) (μ : LV L → Nat) (hn : noneOf F L = true) (hz : apart Z F = true) (h0 : loopK L (frzE Z ρ) I)
    (round : ∀ v, I v → Vc G c (envL L v (keepE F F ρ)) (fun e ρ' => match e with
      | .normal => keepE F F ρ' = keepE F F ρ ∧ loopK L (frzE Z ρ') (fun v' => I v' ∧ μ v' < μ v)
      | e => K e ρ')) : Vc G (.loop c) ρ K := by
  have enter : ∀ {ρ' : Env} {k : LV L → Prop} {tmps : Array Value} {w : World}, G.Sim ρ' tmps w → loopK L (frzE Z ρ') k → ∃ v, k v ∧ G.Sim (envL L v (keepE F F ρ')) tmps w := by
    intro ρ' k tmps w ⟨hS, hpn⟩ h
    obtain ⟨M, ω, S⟩ := frz_ok Z ρ' hS
    have hk := keep_ok0 F S
    rw [keepE_frz F Z ρ' hz] at hk
    obtain ⟨v, h1, h2⟩ := loopK_ok S L F (keepE F F ρ') k hn h (fun t ht => by rw [keepE_get, if_neg ht]) hk
    exact ⟨v, h1, ⟨M, ω, h2⟩, hpn⟩
  intro a w hd hS
  obtain ⟨v0, hI0, hS0⟩ := enter hS h0
  have key : ∀ (m : Nat) (v : LV L) (a : Act) (w : World), μ v = m → I v → a.defers = [] → G.Sim (envL L v (keepE F F ρ)) a.tmps w →
      ∀ (b : Frame) (k : List Item) (cs : List Frame), ∃ e a' w', (∃ ρ', K e ρ' ∧ a'.defers = [] ∧ G.Sim ρ' a'.tmps w') ∧
        Arrives G.P (lone (b.at a (.code c :: .inLoop c :: k)) cs w) b k cs e a' w' := by
    intro m
    induction m using Nat.strongRecOn with
    | _ m ih =>
      intro v a w hm hI hd hS b k cs
      obtain ⟨e, a₁, w₁, ⟨ρ', hq, hd', hS'⟩, harr⟩ := round v hI a w hd hS b (.inLoop c :: k) cs
      cases e with
      | normal =>
        obtain ⟨hF, hq⟩ := hq
        obtain ⟨v', ⟨hI', hlt⟩, hS2⟩ := enter hS' hq
        rw [hF] at hS2
        obtain ⟨e₂, a₂, w₂, hq₂, harr₂⟩ := ih (μ v') (hm ▸ hlt) v' a₁ w₁ rfl hI' hd' hS2 b k cs
        exact ⟨e₂, a₂, w₂, hq₂, .of_steps (Steps.trans harr (.one step_inLoop)) harr₂⟩
      | exit id => exact ⟨_, a₁, w₁, ⟨ρ', hq, hd', hS'⟩, .pass (x := .inLoop c) rfl (fun _ _ => .inl (by simp)) harr⟩
      | goto l => exact ⟨_, a₁, w₁, ⟨ρ', hq, hd', hS'⟩, .pass (x := .inLoop c) rfl (fun _ _ => .inl (by simp)) harr⟩
      | ret => exact ⟨_, a₁, w₁, ⟨ρ', hq, hd', hS'⟩, .pass (x := .inLoop c) rfl (fun _ _ => .inl (by simp)) harr⟩
      | panic ch => exact ⟨_, a₁, w₁, ⟨ρ', hq, hd', hS'⟩, .pass (x := .inLoop c) rfl (fun _ _ => .inl (by simp)) harr⟩
      | outgrown => exact ⟨_, a₁, w₁, ⟨ρ', hq, hd', hS'⟩, .pass (x := .inLoop c) rfl (fun _ _ => .inl (by simp)) harr⟩
  intro b k cs
  obtain ⟨e, a', w', hq, harr⟩ := key _ v0 a w rfl hI0 hd hS0 b k cs
  exact ⟨e, a', w', hq, .of_steps (.one step_loop) harr⟩
end
end Fw
