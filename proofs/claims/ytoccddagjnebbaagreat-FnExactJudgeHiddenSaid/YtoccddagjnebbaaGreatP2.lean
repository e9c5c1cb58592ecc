/- Guards, and regions in the order of the text. Conditions: none. -/
import Derived.Test.YtoccddagjnebbaaGreatP1
import Derived.KernelRfl
import Derived.ProofKit
import Derived.Deep.Slices
set_option linter.unusedSimpArgs false
set_option linter.unusedVariables false
namespace Fw
open Go
def coreB0 : A → Option Bool
 | .c (.pure .bool) y => some y
 | _ => none
def coreB (ρ : Env) : A → Option Bool
 | .c (.pure .bool) y => some y
 | .cond s g ver _ a => if (ρ.get s).g = g ∧ (ρ.get s).ver = ver then coreB0 a else none
 | _ => none
def isCond : A → Bool
 | .cond _ _ _ _ _ => true
 | _ => false
def dstOf (ops : List Oper) (j : Nat) : Option Nat :=
 match ops[j]? with
 | some o => o.dst
 | none => none
def step (C : Ctx) (ops : List Oper) (ρ : Env) (o : Oper) : Out :=
 match o.guard with
 | none => ex C none ρ o
 | some (j, b) =>
   match dstOf ops j with
   | some s =>
     match coreB ρ (ρ.get s).a with
     | some y =>
       match ex C (some (s, (ρ.get s).g, (ρ.get s).ver, b)) ρ o with
       | some ([⟨d, false, A⟩], cs) =>
         if isCond A = false ∧ s ≠ d ∧ o.dst = some d ∧ A.tgt ≠ some d then some ([w1 d (.cond s (ρ.get s).g (ρ.get s).ver b A)], cs.map fun p => y = b → p) else none
       | _ => none
     | none => none
   | none => none
section
variable {n B : Nat} {X : List Nat} {w0 : World} {M0 M : Mem} {ω : Own} {ρ : Env} {a : Act} {w : World} {P : Program} {C : Ctx}
def A.ageLe (ρ : Env) : A → Prop
 | .ptr k g _ => g ≤ (ρ.get k).g
 | .bor k g _ _ _ _ _ => g ≤ (ρ.get k).g
 | .elp k g _ _ _ _ _ _ => g ≤ (ρ.get k).g
 | .al k g _ _ => g ≤ (ρ.get k).g
 | .cond s g _ _ a => g ≤ (ρ.get s).g ∧ a.ageLe ρ
 | .br k g _ _ _ _ _ => g ≤ (ρ.get k).g
 | .rb k g _ _ _ _ _ => g ≤ (ρ.get k).g
 | .clo _ k g => g ≤ (ρ.get k).g
 | _ => True
theorem Rel0.age {vals : Vl} {t : Nat} {v : Value} : ∀ {b : A}, Rel0 n M ω w ρ vals t v b → b.ageLe ρ
 | .junk, _ => trivial
 | .c _ _, _ => trivial
 | .ptr _ _ _, h => h.1.2
 | .bor _ _ _ _ _ _ _, h => h.1.2.1
 | .elp _ _ _ _ _ _ _ _, h => h.1.2.1
 | .al _ _ _ _, h => h.1.2
 | .eptr _ _ _, _ => trivial
 | .cond _ _ _ _ _, h => h.elim
 | .tup _, _ => trivial
 | .fn _, _ => trivial
 | .br _ _ _ _ _ _ _, h => h.1.2.1
 | .rb _ _ _ _ _ _ _, ⟨_, _, _, _, _, _, _, h, _⟩ => h.2.1
 | .clo _ _ _, h => h.1.2
theorem get_puts1 (ρ : Env) (d t : Nat) (U : A) : (ρ.puts [w1 d U]).get t = if t = d then ⟨(ρ.get t).g + 1, 0, U⟩ else ρ.get t := by
 show (ρ.put (w1 d U)).get t = _
 rw [Env.get_put]; rfl
theorem Rel0.swap {vals : Vl} {t d : Nat} {v : Value} {U U' : A} : ∀ {b : A}, b.ageLe ρ → Rel0 n M ω w (ρ.puts [w1 d U]) vals t v b → Rel0 n M ω w (ρ.puts [w1 d U']) vals t v b
 | .junk, _, h => h
 | .c _ _, _, h => h
 | .ptr k g off, ha, ⟨h1, h2⟩ => by
   refine ⟨⟨h1.1, ?_⟩, fun hg => h2 ?_⟩
   · have := h1.2; rw [get_puts1] at this ⊢; split at this <;> simp_all
   · rw [get_puts1] at hg ⊢; split at hg <;> simp_all
 | .bor k g ver u x org e, ha, ⟨h1, h2⟩ => by
   have ha' : g ≤ (ρ.get k).g := ha
   by_cases hk : k = d
   · subst hk
     refine ⟨⟨h1.1, ?_, fun hg => ?_⟩, fun hc => ?_⟩
     · rw [get_puts1]; simp; omega
     · rw [get_puts1] at hg; simp at hg; omega
     · have := hc.1; rw [get_puts1] at this; simp at this; omega
   · have e : (ρ.puts [w1 d U']).get k = (ρ.puts [w1 d U]).get k := by rw [get_puts1, get_puts1]; simp [hk]
     refine ⟨⟨h1.1, by rw [e]; exact h1.2.1, by rw [e]; exact h1.2.2⟩, fun hc => ?_⟩
     rw [e]; exact h2 (by unfold curK at *; rw [← e]; exact hc)
 | .elp k g ver off et i eo arr, ha, ⟨h1, h2⟩ => by
   have ha' : g ≤ (ρ.get k).g := ha
   by_cases hk : k = d
   · subst hk
     refine ⟨⟨h1.1, ?_, fun hg => ?_⟩, fun hc => ?_⟩
     · rw [get_puts1]; simp; omega
     · rw [get_puts1] at hg; simp at hg; omega
     · have := hc.1; rw [get_puts1] at this; simp at this; omega
   · have e : (ρ.puts [w1 d U']).get k = (ρ.puts [w1 d U]).get k := by rw [get_puts1, get_puts1]; simp [hk]
     refine ⟨⟨h1.1, by rw [e]; exact h1.2.1, by rw [e]; exact h1.2.2⟩, fun hc => ?_⟩
     rw [e]; exact h2 (by unfold curK at *; rw [← e]; exact hc)
 | .al k g ag off, ha, ⟨h1, b, cs, h2, h3, h4⟩ => by
   have ha' : g ≤ (ρ.get k).g := ha
   refine ⟨⟨h1.1, ?_⟩, b, cs, h2, h3, fun hg => h4 ?_⟩
   · have := h1.2; rw [get_puts1] at this ⊢; split at this <;> simp_all
   · rw [get_puts1] at hg ⊢; split at hg <;> simp_all
 | .eptr _ _ _, _, h => h
 | .cond _ _ _ _ _, _, h => h.elim
 | .tup _, _, h => h
 | .fn _, _, h => h
 | .clo f k g, ha, ⟨h1, h2⟩ => by
   refine ⟨⟨h1.1, ?_⟩, fun hg => h2 ?_⟩
   · have := h1.2; rw [get_puts1] at this ⊢; split at this <;> simp_all
   · rw [get_puts1] at hg ⊢; split at hg <;> simp_all
 | .br k g ver off n1 s ys, ha, ⟨h1, h2⟩ => by
   have ha' : g ≤ (ρ.get k).g := ha
   by_cases hk : k = d
   · subst hk
     refine ⟨⟨h1.1, ?_, fun hg => ?_⟩, fun hc => ?_⟩
     · rw [get_puts1]; simp; omega
     · rw [get_puts1] at hg; simp at hg; omega
     · have := hc.1; rw [get_puts1] at this; simp at this; omega
   · have e : (ρ.puts [w1 d U']).get k = (ρ.puts [w1 d U]).get k := by rw [get_puts1, get_puts1]; simp [hk]
     refine ⟨⟨h1.1, by rw [e]; exact h1.2.1, by rw [e]; exact h1.2.2⟩, fun hc => ?_⟩
     rw [e]; exact h2 (by unfold curK at *; rw [← e]; exact hc)
 | .rb k g ver u x org ee, ha, ⟨b, v0, cs, q1, q2, q3, q4, h1, h0, h2⟩ => by
   have ha' : g ≤ (ρ.get k).g := ha
   refine ⟨b, v0, cs, q1, q2, q3, q4, ?_⟩
   by_cases hk : k = d
   · subst hk
     refine ⟨⟨h1.1, ?_, fun hg => ?_⟩, fun i _ hg => ?_, fun hc => ?_⟩
     · rw [get_puts1]; simp; omega
     · rw [get_puts1] at hg; simp at hg; omega
     · rw [get_puts1] at hg; simp at hg; omega
     · have := hc.1; rw [get_puts1] at this; simp at this; omega
   · have e : (ρ.puts [w1 d U']).get k = (ρ.puts [w1 d U]).get k := by rw [get_puts1, get_puts1]; simp [hk]
     refine ⟨⟨h1.1, by rw [e]; exact h1.2.1, by rw [e]; exact h1.2.2⟩, by rw [e]; exact h0, fun hc => ?_⟩
     rw [e]; exact h2 (by unfold curK at *; rw [← e]; exact hc)
theorem Rel0.swapNe {vals : Vl} {t d : Nat} {v : Value} {U U' : A} : ∀ {b : A}, b.tgt ≠ some d → Rel0 n M ω w (ρ.puts [w1 d U]) vals t v b → Rel0 n M ω w (ρ.puts [w1 d U']) vals t v b
 | .junk, _, h => h
 | .c _ _, _, h => h
 | .ptr k g off, ha, ⟨h1, h2⟩ => by
   have hk : k ≠ d := fun e => ha (by rw [e]; rfl)
   have e : (ρ.puts [w1 d U']).get k = (ρ.puts [w1 d U]).get k := by rw [get_puts1, get_puts1]; simp [hk]
   exact ⟨⟨h1.1, by rw [e]; exact h1.2⟩, fun hg => h2 (by rw [← e]; exact hg)⟩
 | .bor k g ver u x org ee, ha, ⟨h1, h2⟩ => by
   have hk : k ≠ d := fun e => ha (by rw [e]; rfl)
   have e : (ρ.puts [w1 d U']).get k = (ρ.puts [w1 d U]).get k := by rw [get_puts1, get_puts1]; simp [hk]
   refine ⟨⟨h1.1, by rw [e]; exact h1.2.1, by rw [e]; exact h1.2.2⟩, fun hc => ?_⟩
   rw [e]; exact h2 (by unfold curK at *; rw [← e]; exact hc)
 | .elp k g ver off et i eo arr, ha, ⟨h1, h2⟩ => by
   have hk : k ≠ d := fun e => ha (by rw [e]; rfl)
   have e : (ρ.puts [w1 d U']).get k = (ρ.puts [w1 d U]).get k := by rw [get_puts1, get_puts1]; simp [hk]
   refine ⟨⟨h1.1, by rw [e]; exact h1.2.1, by rw [e]; exact h1.2.2⟩, fun hc => ?_⟩
   rw [e]; exact h2 (by unfold curK at *; rw [← e]; exact hc)
 | .al k g ag off, ha, ⟨h1, b, cs, h2, h3, h4⟩ => by
   have hk : k ≠ d := fun e => ha (by rw [e]; rfl)
   have e : (ρ.puts [w1 d U']).get k = (ρ.puts [w1 d U]).get k := by rw [get_puts1, get_puts1]; simp [hk]
   exact ⟨⟨h1.1, by rw [e]; exact h1.2⟩, b, cs, h2, h3, fun hg => h4 (by rw [← e]; exact hg)⟩
 | .eptr _ _ _, _, h => h
 | .cond _ _ _ _ _, _, h => h.elim
 | .tup _, _, h => h
 | .fn _, _, h => h
 | .clo f k g, ha, ⟨h1, h2⟩ => by
   have hk : k ≠ d := fun e => ha (by rw [e]; rfl)
   have e : (ρ.puts [w1 d U']).get k = (ρ.puts [w1 d U]).get k := by rw [get_puts1, get_puts1]; simp [hk]
   exact ⟨⟨h1.1, by rw [e]; exact h1.2⟩, fun hg => h2 (by rw [← e]; exact hg)⟩
 | .br k g ver off n1 s ys, ha, ⟨h1, h2⟩ => by
   have hk : k ≠ d := fun e => ha (by rw [e]; rfl)
   have e : (ρ.puts [w1 d U']).get k = (ρ.puts [w1 d U]).get k := by rw [get_puts1, get_puts1]; simp [hk]
   refine ⟨⟨h1.1, by rw [e]; exact h1.2.1, by rw [e]; exact h1.2.2⟩, fun hc => ?_⟩
   rw [e]; exact h2 (by unfold curK at *; rw [← e]; exact hc)
 | .rb k g ver u x org ee, ha, ⟨b, v0, cs, q1, q2, q3, q4, h1, h0, h2⟩ => by
   have hk : k ≠ d := fun e => ha (by rw [e]; rfl)
   have e : (ρ.puts [w1 d U']).get k = (ρ.puts [w1 d U]).get k := by rw [get_puts1, get_puts1]; simp [hk]
   refine ⟨b, v0, cs, q1, q2, q3, q4, ⟨h1.1, by rw [e]; exact h1.2.1, by rw [e]; exact h1.2.2⟩, by rw [e]; exact h0, fun hc => ?_⟩
   rw [e]; exact h2 (by unfold curK at *; rw [← e]; exact hc)
theorem St0.rewrap {tmps tmps' : Array Value} {w' : World} {M' : Mem} {ω' : Own} (S0 : St0 n B X w0 M0 M ω ρ tmps w) {d : Nat} (hd : d < n) {U U' : A} (hval : ∀ t, t ≠ d → vl tmps' t = vl tmps t)
   (S1 : St0 n B X w0 M0 M' ω' (ρ.puts [w1 d U]) tmps' w') (hrel : Rel n M' ω' w' (ρ.puts [w1 d U']) (vl tmps') d (vl tmps' d) U') :
   St0 n B X w0 M0 M' ω' (ρ.puts [w1 d U']) tmps' w' := by
 refine ⟨S1.size, S1.fr, S1.m0, S1.old, S1.mem, S1.dis, fun t ht => ?_, fun t ht => ?_⟩
 · rw [get_puts1, if_neg (by omega)]; exact S0.high t ht
 · by_cases h : t = d
   · subst h
     rw [get_puts1, if_pos rfl]; exact hrel
   · have h1 := S1.slots t ht
     rw [get_puts1, if_neg h] at h1 ⊢
     have h0 := S0.slots t ht
     generalize (ρ.get t).a = b at h0 h1
     cases b with
     | cond s g ver bb a =>
       obtain ⟨k1, k2⟩ := h0
       obtain ⟨g1, g2⟩ := h1
       by_cases hk : s = d
       · subst hk
         have := k1.2.1
         refine ⟨⟨g1.1, ?_, fun hg => ?_⟩, fun hc => ?_⟩
         · rw [get_puts1]; simp; omega
         · rw [get_puts1] at hg; simp at hg; omega
         · have := hc.1; rw [get_puts1] at this; simp at this; omega
       · have e : (ρ.puts [w1 d U']).get s = (ρ.puts [w1 d U]).get s := by rw [get_puts1, get_puts1]; simp [hk]
         have e0 : (ρ.puts [w1 d U]).get s = ρ.get s := by rw [get_puts1]; simp [hk]
         refine ⟨⟨g1.1, by rw [e]; exact g1.2.1, by rw [e]; exact g1.2.2⟩, fun hc => ?_⟩
         have hc' : curK (ρ.puts [w1 d U]) s g ver := by unfold curK at *; rw [← e]; exact hc
         obtain ⟨c1, c2⟩ := g2 hc'
         refine ⟨fun hv => ?_, c2⟩
         have hr := c1 hv
         have hs : vl tmps' s = vl tmps s := hval s hk
         have hr0 := (k2 (by unfold curK at *; rw [← e0, ← e]; exact hc)).1 (hs.symm.trans hv)
         exact Rel0.swap (ρ := ρ) (d := d) (U := U) (U' := U') (Rel0.age hr0) hr
     | junk => exact trivial
     | c s x => exact h1
     | ptr k g off => 
       have h0' : Rel0 n M ω w ρ (vl tmps) t (vl tmps t) (.ptr k g off) := h0
       have h1' : Rel0 n M' ω' w' (ρ.puts [w1 d U]) (vl tmps') t (vl tmps' t) (.ptr k g off) := h1
       exact Rel0.swap (b := .ptr k g off) (Rel0.age h0') h1'
     | clo f k g => 
       have h0' : Rel0 n M ω w ρ (vl tmps) t (vl tmps t) (.clo f k g) := h0
       have h1' : Rel0 n M' ω' w' (ρ.puts [w1 d U]) (vl tmps') t (vl tmps' t) (.clo f k g) := h1
       exact Rel0.swap (b := .clo f k g) (Rel0.age h0') h1'
     | bor k g ver u x org e => 
       have h0' : Rel0 n M ω w ρ (vl tmps) t (vl tmps t) (.bor k g ver u x org e) := h0
       have h1' : Rel0 n M' ω' w' (ρ.puts [w1 d U]) (vl tmps') t (vl tmps' t) (.bor k g ver u x org e) := h1
       exact Rel0.swap (b := .bor k g ver u x org e) (Rel0.age h0') h1'
     | elp k g ver off et i eo arr => 
       have h0' : Rel0 n M ω w ρ (vl tmps) t (vl tmps t) (.elp k g ver off et i eo arr) := h0
       have h1' : Rel0 n M' ω' w' (ρ.puts [w1 d U]) (vl tmps') t (vl tmps' t) (.elp k g ver off et i eo arr) := h1
       exact Rel0.swap (b := .elp k g ver off et i eo arr) (Rel0.age h0') h1'
     | al k g ag off => 
       have h0' : Rel0 n M ω w ρ (vl tmps) t (vl tmps t) (.al k g ag off) := h0
       have h1' : Rel0 n M' ω' w' (ρ.puts [w1 d U]) (vl tmps') t (vl tmps' t) (.al k g ag off) := h1
       exact Rel0.swap (b := .al k g ag off) (Rel0.age h0') h1'
     | br k g ver off n1 s ys =>
       have h0' : Rel0 n M ω w ρ (vl tmps) t (vl tmps t) (.br k g ver off n1 s ys) := h0
       have h1' : Rel0 n M' ω' w' (ρ.puts [w1 d U]) (vl tmps') t (vl tmps' t) (.br k g ver off n1 s ys) := h1
       exact Rel0.swap (b := .br k g ver off n1 s ys) (Rel0.age h0') h1'
     | rb k g ver u x org e =>
       have h0' : Rel0 n M ω w ρ (vl tmps) t (vl tmps t) (.rb k g ver u x org e) := h0
       have h1' : Rel0 n M' ω' w' (ρ.puts [w1 d U]) (vl tmps') t (vl tmps' t) (.rb k g ver u x org e) := h1
       exact Rel0.swap (b := .rb k g ver u x org e) (Rel0.age h0') h1'
     | eptr u x off => exact h1
     | tup l => exact h1
     | fn f => exact h1
theorem wanted_iff {opsA : Array Oper} {o : Oper} {j : Nat} {b : Bool} {s : Nat} {tmps : Array Value} (hg : o.guard = some (j, b)) (hs : dstOf opsA.toList j = some s) (hlt : s < tmps.size) :
   Region.wanted o (yielded opsA tmps) = true ↔ tmps.getD s undef = .bool b := by
 have hj : (opsA[j]?).bind (·.dst) = some s := by
   unfold dstOf at hs
   rw [Array.getElem?_toList] at hs
   cases h : opsA[j]? with
   | none => rw [h] at hs; cases hs
   | some o => rw [h] at hs; exact hs
 have hv : tmps[s]? = some (tmps.getD s undef) := by
   rw [Array.getD_eq_getD_getElem?, Array.getElem?_eq_getElem hlt]; rfl
 unfold Region.wanted yielded
 rw [hg]
 simp only [hj, Option.bind_some, hv]
 generalize tmps.getD s undef = v
 cases v <;> simp
theorem coreB_val {tmps : Array Value} (S : St0 n B X w0 M0 M ω ρ tmps w) {s : Nat} {y : Bool} (h : coreB ρ (ρ.get s).a = some y) : s < n ∧ ∀ b, vl tmps s = .bool b → y = b := by
 have hs : s < n := by
   rcases Nat.lt_or_ge s n with h' | h'
   · exact h'
   · rw [S.high s h'] at h; cases h
 refine ⟨hs, fun b hb => ?_⟩
 have hr := S.slots s hs
 have base : ∀ {A' : A}, coreB0 A' = some y → Rel0 n M ω w ρ (vl tmps) s (vl tmps s) A' → y = b := by
   intro A' h1 h2
   unfold coreB0 at h1
   split at h1
   · simp only [Option.some.injEq] at h1
     subst h1
     obtain ⟨cs, bs, k1, ⟨k2, k3⟩, _⟩ := h2
     have e1 : cs = [vl tmps s] := k1
     have e2 : cs = [.bool _] := k3
     rw [e1, hb] at e2
     simpa using e2.symm
   · cases h1
 generalize hA : (ρ.get s).a = A' at h hr
 cases A' with
 | cond s1 g1 v1 b1 a1 =>
   obtain ⟨h1, h2⟩ := hr
   simp only [coreB] at h
   split at h
   · rename_i hc
     obtain ⟨h3, h4⟩ := h2 hc
     by_cases hv : vl tmps s1 = .bool b1
     · exact base h (h3 hv)
     · have := h4 hv
       have hb' : tmps.getD s undef = .bool b := hb
       rw [this] at hb'
       cases hb'
   · cases h
 | junk => cases h
 | c s' x =>
   refine base (A' := .c s' x) ?_ hr
   unfold coreB at h
   split at h
   · rename_i heq; cases heq; exact h
   · rename_i heq; cases heq
   · cases h
 | ptr k g off => cases h
 | bor k g ver u x org e => cases h
 | elp k g ver off et i eo arr => cases h
 | eptr u x off => cases h
 | al k g ag off => cases h
 | tup l => cases h
 | fn f => cases h
 | clo _ _ _ => cases h
 | br k g ver off n1 s ys => cases h
 | rb k g ver u x org e => cases h
theorem puts1_g (ρ : Env) {d t : Nat} (A' : A) (h : t ≠ d) : (ρ.puts [w1 d A']).get t = ρ.get t := by rw [get_puts1, if_neg h]
theorem step_ok (hC : CtxOk P C) (hF : ∀ f F, C.fn f = some F → Meets P f F) {opsA : Array Oper} (S : St0 C.n B X w0 M0 M ω ρ a.tmps w) (hB : B ≤ w0.heap.size)
   {i : Nat} {o : Oper} (hi : opsA[i]? = some o) {ws : List Wr} {cs : List Prop} (h : step C opsA.toList ρ o = some (ws, cs)) (hcs : ∀ p ∈ cs, p) {K : Act → World → Prop}
   {Q : Exit → Act → World → Prop} (hK : ∀ a' w', a'.defers = a.defers → (∃ v, a' = a.put o.dst v) → (∃ M' ω', St0 C.n B X w0 M0 M' ω' (ρ.puts ws) a'.tmps w') → K a' w') :
   wpOp P opsA Q i K a w := by
 unfold wpOp
 simp only [hi]
 unfold step at h
 split at h
 · rename_i hg
   have hw : Region.wanted o (yielded opsA a.tmps) = true := by unfold Region.wanted; rw [hg]
   rw [if_pos hw]
   have hgo := ex_ok hC hF S hB (gd := none) (by intro _ _ _ _ e; cases e) h hcs
   exact .inl (Oper.wp_mono (fun a' w' ⟨⟨v, h1⟩, h2⟩ => hK a' w' (by rw [h1]; cases o.dst <;> rfl) ⟨v, h1⟩ h2) (Goes.wp hgo))
 · rename_i j b hg
   split at h
   · rename_i s hs
     split at h
     · rename_i y hy
       obtain ⟨hsn, hyv⟩ := coreB_val S hy
       split at h
       · rename_i d A' cs' he
         split at h
         · rename_i hc
           obtain ⟨hcd, hsd, hdst, htd⟩ := hc
           simp only [Option.some.injEq, Prod.mk.injEq] at h
           obtain ⟨rfl, rfl⟩ := h
           have hd : d < C.n := by
             unfold ex at he
             rw [hdst] at he
             simp only at he
             split at he
             · assumption
             · cases he
           have hiff := wanted_iff hg hs (by rw [S.size]; exact hsn)
           have hput : ∀ v, (a.put o.dst v) = ⟨a.tmps.setIfInBounds d v, a.defers⟩ := fun v => by rw [hdst]; rfl
           have hdz : d < a.tmps.size := by rw [S.size]; exact hd
           by_cases hw : Region.wanted o (yielded opsA a.tmps) = true
           · rw [if_pos hw]
             have hval : vl a.tmps s = .bool b := hiff.1 hw
             have hyb := hyv b hval
             have hgo := ex_ok hC hF S hB (gd := some (s, (ρ.get s).g, (ρ.get s).ver, b)) (by rintro _ _ _ _ ⟨⟩; exact ⟨⟨rfl, rfl⟩, hval⟩) he
               (fun p hp => hcs _ (List.mem_map.2 ⟨p, hp, rfl⟩) hyb)
             refine .inl (Oper.wp_mono ?_ (Goes.wp hgo))
             rintro a' w' ⟨⟨v, rfl⟩, M', ω', hS⟩
             rw [hput] at hS ⊢
             refine hK _ _ rfl ⟨v, (hput v).symm⟩ ⟨M', ω', ?_⟩
             have hs' : vl (a.tmps.setIfInBounds d v) s = .bool b := by
               show (a.tmps.setIfInBounds d v).getD s undef = _
               rw [getD_set a.tmps hdz, if_neg hsd]; exact hval
             refine St0.rewrap S hd (U := A') (fun t ht => ?_) hS ?_
             · show (a.tmps.setIfInBounds d v).getD t undef = _
               rw [getD_set a.tmps hdz, if_neg ht]
             · refine ⟨⟨hsn, ?_, fun _ => ?_⟩, fun _ => ⟨fun _ => ?_, fun e => (e hs').elim⟩⟩
               · rw [puts1_g ρ _ hsd]; exact Nat.le_refl _
               · rw [puts1_g ρ _ hsd]; exact Nat.le_refl _
               · have hr := hS.slots d hd
                 have hgd : (ρ.puts [w1 d A']).get d = ⟨(ρ.get d).g + 1, 0, A'⟩ := by rw [get_puts1, if_pos rfl]
                 have hr : Rel C.n M' ω' w' (ρ.puts [w1 d A']) (vl (a.tmps.setIfInBounds d v)) d (vl (a.tmps.setIfInBounds d v) d) ((ρ.puts [w1 d A']).get d).a := hr
                 rw [hgd] at hr
                 have hr0 : Rel0 C.n M' ω' w' (ρ.puts [w1 d A']) (vl (a.tmps.setIfInBounds d v)) d (vl (a.tmps.setIfInBounds d v) d) A' := by
                   cases A' <;> first | exact hr | cases hcd
                 exact Rel0.swapNe htd hr0
           · rw [if_neg hw]
             have hval : vl a.tmps s ≠ .bool b := fun e => hw (hiff.2 e)
             refine hK _ _ (by rw [hput]) ⟨_, rfl⟩ ?_
             rw [hput]
             refine ⟨_, _, put_ok S hd fun hst => ?_⟩
             refine ⟨⟨hsn, ?_, fun _ => ?_⟩, fun _ => ⟨fun e => ?_, fun _ => rfl⟩⟩
             · rw [puts1_g ρ _ hsd]; exact Nat.le_refl _
             · rw [puts1_g ρ _ hsd]; exact Nat.le_refl _
             · have e' : (a.tmps.setIfInBounds d undef).getD s undef = .bool b := e
               rw [getD_set a.tmps hdz, if_neg hsd] at e'
               exact (hval e').elim
         · cases h
       · cases h
     · cases h
   · cases h
end
end Fw
namespace Fw
open Go
def forceA {R : Type} (a : A) (k : A → R) : R :=
 match a with
 | .junk => k .junk
 | .c s x => k (.c s x)
 | .ptr j g o => k (.ptr j g o)
 | .bor j g v t x o e => k (.bor j g v t x o e)
 | .elp j g v o t i e r => k (.elp j g v o t i e r)
 | .eptr t x o => k (.eptr t x o)
 | .al j g e o => k (.al j g e o)
 | .cond s g v w a => k (.cond s g v w a)
 | .tup l => k (.tup l)
 | .fn f => k (.fn f)
 | .br j g v o n s y => k (.br j g v o n s y)
 | .rb j g v t x o e => k (.rb j g v t x o e)
 | .clo f j g => k (.clo f j g)
theorem forceA_eq {R : Type} (a : A) (k : A → R) : forceA a k = k a := by cases a <;> rfl
def natF {R : Type} (n : Nat) (k : Nat → R) : R :=
 match n with
 | 0 => k 0
 | 1 => k 1
 | 2 => k 2
 | 3 => k 3
 | 4 => k 4
 | 5 => k 5
 | 6 => k 6
 | m => k m
theorem natF_eq {R : Type} (n : Nat) (k : Nat → R) : natF n k = k n := by
 unfold natF; split <;> rfl
def putK {R : Type} (ρ : Env) (w : Wr) (k : Env → R) : R :=
 match w with
 | ⟨s, true, a⟩ => natF (ρ.get s).g fun g => natF ((ρ.get s).ver + 1) fun v => forceA a fun a => k ((s, ⟨g, v, a⟩) :: ρ)
 | ⟨s, false, a⟩ => natF ((ρ.get s).g + 1) fun g => forceA a fun a => k ((s, ⟨g, 0, a⟩) :: ρ)
theorem putK_eq {R : Type} (ρ : Env) (w : Wr) (k : Env → R) : putK ρ w k = k (ρ.put w) := by
 obtain ⟨s, kp, a⟩ := w
 cases kp <;> simp only [putK, forceA_eq, natF_eq, Env.put] <;> rfl
def putsK {R : Type} : Env → List Wr → (Env → R) → R
 | ρ, [], k => k ρ
 | ρ, w :: r, k => putK ρ w fun ρ' => putsK ρ' r k
theorem putsK_eq {R : Type} : ∀ (ws : List Wr) (ρ : Env) (k : Env → R), putsK ρ ws k = k (ρ.puts ws)
 | [], _, _ => rfl
 | w :: r, ρ, k => by simp only [putsK, putK_eq]; exact putsK_eq r (ρ.put w) k
def opdReads (ρ : Env) : Operand → List Nat
 | .tmp t => match (ρ.get t).a.tgt with | some k => [t, k] | none => [t]
 | _ => []
def condReads : A → List Nat
 | .cond s _ _ _ _ => [s]
 | _ => []
def readsOf (ops : List Oper) (ρ : Env) (o : Oper) : List Nat :=
 (match o.guard with
   | some (j, _) => (match dstOf ops j with | some s => s :: condReads (ρ.get s).a | none => [])
   | none => []) ++ o.op.operands.toList.flatMap (opdReads ρ)
structure Tr where
 rd : List Nat
 ws : List Wr
 cs : List Prop
def trace (C : Ctx) (ops : List Oper) : List Oper → Env → Option (List Tr × Env)
 | [], ρ => some ([], ρ)
 | o :: r, ρ =>
   match step C ops ρ o with
   | some (ws, cs) => putsK ρ ws fun ρ' =>
     match trace C ops r ρ' with
     | some (T, ρ2) => some (⟨readsOf ops ρ o, ws, cs⟩ :: T, ρ2)
     | none => none
   | none => none
def condsOf : List Tr → Prop
 | [] => True
 | t :: T => (∀ p ∈ t.cs, p) ∧ condsOf T
def appK {R : Type} : List Prop → List Prop → (List Prop → R) → R
 | [], l, k => k l
 | p :: r, l, k => appK r l fun l' => k (p :: l')
theorem appK_eq {R : Type} : ∀ (a b : List Prop) (k : List Prop → R), appK a b k = k (a ++ b)
 | [], _, _ => rfl
 | p :: r, b, k => by simp only [appK, appK_eq r]; rfl
def conj : List Prop → Prop
 | [] => True
 | [p] => p
 | p :: q :: r => p ∧ conj (q :: r)
theorem conj_mem : ∀ (l : List Prop), conj l → ∀ p ∈ l, p
 | [], _, p, hp => by simp at hp
 | [q], h, p, hp => by rw [List.mem_singleton.1 hp]; exact h
 | q :: q' :: r, h, p, hp => by
   rcases List.mem_cons.1 hp with rfl | hp
   · exact h.1
   · exact conj_mem (q' :: r) h.2 p hp
def runK {R : Type} (C : Ctx) (ops : List Oper) : List Oper → Env → (List Prop → Env → Option R) → Option R
 | [], ρ, k => k [] ρ
 | o :: r, ρ, k =>
   match step C ops ρ o with
   | some (ws, cs) => putsK ρ ws fun ρ' => runK C ops r ρ' fun cs' ρ2 => appK cs cs' fun cs'' => k cs'' ρ2
   | none => none
def condsL (T : List Tr) : List Prop := T.flatMap (·.cs)
theorem condsL_of (T : List Tr) (h : ∀ p ∈ condsL T, p) : condsOf T := by
 induction T with
 | nil => trivial
 | cons t T ih => exact ⟨fun p hp => h p (by simp [condsL]; exact .inl hp), ih fun p hp => h p (by simp [condsL] at hp ⊢; exact .inr hp)⟩
theorem runK_ok {R : Type} {C : Ctx} {ops : List Oper} : ∀ (l : List Oper) (ρ : Env) (k : List Prop → Env → Option R) (r : R), runK C ops l ρ k = some r →
   ∃ T ρ2, trace C ops l ρ = some (T, ρ2) ∧ k (condsL T) ρ2 = some r
 | [], ρ, k, r, h => ⟨[], ρ, rfl, h⟩
 | o :: l, ρ, k, r, h => by
   simp only [runK] at h
   split at h
   · rename_i ws cs hs
     rw [putsK_eq] at h
     obtain ⟨T, ρ2, h1, h2⟩ := runK_ok l _ _ r h
     rw [appK_eq] at h2
     refine ⟨⟨readsOf ops ρ o, ws, cs⟩ :: T, ρ2, ?_, h2⟩
     simp only [trace, hs, putsK_eq, h1]
   · cases h
section
variable {B : Nat} {X : List Nat} {w0 : World} {M0 : Mem} {P : Program} {C : Ctx}
def PinOk (pins : List Nat) (ops : Array Oper) : Prop := ∀ o ∈ ops.toList, ∀ t ∈ pins, o.dst ≠ some t
def Pinned (pins : List Nat) (a a' : Array Value) : Prop := ∀ t ∈ pins, vl a' t = vl a t
theorem pin_put {pins : List Nat} {ops : Array Oper} (hp : PinOk pins ops) {i : Nat} {o : Oper} (hi : ops[i]? = some o) {a a' : Act} (h : ∃ v, a' = a.put o.dst v) {b : Array Value} (hb : Pinned pins b a.tmps) : Pinned pins b a'.tmps := by
 obtain ⟨v, rfl⟩ := h
 intro t ht
 have hm : o ∈ ops.toList := by
   have := (Array.getElem?_eq_some_iff.1 hi)
   obtain ⟨h1, h2⟩ := this
   rw [← h2]; simp
 have hne := hp o hm t ht
 rw [← hb t ht]
 cases hd : o.dst with
 | none => rfl
 | some d =>
   have hdt : t ≠ d := fun e => hne (by rw [hd, e])
   show (a.tmps.setIfInBounds d v).getD t undef = a.tmps.getD t undef
   rw [Array.getD_eq_getD_getElem?, Array.getD_eq_getD_getElem?, Array.getElem?_setIfInBounds_ne (Ne.symm hdt)]
theorem seq_ok (hC : CtxOk P C) (hF : ∀ f F, C.fn f = some F → Meets P f F) (hB : B ≤ w0.heap.size) {ops : Array Oper} {Q : Exit → Act → World → Prop} {df : List Deferred} {ρ2 : Env}
   {b : Array Value} (hp : PinOk C.pins ops) (hQ : ∀ a' w', a'.defers = df → Pinned C.pins b a'.tmps → Sim C.n B X w0 M0 ρ2 a'.tmps w' → Q .normal a' w') :
   ∀ (l : List Oper) (k : Nat) (T : List Tr) (ρ : Env) (a : Act) (w : World), (∀ j, l[j]? = ops[k + j]?) → trace C ops.toList l ρ = some (T, ρ2) → condsOf T →
     a.defers = df → Pinned C.pins b a.tmps → Sim C.n B X w0 M0 ρ a.tmps w → wpOps P ops Q (List.range' k l.length) a w
 | [], k, T, ρ, a, w, _, h, _, hd, hb, hS => by
   simp only [trace, Option.some.injEq, Prod.mk.injEq] at h
   obtain ⟨_, rfl⟩ := h
   exact hQ a w hd hb hS
 | o :: l, k, T, ρ, a, w, hl, h, hc, hd, hb, hS => by
   obtain ⟨M, ω, S⟩ := hS
   simp only [trace] at h
   split at h
   · rename_i ws cs hs
     rw [putsK_eq] at h
     split at h
     · rename_i T' ρ' ht
       simp only [Option.some.injEq, Prod.mk.injEq] at h
       obtain ⟨rfl, rfl⟩ := h
       have h0 : ops[k]? = some o := by simpa using (hl 0).symm
       show wpOps P ops Q (List.range' k (l.length + 1)) a w
       rw [List.range'_succ, wpOps_cons]
       refine step_ok hC hF S hB h0 hs hc.1 fun a' w' hd' hv hS' => ?_
       exact seq_ok hC hF hB hp hQ l (k + 1) T' _ a' w' (fun j => by have := hl (j + 1); simpa [Nat.add_assoc, Nat.add_comm 1 j] using this) ht hc.2 (hd'.trans hd) (pin_put hp h0 hv hb) hS'
     · cases h
   · cases h
theorem region_seq (hC : CtxOk P C) (hF : ∀ f F, C.fn f = some F → Meets P f F) (hB : B ≤ w0.heap.size) {id : Nat} {ops : Array Oper} {Q : Exit → Act → World → Prop} {ρ ρ2 : Env} {T : List Tr}
   (h : trace C ops.toList ops.toList ρ = some (T, ρ2)) (hc : condsOf T) {a : Act} {w : World} (hS : Sim C.n B X w0 M0 ρ a.tmps w)
   (hp : PinOk C.pins ops) (hQ : ∀ a' w', a'.defers = a.defers → Pinned C.pins a.tmps a'.tmps → Sim C.n B X w0 M0 ρ2 a'.tmps w' → Q .normal a' w') : (Code.region id ops false).wp P Q a w := by
 refine wp_region ?_
 have := seq_ok hC hF hB hp hQ ops.toList 0 T ρ a w (by simp) h hc rfl (fun _ _ => rfl) hS
 rw [List.range_eq_range']
 simpa using this
end
def maskOf (acc : List Nat) (o : Oper) : Nat :=
 o.after.toList.foldl (fun s e => if Region.binds .any e = true then s ||| 2 ^ e.on ||| acc.getD e.on 0 else s) 0
def masks : List Oper → List Nat → List Nat
 | [], acc => acc
 | o :: r, acc => masks r (acc ++ [maskOf acc o])
def meets (a b : List Nat) : Bool := a.any fun x => b.any fun y => Nat.beq x y
abbrev RW := List (List Nat × List Nat)
def rwOf (T : List Tr) : RW := T.map fun t => (t.rd, t.ws.map (·.slot))
def pairOk (ms : List Nat) (i j : Nat) (x y : List Nat × List Nat) : Bool :=
 -- i before j in the text
 !(meets x.2 (y.1 ++ y.2) || meets y.2 (x.1 ++ x.2)) || (ms.getD j 0).testBit i
def rowOk (ms : List Nat) (i : Nat) (x : List Nat × List Nat) : Nat → RW → Bool
 | _, [] => true
 | j, y :: r => pairOk ms i j x y && rowOk ms i x (j + 1) r
def allOk (ms : List Nat) : Nat → RW → Bool
 | _, [] => true
 | i, x :: r => rowOk ms i x (i + 1) r && allOk ms (i + 1) r
def edgesOk : Nat → List Oper → Bool
 | _, [] => true
 | i, o :: r => o.after.toList.all (fun e => !Region.binds .any e || decide (e.on < i)) && edgesOk (i + 1) r
def anyOk (ops : List Oper) (T : List Tr) : Bool := edgesOk 0 ops && allOk (masks ops []) 0 (rwOf T)
end Fw
namespace Fw
open Go
def memb (x : Nat) : List Nat → Bool
 | [] => false
 | y :: r => if y = x then true else memb x r
def filtK {R : Type} (ks : List Nat) (a : A) (k : A → R) : R :=
 match a with
 | .c s x => k (.c s x)
 | .ptr j g o => if memb j ks = true then k (.ptr j g o) else k .junk
 | .bor j g v t x o e => if memb j ks = true then k (.bor j g v t x o e) else k .junk
 | .elp j g v o t i e r => if memb j ks = true then k (.elp j g v o t i e r) else k .junk
 | .al j g e o => if memb j ks = true then k (.al j g e o) else k .junk
 | .clo f j g => if memb j ks = true then k (.clo f j g) else k .junk
 | .eptr t x o => k (.eptr t x o)
 | .tup l => k (.tup l)
 | .fn f => k (.fn f)
 | _ => k .junk
def filt (ks : List Nat) (a : A) : A := filtK ks a id
theorem filtK_eq {R : Type} (ks : List Nat) (a : A) (k : A → R) : filtK ks a k = k (filt ks a) := by
 unfold filt filtK
 cases a <;> simp only [] <;> (try rfl) <;> split <;> rfl
def keepK {R : Type} (all : List Nat) : List Nat → Env → (Env → R) → R
 | [], _, k => k []
 | s :: r, ρ, k => natF (ρ.get s).g fun g => natF (ρ.get s).ver fun v => filtK all (ρ.get s).a fun a => keepK all r ρ fun ρ' => k ((s, ⟨g, v, a⟩) :: ρ')
def keepE (all : List Nat) : List Nat → Env → Env
 | [], _ => []
 | s :: r, ρ => (s, ⟨(ρ.get s).g, (ρ.get s).ver, filt all (ρ.get s).a⟩) :: keepE all r ρ
theorem keepK_eq {R : Type} (all : List Nat) : ∀ (l : List Nat) (ρ : Env) (k : Env → R), keepK all l ρ k = k (keepE all l ρ)
 | [], _, _ => rfl
 | s :: r, ρ, k => by simp only [keepK, natF_eq, filtK_eq, keepK_eq all r]; rfl
theorem keepE_get (all : List Nat) : ∀ (l : List Nat) (ρ : Env) (t : Nat), (keepE all l ρ).get t = if t ∈ l then ⟨(ρ.get t).g, (ρ.get t).ver, filt all (ρ.get t).a⟩ else noEnt
 | [], _, _ => rfl
 | s :: r, ρ, t => by
   unfold keepE
   simp only [Env.get]
   by_cases h : s = t
   · subst h; simp
   · rw [if_neg h, keepE_get all r ρ t]; simp [Ne.symm h]
theorem memb_mem {x : Nat} : ∀ {l : List Nat}, memb x l = true → x ∈ l
 | y :: r, h => by
   unfold memb at h
   split at h
   · rename_i e; simp [e]
   · simp [memb_mem h]
section
variable {n B : Nat} {X : List Nat} {w0 : World} {M0 : Mem} {ρ : Env} {tmps : Array Value} {w : World}
theorem keep_ok (ks : List Nat) (hS : Sim n B X w0 M0 ρ tmps w) : Sim n B X w0 M0 (keepE ks ks ρ) tmps w := by
 obtain ⟨M, ω, S⟩ := hS
 have hg := keepE_get ks ks ρ
 refine ⟨M, ω, S.size, S.fr, S.m0, S.old, S.mem, S.dis, fun t ht => ?_, fun t ht => ?_⟩
 · rw [hg]
   split
   · simp only [S.high t ht]; rfl
   · rfl
 · rw [hg]
   split
   · simp only
     have hr := S.slots t ht
     generalize (ρ.get t).a = a at hr
     -- a reference that is kept points to a slot that is kept, and current is what was current
     have hent : ∀ k, memb k ks = true → (((keepE ks ks ρ).get k).g = (ρ.get k).g ∧ ((keepE ks ks ρ).get k).ver = (ρ.get k).ver ∧ ((keepE ks ks ρ).get k).a = filt ks (ρ.get k).a) := by
       intro k hk
       rw [hg, if_pos (memb_mem hk)]
       exact ⟨rfl, rfl, rfl⟩
     have hpl : ∀ k cs, Place ω w k (ρ.get k).a (vl tmps k) cs → Place ω w k (filt ks (ρ.get k).a) (vl tmps k) cs := by
       intro k cs h
       cases h' : (ρ.get k).a <;> rw [h'] at h <;> first | exact h | exact h.elim
     cases a with
     | junk => exact trivial
     | c s x => exact hr
     | ptr k g off =>
       by_cases hk : memb k ks = true
       · have ef : filt ks (.ptr k g off) = .ptr k g off := by simp [filt, filtK, hk]
         rw [ef]
         obtain ⟨e1, e2, e3⟩ := hent k hk
         obtain ⟨h1, h2⟩ := hr
         exact ⟨⟨h1.1, by rw [e1]; exact h1.2⟩, fun h => h2 (by rw [← e1]; exact h)⟩
       · have ef : filt ks (.ptr k g off) = .junk := by simp [filt, filtK, hk]
         rw [ef]; exact trivial
     | clo f k g =>
       by_cases hk : memb k ks = true
       · have ef : filt ks (.clo f k g) = .clo f k g := by simp [filt, filtK, hk]
         rw [ef]
         obtain ⟨e1, e2, e3⟩ := hent k hk
         obtain ⟨h1, h2⟩ := hr
         exact ⟨⟨h1.1, by rw [e1]; exact h1.2⟩, fun h => h2 (by rw [← e1]; exact h)⟩
       · have ef : filt ks (.clo f k g) = .junk := by simp [filt, filtK, hk]
         rw [ef]; exact trivial
     | bor k g ver u x org e =>
       by_cases hk : memb k ks = true
       · have ef : filt ks (.bor k g ver u x org e) = .bor k g ver u x org e := by simp [filt, filtK, hk]
         rw [ef]
         obtain ⟨e1, e2, e3⟩ := hent k hk
         obtain ⟨h1, h2⟩ := hr
         refine ⟨⟨h1.1, by rw [e1]; exact h1.2.1, by rw [e1, e2]; exact h1.2.2⟩, fun h => ?_⟩
         obtain ⟨cs, g1, g2, g3, g4⟩ := h2 ⟨by rw [← e1]; exact h.1, by rw [← e2]; exact h.2⟩
         refine ⟨cs, g1, g2, fun off ho => ?_, fun off et i eo he => by
           obtain ⟨pc, b, len, cap, row, q1, q⟩ := g4.1 off et i eo he
           exact ⟨pc, b, len, cap, row, by rw [e3]; exact hpl k pc q1, q⟩, by rw [e3]; exact g4.2.place (hpl k)⟩
         obtain ⟨pc, p1, p2⟩ := g3 off ho
         exact ⟨pc, by rw [e3]; exact hpl k pc p1, p2⟩
       · have ef : filt ks (.bor k g ver u x org e) = .junk := by simp [filt, filtK, hk]
         rw [ef]; exact trivial
     | elp k g ver off et i eo arr =>
       by_cases hk : memb k ks = true
       · have ef : filt ks (.elp k g ver off et i eo arr) = .elp k g ver off et i eo arr := by simp [filt, filtK, hk]
         rw [ef]
         obtain ⟨e1, e2, e3⟩ := hent k hk
         obtain ⟨h1, h2⟩ := hr
         refine ⟨⟨h1.1, by rw [e1]; exact h1.2.1, by rw [e1, e2]; exact h1.2.2⟩, fun h => ?_⟩
         have h3 := h2 ⟨by rw [← e1]; exact h.1, by rw [← e2]; exact h.2⟩
         unfold ElpR at *
         cases arr with
         | none =>
           simp only [Option.isSome_none, Bool.false_eq_true, if_false] at h3 ⊢
           obtain ⟨pc, k1, k2⟩ := h3
           exact ⟨pc, by rw [e3]; exact hpl k pc k1, k2⟩
         | some m => exact h3
       · have ef : filt ks (.elp k g ver off et i eo arr) = .junk := by simp [filt, filtK, hk]
         rw [ef]; exact trivial
     | al k g ag off =>
       by_cases hk : memb k ks = true
       · have ef : filt ks (.al k g ag off) = .al k g ag off := by simp [filt, filtK, hk]
         rw [ef]
         obtain ⟨e1, e2, e3⟩ := hent k hk
         obtain ⟨h1, b, cs, h2, h3, h4⟩ := hr
         exact ⟨⟨h1.1, by rw [e1]; exact h1.2⟩, b, cs, h2, h3, fun h => h4 (by rw [← e1]; exact h)⟩
       · have ef : filt ks (.al k g ag off) = .junk := by simp [filt, filtK, hk]
         rw [ef]; exact trivial
     | eptr u x off => exact hr
     | cond s g v b a => exact trivial
     | tup l => exact hr
     | fn f => exact hr
     | br _ _ _ _ _ _ _ => exact trivial
     | rb _ _ _ _ _ _ _ => exact trivial
   · exact trivial
def normA {R : Type} (a : A) (k : A → R) : R :=
 match a with
 | .c (.nil e) _ => k (.c (.own (.pure e)) [])
 | .c s x => k (.c s x)
 | .eptr t x o => k (.eptr t x o)
 | .fn f => k (.fn f)
 | _ => k .junk
def normE : List Nat → Env → Env
 | [], _ => []
 | s :: r, ρ => (s, ⟨0, 0, normA (ρ.get s).a id⟩) :: normE r ρ
theorem normE_get : ∀ (l : List Nat) (ρ : Env) (t : Nat), (normE l ρ).get t = if t ∈ l then ⟨0, 0, normA (ρ.get t).a id⟩ else noEnt
 | [], _, _ => rfl
 | s :: r, ρ, t => by
   unfold normE
   simp only [Env.get]
   by_cases h : s = t
   · subst h; simp
   · rw [if_neg h, normE_get r ρ t]; simp [Ne.symm h]
theorem norm_ok (L : List Nat) (hS : Sim n B X w0 M0 ρ tmps w) : Sim n B X w0 M0 (normE L ρ) tmps w := by
 obtain ⟨M, ω, S⟩ := hS
 have hg := normE_get L ρ
 refine ⟨M, ω, S.size, S.fr, S.m0, S.old, S.mem, S.dis, fun t ht => ?_, fun t ht => ?_⟩
 · rw [hg]
   split
   · simp only [S.high t ht]; rfl
   · rfl
 · rw [hg]
   split
   · simp only
     have hr := S.slots t ht
     generalize (ρ.get t).a = a at hr
     cases a with
     | c s x =>
       cases s with
       | nil e =>
         obtain ⟨cs, bs, h1, ⟨h2, h3, h4⟩, h5, h6⟩ := hr
         exact ⟨cs, bs, h1, .inl ⟨h2, h3, rfl⟩, h5, h6⟩
       | _ => exact hr
     | eptr u x off => exact hr
     | fn f => exact hr
     | _ => exact trivial
   · exact trivial
end
structure Cfg where
 P : Program
 C : Ctx
 B : Nat
 X : List Nat
 w0 : World
 M0 : Mem
 pv : Vl
structure Cfg.Ok (G : Cfg) : Prop where
 ctx : CtxOk G.P G.C
 fn : ∀ f F, G.C.fn f = some F → Meets G.P f F
 base : G.B ≤ G.w0.heap.size
def Cfg.Sim (G : Cfg) (ρ : Env) (tmps : Array Value) (w : World) : Prop := Fw.Sim G.C.n G.B G.X G.w0 G.M0 ρ tmps w ∧ ∀ t ∈ G.C.pins, vl tmps t = G.pv t
def Vc (G : Cfg) (c : Code) (ρ : Env) (K : Exit → Env → Prop) : Prop :=
 ∀ (a : Act) (w : World), a.defers = [] → G.Sim ρ a.tmps w → c.wp G.P (fun e a' w' => ∃ ρ', K e ρ' ∧ a'.defers = [] ∧ G.Sim ρ' a'.tmps w') a w
section
variable {G : Cfg} {ρ : Env} {K : Exit → Env → Prop}
theorem Vc.mono {c : Code} {K' : Exit → Env → Prop} (h : Vc G c ρ K) (hk : ∀ e ρ', K e ρ' → K' e ρ') : Vc G c ρ K' :=
 fun a w hd hS => wp_mono (h a w hd hS) fun e _ _ ⟨ρ', h1, h2⟩ => ⟨ρ', hk e ρ' h1, h2⟩
theorem Vc.skip (h : K .normal ρ) : Vc G .skip ρ K := fun _ _ hd hS => wp_skip ⟨ρ, h, hd, hS⟩
theorem Vc.ret (h : K .ret ρ) : Vc G .ret ρ K := fun _ _ hd hS => wp_ret ⟨ρ, h, hd, hS⟩
theorem Vc.exit {id : Nat} (h : K (.exit id) ρ) : Vc G (.exit id) ρ K := fun _ _ hd hS => wp_exit ⟨ρ, h, hd, hS⟩
def seqK (G : Cfg) (y : Code) (K : Exit → Env → Prop) : Exit → Env → Prop
 | .normal, ρ => Vc G y ρ K
 | e, ρ => K e ρ
theorem Vc.seq {x y : Code} (h : Vc G x ρ (seqK G y K)) : Vc G (.seq x y) ρ K := fun a w hd hS =>
 wp_seq (wp_mono (h a w hd hS) fun e a' w' ⟨ρ', h1, h2, h3⟩ => by
   cases e <;> first | exact h1 a' w' h2 h3 | exact ⟨ρ', h1, h2, h3⟩)
def blockK (id : Nat) (K : Exit → Env → Prop) : Exit → Env → Prop
 | .exit i, ρ => if i = id then K .normal ρ else K (.exit i) ρ
 | e, ρ => K e ρ
theorem Vc.block {id : Nat} {c : Code} (h : Vc G c ρ (blockK id K)) : Vc G (.block id c) ρ K := fun a w hd hS =>
 wp_block (wp_mono (h a w hd hS) fun e a' w' ⟨ρ', h1, h2, h3⟩ => by
   cases e with
   | exit i =>
     show if i = id then _ else _
     have h1 : if i = id then K .normal ρ' else K (.exit i) ρ' := h1
     split
     · rename_i e; rw [if_pos e] at h1; exact ⟨ρ', h1, h2, h3⟩
     · rename_i e; rw [if_neg e] at h1; exact ⟨ρ', h1, h2, h3⟩
   | _ => exact ⟨ρ', h1, h2, h3⟩)
def boolOf (ρ : Env) (c : Operand) : Option Bool :=
 match c with
 | .tmp t => match (ρ.get t).a with | .c (.pure .bool) b => some b | _ => none
 | _ => none
theorem Vc.cond {c : Operand} {x y : Code} {b : Bool} (hc : boolOf ρ c = some b) (ht : b = true → Vc G x ρ K) (hf : b = false → Vc G y ρ K) : Vc G (.cond c x y) ρ K := by
 intro a w hd hS
 obtain ⟨⟨M, ω, S⟩, hpn⟩ := hS
 have hv : a.eval c = .bool b := by
   unfold boolOf at hc
   split at hc
   · rename_i t
     split at hc
     · rename_i b' hb
       simp only [Option.some.injEq] at hc
       subst hc
       have htn : t < G.C.n := by
         rcases Nat.lt_or_ge t G.C.n with h | h
         · exact h
         · rw [S.high t h] at hb; cases hb
       have hr := S.slots t htn
       rw [hb] at hr
       obtain ⟨cs, bs, k1, ⟨k2, k3⟩, _⟩ := hr
       have e1 : cs = [a.tmps.getD t undef] := k1
       have e2 : cs = [.bool _] := k3
       rw [e1] at e2
       exact (List.cons.inj e2).1
     · cases hc
   · cases hc
 exact wp_cond_split hv (fun h => ht h a w hd ⟨⟨M, ω, S⟩, hpn⟩) (fun h => hf h a w hd ⟨⟨M, ω, S⟩, hpn⟩)
def pinB (pins : List Nat) (ops : List Oper) : Bool :=
 match pins with
 | [] => true
 | p :: r => ops.all fun o => match o.dst with | some d => !(memb d (p :: r)) | none => true
theorem pinB_ok {pins : List Nat} {ops : Array Oper} (h : pinB pins ops.toList = true) : PinOk pins ops := by
 intro o ho t ht hd
 unfold pinB at h
 split at h
 · simp at ht
 · rename_i p r
   have := List.all_eq_true.1 h o ho
   rw [hd] at this
   simp only [Bool.not_eq_true'] at this
   have hm : memb t (p :: r) = true := by
     have key : ∀ (l : List Nat), t ∈ l → memb t l = true := by
       intro l
       induction l with
       | nil => intro h; simp at h
       | cons y l ih =>
         intro h
         unfold memb
         split
         · rfl
         · rename_i hne
           rcases List.mem_cons.1 h with h | h
           · exact (hne h.symm).elim
           · exact ih h
     exact key _ ht
   rw [hm] at this; cases this
def regK (C : Ctx) (ops : List Oper) (ρ : Env) : Option (List Prop × Env) :=
 if pinB C.pins ops = true then runK C ops ops ρ fun cs ρ2 => keepK C.keep C.keep ρ2 (fun ρ' => some (cs, ρ')) else none
theorem Vc.region (hG : G.Ok) {id : Nat} {ops : Array Oper} {cs : List Prop} {ρ2 : Env} (h : regK G.C ops.toList ρ = some (cs, ρ2)) (hc : conj cs) (hK : K .normal ρ2) :
   Vc G (.region id ops false) ρ K := by
 intro a w hd hS
 unfold regK at h
 split at h
 case isFalse => cases h
 rename_i hpin
 obtain ⟨T, ρ', ht, h2⟩ := runK_ok _ _ _ _ h
 rw [keepK_eq] at h2
 simp only [Option.some.injEq, Prod.mk.injEq] at h2
 obtain ⟨rfl, rfl⟩ := h2
 exact region_seq hG.ctx hG.fn hG.base ht (condsL_of T (conj_mem _ hc)) hS.1 (pinB_ok hpin) fun a' w' hd' hpn hS' => ⟨_, hK, hd'.trans hd, keep_ok _ hS', fun t ht => (hpn t ht).trans (hS.2 t ht)⟩
theorem Vc.loop {c : Code} {V : Type} (L : List Nat) (σ : V → Env) (I : V → Prop) (μ : V → Nat) (h0 : ∃ v, I v ∧ normE L ρ = σ v)
   (round : ∀ v, I v → Vc G c (σ v) (fun e ρ' => match e with
     | .normal => ∃ v', I v' ∧ μ v' < μ v ∧ normE L ρ' = σ v'
     | e => K e ρ')) : Vc G (.loop c) ρ K := by
 intro a w hd hS
 obtain ⟨v0, hI0, e0⟩ := h0
 have hS0 : G.Sim (σ v0) a.tmps w := by rw [← e0]; exact ⟨norm_ok L hS.1, hS.2⟩
 have key : ∀ (m : Nat) (v : V) (a : Act) (w : World), μ v = m → I v → a.defers = [] → G.Sim (σ v) a.tmps w →
     ∀ (b : Frame) (k : List Item) (cs : List Frame), ∃ e a' w', (∃ ρ', K e ρ' ∧ a'.defers = [] ∧ G.Sim ρ' a'.tmps w') ∧
       Arrives G.P (lone (b.at a (.code c :: .inLoop c :: k)) cs w) b k cs e a' w' := by
   intro m
   induction m using Nat.strongRecOn with
   | _ m ih =>
     intro v a w hm hI hd hS b k cs
     obtain ⟨e, a₁, w₁, ⟨ρ', hq, hd', hS'⟩, harr⟩ := round v hI a w hd hS b (.inLoop c :: k) cs
     cases e with
     | normal =>
       obtain ⟨v', hI', hlt, he⟩ := hq
       have hS2 : G.Sim (σ v') a₁.tmps w₁ := by rw [← he]; exact ⟨norm_ok L hS'.1, hS'.2⟩
       obtain ⟨e₂, a₂, w₂, hq₂, harr₂⟩ := ih (μ v') (hm ▸ hlt) v' a₁ w₁ rfl hI' hd' hS2 b k cs
       exact ⟨e₂, a₂, w₂, hq₂, .of_steps (Steps.trans harr (.one step_inLoop)) harr₂⟩
     | exit id => exact ⟨_, a₁, w₁, ⟨ρ', hq, hd', hS'⟩, .pass (x := .inLoop c) rfl (fun _ _ => .inl (by simp)) harr⟩
     | goto l => exact ⟨_, a₁, w₁, ⟨ρ', hq, hd', hS'⟩, .pass (x := .inLoop c) rfl (fun _ _ => .inl (by simp)) harr⟩
     | ret => exact ⟨_, a₁, w₁, ⟨ρ', hq, hd', hS'⟩, .pass (x := .inLoop c) rfl (fun _ _ => .inl (by simp)) harr⟩
     | panic ch => exact ⟨_, a₁, w₁, ⟨ρ', hq, hd', hS'⟩, .pass (x := .inLoop c) rfl (fun _ _ => .inl (by simp)) harr⟩
     | outgrown => exact ⟨_, a₁, w₁, ⟨ρ', hq, hd', hS'⟩, .pass (x := .inLoop c) rfl (fun _ _ => .inl (by simp)) harr⟩
 intro b k cs
 obtain ⟨e, a', w', hq, harr⟩ := key _ v0 a w rfl hI0 hd hS0 b k cs
 exact ⟨e, a', w', hq, .of_steps (.one step_loop) harr⟩
end
end Fw
namespace Fw
open Go
def emptyK : (a b : Sh) → El a.ty → (El b.ty → Prop) → Prop
 | .own e, .own e', [], k => if e.ty = e'.ty ∧ e.noref = true ∧ e'.noref = true then k [] else False
 | _, _, _, _ => False
def conv (a b : Sh) (y : El a.ty) (k : El b.ty → Prop) : Prop := if h : upB a b = true then castK (upB_ty a b h) k y else emptyK a b y k
theorem emptyK_ok {M : Mem} {R : RowFn} (a b : Sh) (y : El a.ty) (k : El b.ty → Prop) (h : emptyK a b y k) : ∃ z, k z ∧ a.ag = b.ag ∧ ∀ cs bs, EncO M R a cs y bs → EncO M R b cs z bs := by
 unfold emptyK at h
 split at h
 · rename_i e e' k
   split at h
   · rename_i hc
     obtain ⟨c1, c2, c3⟩ := hc
     refine ⟨[], h, rfl, fun cs bs he => ?_⟩
     rcases he with ⟨h1, h2, _⟩ | ⟨b, cap, row, bss, h1, h2, h3, h4, h5, h6, h7⟩
     · exact .inl ⟨h1, h2, rfl⟩
     · exact .inr ⟨b, cap, row, bss, h1, h2, h3, h4, h5, by rw [h6, Sh.size_ty e c2, Sh.size_ty e' c3, c1], h7⟩
   · exact h.elim
 · exact h.elim
theorem conv_ok {M : Mem} {R : RowFn} (a b : Sh) (y : El a.ty) (k : El b.ty → Prop) (h : conv a b y k) : ∃ z, k z ∧ a.ag = b.ag ∧ ∀ cs bs, EncO M R a cs y bs → EncO M R b cs z bs := by
 unfold conv at h
 split at h
 · rename_i hu
   obtain ⟨z, h1, h2⟩ := castK_heq (upB_ty a b hu) k y
   rw [h1] at h
   exact ⟨z, h, upB_ag a b hu, fun cs bs he => upB_enc a b hu y z cs bs h2 he⟩
 · exact emptyK_ok a b y k h
def resOf {R : Type} (C : Ctx) (ρ : Env) (r : ResultVar) (d : R) (k : (s : Sh) → El s.ty → R) : R :=
 match r with
 | .tmp t => match (ρ.get t).a with | .c s x => k s x | _ => d
 | .cell t u => match C.ty u with
   | some T => match (ρ.get t).a with | .c (.ref s) x => if s.ty = T ∧ s.noref = true then k s x else d | _ => d
   | none => d
def slotOf : ResultVar → Nat
 | .tmp t => t
 | .cell t _ => t
def DoneR (C : Ctx) : (ss : List Sh) → Vals (ss.map Sh.ty) → List ResultVar → Env → Prop
 | [], _, [], _ => True
 | s :: ss, x, r :: rs, ρ => resOf C ρ r False (fun s' y => conv s' s y (fun z => z = x.1)) ∧ DoneR C ss x.2 rs ρ
 | _, _, _, _ => False
def distinct : List Nat → Bool
 | [] => true
 | x :: r => !(memb x r) && distinct r
def doneK (F : Fun) (C : Ctx) (rs : List ResultVar) (xs : Vals F.args) : Exit → Env → Prop
 | .normal, ρ => DoneR C F.res (F.run xs) rs ρ
 | .ret, ρ => DoneR C F.res (F.run xs) rs ρ
 | _, _ => False
def argEnv : Nat → (ts : List Ty) → Vals ts → Env
 | _, [], _ => []
 | i, t :: ts, x => (i, ⟨0, 0, .c (.pure t) x.1⟩) :: argEnv (i + 1) ts x.2
def WfAll : (ts : List Ty) → Vals ts → Prop
 | [], _ => True
 | t :: ts, x => Wf t x.1 ∧ WfAll ts x.2
theorem argEnv_get (M : Mem) : ∀ (ts : List Ty) (xs : Vals ts) (vs : List Value) (i t : Nat), ArgsR M ts vs xs →
   (∃ (T : Ty) (x : El T) (v : Value) (cs : List Value), i ≤ t ∧ vs[t - i]? = some v ∧ (argEnv i ts xs).get t = ⟨0, 0, .c (.pure T) x⟩ ∧ ValC T.ag v cs ∧ Enc M T cs x) ∨
   ((t < i ∨ i + ts.length ≤ t) ∧ (argEnv i ts xs).get t = noEnt)
 | [], _, _, i, t, _ => .inr ⟨by simp; omega, rfl⟩
 | T :: ts, xs, [], i, t, h => h.elim
 | T :: ts, xs, v :: vs, i, t, ⟨⟨cs, h1, h2⟩, h3⟩ => by
   unfold argEnv
   simp only [Env.get]
   by_cases h : i = t
   · subst h
     exact .inl ⟨T, xs.1, v, cs, Nat.le_refl _, by simp, by simp, h1, h2⟩
   · rw [if_neg h]
     rcases argEnv_get M ts xs.2 vs (i + 1) t h3 with ⟨T', x', v', cs', k1, k2, k3, k4, k5⟩ | ⟨k1, k2⟩
     · exact .inl ⟨T', x', v', cs', by omega, by rw [show t - i = (t - (i + 1)) + 1 by omega]; simpa using k2, k3, k4, k5⟩
     · exact .inr ⟨by simp; omega, k2⟩
theorem argsR_wf {M : Mem} : ∀ (ts : List Ty) (vs : List Value) (xs : Vals ts), ArgsR M ts vs xs → WfAll ts xs
 | [], [], _, _ => trivial
 | [], _ :: _, _, h => h.elim
 | _ :: _, [], _, h => h.elim
 | t :: ts, _ :: vs, xs, ⟨⟨cs, _, h2⟩, h3⟩ => ⟨Enc.wf t cs xs.1 h2, argsR_wf ts vs xs.2 h3⟩
theorem argsR_len {M : Mem} : ∀ (ts : List Ty) (vs : List Value) (xs : Vals ts), ArgsR M ts vs xs → vs.length = ts.length
 | [], [], _, _ => rfl
 | [], _ :: _, _, h => h.elim
 | _ :: _, [], _, h => h.elim
 | t :: ts, v :: vs, xs, ⟨_, h3⟩ => by simp [argsR_len ts vs xs.2 h3]
theorem memb_of_mem {x : Nat} : ∀ {l : List Nat}, x ∈ l → memb x l = true
 | y :: r, h => by
   unfold memb
   split
   · rfl
   · rename_i hne
     rcases List.mem_cons.1 h with h | h
     · exact (hne h.symm).elim
     · exact memb_of_mem h
section
variable {n B : Nat} {X : List Nat} {w0 : World} {M0 M : Mem} {ω : Own} {ρ : Env} {tmps : Array Value} {w : World} {P : Program} {C : Ctx}
theorem resOf_ok (hC : CtxOk P C) (S : St0 n B X w0 M0 M ω ρ tmps w) {r : ResultVar} {Q : (s : Sh) → El s.ty → Prop} (h : resOf C ρ r False Q) :
   ∃ v s x cs bs, ((match r with | .tmp t => pure (tmps.getD t undef) | .cell a t => do loadVar t (← asAddr (tmps.getD a undef)) : Sem Value)).run P w = .ok v w ∧ Q s x ∧ ValC s.ag v cs ∧
     EncO M (rows w) s cs x bs ∧ bs.Nodup ∧ ∀ b ∈ bs, ω b = some (slotOf r) := by
 cases r with
 | tmp t =>
   simp only [resOf] at h
   split at h
   · rename_i s x ha
     have ht : t < n := by
       rcases Nat.lt_or_ge t n with h' | h'
       · exact h'
       · rw [S.high t h'] at ha; cases ha
     have hr := S.slots t ht
     rw [ha] at hr
     obtain ⟨cs, bs, h1, h2, h3, h4⟩ := hr
     exact ⟨_, s, x, cs, bs, rfl, h, h1, h2, h3, h4⟩
   · exact h.elim
 | cell t u =>
   simp only [resOf] at h
   split at h
   · rename_i T hT
     split at h
     · rename_i s x ha
       split at h
       · rename_i hc
         have ht : t < n := by
           rcases Nat.lt_or_ge t n with h' | h'
           · exact h'
           · rw [S.high t h'] at ha; cases ha
         obtain ⟨b, row, bss, k1, k2, k3, k4, k5⟩ := ref_ptr S ht ha
         have hl := EncO.length s row x bss k3
         have hsz : s.size = T.size := by rw [Sh.size_ty s hc.2, hc.1]
         have hv := mkVal_ok (ag := T.ag) (cs := row) (fun hg => by rw [hl, hsz]; exact Ty.size_sc T hg)
         rw [List.nodup_cons] at k4
         refine ⟨mkVal T.ag row, s, x, row, bss, ?_, h, by rw [Sh.ag_ty s hc.2, hc.1]; exact hv, k3, k4.2, fun i hi => k5 i (by simp [hi])⟩
         have k1' : tmps.getD t undef = .pointer (some ⟨b, 0, none⟩) := k1
         simp only [k1', asAddr, Sem.run_bind, Sem.run_pure, Result.andThen_ok]
         exact run_loadVar (hC.ty u T hT) (by rw [hl, hsz]) (rows_full k2) hv
       · exact h.elim
     · exact h.elim
   · exact h.elim
theorem run_mapM_res (hC : CtxOk P C) (S : St0 n B X w0 M0 M ω ρ tmps w) : ∀ (ss : List Sh) (xs : Vals (ss.map Sh.ty)) (rs : List ResultVar), DoneR C ss xs rs ρ → distinct (rs.map slotOf) = true →
   ∃ vs bs, (rs.mapM (fun r => (match r with | .tmp t => pure (tmps.getD t undef) | .cell a t => do loadVar t (← asAddr (tmps.getD a undef)) : Sem Value))).run P w = .ok vs w ∧
     TupR M (rows w) (resK ss xs) vs bs ∧ bs.Nodup ∧ (∀ b ∈ bs, ∃ r ∈ rs, ω b = some (slotOf r))
 | [], _, [], _, _ => ⟨[], [], rfl, rfl, List.nodup_nil, by simp⟩
 | [], _, _ :: _, h, _ => h.elim
 | _ :: _, _, [], h, _ => h.elim
 | s :: ss, xs, r :: rs, ⟨h1, h2⟩, hd => by
   obtain ⟨v, s', y, cs, bs, e1, e2, e3, e4, e5, e6⟩ := resOf_ok hC S h1
   obtain ⟨z, rfl, hag, hz⟩ := conv_ok (M := M) (R := rows w) s' s y _ e2
   simp only [List.map_cons, distinct, Bool.and_eq_true, Bool.not_eq_true'] at hd
   obtain ⟨vs, bs2, g1, g2, g3, g4⟩ := run_mapM_res hC S ss xs.2 rs h2 hd.2
   refine ⟨v :: vs, bs ++ bs2, ?_, ⟨cs, bs, bs2, by rw [← hag]; exact e3, hz cs bs e4, rfl, g2⟩, ?_, ?_⟩
   · rw [List.mapM_cons]
     simp only [Sem.run_bind, e1, Result.andThen_ok, g1, Sem.run_pure]
   · rw [List.nodup_append]
     refine ⟨e5, g3, fun a ha b hb hab => ?_⟩
     subst hab
     obtain ⟨r', hr', ho⟩ := g4 a hb
     have h1 := e6 a ha
     rw [h1] at ho
     simp only [Option.some.injEq] at ho
     have : memb (slotOf r) (rs.map slotOf) = true := memb_of_mem (List.mem_map.2 ⟨r', hr', ho.symm⟩)
     rw [this] at hd
     exact absurd hd.1 (by simp)
   · intro b hb
     rcases List.mem_append.1 hb with hb | hb
     · exact ⟨r, by simp, e6 b hb⟩
     · obtain ⟨r', h3, h4⟩ := g4 b hb
       exact ⟨r', by simp [h3], h4⟩
end
theorem tupR_len {M : Mem} {R : RowFn} : ∀ (ss : List Sh) (x : Vals (ss.map Sh.ty)) (vs : List Value) (bs : List Nat), TupR M R (resK ss x) vs bs → vs.length = ss.length
 | [], _, [], _, _ => rfl
 | [], _, _ :: _, _, h => h.elim
 | s :: ss, x, v :: vs, bs, ⟨_, _, b2, _, _, _, h4⟩ => by simp [tupR_len ss x.2 vs b2 h4]
 | _ :: _, _, [], _, h => h.elim
theorem resR_of_tup {M : Mem} {R : RowFn} (ss : List Sh) (x : Vals (ss.map Sh.ty)) (vs : List Value) (bs : List Nat) (h : TupR M R (resK ss x) vs bs) :
   ResR M R ss (if h : vs.toArray.size = 1 then vs.toArray[0] else .tuple vs.toArray) x bs := by
 have hl := tupR_len ss x vs bs h
 match ss, x, vs, h, hl with
 | [], x, [], h, _ => exact ⟨[], rfl, h⟩
 | [s], x, [v], ⟨cs, b1, b2, h1, h2, h3, h4⟩, _ =>
   have : b2 = [] := h4
   subst this
   rw [List.append_nil] at h3
   subst h3
   exact ⟨cs, h1, h2⟩
 | s :: s' :: ss, x, v :: v' :: vs, h, _ => exact ⟨v :: v' :: vs, by simp, h⟩
theorem meets_of_vc {P : Program} {C : Ctx} {f : Nat} {F : Fun} {fn : Func} {code : Code} (hC : CtxOk P C) (hF : ∀ f F, C.fn f = some F → Meets P f F)
   (h1 : P.funcs[f]? = some fn) (h2 : (fn.name == "runtime.NumGoroutine") = false) (hb : fn.body = some code) (hn : fn.ntmps = C.n) (ha : F.args.length ≤ C.n)
   (hd : distinct (fn.results.toList.map slotOf) = true)
   (h : ∀ xs : Vals F.args, WfAll F.args xs → F.pre xs → ∀ G : Cfg, G.Ok → G.P = P → G.C = C → Vc G code (argEnv 0 F.args xs) (doneK F C fn.results.toList xs)) : Meets P f F := by
 refine ⟨⟨fn, h1, h2, by rw [hb]; rfl⟩, fun w M vs xs hM hargs hpre => ?_⟩
 have hlen := argsR_len _ _ _ hargs
 refine calls_of_wp h1 hb ?_
 have hvc := h xs (argsR_wf _ _ _ hargs) hpre ⟨P, C, w.heap.size, [], w, M, vl (vs.toArray ++ Array.replicate (fn.ntmps - vs.toArray.size) undef)⟩ ⟨hC, hF, Nat.le_refl _⟩ rfl rfl
 have hsz : (vs.toArray ++ Array.replicate (fn.ntmps - vs.toArray.size) undef).size = C.n := by simp [hn, hlen]; omega
 have hget : ∀ t, (vs.toArray ++ Array.replicate (fn.ntmps - vs.toArray.size) undef).getD t undef = vs.getD t undef := by
   intro t
   rw [Array.getD_eq_getD_getElem?, List.getD_eq_getElem?_getD]
   rw [Array.getElem?_append]
   split
   · simp
   · rename_i hlt
     have hge : vs.length ≤ t := by simpa using hlt
     rw [List.getElem?_eq_none hge]
     rw [Array.getElem?_replicate]
     split <;> rfl
 have hS : Sim C.n w.heap.size [] w M (argEnv 0 F.args xs) (vs.toArray ++ Array.replicate (fn.ntmps - vs.toArray.size) undef) w := by
   refine ⟨M, fun _ => none, hsz, Fr.refl _ _ _, Mem.le_refl _, fun _ _ _ _ => rfl, hM, by simp, fun t ht => ?_, fun t ht => ?_⟩
   · rcases argEnv_get M F.args xs vs 0 t hargs with ⟨T, x, v, cs, k1, k2, k3, k4, k5⟩ | ⟨_, k2⟩
     · have := (List.getElem?_eq_some_iff.1 k2).1; omega
     · rw [k2]; rfl
   · rcases argEnv_get M F.args xs vs 0 t hargs with ⟨T, x, v, cs, k1, k2, k3, k4, k5⟩ | ⟨_, k2⟩
     · rw [k3, hget]
       have : vs.getD t undef = v := by rw [List.getD_eq_getElem?_getD]; simp at k2; rw [k2]; rfl
       rw [this]
       exact ⟨cs, [], k4, ⟨rfl, k5⟩, List.nodup_nil, by simp⟩
     · rw [k2]; exact trivial
 refine wp_mono (hvc _ w rfl ⟨hS, fun _ _ => rfl⟩) ?_
 rintro e a' w' ⟨ρ', hK, hd', ⟨M', ω', S⟩, _⟩
 have fin : DoneR C F.res (F.run xs) fn.results.toList ρ' → a'.defers = [] ∧ ∃ v, (results fn a'.tmps).run P w' = .ok v w' ∧
     (∃ v' M' bs, Ending.returned v = .returned v' ∧ Fr w.heap.size [] w w' ∧ After w M w' M' ∧ ResR M' (rows w') F.res v' (F.run xs) bs ∧ bs.Nodup ∧ ∀ b ∈ bs, w.heap.size ≤ b ∧ ∀ o, M' b o = none) := by
   intro hD
   obtain ⟨rvs, bs, g1, g2, g3, g4⟩ := run_mapM_res hC S F.res (F.run xs) fn.results.toList hD hd
   have hmap : (fn.results.mapM (fun r => (match r with | .tmp t => pure (a'.tmps.getD t undef) | .cell a t => do loadVar t (← asAddr (a'.tmps.getD a undef)) : Sem Value))).run P w' = .ok rvs.toArray w' := by
     rw [Array.mapM_eq_mapM_toList, Sem.run_map, g1]; rfl
   have hbs : ∀ b ∈ bs, w.heap.size ≤ b ∧ ∀ o, M' b o = none := fun b hb => by
     obtain ⟨r, _, ho⟩ := g4 b hb
     obtain ⟨k1, _, k3⟩ := S.dis b _ ho
     exact ⟨by simpa using k1, k3⟩
   have haf : After w M w' M' := ⟨S.m0, S.mem, fun b o hb => S.old b o hb (by simp)⟩
   have hrun : (results fn a'.tmps).run P w' = .ok (if h : rvs.toArray.size = 1 then rvs.toArray[0] else .tuple rvs.toArray) w' := by
     unfold results
     rw [Sem.run_bind]
     refine (congrArg (fun x => (Sem.run P x w').andThen _) (?_ : _ = fn.results.mapM (fun r => (match r with | .tmp t => pure (a'.tmps.getD t undef) | .cell a t => do loadVar t (← asAddr (a'.tmps.getD a undef)) : Sem Value)))).trans ?_
     · congr 1
     · rw [hmap]; rfl
   refine ⟨hd', _, hrun, _, M', bs, rfl, S.fr, haf, ?_, g3, hbs⟩
   exact resR_of_tup _ _ _ _ g2
 cases e with
 | normal => exact fin hK
 | ret => exact fin hK
 | _ => exact hK.elim
def argEnvT (F : TFun) (x : El F.s.ty) (xs : Vals F.args) : Env := (0, ⟨0, 0, .c F.s x⟩) :: argEnv 1 F.args xs
def doneT (F : TFun) (C : Ctx) (r : ResultVar) (x : El F.s.ty) (xs : Vals F.args) : Exit → Env → Prop
 | .normal, ρ => DoneR C [F.res] (F.run x xs, ()) [r] ρ
 | .ret, ρ => DoneR C [F.res] (F.run x xs, ()) [r] ρ
 | _, _ => False
theorem meetsT_of_vc {P : Program} {C : Ctx} {f : Nat} {F : TFun} {fn : Func} {code : Code} {r : ResultVar} (hC : CtxOk P C) (hF : ∀ f F, C.fn f = some F → Meets P f F)
   (h1 : P.funcs[f]? = some fn) (h2 : (fn.name == "runtime.NumGoroutine") = false) (hb : fn.body = some code) (hn : fn.ntmps = C.n) (ha : F.args.length + 1 ≤ C.n)
   (hr : fn.results = #[r]) (hcl : F.s.closed = true) (hnr : F.s.noref = true) (hrc : F.res.closed = true)
   (h : ∀ (x : El F.s.ty) (xs : Vals F.args), Wf F.s.ty x → WfAll F.args xs → F.pre x xs → ∀ G : Cfg, G.Ok → G.P = P → G.C = C → Vc G code (argEnvT F x xs) (doneT F C r x xs)) (hp : C.pins = []) : MeetsT P f F := by
 refine ⟨⟨fn, h1, h2, by rw [hb]; rfl⟩, hcl, hnr, hrc, fun w M v cs x bs vs xs hM hMb hv he hnd hargs hpre => ?_⟩
 refine calls_of_wp h1 hb ?_
 have hlen := argsR_len _ _ _ hargs
 have hvc := h x xs (EncO.wf _ _ _ _ hnr he) (argsR_wf _ _ _ hargs) hpre ⟨P, C, w.heap.size, bs, w, M, fun _ => undef⟩ ⟨hC, hF, Nat.le_refl _⟩ rfl rfl
 have hsz : ((v :: vs).toArray ++ Array.replicate (fn.ntmps - (v :: vs).toArray.size) undef).size = C.n := by simp [hn, hlen]; omega
 have hget : ∀ t, ((v :: vs).toArray ++ Array.replicate (fn.ntmps - (v :: vs).toArray.size) undef).getD t undef = (v :: vs).getD t undef := by
   intro t
   rw [Array.getD_eq_getD_getElem?, List.getD_eq_getElem?_getD]
   rw [Array.getElem?_append]
   split
   · simp
   · rename_i hlt
     have hge : (v :: vs).length ≤ t := by simpa using hlt
     rw [List.getElem?_eq_none hge]
     rw [Array.getElem?_replicate]
     split <;> rfl
 have hS : Sim C.n w.heap.size bs w M (argEnvT F x xs) ((v :: vs).toArray ++ Array.replicate (fn.ntmps - (v :: vs).toArray.size) undef) w := by
   refine ⟨M, fun b => if b ∈ bs then some 0 else none, hsz, Fr.refl _ _ _, Mem.le_refl _, fun _ _ _ _ => rfl, hM, fun b k hb => ?_, fun t ht => ?_, fun t ht => ?_⟩
   · have hb : b ∈ bs := by
       by_cases hm : b ∈ bs
       · exact hm
       · simp [hm] at hb
     obtain ⟨row, hrow⟩ := EncO.rows _ _ _ _ he b hb
     exact ⟨.inr hb, rows_lt hrow, hMb b hb⟩
   · have ht0 : t ≠ 0 := by omega
     show (if 0 = t then _ else Env.get (argEnv 1 F.args xs) t).a = _
     rw [if_neg (Ne.symm ht0)]
     rcases argEnv_get M F.args xs vs 1 t hargs with ⟨T, x', v', cs', k1, k2, k3, k4, k5⟩ | ⟨_, k2⟩
     · have := (List.getElem?_eq_some_iff.1 k2).1; omega
     · rw [k2]; rfl
   · by_cases h0 : t = 0
     · subst h0
       rw [hget]
       exact ⟨cs, bs, hv, EncO.closed _ _ _ _ hcl he, hnd, fun b hb => by simp [hb]⟩
     · have hge : (argEnvT F x xs).get t = (argEnv 1 F.args xs).get t := by
         show (if 0 = t then _ else Env.get (argEnv 1 F.args xs) t) = _
         rw [if_neg (Ne.symm h0)]
       rw [hge]
       rcases argEnv_get M F.args xs vs 1 t hargs with ⟨T, x', v', cs', k1, k2, k3, k4, k5⟩ | ⟨_, k2⟩
       · rw [k3, hget]
         have : (v :: vs).getD t undef = v' := by
           rw [List.getD_eq_getElem?_getD]
           have : (v :: vs)[t]? = vs[t - 1]? := by
             cases t with
             | zero => exact (h0 rfl).elim
             | succ t => simp
           rw [this, k2]; rfl
         rw [this]
         exact ⟨cs', [], k4, ⟨rfl, k5⟩, List.nodup_nil, by simp⟩
       · rw [k2]; exact trivial
 refine wp_mono (hvc _ w rfl ⟨hS, fun t ht => by
   have ht : t ∈ C.pins := ht
   rw [hp] at ht; simp at ht⟩) ?_
 rintro e a' w' ⟨ρ', hK, hd', ⟨M', ω', S⟩, _⟩
 have fin : DoneR C [F.res] (F.run x xs, ()) [r] ρ' → a'.defers = [] ∧ ∃ v, (results fn a'.tmps).run P w' = .ok v w' ∧
     (∃ r cs' bs', Ending.returned v = .returned r ∧ Fr w.heap.size bs w w' ∧ ValC F.res.ag r cs' ∧ EncO emp (rows w') F.res cs' (F.run x xs) bs' ∧ bs'.Nodup ∧ ∀ b ∈ bs', b ∈ bs ∨ w.heap.size ≤ b) := by
   rintro ⟨hD1, _⟩
   obtain ⟨u, s', y, cs1, bs1, e1, e2, e3, e4, e5, e6⟩ := resOf_ok hC S hD1
   obtain ⟨z, rfl, hag, hz⟩ := conv_ok (M := M') (R := rows w') s' _ y _ e2
   have hrun : (results fn a'.tmps).run P w' = .ok u w' := by
     unfold results
     rw [hr, Sem.run_bind]
     have hm : (#[r].mapM (fun r => (match r with | .tmp t => pure (a'.tmps.getD t undef) | .cell a t => do loadVar t (← asAddr (a'.tmps.getD a undef)) : Sem Value))).run P w' = .ok #[u] w' := by
       rw [Array.mapM_eq_mapM_toList, Sem.run_map]
       simp only [List.mapM_cons, List.mapM_nil, Sem.run_bind, e1, Result.andThen_ok, Sem.run_pure]
     refine (congrArg (fun q => (Sem.run P q w').andThen _) (?_ : _ = #[r].mapM (fun r => (match r with | .tmp t => pure (a'.tmps.getD t undef) | .cell a t => do loadVar t (← asAddr (a'.tmps.getD a undef)) : Sem Value)))).trans ?_
     · congr 1
     · rw [hm]; rfl
   exact ⟨hd', _, hrun, u, cs1, bs1, rfl, S.fr, by rw [← hag]; exact e3, EncO.closed _ _ _ _ hrc (hz cs1 bs1 e4), e5, fun b hb => ((S.dis b _ (e6 b hb)).1).symm⟩
 cases e with
 | normal => exact fin hK
 | ret => exact fin hK
 | _ => exact hK.elim
def argEnvK (F : KFun) (x : El F.s.ty) (xs : Vals F.args) : Env := (F.args.length, ⟨0, 0, .c (.ref F.s) x⟩) :: argEnv 0 F.args xs
def doneKK (F : KFun) (C : Ctx) (x : El F.s.ty) (xs : Vals F.args) : Exit → Env → Prop
 | .normal, ρ => DoneR C [.ref F.s] (F.out x xs, ()) [.tmp F.args.length] ρ
 | .ret, ρ => DoneR C [.ref F.s] (F.out x xs, ()) [.tmp F.args.length] ρ
 | _, _ => False
theorem meetsK_of_vc {P : Program} {C : Ctx} {f : Nat} {F : KFun} {fn : Func} {code : Code} (hC : CtxOk P C) (hF : ∀ f F, C.fn f = some F → Meets P f F)
   (h1 : P.funcs[f]? = some fn) (h2 : (fn.name == "runtime.NumGoroutine") = false) (hb : fn.body = some code) (hn : fn.ntmps = C.n) (ha : F.args.length + 1 ≤ C.n)
   (hr : fn.results = #[]) (hcl : F.s.closed = true) (hnr : F.s.noref = true)
   (h : ∀ (x : El F.s.ty) (xs : Vals F.args), Wf F.s.ty x → WfAll F.args xs → F.pre x xs → ∀ G : Cfg, G.Ok → G.P = P → G.C = C → Vc G code (argEnvK F x xs) (doneKK F C x xs)) (hp : C.pins = [F.args.length]) : MeetsK P f F := by
 refine ⟨⟨fn, h1, h2, by rw [hb]; rfl⟩, hcl, hnr, fun w M p x bs vs xs hM hMb he hnd hargs hpre => ?_⟩
 refine calls_of_wp h1 hb ?_
 have hlen := argsR_len _ _ _ hargs
 have hwx : Wf F.s.ty x := by
   obtain ⟨b, row, bss, _, _, _, h4⟩ := id he
   exact EncO.wf _ _ _ _ hnr h4
 have hvc := h x xs hwx (argsR_wf _ _ _ hargs) hpre ⟨P, C, w.heap.size, bs, w, M, fun t => (vs ++ [p]).getD t undef⟩ ⟨hC, hF, Nat.le_refl _⟩ rfl rfl
 have hsz : ((vs ++ [p]).toArray ++ Array.replicate (fn.ntmps - (vs ++ [p]).toArray.size) undef).size = C.n := by simp [hn, hlen]; omega
 have hget : ∀ t, ((vs ++ [p]).toArray ++ Array.replicate (fn.ntmps - (vs ++ [p]).toArray.size) undef).getD t undef = (vs ++ [p]).getD t undef := by
   intro t
   rw [Array.getD_eq_getD_getElem?, List.getD_eq_getElem?_getD]
   rw [Array.getElem?_append]
   split
   · simp
   · rename_i hlt
     have hge : (vs ++ [p]).length ≤ t := by simpa using hlt
     rw [List.getElem?_eq_none hge]
     rw [Array.getElem?_replicate]
     split <;> rfl
 have hm : (vs ++ [p]).getD F.args.length undef = p := by
   rw [List.getD_eq_getElem?_getD, ← hlen]; simp
 have hS : Sim C.n w.heap.size bs w M (argEnvK F x xs) ((vs ++ [p]).toArray ++ Array.replicate (fn.ntmps - (vs ++ [p]).toArray.size) undef) w := by
   refine ⟨M, fun b => if b ∈ bs then some F.args.length else none, hsz, Fr.refl _ _ _, Mem.le_refl _, fun _ _ _ _ => rfl, hM, fun b k hb => ?_, fun t ht => ?_, fun t ht => ?_⟩
   · have hb : b ∈ bs := by
       by_cases hm : b ∈ bs
       · exact hm
       · simp [hm] at hb
     obtain ⟨row, hrow⟩ := EncO.rows _ _ _ _ he b hb
     exact ⟨.inr hb, rows_lt hrow, hMb b hb⟩
   · have ht0 : t ≠ F.args.length := by omega
     show (if F.args.length = t then _ else Env.get (argEnv 0 F.args xs) t).a = _
     rw [if_neg (Ne.symm ht0)]
     rcases argEnv_get M F.args xs vs 0 t hargs with ⟨T, x', v', cs', k1, k2, k3, k4, k5⟩ | ⟨_, k2⟩
     · have := (List.getElem?_eq_some_iff.1 k2).1; omega
     · rw [k2]; rfl
   · by_cases h0 : t = F.args.length
     · subst h0
       rw [hget, hm]
       have hge : (argEnvK F x xs).get F.args.length = ⟨0, 0, .c (.ref F.s) x⟩ := by
         show (if F.args.length = F.args.length then _ else _) = _
         rw [if_pos rfl]
       rw [hge]
       exact ⟨[p], bs, rfl, EncO.closed (.ref F.s) _ _ _ (by simpa [Sh.closed] using hcl) he, hnd, fun b hb => by simp [hb]⟩
     · have hge : (argEnvK F x xs).get t = (argEnv 0 F.args xs).get t := by
         show (if F.args.length = t then _ else Env.get (argEnv 0 F.args xs) t) = _
         rw [if_neg (Ne.symm h0)]
       rw [hge]
       rcases argEnv_get M F.args xs vs 0 t hargs with ⟨T, x', v', cs', k1, k2, k3, k4, k5⟩ | ⟨_, k2⟩
       · rw [k3, hget]
         have : (vs ++ [p]).getD t undef = v' := by
           have k2' : vs[t]? = some v' := by simpa using k2
           rw [List.getD_eq_getElem?_getD, List.getElem?_append_left (List.getElem?_eq_some_iff.1 k2').1, k2']; rfl
         rw [this]
         exact ⟨cs', [], k4, ⟨rfl, k5⟩, List.nodup_nil, by simp⟩
       · rw [k2]; exact trivial
 refine wp_mono (hvc _ w rfl ⟨hS, fun t _ => hget t⟩) ?_
 rintro e a' w' ⟨ρ', hK, hd', ⟨M', ω', S⟩, hpn⟩
 have fin : DoneR C [.ref F.s] (F.out x xs, ()) [.tmp F.args.length] ρ' → a'.defers = [] ∧ ∃ v, (results fn a'.tmps).run P w' = .ok v w' ∧
     (∃ r bs', Ending.returned v = .returned r ∧ Fr w.heap.size bs w w' ∧ EncO emp (rows w') (.ref F.s) [p] (F.out x xs) bs' ∧ bs'.Nodup ∧ ∀ b ∈ bs', b ∈ bs ∨ w.heap.size ≤ b) := by
   rintro ⟨hD1, _⟩
   obtain ⟨u, s', y, cs1, bs1, e1, e2, e3, e4, e5, e6⟩ := resOf_ok hC S hD1
   obtain ⟨z, rfl, hag, hz⟩ := conv_ok (M := M') (R := rows w') s' _ y _ e2
   have hu : u = p := by
     have : a'.tmps.getD F.args.length undef = u := by
       have := e1
       simp only [Sem.run_pure, Result.ok.injEq, and_true] at this
       exact this
     rw [← this]
     have := hpn F.args.length (by show F.args.length ∈ C.pins; rw [hp]; simp)
     exact this.trans hm
   subst hu
   have hcs : cs1 = [u] := by rw [hag] at e3; exact e3
   subst hcs
   have hrun : (results fn a'.tmps).run P w' = .ok (.tuple #[]) w' := by
     unfold results
     rw [hr, Sem.run_bind]
     have hm : ((#[] : Array ResultVar).mapM (fun r => (match r with | .tmp t => pure (a'.tmps.getD t undef) | .cell a t => do loadVar t (← asAddr (a'.tmps.getD a undef)) : Sem Value))).run P w' = .ok #[] w' := by
       rw [Array.mapM_eq_mapM_toList, Sem.run_map]
       simp only [List.mapM_nil, Sem.run_pure, Result.andThen_ok]
     refine (congrArg (fun q => (Sem.run P q w').andThen _) (?_ : _ = (#[] : Array ResultVar).mapM (fun r => (match r with | .tmp t => pure (a'.tmps.getD t undef) | .cell a t => do loadVar t (← asAddr (a'.tmps.getD a undef)) : Sem Value)))).trans ?_
     · congr 1
     · rw [hm]; rfl
   exact ⟨hd', _, hrun, _, bs1, rfl, S.fr, EncO.closed (.ref F.s) _ _ _ (by simpa [Sh.closed] using hcl) (hz _ bs1 e4), e5, fun b hb => ((S.dis b _ (e6 b hb)).1).symm⟩
 cases e with
 | normal => exact fin hK
 | ret => exact fin hK
 | _ => exact hK.elim
end Fw
namespace Fw
open Go
def fldsB (P : Program) : List Go.Field → List (Nat × Ty) → Bool
 | [], [] => true
 | f :: fs, (o, T) :: l => f.offset == o && (tyOf P 12 f.type == some T) && (T.size != 0) && fldsB P fs l
 | _, _ => false
def tysB (P : Program) : List (Nat × Ty) → Bool
 | [] => true
 | (t, T) :: l => (tyOf P 12 t == some T) && tysB P l
def allFldsB (P : Program) : List (Nat × List (Nat × Ty)) → Bool
 | [] => true
 | (t, l) :: r => (match P.underlying t with | some (.struct fs) => fldsB P fs.toList l | _ => false) && allFldsB P r
theorem tysB_ok {P : Program} : ∀ (l : List (Nat × Ty)), tysB P l = true → ∀ t T, look l t = some T → TyR P t T
 | (t', T') :: l, h, t, T, hl => by
   simp only [tysB, Bool.and_eq_true, beq_iff_eq] at h
   unfold look at hl
   split at hl
   · rename_i e
     simp only [Option.some.injEq] at hl
     subst hl; subst e
     exact ⟨12, h.1⟩
   · exact tysB_ok l h.2 t T hl
theorem fldsB_ok {P : Program} : ∀ (fs : List Go.Field) (l : List (Nat × Ty)), fldsB P fs l = true → ∀ (i o : Nat) (T : Ty), l[i]? = some (o, T) →
   ∃ f : Go.Field, fs[i]? = some f ∧ f.offset = o ∧ TyR P f.type T ∧ T.size ≠ 0
 | [], [], _, i, o, T, h => by simp at h
 | f :: fs, (o', T') :: l, h, 0, o, T, hi => by
   simp only [fldsB, Bool.and_eq_true, beq_iff_eq, bne_iff_ne] at h
   simp at hi
   obtain ⟨rfl, rfl⟩ := hi
   exact ⟨f, rfl, h.1.1.1, ⟨12, h.1.1.2⟩, h.1.2⟩
 | f :: fs, (o', T') :: l, h, i + 1, o, T, hi => by
   simp only [fldsB, Bool.and_eq_true, beq_iff_eq] at h
   exact fldsB_ok fs l h.2 i o T (by simpa using hi)
 | [], _ :: _, h, _, _, _, _ => by simp [fldsB] at h
 | _ :: _, [], h, _, _, _, _ => by simp [fldsB] at h
theorem allFldsB_ok {P : Program} : ∀ (l : List (Nat × List (Nat × Ty))), allFldsB P l = true → ∀ t fl, look l t = some fl → FldR P t fl
 | (t', l') :: r, h, t, fl, hl => by
   simp only [allFldsB, Bool.and_eq_true] at h
   unfold look at hl
   split at hl
   · rename_i e
     simp only [Option.some.injEq] at hl
     subst hl; subst e
     have h1 := h.1
     split at h1
     · rename_i fs hu
       refine ⟨fs, hu, fun i o T hi => ?_⟩
       obtain ⟨f, g1, g2⟩ := fldsB_ok fs.toList l' h1 i o T hi
       exact ⟨f, by simpa using g1, g2⟩
     · cases h1
   · exact allFldsB_ok r h.2 t fl hl
def eqsB (P : Program) (tys : List (Nat × Ty)) : List Nat → Bool
 | [] => true
 | t :: r => (match look tys t with | some T => eqB P 8 t T && !(P.eqGuardType P.depth t) | none => true) && eqsB P tys r
theorem eqsB_ok {P : Program} {tys : List (Nat × Ty)} : ∀ (l : List Nat), eqsB P tys l = true → ∀ t T, l.contains t = true → look tys t = some T → EqR P t T
 | [], _, t, T, h, _ => by simp at h
 | t' :: r, h, t, T, hc, hl => by
   simp only [eqsB, Bool.and_eq_true] at h
   by_cases e : t = t'
   · subst e
     have h1 := h.1
     rw [hl] at h1
     simp only [Bool.and_eq_true, Bool.not_eq_true'] at h1
     exact h1
   · refine eqsB_ok r h.2 t T ?_ hl
     simpa [e] using hc
theorem ctxOk {P : Program} {C : Ctx} (h1 : tysB P C.tys = true) (h2 : allFldsB P C.flds = true) (h3 : eqsB P C.tys C.eqs = true) (h4 : ∀ f F, C.fnM f = some F → MeetsM P f F) (h5 : ∀ f F, C.fnT f = some F → MeetsT P f F)
   (h6 : ∀ f F, C.fnK f = some F → MeetsK P f F := by intro f F h; cases h) : CtxOk P C :=
 ⟨eqsB_ok C.eqs h3, tysB_ok C.tys h1, allFldsB_ok C.flds h2, h4, h5, h6⟩
structure Known (P : Program) where
 f : Nat
 F : Fun
 ok : Meets P f F
def fnOf {P : Program} : List (Known P) → Nat → Option Fun
 | [], _ => none
 | k :: r, f => if k.f = f then some k.F else fnOf r f
theorem fnOf_ok {P : Program} : ∀ (l : List (Known P)) (f : Nat) (F : Fun), fnOf l f = some F → Meets P f F
 | k :: r, f, F, h => by
   unfold fnOf at h
   split at h
   · rename_i e
     simp only [Option.some.injEq] at h
     subst h; subst e
     exact k.ok
   · exact fnOf_ok r f F h
structure KnownM (P : Program) where
 f : Nat
 F : MFun
 ok : MeetsM P f F
def fnOfM {P : Program} : List (KnownM P) → Nat → Option MFun
 | [], _ => none
 | k :: r, f => if k.f = f then some k.F else fnOfM r f
theorem fnOfM_ok {P : Program} : ∀ (l : List (KnownM P)) (f : Nat) (F : MFun), fnOfM l f = some F → MeetsM P f F
 | k :: r, f, F, h => by
   unfold fnOfM at h
   split at h
   · rename_i e
     simp only [Option.some.injEq] at h
     subst h; subst e
     exact k.ok
   · exact fnOfM_ok r f F h
structure KnownT (P : Program) where
 f : Nat
 F : TFun
 ok : MeetsT P f F
def fnOfT {P : Program} : List (KnownT P) → Nat → Option TFun
 | [], _ => none
 | k :: r, f => if k.f = f then some k.F else fnOfT r f
theorem fnOfT_ok {P : Program} : ∀ (l : List (KnownT P)) (f : Nat) (F : TFun), fnOfT l f = some F → MeetsT P f F
 | k :: r, f, F, h => by
   unfold fnOfT at h
   split at h
   · rename_i e
     simp only [Option.some.injEq] at h
     subst h; subst e
     exact k.ok
   · exact fnOfT_ok r f F h
structure KnownK (P : Program) where
 f : Nat
 F : KFun
 ok : MeetsK P f F
def fnOfK {P : Program} : List (KnownK P) → Nat → Option KFun
 | [], _ => none
 | k :: r, f => if k.f = f then some k.F else fnOfK r f
theorem fnOfK_ok {P : Program} : ∀ (l : List (KnownK P)) (f : Nat) (F : KFun), fnOfK l f = some F → MeetsK P f F
 | k :: r, f, F, h => by
   unfold fnOfK at h
   split at h
   · rename_i e
     simp only [Option.some.injEq] at h
     subst h; subst e
     exact k.ok
   · exact fnOfK_ok r f F h
end Fw
namespace Fw
open Go Go.ChangeShapes Go.WideShapes Go.ChangeAt Go.RowKit
theorem Fr.below {w w' : World} (h : Fr w.heap.size [] w w') : Below w.heap.size w w' :=
 ⟨h.os, h.tape, h.output, h.size, fun k hk => h.block k hk (by simp)⟩
theorem trodAll_below {H : Type} {enc : TypeId × Value → H} {P : Program} (hl : laidOutB P = true) {W W' : World} (hb : Below W.heap.size W W') :
   ∀ (ts : List TypeId) (vs : List Value) (ds : List (DataW H)) (p : List MemPlace), (ts.all fun t => P.readableRec t && decide (t < P.types.size)) = true →
     (∀ x ∈ p, x.block < W.heap.size) → DataW.TrodAll enc P W 0 (fun _ => true) true ts vs ds p → DataW.TrodAll enc P W' 0 (fun b => decide (b < W.heap.size)) true ts vs ds p
 | [], vs, ds, p, _, _, h => by
   obtain ⟨rfl, rfl, rfl⟩ := trodAll_nil h
   exact h
 | t :: ts, vs, ds, p, hr, hlt, h => by
   obtain ⟨v, vs1, d, ds1, a, b, rfl, rfl, rfl, h1, h2⟩ := trodAll_cons h
   simp only [List.all_cons, Bool.and_eq_true, decide_eq_true_eq] at hr
   exact ⟨a, b, Below.trod hl hr.1.1 hr.1.2 h1 hb (fun x hx => hlt x (by simp [hx])),
     trodAll_below hl hb ts vs1 ds1 b hr.2 (fun x hx => hlt x (by simp [hx])) h2, rfl⟩
theorem post_yes {H : Type} {enc : TypeId × Value → H} {P : Program} {f : Func} {s : ChangeSpec} {W W' : World} {args : Array Value} {ds : List (DataW H)} {before : List MemPlace} {t : TypeId}
   (hl : laidOutB P = true) (hrd : (f.params.toList.all fun t => P.readableRec t && decide (t < P.types.size)) = true) (hvars : s.vars = []) (hspec : s.fn H ds = { results := [.lit (.bool true)], args := ds })
   (hrt : f.resultTypes = #[t]) (ht : P.underlying t = some .bool) (hW : DataW.Whole enc P f.params.toList s.vars false W args.toList ds [] before) (hfr : Fr W.heap.size [] W W') :
   s.post enc P f false true false false W args (.bool true) W' := by
 have hlt := hW.lt
 have hb := hfr.below
 obtain ⟨p, q, hA, hV, rfl, hz, hn⟩ := id hW
 rw [hvars] at hV
 obtain ⟨_, rfl⟩ := trodVars_none hV
 refine ⟨ds, [], p ++ [], [], p, [], hW, ?_, ?_, ?_, hb.frame _, fun h => by cases h⟩
 · rw [List.append_nil, hspec, hrt]
   exact trodAll_mk1 (shut_bool ht true)
 · rw [List.append_nil, hspec]
   exact trodAll_below hl hb _ _ _ _ hrd (fun x hx => by simpa using hlt x (by simpa using hx)) hA
 · rw [List.append_nil, hspec, hvars]
   rfl
end Fw
namespace Fw
open Go Go.ChangeShapes Go.WideShapes Go.ChangeAt Go.RowKit
def fldLayB (go : TypeId → Ty → Bool) : List Go.Field → Nat → Ty → Bool
 | [f], off, T => f.offset == off && go f.type T
 | f :: f' :: r, off, .pair A B => f.offset == off && go f.type A && fldLayB go (f' :: r) (off + A.size) B
 | _, _, _ => false
def layB (P : Program) : Nat → TypeId → Ty → Bool
 | 0, _, _ => false
 | n + 1, t, T => (P.cellsOf t == T.size) && (match T, P.underlying t with
   | .int k, some (.int k') => decide (k = k')
   | .bool, some .bool => true
   | .str, some .string => true
   | .slice E, some (.slice e) => (E.size != 0) && layB P n e E
   | .pair a b, some (.struct fs) => fldLayB (layB P n) fs.toList 0 (.pair a b)
   | _, _ => false)
section
variable {H : Type} {enc : TypeId × Value → H} {P : Program} {w : World} {held : Bool}
theorem cell_spot {w : World} {a : Addr} {v : Value} (h : w.cell? a = some v) : a.spot = none := by
 unfold World.cell? at h
 split at h
 · cases hs : a.spot with
   | none => rfl
   | some _ => rw [hs] at h; simp at h
 · cases h
theorem sliceAt_of {α : Type} {M : Mem} {p : List Value → α → Prop} {sz b : Nat} : ∀ (len o : Nat) (f : Nat → α), (∀ i, i < len → ∃ cs, cs.length = sz ∧ CellsAt M b (o + i * sz) cs ∧ p cs (f i)) →
   SliceAt M p sz b o ((List.range len).map f)
 | 0, _, _, _ => trivial
 | len + 1, o, f, h => by
   rw [List.range_succ_eq_map, List.map_cons, List.map_map]
   refine ⟨by simpa using h 0 (by omega), ?_⟩
   refine sliceAt_of len (o + sz) (f ∘ Nat.succ) fun i hi => ?_
   have := h (i + 1) (by omega)
   rwa [Nat.add_mul, Nat.one_mul, Nat.add_comm (i * sz) sz, ← Nat.add_assoc] at this
theorem fields_enc {n : Nat} {go : TypeId → Ty → Bool} (hgo : ∀ t T, go t T = true → P.cellsOf t = T.size ∧ ∀ cs d, DataW.trod enc P w 0 (fun _ => true) held n t cs = some d → ∃ x : El T, Enc (full w) T cs x) :
   ∀ (fs : List Go.Field) (off : Nat) (T : Ty) (cs : List Value), fldLayB go fs off T = true →
     (∀ (i : Nat) (f : Go.Field), fs[i]? = some f → ∃ d, DataW.trod enc P w 0 (fun _ => true) held n f.type ((cs.drop f.offset).take (P.cellsOf f.type)) = d ∧ d.isSome = true) → cs.length = off + T.size → ∃ x : El T, Enc (full w) T (cs.drop off) x
 | [], _, _, _, h, _, _ => by simp [fldLayB] at h
 | [f], off, T, cs, h, hm, hl => by
   simp only [fldLayB, Bool.and_eq_true, beq_iff_eq] at h
   obtain ⟨h1, h2⟩ := h
   obtain ⟨h3, h4⟩ := hgo _ _ h2
   obtain ⟨d, hd, hs⟩ := hm 0 f rfl
   obtain ⟨y, hy⟩ := Option.isSome_iff_exists.1 hs
   rw [hy] at hd
   have := h4 _ _ hd
   rwa [h1, h3, List.take_of_length_le (by simp; omega)] at this
 | f :: f' :: r, off, T, cs, h, hm, hl => by
   cases T with
   | pair A B =>
     simp only [fldLayB, Bool.and_eq_true, beq_iff_eq] at h
     obtain ⟨⟨h1, h2⟩, h3⟩ := h
     obtain ⟨h4, h5⟩ := hgo _ _ h2
     obtain ⟨d, hd, hs⟩ := hm 0 f rfl
     obtain ⟨y, hy⟩ := Option.isSome_iff_exists.1 hs
     rw [hy] at hd
     obtain ⟨x, hx⟩ := h5 _ _ hd
     have hl' : cs.length = off + (A.size + B.size) := hl
     obtain ⟨z, hz⟩ := fields_enc hgo (f' :: r) (off + A.size) B cs h3 (fun i g hg => hm (i + 1) g (by simpa using hg)) (by omega)
     rw [h1, h4] at hx
     refine ⟨(x, z), _, _, ?_, hx, hz⟩
     rw [← List.drop_drop, List.take_append_drop]
   | _ => simp [fldLayB] at h
theorem trod_enc : ∀ (n : Nat) (t : TypeId) (T : Ty), layB P n t T = true → ∀ (fuel : Nat) (cs : List Value) (d : DataW H × List MemPlace), DataW.trod enc P w 0 (fun _ => true) held fuel t cs = some d → ∃ x : El T, Enc (full w) T cs x
 | 0, _, _, h, _, _, _, _ => by simp [layB] at h
 | n + 1, t, T, h, 0, cs, d, hd => by simp [DataW.trod] at hd
 | n + 1, t, T, h, fuel + 1, cs, d, hd => by
   simp only [layB, Bool.and_eq_true, beq_iff_eq] at h
   obtain ⟨hsz, h⟩ := h
   cases hu : P.underlying t with
   | none => rw [hu] at h; cases T <;> cases h
   | some dsc =>
     rw [hu] at h
     cases T with
     | int k =>
       cases dsc with
       | int k' =>
         have hk : k = k' := by simpa using h
         subst hk
         obtain ⟨x, e1, e2, e3⟩ := DataW.trod_int hu hd
         simp only [Lit.wf, Bool.and_eq_true, decide_eq_true_eq] at e3
         exact ⟨x, e1, e3⟩
       | _ => cases h
     | bool =>
       cases dsc with
       | bool =>
         obtain ⟨b, e1, _⟩ := DataW.trod_bool hu hd
         exact ⟨b, e1⟩
       | _ => cases h
     | str =>
       cases dsc with
       | string =>
         obtain ⟨s, e1, _, e3⟩ := DataW.trod_string hu hd
         refine ⟨s.data.toList, ?_, ?_⟩
         · rw [e1]
         · show s.data.toList.length ≤ bigLen
           rw [Array.length_toList]; exact e3
       | _ => cases h
     | slice E =>
       cases dsc with
       | slice e =>
         simp only [Bool.and_eq_true, bne_iff_ne] at h
         obtain ⟨hE, h⟩ := h
         have hce : P.cellsOf e = E.size := by
           cases n with
           | zero => simp [layB] at h
           | succ n => simp only [layB, Bool.and_eq_true, beq_iff_eq] at h; exact h.1
         rcases Deep.open_slice hu hd with ⟨rfl, _⟩ | ⟨a, len, cap, m, nf, D, Pl, rfl, _, hl, hm, hmm, _, hx⟩
         · exact ⟨[], none, 0, rfl, Nat.le_refl _, by simp [bigLen], rfl⟩
         · rw [hce] at hx
           have hmc : m = cap := by simpa using hmm
           have hsp : 0 < m → a.spot = none := by
             intro hm0
             obtain ⟨cs', h1, _⟩ := hx 0 hm0
             obtain ⟨_, h4, h5⟩ := World.cells?_some h1
             have h0 := h5 0 (by omega)
             rw [List.getElem?_eq_getElem (by omega)] at h0
             have := cell_spot h0
             simpa [Addr.add] using this
           -- every element
           have hel : ∀ i, i < m → ∃ (x : El E) (cs : List Value), cs.length = E.size ∧ CellsAt (full w) a.block (a.off + i * E.size) cs ∧ Enc (full w) E cs x := by
             intro i hi
             obtain ⟨cs', h1, h2⟩ := hx i hi
             obtain ⟨_, h4, h5⟩ := World.cells?_some h1
             obtain ⟨x, h6⟩ := trod_enc n e E h nf cs' _ h2
             refine ⟨x, cs', h4, fun j c hj => ?_, h6⟩
             have hjl := (List.getElem?_eq_some_iff.1 hj).1
             have := h5 j (by omega)
             rw [hj] at this
             show w.cell? _ = _
             rw [← this]
             have hsp := hsp (by omega)
             obtain ⟨b, o, sp⟩ := a
             simp only at hsp
             subst hsp
             simp only [addr_add]
           have hlm : len ≤ m := by omega
           have hch : ∃ f : Nat → El E, ∀ i, i < m → ∃ cs, cs.length = E.size ∧ CellsAt (full w) a.block (a.off + i * E.size) cs ∧ Enc (full w) E cs (f i) := by
             refine ⟨fun i => if hi : i < m then Classical.choose (hel i hi) else dflt E, fun i hi => ?_⟩
             obtain ⟨cs, h1, h2, h3⟩ := Classical.choose_spec (hel i hi)
             refine ⟨cs, h1, h2, ?_⟩
             simp only [dif_pos hi]; exact h3
           obtain ⟨f, hf⟩ := hch
           refine ⟨(List.range len).map f, some a, cap, by simp, by simpa using hl, hm, ?_, sliceAt_of len a.off f fun i hi => hf i (by omega)⟩
           by_cases h0 : m = 0
           · exact .inr (by omega)
           · exact .inl (hsp (by omega))
       | _ => cases h
     | arr m e => cases dsc <;> cases h
     | pair a b =>
       cases dsc with
       | struct fs =>
         obtain ⟨xs, m, e1, e2, e3, e4, e5⟩ := DataW.trod_struct hu hd
         have hf : ∃ x : El (.pair a b), Enc (full w) (.pair a b) (cs.drop 0) x := fields_enc (P := P) (w := w) (enc := enc) (held := held) (n := m) (go := layB P n) (fun t T ht => ⟨by
             cases n with
             | zero => simp [layB] at ht
             | succ n => simp only [layB, Bool.and_eq_true, beq_iff_eq] at ht; exact ht.1, fun cs d hd => trod_enc n t T ht m cs d hd⟩) fs.toList 0 (.pair a b) cs h (fun i f hf => ⟨_, e5 i f (by simpa using hf), by
             have hi : i < fs.size := by have := (List.getElem?_eq_some_iff.1 hf).1; simpa using this
             rw [List.getElem?_eq_getElem (by rw [e4]; exact hi)]; rfl⟩) (by rw [e3, hsz, Nat.zero_add])
         simpa using hf
       | _ => cases h
def layAll (P : Program) : List TypeId → List Ty → Bool
 | [], [] => true
 | t :: ts, T :: Ts => layB P 12 t T && layAll P ts Ts
 | _, _ => false
theorem layB_val {n : Nat} {t : TypeId} {T : Ty} (h : layB P n t T = true) {r : Reach} {b0 : Nat} {v : Value} (hval : Value.okWide P w r b0 t v) : ValC T.ag v v.cells.toList := by
 cases n with
 | zero => simp [layB] at h
 | succ n =>
   simp only [layB, Bool.and_eq_true, beq_iff_eq] at h
   obtain ⟨_, h⟩ := h
   cases hu : P.underlying t with
   | none => rw [hu] at h; cases T <;> cases h
   | some dsc =>
     rw [hu] at h
     cases T with
     | int k =>
       cases dsc with
       | int k' => obtain ⟨x, rfl⟩ := okWide_int hu hval; rfl
       | _ => cases h
     | bool =>
       cases dsc with
       | bool => obtain ⟨x, rfl⟩ := okWide_bool hu hval; rfl
       | _ => cases h
     | str =>
       cases dsc with
       | string => obtain ⟨x, rfl⟩ := okWide_string hu hval; rfl
       | _ => cases h
     | slice E =>
       cases dsc with
       | slice e => obtain ⟨a, l, c, rfl⟩ := okWide_slice hu hval; rfl
       | _ => cases h
     | arr m e => cases dsc <;> cases h
     | pair a b =>
       cases dsc with
       | struct fs =>
         unfold Value.okWide at hval
         rw [hu] at hval
         obtain ⟨cs, rfl, _⟩ := hval
         rfl
       | _ => cases h
theorem argsR_of {r : Reach} {b0 : Nat} : ∀ (ts : List TypeId) (Ts : List Ty) (vs : List Value) (ds : List (DataW H)) (p : List MemPlace), layAll P ts Ts = true → DataW.TrodAll enc P w 0 (fun _ => true) held ts vs ds p →
   (∀ (j : Nat) t v, ts[j]? = some t → vs[j]? = some v → Value.okWide P w r b0 t v) → ∃ xs : Vals Ts, ArgsR (full w) Ts vs xs
 | [], [], [], _, _, _, _, _ => ⟨(), trivial⟩
 | [], [], _ :: _, ds, _, _, h, _ => by cases ds <;> exact h.elim
 | [], _ :: _, _, _, _, h, _, _ => by cases h
 | _ :: _, [], _, _, _, h, _, _ => by cases h
 | _ :: _, _ :: _, [], _, _, _, h, _ => h.elim
 | _ :: _, _ :: _, _ :: _, [], _, _, h, _ => h.elim
 | t :: ts, T :: Ts, v :: vs, d :: ds, p, hl, h, hval => by
   simp only [layAll, Bool.and_eq_true] at hl
   obtain ⟨p1, p2, ⟨fuel, hd⟩, h2, _⟩ := h
   obtain ⟨x, hx⟩ := trod_enc 12 t T hl.1 fuel _ _ hd
   obtain ⟨xs, hxs⟩ := argsR_of ts Ts vs ds p2 hl.2 h2 (fun j t v h1 h2 => hval (j + 1) t v (by simpa using h1) (by simpa using h2))
   exact ⟨(x, xs), ⟨_, layB_val hl.1 (hval 0 t v rfl rfl), hx⟩, hxs⟩
theorem trodAll_len {w : World} {held : Bool} : ∀ {ts : List TypeId} {vs : List Value} {ds : List (DataW H)} {p : List MemPlace}, DataW.TrodAll enc P w 0 (fun _ => true) held ts vs ds p → ds.length = ts.length
 | [], [], [], _, _ => rfl
 | [], [], _ :: _, _, h => h.elim
 | [], _ :: _, [], _, h => h.elim
 | [], _ :: _, _ :: _, _, h => h.elim
 | _ :: _, [], [], _, h => h.elim
 | _ :: _, [], _ :: _, _, h => h.elim
 | _ :: _, _ :: _, [], _, h => h.elim
 | t :: ts, v :: vs, d :: ds, p, ⟨_, _, _, h2, _⟩ => by simp [trodAll_len h2]
theorem yes_call {f : Nat} {Ts : List Ty} {pre : Vals Ts → Prop} {run : Vals Ts → Vals ([Sh.pure .bool].map Sh.ty)} (hm : Meets P f ⟨Ts, [.pure .bool], pre, run⟩) (hpre : ∀ xs, WfAll Ts xs → pre xs) (hrun : ∀ xs, WfAll Ts xs → run xs = (true, ()))
   {ts : List TypeId} (hlay : layAll P ts Ts = true) {args : Array Value} {ds : List (DataW H)} {p : List MemPlace} {r : Reach} {b0 : Nat} (hA : DataW.TrodAll enc P w 0 (fun _ => true) held ts args.toList ds p)
   (hval : ∀ (j : Nat) t v, ts[j]? = some t → args.toList[j]? = some v → Value.okWide P w r b0 t v) :
   Calls P f args w fun e w' => e = .returned (.bool true) ∧ Fr w.heap.size [] w w' := by
 obtain ⟨xs, hxs⟩ := argsR_of ts Ts args.toList ds p hlay hA hval
 have hwf := argsR_wf _ _ _ hxs
 have := hm.call w (full w) args.toList xs (fun _ _ _ h => h) hxs (hpre xs hwf)
 rw [Array.toArray_toList] at this
 refine this.mono fun e w' ⟨v, M', bs, he, hfr, _, hres, _⟩ => ?_
 subst he
 refine ⟨?_, hfr⟩
 obtain ⟨cs, h1, h2⟩ := hres
 have e0 : (run xs).1 = true := by rw [hrun xs hwf]
 have e1 : cs = [.bool (run xs).1] := h2.2
 have e2 : cs = [v] := by simpa [ValC, Sh.ag, Ty.ag] using h1
 rw [e1, e0] at e2
 simp only [List.cons.injEq, and_true] at e2
 rw [← e2]
end
end Fw
namespace Fw
open Go
section
variable {n B : Nat} {X : List Nat} {w0 : World} {M0 M : Mem} {ω : Own} {ρ ρ' : Env} {tmps : Array Value} {w : World}
theorem Rel0.congr (h : ∀ t, ρ'.get t = ρ.get t) {vals : Vl} {t : Nat} {v : Value} {a : A} (hr : Rel0 n M ω w ρ vals t v a) : Rel0 n M ω w ρ' vals t v a := by
 revert hr
 cases a <;> simp only [Rel0, refOk, verOk, curK, h] <;> exact id
theorem Rel.congr (h : ∀ t, ρ'.get t = ρ.get t) {vals : Vl} {t : Nat} {v : Value} {a : A} (hr : Rel n M ω w ρ vals t v a) : Rel n M ω w ρ' vals t v a := by
 cases a with
 | cond s g ver b a =>
   obtain ⟨h1, h2⟩ := hr
   refine ⟨by unfold verOk at *; rw [h]; exact h1, fun hc => ?_⟩
   have hc' : curK ρ s g ver := by unfold curK at *; rw [h] at hc; exact hc
   exact ⟨fun e => Rel0.congr h ((h2 hc').1 e), (h2 hc').2⟩
 | junk => exact trivial
 | c s x => exact Rel0.congr (n := n) (M := M) (ω := ω) (w := w) (vals := vals) (t := t) (a := .c s x) h hr
 | ptr k g off => exact Rel0.congr (n := n) (M := M) (ω := ω) (w := w) (vals := vals) (t := t) (a := .ptr k g off) h hr
 | bor k g ver u x org e => exact Rel0.congr (n := n) (M := M) (ω := ω) (w := w) (vals := vals) (t := t) (a := .bor k g ver u x org e) h hr
 | elp k g ver off et i eo arr => exact Rel0.congr (n := n) (M := M) (ω := ω) (w := w) (vals := vals) (t := t) (a := .elp k g ver off et i eo arr) h hr
 | al k g ag off => exact Rel0.congr (n := n) (M := M) (ω := ω) (w := w) (vals := vals) (t := t) (a := .al k g ag off) h hr
 | eptr u x off => exact Rel0.congr (n := n) (M := M) (ω := ω) (w := w) (vals := vals) (t := t) (a := .eptr u x off) h hr
 | tup l => exact Rel0.congr (n := n) (M := M) (ω := ω) (w := w) (vals := vals) (t := t) (a := .tup l) h hr
 | fn f => exact Rel0.congr (n := n) (M := M) (ω := ω) (w := w) (vals := vals) (t := t) (a := .fn f) h hr
 | br k g ver off n1 s ys => exact Rel0.congr (n := n) (M := M) (ω := ω) (w := w) (vals := vals) (t := t) (a := .br k g ver off n1 s ys) h hr
 | rb k g ver u x org e => exact Rel0.congr (n := n) (M := M) (ω := ω) (w := w) (vals := vals) (t := t) (a := .rb k g ver u x org e) h hr
 | clo f k g => exact Rel0.congr (n := n) (M := M) (ω := ω) (w := w) (vals := vals) (t := t) (a := .clo f k g) h hr
theorem St0.congr (S : St0 n B X w0 M0 M ω ρ tmps w) (h : ∀ t, ρ'.get t = ρ.get t) : St0 n B X w0 M0 M ω ρ' tmps w :=
 ⟨S.size, S.fr, S.m0, S.old, S.mem, S.dis, fun t ht => by rw [h]; exact S.high t ht, fun t ht => by rw [h]; exact Rel.congr h (S.slots t ht)⟩
theorem Fr.drawn {w w' : World} (h : Fr B X w w') (k : Nat) : Fr B X w { w' with drawn := k } :=
 ⟨h.os, h.tape, h.output, h.size, h.block⟩
theorem St0.drawn (S : St0 n B X w0 M0 M ω ρ tmps w) (k : Nat) : St0 n B X w0 M0 M ω ρ tmps { w with drawn := k } :=
 ⟨S.size, S.fr.drawn k, S.m0, S.old, fun b o v h => S.mem b o v h, fun b k h => S.dis b k h, S.high, fun t ht => by
   have := S.slots t ht
   revert this
   generalize (ρ.get t).a = a
   have key : ∀ a, Rel0 n M ω w ρ (fun t => tmps.getD t undef) t (tmps.getD t undef) a → Rel0 n M ω { w with drawn := k } ρ (fun t => tmps.getD t undef) t (tmps.getD t undef) a := by
     intro a h
     cases a <;> exact h
   intro h
   cases a with
   | cond s g ver b a => exact ⟨h.1, fun hc => ⟨fun e => key a ((h.2 hc).1 e), (h.2 hc).2⟩⟩
   | _ => exact h⟩
end
def Same (ρ ρ' : Env) (x : Operand) : Prop := ∀ gd, opd ρ' gd x = opd ρ gd x
theorem same_tmp {ρ ρ' : Env} {t : Nat} (h : ρ'.get t = ρ.get t) (ht : ∀ gd k, ((ρ.get t).a.stripG gd).tgt = some k → ρ'.get k = ρ.get k) : Same ρ ρ' (.tmp t) := by
 intro gd
 simp only [opd, h]
 congr 1
 unfold tgtOf
 split
 · rename_i k hk; exact ht gd k hk
 · rfl
theorem same_const {ρ ρ' : Env} (v : Value) : Same ρ ρ' (.const v) := fun _ => rfl
theorem same_func {ρ ρ' : Env} (f : Nat) : Same ρ ρ' (.func f) := fun _ => rfl
theorem same_global {ρ ρ' : Env} (f : Nat) : Same ρ ρ' (.global f) := fun _ => rfl
def notBuild : Op → Bool
 | .build _ _ => false
 | .buildSlice _ _ _ => false
 | .call c => match c.callee with | .builtin .append => false | _ => true
 | _ => true
theorem ex_congr {C : Ctx} {gd : Gd} {ρ ρ' : Env} {o : Oper} (hb : notBuild o.op = true) (h : ∀ x ∈ o.op.operands.toList, Same ρ ρ' x) : ex C gd ρ' o = ex C gd ρ o := by
 obtain ⟨dst, op, type, pos, after, guard⟩ := o
 simp only at h hb
 cases op with
 | call c =>
   obtain ⟨callee, args, tys⟩ := c
   have hmap : args.toList.map (opd ρ' gd) = args.toList.map (opd ρ gd) := List.map_congr_left fun x hx => h x (by simp [Op.operands, Call.operands]; right; simpa using hx) gd
   have hx : ∀ x ∈ args.toList, opd ρ' gd x = opd ρ gd x := fun x hx => h x (by simp [Op.operands, Call.operands]; right; simpa using hx) gd
   unfold ex exAt
   simp only [hmap]
   cases dst with
   | none => rfl
   | some d =>
     simp only
     split
     · split
       · rfl
       · split
         · rename_i x t ha ht; rw [hx x (by simp [ha])]
         · rfl
       · simp [notBuild] at hb
       · split
         · rename_i x y ha; rw [hx x (by simp [ha]), hx y (by simp [ha])]
         · rfl
       · split
         · rename_i x y ha; rw [hx x (by simp [ha]), hx y (by simp [ha])]
         · rfl
       · rename_i t; rw [h (.tmp t) (by simp [Op.operands, Call.operands]) gd]
       · rfl
     · rfl
 | makeFunc fn first cap =>
   unfold ex exAt
   cases dst with
   | none => rfl
   | some d =>
     simp only
     split
     · split
       · rename_i f x h1 h2
         rw [h x (by simp [Op.operands, h2]) gd]
       · rfl
     · rfl
 | build t ps => simp [notBuild] at hb
 | buildSlice t l ps => simp [notBuild] at hb
 | pick c a b =>
   have h1 := h c (by simp [Op.operands])
   have h2 := h a (by simp [Op.operands])
   have h3 := h b (by simp [Op.operands])
   unfold ex exAt
   simp only [h1 _, h2 _, h3 _]
 | move x => have h1 := h x (by simp [Op.operands]); unfold ex exAt; simp only [h1 _]
 | assign x => have h1 := h x (by simp [Op.operands]); unfold ex exAt; simp only [h1 _]
 | box t x => have h1 := h x (by simp [Op.operands]); unfold ex exAt; simp only [h1 _]
 | load t x => have h1 := h x (by simp [Op.operands]); unfold ex exAt; simp only [h1 _]
 | fieldAddr t x f => have h1 := h x (by simp [Op.operands]); unfold ex exAt; simp only [h1 _]
 | unOp op t x => have h1 := h x (by simp [Op.operands]); unfold ex exAt; simp only [h1 _]
 | store t a v => have h1 := h a (by simp [Op.operands]); have h2 := h v (by simp [Op.operands]); unfold ex exAt; simp only [h1 _, h2 _]
 | convert t u x => have h1 := h x (by simp [Op.operands]); unfold ex exAt; simp only [h1 _]
 | extract x i => have h1 := h x (by simp [Op.operands]); unfold ex exAt; simp only [h1 _]
 | makeSlice t a v => have h1 := h a (by simp [Op.operands]); have h2 := h v (by simp [Op.operands]); unfold ex exAt; simp only [h1 _, h2 _]
 | slice t x lo hi mx =>
   have h1 := h x (by simp [Op.operands])
   have h2 : lo.map (opd ρ' gd) = lo.map (opd ρ gd) := by
     cases lo with
     | none => rfl
     | some l => simp only [Option.map_some]; rw [h l (by simp [Op.operands]) gd]
   have h3 : hi.map (opd ρ' gd) = hi.map (opd ρ gd) := by
     cases hi with
     | none => rfl
     | some l => simp only [Option.map_some]; rw [h l (by simp [Op.operands]) gd]
   unfold ex exAt; simp only [h1 _, h2, h3]
 | binOp op t a v u => have h1 := h a (by simp [Op.operands]); have h2 := h v (by simp [Op.operands]); unfold ex exAt; simp only [h1 _, h2 _]
 | index t a v => have h1 := h a (by simp [Op.operands]); have h2 := h v (by simp [Op.operands]); unfold ex exAt; simp only [h1 _, h2 _]
 | indexAddr t a v => have h1 := h a (by simp [Op.operands]); have h2 := h v (by simp [Op.operands]); unfold ex exAt; simp only [h1 _, h2 _]
 | _ => rfl
theorem strip_tgt (gd : Gd) (a : A) : (a.stripG gd).tgt = a.tgt := by
 cases gd with
 | none => rfl
 | some q =>
   obtain ⟨s, g, ver, b⟩ := q
   cases a with
   | cond s' g' ver' w' a => simp only [A.stripG, A.strip]; split <;> rfl
   | _ => rfl
theorem same_reads {ρ ρ' : Env} {x : Operand} (h : ∀ t ∈ opdReads ρ x, ρ'.get t = ρ.get t) : Same ρ ρ' x := by
 cases x with
 | tmp t =>
   simp only [opdReads] at h
   refine same_tmp (h t (by split <;> simp)) fun gd k hk => ?_
   rw [strip_tgt] at hk
   rw [hk] at h
   exact h k (by simp)
 | const v => exact same_const v
 | func f => exact same_func f
 | global g => exact same_global g
theorem puts_get_congr : ∀ (ws : List Wr) {ρ ρ' : Env} {t : Nat}, ρ'.get t = ρ.get t → (ρ'.puts ws).get t = (ρ.puts ws).get t
 | [], _, _, _, h => h
 | w :: r, ρ, ρ', t, h => puts_get_congr r (by rw [Env.get_put, Env.get_put, h])
def foldE : List Tr → (Nat → Bool) → Nat → Env → Env
 | [], _, _, ρ => ρ
 | t :: r, L, k, ρ => foldE r L (k + 1) (if L k = true then ρ.puts t.ws else ρ)
theorem foldE_get {t : Nat} {L L' : Nat → Bool} : ∀ (T : List Tr) (k : Nat) {ρ ρ' : Env}, (∀ i x, T[i]? = some x → (∃ w ∈ x.ws, w.slot = t) → L' (k + i) = L (k + i)) → ρ'.get t = ρ.get t →
   (foldE T L' k ρ').get t = (foldE T L k ρ).get t
 | [], _, _, _, _, h => h
 | x :: r, k, ρ, ρ', hL, h => by
   refine foldE_get r (k + 1) (fun i y hi hw => by have := hL (i + 1) y (by simpa using hi) hw; rwa [← Nat.add_assoc, Nat.add_right_comm] at this) ?_
   by_cases hw : ∃ w ∈ x.ws, w.slot = t
   · have := hL 0 x rfl hw
     rw [Nat.add_zero] at this
     rw [this]
     split
     · exact puts_get_congr _ h
     · exact h
   · have hne : ∀ w ∈ x.ws, w.slot ≠ t := fun w hm e => hw ⟨w, hm, e⟩
     have e1 : ∀ (b : Bool) (σ : Env), (if b = true then σ.puts x.ws else σ).get t = σ.get t := fun b σ => by
       split
       · exact Env.puts_other x.ws σ t hne
       · rfl
     rw [e1, e1]; exact h
theorem foldE_skip {t : Nat} {L : Nat → Bool} : ∀ (T : List Tr) (k : Nat) {ρ : Env}, (∀ i x, T[i]? = some x → L (k + i) = true → ∀ w ∈ x.ws, w.slot ≠ t) → (foldE T L k ρ).get t = ρ.get t
 | [], _, _, _ => rfl
 | x :: r, k, ρ, h => by
   have ih := foldE_skip (L := L) r (k + 1) (ρ := if L k = true then ρ.puts x.ws else ρ) (fun i y hi hl => h (i + 1) y (by simpa using hi) (by rwa [← Nat.add_assoc, Nat.add_right_comm]))
   show (foldE r L (k + 1) _).get t = _
   rw [ih]
   split
   · rename_i hl
     exact Env.puts_other x.ws ρ t (h 0 x rfl (by rwa [Nat.add_zero]))
   · rfl
theorem foldE_add {L : Nat → Bool} {x : Tr} {m : Nat} (t : Nat) : ∀ (T : List Tr) (k : Nat) (ρ : Env), T[m]? = some x → L (k + m) = false →
   (∀ j y, T[j]? = some y → m < j → L (k + j) = true → ∀ w ∈ y.ws, ∀ w' ∈ x.ws, w.slot ≠ w'.slot) →
   (foldE T (fun j => L j || j == k + m) k ρ).get t = ((foldE T L k ρ).puts x.ws).get t := by
 induction m with
 | zero =>
   intro T k ρ hx hL hlate
   cases T with
   | nil => simp at hx
   | cons y r =>
     simp at hx
     subst hx
     rw [Nat.add_zero] at hL
     have e1 : foldE (y :: r) (fun j => L j || j == k + 0) k ρ = foldE r (fun j => L j || j == k + 0) (k + 1) (ρ.puts y.ws) := by simp [foldE]
     have e2 : foldE (y :: r) L k ρ = foldE r L (k + 1) ρ := by simp [foldE, hL]
     rw [e1, e2]
     by_cases hw : ∃ w ∈ y.ws, w.slot = t
     · obtain ⟨w, hw1, hw2⟩ := hw
       have hsk : ∀ i z, r[i]? = some z → L (k + 1 + i) = true → ∀ u ∈ z.ws, u.slot ≠ t := fun i z hi hl u hu e =>
         hlate (i + 1) z (by simpa using hi) (by omega) (by rwa [← Nat.add_assoc, Nat.add_right_comm]) u hu w hw1 (by rw [e, hw2])
       rw [foldE_skip r (k + 1) (fun i z hi hl => hsk i z hi (by
         have : (k + 1 + i == k + 0) = false := by simp; omega
         rwa [this, Bool.or_false] at hl))]
       exact puts_get_congr y.ws (foldE_skip r (k + 1) hsk).symm
     · have hne : ∀ w ∈ y.ws, w.slot ≠ t := fun w hm e => hw ⟨w, hm, e⟩
       rw [Env.puts_other y.ws _ t hne]
       refine foldE_get r (k + 1) (fun i z _ _ => ?_) (Env.puts_other y.ws ρ t hne)
       have : (k + 1 + i == k + 0) = false := by simp; omega
       rw [this, Bool.or_false]
 | succ m ih =>
   intro T k ρ hx hL hlate
   cases T with
   | nil => simp at hx
   | cons y r =>
     have hk : (k == k + (m + 1)) = false := by simp
     have := ih r (k + 1) (if L k = true then ρ.puts y.ws else ρ) (by simpa using hx) (by rwa [Nat.add_right_comm, Nat.add_assoc]) (fun j z hj hlt hl => hlate (j + 1) z (by simpa using hj) (by omega) (by rwa [← Nat.add_assoc, Nat.add_right_comm]))
     have hsame : k + 1 + m = k + (m + 1) := by omega
     rw [hsame] at this
     show (foldE r _ (k + 1) (if (L k || k == k + (m + 1)) = true then ρ.puts y.ws else ρ)).get t = _
     rw [hk, Bool.or_false]
     exact this
theorem mask_fold {acc : List Nat} {i : Nat} : ∀ (l : List Edge) (s : Nat), (l.foldl (fun s e => if Region.binds .any e = true then s ||| 2 ^ e.on ||| acc.getD e.on 0 else s) s).testBit i = true →
   s.testBit i = true ∨ ∃ e ∈ l, Region.binds .any e = true ∧ (e.on = i ∨ (acc.getD e.on 0).testBit i = true)
 | [], s, h => .inl h
 | e :: l, s, h => by
   rcases mask_fold l _ h with h | ⟨e', h1, h2⟩
   · simp only at h
     split at h
     · rename_i hb
       rw [Nat.testBit_or, Nat.testBit_or, Nat.testBit_two_pow] at h
       simp only [Bool.or_eq_true, decide_eq_true_eq] at h
       rcases h with (h | h) | h
       · exact .inl h
       · exact .inr ⟨e, by simp, hb, .inl h⟩
       · exact .inr ⟨e, by simp, hb, .inr h⟩
     · exact .inl h
   · exact .inr ⟨e', by simp [h1], h2⟩
theorem masks_pre : ∀ (ops : List Oper) (acc : List Nat), ∃ r, masks ops acc = acc ++ r ∧ r.length = ops.length
 | [], acc => ⟨[], by simp [masks], rfl⟩
 | o :: ops, acc => by
   obtain ⟨r, h1, h2⟩ := masks_pre ops (acc ++ [maskOf acc o])
   exact ⟨maskOf acc o :: r, by simp [masks, h1], by simp [h2]⟩
theorem masks_at : ∀ (ops : List Oper) (acc : List Nat) (j : Nat) (o : Oper), ops[j]? = some o →
   ∃ pre, pre.length = acc.length + j ∧ (∃ r, masks ops acc = pre ++ r) ∧ (masks ops acc).getD (acc.length + j) 0 = maskOf pre o
 | [], _, _, _, h => by simp at h
 | o' :: ops, acc, 0, o, h => by
   simp at h; subst h
   obtain ⟨r, h1, _⟩ := masks_pre ops (acc ++ [maskOf acc o'])
   refine ⟨acc, rfl, ⟨maskOf acc o' :: r, by simp [masks, h1]⟩, ?_⟩
   simp [masks, h1]
 | o' :: ops, acc, j + 1, o, h => by
   obtain ⟨pre, h1, h2, h3⟩ := masks_at ops (acc ++ [maskOf acc o']) j o (by simpa using h)
   refine ⟨pre, by rw [h1]; simp; omega, h2, ?_⟩
   rw [← h3]
   simp [masks]
   congr 2; omega
theorem edges_lt : ∀ (ops : List Oper) (k j : Nat) (o : Oper), edgesOk k ops = true → ops[j]? = some o → ∀ e ∈ o.after.toList, Region.binds .any e = true → e.on < k + j
 | [], _, _, _, _, h => by simp at h
 | o' :: ops, k, 0, o, hE, h => by
   simp at h; subst h
   intro e he hb
   simp only [edgesOk, Bool.and_eq_true] at hE
   have := List.all_eq_true.1 hE.1 e he
   simpa [hb] using this
 | o' :: ops, k, j + 1, o, hE, h => by
   intro e he hb
   simp only [edgesOk, Bool.and_eq_true] at hE
   have := edges_lt ops (k + 1) j o hE.2 (by simpa using h) e he hb
   omega
theorem mask_anc {ops : List Oper} (hE : edgesOk 0 ops = true) {L : Nat → Bool}
   (hc : ∀ j o, ops[j]? = some o → L j = true → ∀ e ∈ o.after.toList, Region.binds .any e = true → L e.on = true) :
   ∀ (N j : Nat) (o : Oper), j < N → ops[j]? = some o → (∀ e ∈ o.after.toList, Region.binds .any e = true → L e.on = true) → ∀ i, ((masks ops []).getD j 0).testBit i = true → L i = true
 | 0, j, o, h, _, _, _, _ => by omega
 | N + 1, j, o, hN, ho, hd, i, hi => by
   obtain ⟨pre, h1, ⟨r, h2⟩, h3⟩ := masks_at ops [] j o ho
   simp only [List.length_nil, Nat.zero_add] at h1 h3
   rw [h3] at hi
   rcases mask_fold _ _ hi with h | ⟨e, he, hb, h⟩
   · simp at h
   · rcases h with rfl | h
     · exact hd e he hb
     · have hlt := edges_lt ops 0 j o hE ho e he hb
       rw [Nat.zero_add] at hlt
       have hj := (List.getElem?_eq_some_iff.1 ho).1
       have ho' : ops[e.on]? = some ops[e.on] := List.getElem?_eq_getElem (by omega)
       have heq : (masks ops []).getD e.on 0 = pre.getD e.on 0 := by
         rw [h2, List.getD_eq_getElem?_getD, List.getD_eq_getElem?_getD, List.getElem?_append_left (by omega)]
       exact mask_anc hE hc N e.on _ (by omega) ho' (hc e.on _ ho' (hd e he hb)) i (by rw [heq]; exact h)
end Fw
namespace Fw
open Go
def Agree (ρ ρ' : Env) (x : Operand) : Prop := ∀ t ∈ opdReads ρ x, ρ'.get t = ρ.get t
theorem froz_tgt {a a' : A} (ha : froz a = some a') : a'.tgt = none := by
 unfold froz at ha
 split at ha
 · split at ha
   · simp only [Option.some.injEq] at ha; subst ha; rfl
   · cases ha
 · split at ha
   · simp only [Option.some.injEq] at ha; subst ha; rfl
   · cases ha
 · cases ha
theorem tkTp_congr {R : Type} (j i : Nat) (e : Ent) (k k' : (s : Sh) → El s.ty → List Wr → Option R) (h : ∀ s x ws, (∀ w ∈ ws, w.a.tgt = none) → k s x ws = k' s x ws) : tkTp j i e k = tkTp j i e k' := by
 unfold tkTp
 split
 · split
   · exact h _ _ _ (by simp [A.tgt])
   · rfl
 · rfl
theorem tkCut_congr {R : Type} (j off : Nat) (t : Ty) (e : Ent) (k k' : (s : Sh) → El s.ty → List Wr → Option R) (h : ∀ s x ws, (∀ w ∈ ws, w.a.tgt = none) → k s x ws = k' s x ws) : tkCut j off t e k = tkCut j off t e k' := by
 unfold tkCut
 split
 · congr 1
   funext s' y s2 x2
   split
   · exact h _ _ _ (by simp [A.tgt])
   · rfl
 · congr 1
   funext s' y s2 x2
   split
   · exact h _ _ _ (by simp [A.tgt])
   · rfl
 · rfl
theorem tk_congr {R : Type} (o : Opd) (k k' : (s : Sh) → El s.ty → List Wr → Option R) (h : ∀ s x ws, (∀ w ∈ ws, w.a.tgt = none) → k s x ws = k' s x ws) : tk o k = tk o k' := by
 unfold tk
 split
 · rename_i s x _
   split
   · exact h s x [] (by simp)
   · split
     · exact h _ _ _ (by simp [A.tgt])
     · rfl
 · split
   · split
     · exact tkTp_congr _ _ _ _ _ h
     · cases hf : froz o.tgt.a with
       | none => rfl
       | some a' =>
         refine h _ _ _ ?_
         intro w hw
         rw [List.mem_singleton.1 hw]
         exact froz_tgt hf
   · rfl
 · rfl
theorem agree_opd {ρ ρ' : Env} {x : Operand} (h : Agree ρ ρ' x) (gd : Gd) : opd ρ' gd x = opd ρ gd x := same_reads h gd
theorem puts_ent (ws : List Wr) : ∀ (ρ : Env) (t : Nat), (∀ w ∈ ws, w.a.tgt = none) → ((ρ.puts ws).get t = ρ.get t ∨ ((ρ.puts ws).get t).a.tgt = none) := by
 induction ws with
 | nil => intro ρ t _; exact .inl rfl
 | cons w r ih =>
   intro ρ t h
   rcases ih (ρ.put w) t (fun w' hw => h w' (by simp [hw])) with h1 | h1
   · show ((ρ.put w).puts r).get t = _ ∨ (((ρ.put w).puts r).get t).a.tgt = none
     rw [h1, Env.get_put]
     split
     · right
       have := h w (by simp)
       split <;> exact this
     · exact .inl rfl
   · exact .inr h1
theorem agree_puts {ρ ρ' : Env} {x : Operand} {ws : List Wr} (hw : ∀ w ∈ ws, w.a.tgt = none) (h : Agree ρ ρ' x) : Agree (ρ.puts ws) (ρ'.puts ws) x := by
 intro t ht
 cases x with
 | tmp s =>
   simp only [opdReads] at ht
   have hs : ρ'.get s = ρ.get s := h s (by simp only [opdReads]; split <;> simp)
   have hin : ∀ u, ρ'.get u = ρ.get u → (ρ'.puts ws).get u = (ρ.puts ws).get u := fun u e => puts_get_congr ws e
   rcases puts_ent ws ρ s hw with e | e
   · rw [e] at ht
     exact hin t (h t ht)
   · rw [e] at ht
     simp only [List.mem_singleton] at ht
     subst ht; exact hin _ hs
 | const _ => simp [opdReads] at ht
 | func _ => simp [opdReads] at ht
 | global _ => simp [opdReads] at ht
theorem look_mem2 {α : Type} : ∀ (l : List (Nat × α)) (i : Nat) (o : α), look l i = some o → (i, o) ∈ l
 | (k, a) :: r, i, o, h => by
   unfold look at h
   split at h
   · rename_i e; simp only [Option.some.injEq] at h; subst h; subst e; simp
   · exact List.mem_cons_of_mem _ (look_mem2 r i o h)
 | [], _, _, h => by simp [look] at h
theorem buildK_congr {R : Type} : ∀ (fl : List (Nat × Ty)) (i : Nat) (gd : Gd) (ρ ρ' : Env) (ps : List (Nat × Operand)) (k : (s : Sh) → El s.ty → List Wr → Option R),
   (∀ p ∈ ps, Agree ρ ρ' p.2) → buildK fl i gd ρ' ps k = buildK fl i gd ρ ps k
 | [], _, _, _, _, _, _, _ => rfl
 | [(_, t)], i, gd, ρ, ρ', ps, k, h => by
   unfold buildK
   split
   · rename_i o ho
     rw [agree_opd (h _ (look_mem2 ps i o ho)) gd]
   · rfl
 | (_, t) :: f :: r, i, gd, ρ, ρ', ps, k, h => by
   unfold buildK
   split
   · rename_i o ho
     rw [agree_opd (h _ (look_mem2 ps i o ho)) gd]
     refine tk_congr _ _ _ fun s x ws hw => ?_
     split
     · rw [buildK_congr (f :: r) (i + 1) (nextG gd ws) (ρ.puts ws) (ρ'.puts ws) ps _ fun p hp => agree_puts hw (h p hp)]
     · rfl
   · congr 1
     funext s x
     rw [buildK_congr (f :: r) (i + 1) gd ρ ρ' ps _ h]
theorem tkOwn_congr {R : Type} (o : Opd) (k k' : (s : Sh) → El s.ty → List Wr → Option R) (h : ∀ s x ws, (∀ w ∈ ws, w.a.tgt = none) → k s x ws = k' s x ws) : tkOwn o k = tkOwn o k' := by
 unfold tkOwn
 split
 · split
   · exact tkCut_congr _ _ _ _ _ _ h
   · rfl
 · split
   · exact tkTp_congr _ _ _ _ _ h
   · rfl
 · split
   · exact h _ _ [] (by simp)
   · split
     · exact h _ _ _ (by simp [A.tgt])
     · rfl
 · rfl
theorem elemsK_congr {R : Type} (s : Sh) : ∀ (ps : List (Nat × Operand)) (gd : Gd) (ρ ρ' : Env) (i : Nat) (k : List (El s.ty) → List Wr → Option R),
   (∀ p ∈ ps, Agree ρ ρ' p.2) → elemsK s gd ρ' ps i k = elemsK s gd ρ ps i k
 | [], _, _, _, _, _, _ => rfl
 | (j, o) :: r, gd, ρ, ρ', i, k, h => by
   unfold elemsK
   split
   · rw [agree_opd (h (j, o) (by simp)) gd]
     unfold tkEl
     have ih := fun (ws : List Wr) (hw : ∀ w ∈ ws, w.a.tgt = none) k => elemsK_congr (R := R) s r (nextG gd ws) (ρ.puts ws) (ρ'.puts ws) (i + 1) k fun p hp => agree_puts hw (h p (by simp [hp]))
     split
     · unfold tkAs
       refine tk_congr _ _ _ fun s' x ws hw => ?_
       split
       · split
         · congr 1; funext y; exact ih ws hw _
         · split
           · congr 1; funext y; exact ih ws hw _
           · rfl
       · rfl
     · refine tkOwn_congr _ _ _ fun s' x ws hw => ?_
       split
       · split
         · congr 1; funext y; exact ih ws hw _
         · rfl
       · rfl
   · rfl
theorem arrK_congr {R : Type} (e : Ty) (gd : Gd) (ρ ρ' : Env) (ps : List (Nat × Operand)) (h : ∀ p ∈ ps, Agree ρ ρ' p.2) : ∀ (n i : Nat) (k : List (El e) → Option R),
   arrK e gd ρ' n i ps k = arrK e gd ρ n i ps k
 | 0, _, _ => rfl
 | n + 1, i, k => by
   unfold arrK
   split
   · rename_i o ho
     rw [agree_opd (h _ (look_mem2 ps i o ho)) gd]
     congr 1; funext x; exact arrK_congr e gd ρ ρ' ps h n (i + 1) _
   · exact arrK_congr e gd ρ ρ' ps h n (i + 1) _
theorem elemSh_congr (e : Ty) (gd : Gd) (ρ ρ' : Env) (ps : List (Nat × Operand)) (h : ∀ p ∈ ps, Agree ρ ρ' p.2) : elemSh e gd ρ' ps = elemSh e gd ρ ps := by
 cases ps with
 | nil => rfl
 | cons p r =>
   obtain ⟨i, o⟩ := p
   have e : opd ρ' gd o = opd ρ gd o := agree_opd (h (i, o) (by simp)) gd
   unfold elemSh
   simp only [e]
theorem agree_tgt {ρ ρ' : Env} {x : Operand} {gd : Gd} (h : Agree ρ ρ' x) {k : Nat} (hk : (opd ρ gd x).a.tgt = some k) : ρ'.get k = ρ.get k := by
 cases x with
 | tmp t =>
   have hk : ((ρ.get t).a.stripG gd).tgt = some k := hk
   rw [strip_tgt] at hk
   exact h k (by simp only [opdReads, hk]; simp)
 | const v => rw [show (opd ρ gd (.const v)).a = ofConst v from rfl, ofConst_tgt] at hk; cases hk
 | func f => cases hk
 | global f => cases hk
theorem exAppA_congr {E : Ty} {d : Nat} {gd : Gd} {ρ ρ' : Env} {a b : Operand} (ha : Agree ρ ρ' a) (hb : Agree ρ ρ' b) : exAppA E d gd ρ' a b = exAppA E d gd ρ a b := by
 unfold exAppA
 rw [agree_opd ha gd]
 refine tkOwn_congr _ _ _ fun s x' ws hw => ?_
 have hb' := agree_puts hw hb
 rw [agree_opd hb' (nextG gd ws)]
 split
 · congr 1
   cases hq : (opd (ρ.puts ws) (nextG gd ws) b).a with
   | bor k g ver t y org bx =>
     have := agree_tgt (gd := nextG gd ws) hb' (k := k) (by rw [hq]; rfl)
     cases t <;> cases org <;> cases bx <;> first | rfl | simp only [this]
   | _ => rfl
 · rfl
theorem exAppB_congr {E : Ty} {d : Nat} {gd : Gd} {ρ ρ' : Env} {a b : Operand} (ha : Agree ρ ρ' a) (hb : Agree ρ ρ' b) : exAppB E d gd ρ' a b = exAppB E d gd ρ a b := by
 unfold exAppB
 rw [agree_opd ha gd]
 cases hq : (opd ρ gd a).a with
 | br k g ver off n1 s ys =>
   cases hs : (opd ρ gd a).slot with
   | none => rfl
   | some j =>
     have hk := agree_tgt (gd := gd) ha (k := k) (by rw [hq]; rfl)
     have hb' := agree_puts (ws := [w1 j .junk]) (by simp [w1, A.tgt]) hb
     have hk' : (ρ'.puts [w1 j .junk]).get k = (ρ.puts [w1 j .junk]).get k := puts_get_congr _ hk
     simp only [hk, hk', agree_opd hb' (nextG gd [w1 j .junk])]
     cases hq2 : (opd (ρ.puts [w1 j .junk]) (nextG gd [w1 j .junk]) b).a with
     | bor k2 g2 ver2 t2 y2 org2 bx =>
       have := agree_tgt (gd := nextG gd [w1 j .junk]) hb' (k := k2) (by rw [hq2]; rfl)
       cases t2 <;> cases org2 <;> cases bx <;> first | rfl | simp only [this]
     | _ => rfl
 | _ => rfl
theorem exAppD_congr {E : Ty} {d : Nat} {gd : Gd} {ρ ρ' : Env} {a b : Operand} (ha : Agree ρ ρ' a) (hb : Agree ρ ρ' b) : exAppD E d gd ρ' a b = exAppD E d gd ρ a b := by
 unfold exAppD
 rw [agree_opd ha gd, agree_opd hb gd]
 cases hq : (opd ρ gd a).a with
 | bor k g ver t y org bx =>
   have := agree_tgt (gd := gd) ha (k := k) (by rw [hq]; rfl)
   cases t <;> cases org <;> cases bx <;> first | rfl | skip
   cases hq2 : (opd ρ gd b).a with
   | bor k2 g2 ver2 t2 y2 org2 bx2 => cases t2 <;> cases org2 <;> cases bx2 <;> first | rfl | simp only [this]
   | _ => rfl
 | _ => rfl
theorem exAppend_congr {C : Ctx} {t : TypeId} {d : Nat} {gd : Gd} {ρ ρ' : Env} {a b : Operand} (ha : Agree ρ ρ' a) (hb : Agree ρ ρ' b) : exAppend C t d gd ρ' a b = exAppend C t d gd ρ a b := by
 unfold exAppend
 split
 · rw [agree_opd ha gd]
   refine tkOwn_congr _ _ _ fun s x' ws hw => ?_
   rw [agree_opd (agree_puts hw hb) _]
 · rfl
theorem appX_congr {C : Ctx} {t : TypeId} {d : Nat} {gd : Gd} {ρ ρ' : Env} {a b : Operand} (ha : Agree ρ ρ' a) (hb : Agree ρ ρ' b) : appX C t d gd ρ' a b = appX C t d gd ρ a b := by
 unfold appX
 rw [agree_opd ha gd, agree_opd hb gd]
 cases C.ty t with
 | none => rfl
 | some T => cases T <;> first | rfl | simp only [exAppend_congr ha hb, exAppA_congr ha hb, exAppB_congr ha hb, exAppD_congr ha hb]
theorem ex_agree {C : Ctx} {gd : Gd} {ρ ρ' : Env} {o : Oper} (h : ∀ x ∈ o.op.operands.toList, Agree ρ ρ' x) : ex C gd ρ' o = ex C gd ρ o := by
 by_cases hb : notBuild o.op = true
 · exact ex_congr hb fun x hx => same_reads (h x hx)
 · obtain ⟨dst, op, type, pos, after, guard⟩ := o
   simp only at h hb
   cases op with
   | build t ps =>
     have hp : ∀ p ∈ ps.toList, Agree ρ ρ' p.2 := fun p hp => h p.2 (by simp [Op.operands]; exact ⟨p.1, by simpa using hp⟩)
     unfold ex exAt
     cases dst with
     | none => rfl
     | some d =>
       simp only [exBuild]
       split
       · split
         · split
           · split
             · rw [buildK_congr _ _ _ ρ ρ' _ _ hp]
             · rfl
           · rfl
         · split
           · rw [arrK_congr _ _ ρ ρ' _ hp]
           · rfl
         · rfl
       · rfl
   | buildSlice t l ps =>
     have hp : ∀ p ∈ ps.toList, Agree ρ ρ' p.2 := fun p hp => h p.2 (by simp [Op.operands]; exact ⟨p.1, by simpa using hp⟩)
     unfold ex exAt
     cases dst with
     | none => rfl
     | some d =>
       simp only [exBuildSlice]
       split
       · split
         · rw [elemSh_congr _ _ ρ ρ' _ hp]
           split
           · rw [elemsK_congr _ _ _ ρ ρ' _ _ hp]
           · rfl
         · rfl
       · rfl
   | call c =>
     obtain ⟨callee, args, tys⟩ := c
     have hx : ∀ x ∈ args.toList, Agree ρ ρ' x := fun x hx => h x (by simp [Op.operands, Call.operands]; right; simpa using hx)
     cases callee with
     | builtin b =>
       cases b with
       | append =>
         unfold ex exAt
         cases dst with
         | none => rfl
         | some d =>
           simp only
           split
           · split
             · rename_i x y t u ha ht
               split
               · exact appX_congr (hx x (by simp [ha])) (hx y (by simp [ha]))
               · rfl
             · rfl
           · rfl
       | _ => simp [notBuild] at hb
     | _ => simp [notBuild] at hb
   | _ => simp [notBuild] at hb
theorem step_agree {C : Ctx} {ops : List Oper} {ρ ρ' : Env} {o : Oper} (h : ∀ t ∈ readsOf ops ρ o, ρ'.get t = ρ.get t) : step C ops ρ' o = step C ops ρ o := by
 have hs : ∀ x ∈ o.op.operands.toList, Agree ρ ρ' x := fun x hx t ht => h t (by
   unfold readsOf
   rw [List.mem_append]
   exact .inr (List.mem_flatMap.2 ⟨x, hx, ht⟩))
 unfold step
 cases hg : o.guard with
 | none => exact ex_agree hs
 | some q =>
   obtain ⟨j, b⟩ := q
   simp only
   cases hd : dstOf ops j with
   | none => rfl
   | some s =>
     have hr : ∀ t ∈ s :: condReads (ρ.get s).a, ρ'.get t = ρ.get t := fun t ht => h t (by
       unfold readsOf
       rw [hg]
       simp only [hd]
       rw [List.mem_append]
       exact .inl ht)
     have h0 := hr s (by simp)
     have hc : coreB ρ' (ρ.get s).a = coreB ρ (ρ.get s).a := by
       cases ha : (ρ.get s).a with
       | cond s' g ver w a =>
         rw [ha] at hr
         have := hr s' (by simp [condReads])
         simp only [coreB, this]
       | c s x => cases s <;> first | rfl | (rename_i t; cases t <;> rfl)
       | _ => rfl
     simp only [h0, hc, ex_agree hs]
theorem trace_at {C : Ctx} {ops : List Oper} : ∀ (l : List Oper) (ρ ρ2 : Env) (T : List Tr), trace C ops l ρ = some (T, ρ2) →
   T.length = l.length ∧ ∀ (k : Nat), foldE T (fun _ => true) k ρ = ρ2 ∧ ∀ (i : Nat) (o : Oper), l[i]? = some o → ∃ t, T[i]? = some t ∧
     step C ops (foldE T (fun j => decide (j < k + i)) k ρ) o = some (t.ws, t.cs) ∧ t.rd = readsOf ops (foldE T (fun j => decide (j < k + i)) k ρ) o
 | [], ρ, ρ2, T, h => by
   simp only [trace, Option.some.injEq, Prod.mk.injEq] at h
   obtain ⟨rfl, rfl⟩ := h
   exact ⟨rfl, fun k => ⟨rfl, fun i o h => by simp at h⟩⟩
 | o :: l, ρ, ρ2, T, h => by
   simp only [trace] at h
   split at h
   · rename_i ws cs hs
     rw [putsK_eq] at h
     split at h
     · rename_i T' ρ' ht
       simp only [Option.some.injEq, Prod.mk.injEq] at h
       obtain ⟨rfl, rfl⟩ := h
       obtain ⟨h1, h2⟩ := trace_at l _ _ _ ht
       refine ⟨by simp [h1], fun k => ⟨?_, fun i o' hi => ?_⟩⟩
       · simp only [foldE, if_true]; exact (h2 (k + 1)).1
       · have none_le : ∀ (T : List Tr) (m : Nat) (σ : Env), k ≤ m → foldE T (fun j => decide (j < k)) m σ = σ := by
           intro T
           induction T with
           | nil => intro m σ _; rfl
           | cons t r ih =>
             intro m σ hm
             simp only [foldE]
             rw [if_neg (by simp; omega)]
             exact ih (m + 1) σ (by omega)
         cases i with
         | zero =>
           simp at hi
           subst hi
           refine ⟨_, rfl, ?_⟩
           rw [Nat.add_zero, none_le _ k ρ (Nat.le_refl _)]
           exact ⟨hs, rfl⟩
         | succ i =>
           obtain ⟨t, g1, g2⟩ := (h2 (k + 1)).2 i o' (by simpa using hi)
           refine ⟨t, by simpa using g1, ?_⟩
           have e : foldE (⟨readsOf ops ρ o, ws, cs⟩ :: T') (fun j => decide (j < k + (i + 1))) k ρ = foldE T' (fun j => decide (j < k + 1 + i)) (k + 1) (ρ.puts ws) := by
             simp only [foldE]
             rw [if_pos (by simp)]
             congr 1
             funext j; congr 1; simp; omega
           rw [e]; exact g2
     · cases h
   · cases h
theorem rowOk_at {ms : List Nat} {i : Nat} {x : List Nat × List Nat} : ∀ (r : RW) (j k : Nat) (y : List Nat × List Nat), rowOk ms i x j r = true → r[k]? = some y → pairOk ms i (j + k) x y = true
 | [], _, _, _, _, h => by simp at h
 | z :: r, j, 0, y, h, hk => by
   simp only [rowOk, Bool.and_eq_true] at h
   simp at hk; subst hk; exact h.1
 | z :: r, j, k + 1, y, h, hk => by
   simp only [rowOk, Bool.and_eq_true] at h
   have := rowOk_at r (j + 1) k y h.2 (by simpa using hk)
   rwa [show j + (k + 1) = j + 1 + k by omega]
theorem allOk_at {ms : List Nat} : ∀ (r : RW) (k i j : Nat) (x y : List Nat × List Nat), allOk ms k r = true → r[i]? = some x → r[j]? = some y → i < j → pairOk ms (k + i) (k + j) x y = true
 | [], _, _, _, _, _, _, h, _, _ => by simp at h
 | z :: r, k, 0, j + 1, x, y, h, hi, hj, _ => by
   simp only [allOk, Bool.and_eq_true] at h
   simp at hi; subst hi
   have := rowOk_at r (k + 1) j y h.1 (by simpa using hj)
   rwa [Nat.add_zero, show k + (j + 1) = k + 1 + j by omega]
 | z :: r, k, i + 1, j + 1, x, y, h, hi, hj, hlt => by
   simp only [allOk, Bool.and_eq_true] at h
   have := allOk_at r (k + 1) i j x y h.2 (by simpa using hi) (by simpa using hj) (by omega)
   rwa [show k + (i + 1) = k + 1 + i by omega, show k + (j + 1) = k + 1 + j by omega]
 | _, _, 0, 0, _, _, _, _, _, h => by omega
 | _, _, _ + 1, 0, _, _, _, _, _, h => by omega
theorem meets_of {a b : List Nat} {t : Nat} (ha : t ∈ a) (hb : t ∈ b) : meets a b = true := by
 unfold meets
 rw [List.any_eq_true]
 exact ⟨t, ha, List.any_eq_true.2 ⟨t, hb, by simp⟩⟩
section
variable {B : Nat} {X : List Nat} {w0 : World} {M0 : Mem} {P : Program} {C : Ctx}
theorem touch {ops : List Oper} {T : List Tr} (hok : anyOk ops T = true) {i j : Nat} {x y : Tr} (hi : T[i]? = some x) (hj : T[j]? = some y) (hlt : i < j) {t : Nat}
   (h : (t ∈ x.ws.map (·.slot) ∧ (t ∈ y.rd ∨ t ∈ y.ws.map (·.slot))) ∨ (t ∈ y.ws.map (·.slot) ∧ (t ∈ x.rd ∨ t ∈ x.ws.map (·.slot)))) :
   ((masks ops []).getD j 0).testBit i = true := by
 unfold anyOk at hok
 simp only [Bool.and_eq_true] at hok
 have hp := allOk_at (rwOf T) 0 i j (x.rd, x.ws.map (·.slot)) (y.rd, y.ws.map (·.slot)) hok.2 (by unfold rwOf; rw [List.getElem?_map, hi]; rfl) (by unfold rwOf; rw [List.getElem?_map, hj]; rfl) hlt
 rw [Nat.zero_add, Nat.zero_add] at hp
 unfold pairOk at hp
 simp only [Bool.or_eq_true, Bool.not_eq_true'] at hp
 rcases hp with hp | hp
 · exfalso
   rw [Bool.or_eq_false_iff] at hp
   rcases h with ⟨h1, h2⟩ | ⟨h1, h2⟩
   · rw [meets_of h1 (List.mem_append.2 h2)] at hp; cases hp.1
   · rw [meets_of h1 (List.mem_append.2 h2)] at hp; cases hp.2
 · exact hp
theorem any_ok (hC : CtxOk P C) (hF : ∀ f F, C.fn f = some F → Meets P f F) (hB : B ≤ w0.heap.size) {ops : Array Oper} {Q : Exit → Act → World → Prop} {df : List Deferred} {ρ ρ2 : Env} {T : List Tr}
   (ht : trace C ops.toList ops.toList ρ = some (T, ρ2)) (hok : anyOk ops.toList T = true) (hc : condsOf T)
   {b : Array Value} (hp : PinOk C.pins ops) (hQ : ∀ a' w', a'.defers = df → Pinned C.pins b a'.tmps → Sim C.n B X w0 M0 ρ2 a'.tmps w' → Q .normal a' w') :
   ∀ (fuel : Nat) (listed : Array Bool) (a : Act) (w : World), listed.size = ops.size → (listed.toList.filter (fun b => !b)).length = fuel →
     (∀ (j : Nat) (o : Oper), ops[j]? = some o → listed.getD j false = true → ∀ e ∈ o.after, Region.binds .any e = true → listed.getD e.on false = true) →
     a.defers = df → Pinned C.pins b a.tmps → Sim C.n B X w0 M0 (foldE T (fun j => listed.getD j false) 0 ρ) a.tmps w → wpAny P .any ops Q fuel listed a w := by
 obtain ⟨hlen, hat⟩ := trace_at ops.toList ρ ρ2 T ht
 obtain ⟨hall, hat⟩ := hat 0
 have hE : edgesOk 0 ops.toList = true := by unfold anyOk at hok; simp only [Bool.and_eq_true] at hok; exact hok.1
 have hcond : ∀ (i : Nat) (t : Tr), T[i]? = some t → ∀ p ∈ t.cs, p := by
   have key : ∀ (T : List Tr), condsOf T → ∀ (i : Nat) (t : Tr), T[i]? = some t → ∀ p ∈ t.cs, p := by
     intro T
     induction T with
     | nil => intro _ i t h; simp at h
     | cons x r ih =>
       intro h i t hi
       cases i with
       | zero => simp at hi; subst hi; exact h.1
       | succ i => exact ih h.2 i t (by simpa using hi)
   exact key T hc
 -- nothing ready: all are listed
 have done : ∀ (listed : Array Bool), listed.size = ops.size → Region.ready .any ops listed = [] → ∀ (N j : Nat), j < N → j < ops.size → listed.getD j false = true := by
   intro listed hsz hr N
   induction N with
   | zero => intro j h; omega
   | succ N ih =>
     intro j hj hlt
     cases hl : listed.getD j false with
     | true => rfl
     | false =>
       exfalso
       have ho : ops[j]? = some ops[j] := Array.getElem?_eq_getElem hlt
       have : j ∈ Region.ready .any ops listed := mem_ready.2 ⟨by
         rw [Array.getD_eq_getD_getElem?] at hl ⊢
         rw [Array.getElem?_eq_getElem (by omega)] at hl ⊢
         exact hl, ops[j], ho, fun e he hb => by
           have hlt' := edges_lt ops.toList 0 j ops[j] hE (by simp) e (by simpa using he) hb
           exact ih e.on (by omega) (by omega)⟩
       rw [hr] at this; simp at this
 have fin : ∀ (listed : Array Bool) (a : Act) (w : World), listed.size = ops.size → Region.ready .any ops listed = [] → a.defers = df → Pinned C.pins b a.tmps →
     Sim C.n B X w0 M0 (foldE T (fun j => listed.getD j false) 0 ρ) a.tmps w → Q .normal a w := by
   intro listed a w hsz hr hd hb ⟨M, ω, hS⟩
   refine hQ a w hd hb ⟨M, ω, hS.congr fun t => ?_⟩
   rw [← hall]
   refine foldE_get T 0 (fun i x hi _ => ?_) rfl
   have : i < T.length := (List.getElem?_eq_some_iff.1 hi).1
   have hi' : i < ops.size := by rw [hlen] at this; simpa using this
   rw [Nat.zero_add]
   exact (done listed hsz hr (i + 1) i (by omega) hi').symm
 intro fuel
 induction fuel with
 | zero =>
   intro listed a w hsz hcnt hcl hd hb hS
   have hr : Region.ready .any ops listed = [] := by
     rw [List.eq_nil_iff_forall_not_mem]
     intro j hj
     obtain ⟨h0, o, ho, _⟩ := mem_ready.1 hj
     have hlt := (Array.getElem?_eq_some_iff.1 ho).1
     have hm : listed[j]'(by omega) ∈ listed.toList.filter (fun b => !b) := by
       rw [List.mem_filter]
       refine ⟨by simp, ?_⟩
       rw [Array.getD_eq_getD_getElem?, Array.getElem?_eq_getElem (by omega)] at h0
       simp at h0; simp [h0]
     rw [List.length_eq_zero_iff.1 hcnt] at hm
     simp at hm
   exact ⟨hr, fin listed a w hsz hr hd hb hS⟩
 | succ fuel ih =>
   intro listed a w hsz hcnt hcl hd hb hS
   refine ⟨fun hr => fin listed a w hsz hr hd hb hS, fun i hi => ?_⟩
   obtain ⟨h0, o, ho, hedge⟩ := mem_ready.1 hi
   have hlt := (Array.getElem?_eq_some_iff.1 ho).1
   have hli : listed.getD i false = false := by
     rw [Array.getD_eq_getD_getElem?] at h0 ⊢
     rw [Array.getElem?_eq_getElem (by omega)] at h0 ⊢
     exact h0
   obtain ⟨x, hx, hst, hrd⟩ := hat i o (by simpa using ho)
   rw [Nat.zero_add] at hst hrd
   have hclL : ∀ j o, ops.toList[j]? = some o → (fun j => listed.getD j false) j = true → ∀ e ∈ o.after.toList, Region.binds .any e = true → (fun j => listed.getD j false) e.on = true :=
     fun j o hj hl e he hb => hcl j o (by simpa using hj) hl e (by simpa using he) hb
   have anc : ∀ (j : Nat) (oj : Oper), ops[j]? = some oj → (∀ e ∈ oj.after, Region.binds .any e = true → listed.getD e.on false = true) → ∀ k, ((masks ops.toList []).getD j 0).testBit k = true → listed.getD k false = true :=
     fun j oj hj hh k hk => mask_anc hE hclL (j + 1) j oj (by omega) (by simpa using hj) (fun e he hb => hh e (by simpa using he) hb) k hk
   have inops : ∀ (j : Nat) (y : Tr), T[j]? = some y → ∃ oj, ops[j]? = some oj := fun j y hy => by
     have : j < T.length := (List.getElem?_eq_some_iff.1 hy).1
     exact ⟨ops[j]'(by rw [hlen] at this; simpa using this), Array.getElem?_eq_getElem _⟩
   -- what it reads is as in the text's run
   have hread : ∀ t ∈ readsOf ops.toList (foldE T (fun j => decide (j < i)) 0 ρ) o, (foldE T (fun j => listed.getD j false) 0 ρ).get t = (foldE T (fun j => decide (j < i)) 0 ρ).get t := by
     intro t htr
     rw [← hrd] at htr
     refine foldE_get T 0 (fun j y hy ⟨wr, hw1, hw2⟩ => ?_) rfl
     rw [Nat.zero_add]
     have hm : t ∈ y.ws.map (·.slot) := List.mem_map.2 ⟨wr, hw1, hw2⟩
     rcases Nat.lt_trichotomy j i with hji | hji | hji
     · have hb := touch hok hy hx hji (.inl ⟨hm, .inl htr⟩)
       have := anc i o ho hedge j hb
       simp [this, hji]
     · subst hji; simp [hli]
     · have hb := touch hok hx hy hji (.inr ⟨hm, .inl htr⟩)
       obtain ⟨oj, hoj⟩ := inops j y hy
       have hn : listed.getD j false = false := by
         cases hl : listed.getD j false with
         | false => rfl
         | true =>
           have := anc j oj hoj (hcl j oj hoj hl) i hb
           rw [hli] at this; cases this
       simp only [hn]
       symm; simp; omega
   have hst' : step C ops.toList (foldE T (fun j => listed.getD j false) 0 ρ) o = some (x.ws, x.cs) := by rw [step_agree hread]; exact hst
   obtain ⟨M, ω, S⟩ := hS
   refine step_ok hC hF S hB ho hst' (hcond i x hx) fun a' w' hd' hv ⟨M', ω', S'⟩ => ?_
   refine ih _ a' w' (by simp [hsz]) ?_ ?_ (hd'.trans hd) (pin_put hp ho hv hb) ⟨M', ω', S'.congr fun t => ?_⟩
   · -- one fewer
     have hil : i < listed.toList.length := by simp; omega
     have hval : listed.toList[i] = false := by
       rw [Array.getD_eq_getD_getElem?, Array.getElem?_eq_getElem (by omega)] at hli
       simpa using hli
     rw [Array.toList_setIfInBounds]
     have key : ∀ (l : List Bool) (i : Nat) (h : i < l.length), l[i] = false → ((l.set i true).filter (fun b => !b)).length + 1 = (l.filter (fun b => !b)).length := by
       intro l
       induction l with
       | nil => intro i h; simp at h
       | cons b l ih =>
         intro i h hv
         cases i with
         | zero => simp at hv; subst hv; simp
         | succ i =>
           have := ih i (by simpa using h) (by simpa using hv)
           cases b <;> simp at this ⊢ <;> omega
     have := key listed.toList i hil hval
     omega
   · intro j oj hj hl e he hb
     by_cases hij : i = j
     · subst hij
       rw [hj] at ho
       simp only [Option.some.injEq] at ho
       subst ho
       exact getD_set_true (hedge e he hb)
     · rw [getD_set_ne false hij] at hl
       exact getD_set_true (hcl j oj hj hl e he hb)
   · -- the writes come last
     rw [← foldE_add (L := fun j => listed.getD j false) (x := x) (m := i) t T 0 ρ hx (by rw [Nat.zero_add]; exact hli) ?_]
     · congr 2
       funext j
       rw [Nat.zero_add]
       by_cases hij : i = j
       · subst hij
         simp only [beq_self_eq_true, Bool.or_true]
         rw [Array.getD_eq_getD_getElem?, Array.getElem?_setIfInBounds_self_of_lt (by omega)]
         rfl
       · rw [getD_set_ne false hij]
         have : (j == i) = false := by simp; omega
         rw [this, Bool.or_false]
     · intro j y hy hij hl wr hw1 wr' hw2 heq
       rw [Nat.zero_add] at hl
       obtain ⟨oj, hoj⟩ := inops j y hy
       have hb := touch hok hx hy hij (t := wr.slot) (.inr ⟨List.mem_map.2 ⟨wr, hw1, rfl⟩, .inr (List.mem_map.2 ⟨wr', hw2, heq.symm⟩)⟩)
       have := anc j oj hoj (hcl j oj hoj hl) i hb
       rw [hli] at this; cases this
theorem region_any (hm : P.follows .mixedOrders = true) (hC : CtxOk P C) (hF : ∀ f F, C.fn f = some F → Meets P f F) (hB : B ≤ w0.heap.size) {id : Nat} {ops : Array Oper} {Q : Exit → Act → World → Prop} {ρ ρ2 : Env} {T : List Tr}
   (h : trace C ops.toList ops.toList ρ = some (T, ρ2)) (hok : anyOk ops.toList T = true) (hc : condsOf T) {a : Act} {w : World} (hS : Sim C.n B X w0 M0 ρ a.tmps w)
   (hp : PinOk C.pins ops) (hQ : ∀ a' w', a'.defers = a.defers → Pinned C.pins a.tmps a'.tmps → Sim C.n B X w0 M0 ρ2 a'.tmps w' → Q .normal a' w') : (Code.region id ops true).wp P Q a w := by
 refine wp_region_any hm ?_
 obtain ⟨M, ω, S⟩ := hS
 refine any_ok hC hF hB h hok hc hp hQ ops.size _ a _ (by simp) ?_ ?_ rfl (fun _ _ => rfl) ⟨M, ω, (S.drawn _).congr fun t => ?_⟩
 · simp
 · intro j o _ hl
   rw [Array.getD_eq_getD_getElem?, Array.getElem?_replicate] at hl
   split at hl <;> cases hl
 · refine foldE_skip T 0 fun i x _ hl => ?_
   rw [Array.getD_eq_getD_getElem?, Array.getElem?_replicate] at hl
   split at hl <;> cases hl
end
end Fw
namespace Fw
open Go
def okRW (ops : List Oper) (rw : RW) : Bool := edgesOk 0 ops && allOk (masks ops []) 0 rw
def rdF {R : Type} : List Nat → (List Nat → R) → R
 | [], k => k []
 | x :: r, k => rdF r fun r' => k (x :: r')
theorem rdF_eq {R : Type} : ∀ (l : List Nat) (k : List Nat → R), rdF l k = k l
 | [], _ => rfl
 | x :: r, k => by simp only [rdF, rdF_eq r]
def runD {R : Type} (C : Ctx) (ops : List Oper) : List Oper → Env → (RW → List Prop → Env → Option R) → Option R
 | [], ρ, k => k [] [] ρ
 | o :: r, ρ, k =>
   match step C ops ρ o with
   | some (ws, cs) => putsK ρ ws fun ρ' => rdF (readsOf ops ρ o) fun rd => rdF (ws.map (·.slot)) fun sl => runD C ops r ρ' fun rw cs' ρ2 => appK cs cs' fun cs'' => k ((rd, sl) :: rw) cs'' ρ2
   | none => none
theorem runD_ok {R : Type} {C : Ctx} {ops : List Oper} : ∀ (l : List Oper) (ρ : Env) (k : RW → List Prop → Env → Option R) (r : R), runD C ops l ρ k = some r →
   ∃ T ρ2, trace C ops l ρ = some (T, ρ2) ∧ k (rwOf T) (condsL T) ρ2 = some r
 | [], ρ, k, r, h => ⟨[], ρ, rfl, h⟩
 | o :: l, ρ, k, r, h => by
   simp only [runD] at h
   split at h
   · rename_i ws cs hs
     rw [putsK_eq, rdF_eq, rdF_eq] at h
     obtain ⟨T, ρ2, h1, h2⟩ := runD_ok l _ _ r h
     rw [appK_eq] at h2
     refine ⟨⟨readsOf ops ρ o, ws, cs⟩ :: T, ρ2, ?_, h2⟩
     simp only [trace, hs, putsK_eq, h1]
   · cases h
section
variable {G : Cfg} {ρ : Env} {K : Exit → Env → Prop}
def regD (C : Ctx) (ops : List Oper) (ρ : Env) : Option (RW × List Prop × Env) :=
 if pinB C.pins ops = true then runD C ops ops ρ fun rw cs ρ2 => keepK C.keep C.keep ρ2 (fun ρ' => some (rw, cs, ρ')) else none
theorem Vc.regionD (hm : G.P.follows .mixedOrders = true) (hG : G.Ok) {id : Nat} {ops : Array Oper} {rw : RW} {cs : List Prop} {ρ2 : Env} (h : regD G.C ops.toList ρ = some (rw, cs, ρ2))
   (hok : okRW ops.toList rw = true) (hc : conj cs) (hK : K .normal ρ2) : Vc G (.region id ops true) ρ K := by
 intro a w hd hS
 unfold regD at h
 split at h
 case isFalse => cases h
 rename_i hpin
 obtain ⟨T, ρ', ht, h2⟩ := runD_ok _ _ _ _ h
 rw [keepK_eq] at h2
 simp only [Option.some.injEq, Prod.mk.injEq] at h2
 obtain ⟨rfl, rfl, rfl⟩ := h2
 exact region_any hm hG.ctx hG.fn hG.base ht hok (condsL_of T (conj_mem _ hc)) hS.1 (pinB_ok hpin) fun a' w' hd' hpn hS' => ⟨_, hK, hd'.trans hd, keep_ok _ hS', fun t ht => (hpn t ht).trans (hS.2 t ht)⟩
theorem CtxOk.late {P : Program} {C : Ctx} (h : CtxOk P C) (b : Bool) : CtxOk P { C with late := b } := ⟨h.eq, h.ty, h.flds, h.fnM, h.fnT, h.fnK⟩
end
end Fw
namespace Fw
open Go
section
variable {n B : Nat} {X : List Nat} {w0 : World} {M0 M : Mem} {ω : Own} {ρ : Env} {tmps : Array Value} {w : World}
theorem keep_ok0 (ks : List Nat) (S : St0 n B X w0 M0 M ω ρ tmps w) : St0 n B X w0 M0 M ω (keepE ks ks ρ) tmps w := by
 have hg := keepE_get ks ks ρ
 refine ⟨S.size, S.fr, S.m0, S.old, S.mem, S.dis, fun t ht => ?_, fun t ht => ?_⟩
 · rw [hg]
   split
   · simp only [S.high t ht]; rfl
   · rfl
 · rw [hg]
   split
   · simp only
     have hr := S.slots t ht
     generalize (ρ.get t).a = a at hr
     have hent : ∀ k, memb k ks = true → (((keepE ks ks ρ).get k).g = (ρ.get k).g ∧ ((keepE ks ks ρ).get k).ver = (ρ.get k).ver ∧ ((keepE ks ks ρ).get k).a = filt ks (ρ.get k).a) := by
       intro k hk
       rw [hg, if_pos (memb_mem hk)]
       exact ⟨rfl, rfl, rfl⟩
     have hpl : ∀ k cs, Place ω w k (ρ.get k).a (vl tmps k) cs → Place ω w k (filt ks (ρ.get k).a) (vl tmps k) cs := by
       intro k cs h
       cases h' : (ρ.get k).a <;> rw [h'] at h <;> first | exact h | exact h.elim
     cases a with
     | junk => exact trivial
     | c s x => exact hr
     | ptr k g off =>
       by_cases hk : memb k ks = true
       · have ef : filt ks (.ptr k g off) = .ptr k g off := by simp [filt, filtK, hk]
         rw [ef]
         obtain ⟨e1, e2, e3⟩ := hent k hk
         obtain ⟨h1, h2⟩ := hr
         exact ⟨⟨h1.1, by rw [e1]; exact h1.2⟩, fun h => h2 (by rw [← e1]; exact h)⟩
       · have ef : filt ks (.ptr k g off) = .junk := by simp [filt, filtK, hk]
         rw [ef]; exact trivial
     | bor k g ver u x org e =>
       by_cases hk : memb k ks = true
       · have ef : filt ks (.bor k g ver u x org e) = .bor k g ver u x org e := by simp [filt, filtK, hk]
         rw [ef]
         obtain ⟨e1, e2, e3⟩ := hent k hk
         obtain ⟨h1, h2⟩ := hr
         refine ⟨⟨h1.1, by rw [e1]; exact h1.2.1, by rw [e1, e2]; exact h1.2.2⟩, fun h => ?_⟩
         obtain ⟨cs, g1, g2, g3, g4⟩ := h2 ⟨by rw [← e1]; exact h.1, by rw [← e2]; exact h.2⟩
         refine ⟨cs, g1, g2, fun off ho => ?_, fun off et i eo he => by
           obtain ⟨pc, b, len, cap, row, q1, q⟩ := g4.1 off et i eo he
           exact ⟨pc, b, len, cap, row, by rw [e3]; exact hpl k pc q1, q⟩, by rw [e3]; exact g4.2.place (hpl k)⟩
         obtain ⟨pc, p1, p2⟩ := g3 off ho
         exact ⟨pc, by rw [e3]; exact hpl k pc p1, p2⟩
       · have ef : filt ks (.bor k g ver u x org e) = .junk := by simp [filt, filtK, hk]
         rw [ef]; exact trivial
     | elp k g ver off et i eo arr =>
       by_cases hk : memb k ks = true
       · have ef : filt ks (.elp k g ver off et i eo arr) = .elp k g ver off et i eo arr := by simp [filt, filtK, hk]
         rw [ef]
         obtain ⟨e1, e2, e3⟩ := hent k hk
         obtain ⟨h1, h2⟩ := hr
         refine ⟨⟨h1.1, by rw [e1]; exact h1.2.1, by rw [e1, e2]; exact h1.2.2⟩, fun h => ?_⟩
         have h3 := h2 ⟨by rw [← e1]; exact h.1, by rw [← e2]; exact h.2⟩
         unfold ElpR at *
         cases arr with
         | none =>
           simp only [Option.isSome_none, Bool.false_eq_true, if_false] at h3 ⊢
           obtain ⟨pc, k1, k2⟩ := h3
           exact ⟨pc, by rw [e3]; exact hpl k pc k1, k2⟩
         | some m => exact h3
       · have ef : filt ks (.elp k g ver off et i eo arr) = .junk := by simp [filt, filtK, hk]
         rw [ef]; exact trivial
     | al k g ag off =>
       by_cases hk : memb k ks = true
       · have ef : filt ks (.al k g ag off) = .al k g ag off := by simp [filt, filtK, hk]
         rw [ef]
         obtain ⟨e1, e2, e3⟩ := hent k hk
         obtain ⟨h1, b, cs, h2, h3, h4⟩ := hr
         exact ⟨⟨h1.1, by rw [e1]; exact h1.2⟩, b, cs, h2, h3, fun h => h4 (by rw [← e1]; exact h)⟩
       · have ef : filt ks (.al k g ag off) = .junk := by simp [filt, filtK, hk]
         rw [ef]; exact trivial
     | eptr u x off => exact hr
     | cond s g v b a => exact trivial
     | tup l => exact hr
     | fn f => exact hr
     | br _ _ _ _ _ _ _ => exact trivial
     | rb _ _ _ _ _ _ _ => exact trivial
     | clo f k g =>
       by_cases hk : memb k ks = true
       · have ef : filt ks (.clo f k g) = .clo f k g := by simp [filt, filtK, hk]
         rw [ef]
         obtain ⟨e1, e2, e3⟩ := hent k hk
         obtain ⟨h1, h2⟩ := hr
         exact ⟨⟨h1.1, by rw [e1]; exact h1.2⟩, fun h => h2 (by rw [← e1]; exact h)⟩
       · have ef : filt ks (.clo f k g) = .junk := by simp [filt, filtK, hk]
         rw [ef]; exact trivial
   · exact trivial
theorem put_front (S : St0 n B X w0 M0 M ω ρ tmps w) {s : Nat} {sh : Sh} {z : El sh.ty} (hs : s < n) (he : ρ.get s = noEnt) (ho : Owns M ω w s sh z (vl tmps s)) :
   St0 n B X w0 M0 M ω ((s, ⟨0, 0, .c sh z⟩) :: ρ) tmps w := by
 have hget : ∀ t, Env.get ((s, ⟨0, 0, .c sh z⟩) :: ρ) t = if s = t then ⟨0, 0, .c sh z⟩ else ρ.get t := fun t => rfl
 have hg : ∀ t, (Env.get ((s, ⟨0, 0, .c sh z⟩) :: ρ) t).g = (ρ.get t).g ∧ (Env.get ((s, ⟨0, 0, .c sh z⟩) :: ρ) t).ver = (ρ.get t).ver := by
   intro t
   rw [hget]
   split
   · rename_i e; subst e; rw [he]; exact ⟨rfl, rfl⟩
   · exact ⟨rfl, rfl⟩
 have hpl : ∀ k cs, Place ω w k (ρ.get k).a (vl tmps k) cs → Place ω w k (Env.get ((s, ⟨0, 0, .c sh z⟩) :: ρ) k).a (vl tmps k) cs := by
   intro k cs h
   rw [hget]
   split
   · rename_i e; subst e; rw [he] at h; exact h.elim
   · exact h
 refine ⟨S.size, S.fr, S.m0, S.old, S.mem, S.dis, fun t ht => ?_, fun t ht => ?_⟩
 · rw [hget, if_neg (by omega)]; exact S.high t ht
 · rw [hget]
   split
   · rename_i e; subst e; exact ho
   · have hr := S.slots t ht
     revert hr
     generalize (ρ.get t).a = a
     intro hr
     have key : ∀ a, Rel0 n M ω w ρ (fun t => tmps.getD t undef) t (tmps.getD t undef) a → Rel0 n M ω w ((s, ⟨0, 0, .c sh z⟩) :: ρ) (fun t => tmps.getD t undef) t (tmps.getD t undef) a := by
       intro a hr
       cases a with
       | ptr k g off => exact ⟨⟨hr.1.1, by rw [(hg k).1]; exact hr.1.2⟩, fun h => hr.2 (by rw [← (hg k).1]; exact h)⟩
       | clo f k g => exact ⟨⟨hr.1.1, by rw [(hg k).1]; exact hr.1.2⟩, fun h => hr.2 (by rw [← (hg k).1]; exact h)⟩
       | bor k g ver u x org e =>
         obtain ⟨h1, h2⟩ := hr
         refine ⟨⟨h1.1, by rw [(hg k).1]; exact h1.2.1, by rw [(hg k).1, (hg k).2]; exact h1.2.2⟩, fun h => ?_⟩
         obtain ⟨cs, g1, g2, g3, g4⟩ := h2 ⟨by rw [← (hg k).1]; exact h.1, by rw [← (hg k).2]; exact h.2⟩
         refine ⟨cs, g1, g2, fun off ho => ?_, fun off et i eo he => by
           obtain ⟨pc, b, len, cap, row, q1, q⟩ := g4.1 off et i eo he
           exact ⟨pc, b, len, cap, row, hpl k pc q1, q⟩, g4.2.place (hpl k)⟩
         obtain ⟨pc, p1, p2⟩ := g3 off ho
         exact ⟨pc, hpl k pc p1, p2⟩
       | elp k g ver off et i eo arr =>
         obtain ⟨h1, h2⟩ := hr
         refine ⟨⟨h1.1, by rw [(hg k).1]; exact h1.2.1, by rw [(hg k).1, (hg k).2]; exact h1.2.2⟩, fun h => ?_⟩
         have h3 := h2 ⟨by rw [← (hg k).1]; exact h.1, by rw [← (hg k).2]; exact h.2⟩
         unfold ElpR at *
         cases arr with
         | none =>
           simp only [Option.isSome_none, Bool.false_eq_true, if_false] at h3 ⊢
           obtain ⟨pc, k1, k2⟩ := h3
           exact ⟨pc, hpl k pc k1, k2⟩
         | some m => exact h3
       | al k g ag off =>
         obtain ⟨h1, b, cs, h2, h3, h4⟩ := hr
         exact ⟨⟨h1.1, by rw [(hg k).1]; exact h1.2⟩, b, cs, h2, h3, fun h => h4 (by rw [← (hg k).1]; exact h)⟩
       | br k g ver off n1 s' ys =>
         obtain ⟨h1, h2⟩ := hr
         refine ⟨⟨h1.1, by rw [(hg k).1]; exact h1.2.1, by rw [(hg k).1, (hg k).2]; exact h1.2.2⟩, fun h => ?_⟩
         obtain ⟨olds, news, bs, g1, g2, g3, g4⟩ := h2 ⟨by rw [← (hg k).1]; exact h.1, by rw [← (hg k).2]; exact h.2⟩
         refine ⟨olds, news, bs, g1, g2, ?_, g4⟩
         rcases g3 with g3 | ⟨pc, b, len, cap, row, q1, q⟩
         · exact .inl g3
         · exact .inr ⟨pc, b, len, cap, row, hpl k pc q1, q⟩
       | rb k g ver u x org e =>
         obtain ⟨b, v0, cs0, q1, q2, q3, q4, h1, h0, h2⟩ := hr
         refine ⟨b, v0, cs0, q1, q2, q3, q4, ⟨h1.1, by rw [(hg k).1]; exact h1.2.1, by rw [(hg k).1, (hg k).2]; exact h1.2.2⟩, by rw [(hg k).1]; exact h0, fun h => ?_⟩
         obtain ⟨cs, g1, g2, g3, g4⟩ := h2 ⟨by rw [← (hg k).1]; exact h.1, by rw [← (hg k).2]; exact h.2⟩
         refine ⟨cs, g1, g2, fun off ho => ?_, fun off et i eo he => by
           obtain ⟨pc, b, len, cap, row, q1, q⟩ := g4.1 off et i eo he
           exact ⟨pc, b, len, cap, row, hpl k pc q1, q⟩, g4.2.place (hpl k)⟩
         obtain ⟨pc, p1, p2⟩ := g3 off ho
         exact ⟨pc, hpl k pc p1, p2⟩
       | _ => exact hr
     cases a with
     | cond s' g ver b a =>
       obtain ⟨h1, h2⟩ := hr
       refine ⟨⟨h1.1, by rw [(hg s').1]; exact h1.2.1, by rw [(hg s').1, (hg s').2]; exact h1.2.2⟩, fun h => ?_⟩
       have h3 := h2 ⟨by rw [← (hg s').1]; exact h.1, by rw [← (hg s').2]; exact h.2⟩
       exact ⟨fun e => key a (h3.1 e), h3.2⟩
     | junk => exact trivial
     | c s' x => exact key (.c s' x) hr
     | ptr k g off => exact key (.ptr k g off) hr
     | bor k g ver u x org e => exact key (.bor k g ver u x org e) hr
     | elp k g ver off et i eo arr => exact key (.elp k g ver off et i eo arr) hr
     | eptr u x off => exact key (.eptr u x off) hr
     | al k g ag off => exact key (.al k g ag off) hr
     | tup l => exact key (.tup l) hr
     | fn f => exact key (.fn f) hr
     | br k g ver off n1 s ys => exact key (.br k g ver off n1 s ys) hr
     | rb k g ver u x org e => exact key (.rb k g ver u x org e) hr
     | clo f k g => exact key (.clo f k g) hr
abbrev LS := List (Nat × Bool × Sh)
@[reducible] def LV : LS → Type
 | [] => Unit
 | q :: r => El q.2.2.ty × LV r
def envL : (L : LS) → LV L → Env → Env
 | [], _, ρ => ρ
 | (s, true, sh) :: L, v, ρ => (s, ⟨0, 0, .c (.ref sh) v.1⟩) :: envL L v.2 ρ
 | (s, false, sh) :: L, v, ρ => (s, ⟨0, 0, .c sh v.1⟩) :: envL L v.2 ρ
def convA (r : Bool) (sh : Sh) (a : A) (k : El sh.ty → Prop) : Prop :=
 match r, a with
 | true, .c (.ref s') x => conv s' sh x k
 | true, _ => False
 | false, .c (.ref _) _ => False
 | false, .c s' x => conv s' sh x k
 | false, _ => False
def loopK : (L : LS) → Env → (LV L → Prop) → Prop
 | [], _, k => k ()
 | (s, r, sh) :: L, ρ, k => convA r sh (ρ.get s).a fun z => loopK L ρ fun v => k (z, v)
theorem convA_ok {r : Bool} {sh : Sh} {a : A} {k : El sh.ty → Prop} (h : convA r sh a k) {n t : Nat} {vals : Vl} {v : Value} (hr : Rel n M ω w ρ vals t v a) :
   ∃ z, k z ∧ Owns M ω w t (if r = true then .ref sh else sh) (cast (by cases r <;> rfl) z) v := by
 cases a with
 | c s x =>
   have hr : Owns M ω w t s x v := hr
   cases r with
   | true =>
     cases s with
     | ref s' =>
       have h : conv s' sh x k := h
       obtain ⟨z, h1, h2, h3⟩ := conv_ok (M := M) (R := rows w) s' sh x k h
       obtain ⟨cs, bs, g1, ⟨b, row, bss, g2, g3, g4, g5⟩, g6, g7⟩ := hr
       exact ⟨z, h1, cs, bs, g1, ⟨b, row, bss, g2, g3, g4, h3 row bss g5⟩, g6, g7⟩
     | _ => exact h.elim
   | false =>
     have h : conv s sh x k := by cases s <;> first | exact h | exact h.elim
     obtain ⟨z, h1, h2, h3⟩ := conv_ok (M := M) (R := rows w) s sh x k h
     obtain ⟨cs, bs, g1, g2, g3, g4⟩ := hr
     exact ⟨z, h1, cs, bs, by simp only [Bool.false_eq_true, if_false]; rw [← h2]; exact g1, h3 cs bs g2, g3, g4⟩
 | _ => cases r <;> exact h.elim
def noneOf (ks : List Nat) : LS → Bool
 | [] => true
 | q :: L => !(memb q.1 ks) && noneOf (q.1 :: ks) L
theorem loopK_ok (S : St0 n B X w0 M0 M ω ρ tmps w) : ∀ (L : LS) (ks : List Nat) (σ : Env) (k : LV L → Prop), noneOf ks L = true → loopK L ρ k →
   (∀ t, t ∉ ks → σ.get t = noEnt) → St0 n B X w0 M0 M ω σ tmps w → ∃ v, k v ∧ St0 n B X w0 M0 M ω (envL L v σ) tmps w
 | [], ks, σ, k, _, h, _, S' => ⟨(), h, S'⟩
 | (s, r, sh) :: L, ks, σ, k, hn, h, hks, S' => by
   simp only [noneOf, Bool.and_eq_true, Bool.not_eq_true'] at hn
   have hnot : ∀ {x : Nat} {l : List Nat}, memb x l = false → x ∉ l := fun hm hx => by rw [memb_of_mem hx] at hm; cases hm
   have hsn : s < n := by
     rcases Nat.lt_or_ge s n with h' | h'
     · exact h'
     · simp only [loopK] at h
       rw [S.high s h'] at h
       cases r <;> exact h.elim
   obtain ⟨z, h1, h2⟩ := convA_ok h (S.slots s hsn)
   -- the rest first
   obtain ⟨v, h3, S2⟩ := loopK_ok S L (s :: ks) σ _ hn.2 h1 (fun t ht => hks t (fun e => ht (List.mem_cons_of_mem _ e))) S'
   have hge : ∀ (L : LS) (ks : List Nat) (v : LV L), noneOf ks L = true → s ∈ ks → (envL L v σ).get s = σ.get s := by
     intro L
     induction L with
     | nil => intro ks v _ _; rfl
     | cons q L ih =>
       intro ks v hn hs
       obtain ⟨s', r', sh'⟩ := q
       simp only [noneOf, Bool.and_eq_true, Bool.not_eq_true'] at hn
       have hne : s' ≠ s := fun e => hnot hn.1 (e ▸ hs)
       have := ih (s' :: ks) v.2 hn.2 (List.mem_cons_of_mem _ hs)
       cases r' <;> (show (if s' = s then _ else Env.get (envL L v.2 σ) s) = _) <;> rw [if_neg hne] <;> exact this
   have he : (envL L v σ).get s = noEnt := by
     rw [hge L (s :: ks) v hn.2 (by simp)]
     exact hks s (hnot hn.1)
   refine ⟨(z, v), h3, ?_⟩
   cases r with
   | true => exact put_front (sh := .ref sh) (z := z) S2 hsn he h2
   | false => exact put_front (sh := sh) (z := z) S2 hsn he h2
end
section
variable {G : Cfg} {ρ : Env} {K : Exit → Env → Prop}
theorem Vc.loopF {c : Code} (L : LS) (F : List Nat) (I : LV L → Prop) (μ : LV L → Nat) (hn : noneOf F L = true) (h0 : loopK L ρ I)
   (round : ∀ v, I v → Vc G c (envL L v (keepE F F ρ)) (fun e ρ' => match e with
     | .normal => keepE F F ρ' = keepE F F ρ ∧ loopK L ρ' (fun v' => I v' ∧ μ v' < μ v)
     | e => K e ρ')) : Vc G (.loop c) ρ K := by
 have enter : ∀ {ρ' : Env} {k : LV L → Prop} {tmps : Array Value} {w : World}, G.Sim ρ' tmps w → loopK L ρ' k → ∃ v, k v ∧ G.Sim (envL L v (keepE F F ρ')) tmps w := by
   intro ρ' k tmps w ⟨⟨M, ω, S⟩, hpn⟩ h
   obtain ⟨v, h1, h2⟩ := loopK_ok S L F (keepE F F ρ') k hn h (fun t ht => by rw [keepE_get, if_neg ht]) (keep_ok0 F S)
   exact ⟨v, h1, ⟨M, ω, h2⟩, hpn⟩
 intro a w hd hS
 obtain ⟨v0, hI0, hS0⟩ := enter hS h0
 have key : ∀ (m : Nat) (v : LV L) (a : Act) (w : World), μ v = m → I v → a.defers = [] → G.Sim (envL L v (keepE F F ρ)) a.tmps w →
     ∀ (b : Frame) (k : List Item) (cs : List Frame), ∃ e a' w', (∃ ρ', K e ρ' ∧ a'.defers = [] ∧ G.Sim ρ' a'.tmps w') ∧
       Arrives G.P (lone (b.at a (.code c :: .inLoop c :: k)) cs w) b k cs e a' w' := by
   intro m
   induction m using Nat.strongRecOn with
   | _ m ih =>
     intro v a w hm hI hd hS b k cs
     obtain ⟨e, a₁, w₁, ⟨ρ', hq, hd', hS'⟩, harr⟩ := round v hI a w hd hS b (.inLoop c :: k) cs
     cases e with
     | normal =>
       obtain ⟨hF, hq⟩ := hq
       obtain ⟨v', ⟨hI', hlt⟩, hS2⟩ := enter hS' hq
       rw [hF] at hS2
       obtain ⟨e₂, a₂, w₂, hq₂, harr₂⟩ := ih (μ v') (hm ▸ hlt) v' a₁ w₁ rfl hI' hd' hS2 b k cs
       exact ⟨e₂, a₂, w₂, hq₂, .of_steps (Steps.trans harr (.one step_inLoop)) harr₂⟩
     | exit id => exact ⟨_, a₁, w₁, ⟨ρ', hq, hd', hS'⟩, .pass (x := .inLoop c) rfl (fun _ _ => .inl (by simp)) harr⟩
     | goto l => exact ⟨_, a₁, w₁, ⟨ρ', hq, hd', hS'⟩, .pass (x := .inLoop c) rfl (fun _ _ => .inl (by simp)) harr⟩
     | ret => exact ⟨_, a₁, w₁, ⟨ρ', hq, hd', hS'⟩, .pass (x := .inLoop c) rfl (fun _ _ => .inl (by simp)) harr⟩
     | panic ch => exact ⟨_, a₁, w₁, ⟨ρ', hq, hd', hS'⟩, .pass (x := .inLoop c) rfl (fun _ _ => .inl (by simp)) harr⟩
     | outgrown => exact ⟨_, a₁, w₁, ⟨ρ', hq, hd', hS'⟩, .pass (x := .inLoop c) rfl (fun _ _ => .inl (by simp)) harr⟩
 intro b k cs
 obtain ⟨e, a', w', hq, harr⟩ := key _ v0 a w rfl hI0 hd hS0 b k cs
 exact ⟨e, a', w', hq, .of_steps (.one step_loop) harr⟩
end
def apart : List Nat → List Nat → Bool
 | [], _ => true
 | j :: r, F => !(memb j F) && apart r F
section
variable {n B : Nat} {X : List Nat} {w0 : World} {M0 : Mem} {tmps : Array Value} {w : World}
end
section
variable {G : Cfg} {ρ : Env} {K : Exit → Env → Prop}
end
end Fw
namespace Fw
open Go
section
variable {n B : Nat} {X : List Nat} {w0 : World} {M0 M : Mem} {ω : Own} {ρ : Env} {tmps : Array Value} {w : World}
end
section
variable {G : Cfg} {ρ : Env} {K : Exit → Env → Prop}
end
end Fw
namespace Fw
open Go
abbrev TI : Ty := .int .i64
def inRangeF (a b c : Int) : Bool := pick2 (decide (b ≤ a)) (decide (a ≤ c)) false
def isTimeF (a : Int) : Bool := inRangeF a 0 10000
def isSpanF (s : Int × Int) : Bool := pick2 (pick2 (isTimeF s.1) (isTimeF s.2) false) (decide (s.1 ≤ s.2)) false
def isInsideF (a b : Int × Int) : Bool := pick2 (pick2 (pick2 (isSpanF a) (isSpanF b) false) (decide (b.1 ≤ a.1)) false) (decide (a.2 ≤ b.2)) false
end Fw
namespace Fw
open Go
theorem w64 {x : Int} (h1 : -9223372036854775808 ≤ x) (h2 : x ≤ 9223372036854775807) : IntKind.i64.wrap x = x := by
 rw [IntKind.wrap_i64]; omega
def Sm (n : Nat) : (t : Ty) → El t → Prop
 | .slice e, xs => xs.length ≤ n ∧ ∀ x ∈ xs, Sm n e x
 | .pair a b, x => Sm n a x.1 ∧ Sm n b x.2
 | _, _ => True
def big20 : Nat := 1048576
def szL {α : Type} (f : α → Int → Int) : List α → Int → Int
 | [], l => l
 | x :: xs, l => if f x l < 0 then -1 else szL f xs (f x l)
def szF : (t : Ty) → El t → Int → Int
 | .slice e, xs, l => if l - xs.length < 0 then -1 else szL (szF e) xs (l - xs.length)
 | .pair a b, x, l => if szF a x.1 l < 0 then -1 else szF b x.2 (szF a x.1 l)
 | .str, x, l => l - x.length
 | _, _, l => l
theorem szL_le {α : Type} {f : α → Int → Int} (hf : ∀ x l, f x l ≤ l ∨ f x l < 0) : ∀ (xs : List α) (l : Int), szL f xs l ≤ l ∨ szL f xs l < 0
 | [], l => .inl (Int.le_refl _)
 | x :: xs, l => by
   unfold szL
   split
   · right; omega
   · rcases szL_le hf xs (f x l) with h | h
     · rcases hf x l with h' | h'
       · left; omega
       · omega
     · right; exact h
theorem szF_le : ∀ (t : Ty) (x : El t) (l : Int), szF t x l ≤ l ∨ szF t x l < 0
 | .int _, _, l => .inl (Int.le_refl _)
 | .bool, _, l => .inl (Int.le_refl _)
 | .str, x, l => .inl (by show l - _ ≤ l; omega)
 | .arr _ _, _, l => .inl (Int.le_refl _)
 | .slice e, xs, l => by
   unfold szF
   split
   · right; omega
   · rcases szL_le (fun x l => szF_le e x l) xs (l - xs.length) with h | h
     · left; omega
     · right; exact h
 | .pair a b, x, l => by
   unfold szF
   split
   · right; omega
   · rcases szF_le b x.2 (szF a x.1 l) with h | h
     · rcases szF_le a x.1 l with h' | h'
       · left; omega
       · omega
     · right; exact h
theorem szL_sm {α : Type} {f : α → Int → Int} {p : α → Prop} {m : Int} (hle : ∀ x l, f x l ≤ l ∨ f x l < 0) (hf : ∀ x l, l ≤ m → 0 ≤ f x l → p x) : ∀ (xs : List α) (l : Int), l ≤ m → 0 ≤ szL f xs l → ∀ x ∈ xs, p x
 | [], _, _, _, x, hx => by simp at hx
 | y :: xs, l, hl, h, x, hx => by
   unfold szL at h
   split at h
   · omega
   · rename_i hn
     rcases List.mem_cons.1 hx with rfl | hx
     · exact hf x l hl (by omega)
     · exact szL_sm hle hf xs (f y l) (by rcases hle y l with h' | h' <;> omega) h x hx
theorem szF_sm {n : Nat} : ∀ (t : Ty) (x : El t) (l : Int), l ≤ n → 0 ≤ szF t x l → Sm n t x
 | .int _, _, _, _, _ => trivial
 | .bool, _, _, _, _ => trivial
 | .str, _, _, _, _ => trivial
 | .arr _ _, _, _, _, _ => trivial
 | .slice e, xs, l, hl, h => by
   unfold szF at h
   split at h
   · omega
   · exact ⟨by omega, szL_sm (m := n) (fun x l => szF_le e x l) (fun x l => szF_sm e x l) xs _ (by omega) h⟩
 | .pair a b, x, l, hl, h => by
   unfold szF at h
   split at h
   · omega
   · exact ⟨szF_sm a x.1 l hl (by omega), szF_sm b x.2 _ (by rcases szF_le a x.1 l with h' | h' <;> omega) h⟩
theorem szL_id {α : Type} {f : α → Int → Int} (hf : ∀ x l, 0 ≤ l → f x l = l) : ∀ (xs : List α) (l : Int), 0 ≤ l → szL f xs l = l
 | [], _, _ => rfl
 | x :: xs, l, h => by unfold szL; rw [hf x l h, if_neg (by omega)]; exact szL_id hf xs l h
def plainT : Ty → Bool
 | .pair a b => plainT a && plainT b
 | .slice _ => false
 | .str => false
 | _ => true
theorem szF_id : ∀ (t : Ty), plainT t = true → ∀ (x : El t) (l : Int), 0 ≤ l → szF t x l = l := by
 intro t
 induction t with
 | pair a b iha ihb =>
   intro h x l hl
   simp only [plainT, Bool.and_eq_true] at h
   show (if szF a x.1 l < 0 then -1 else szF b x.2 (szF a x.1 l)) = l
   rw [iha h.1 x.1 l hl, if_neg (by omega), ihb h.2 x.2 l hl]
 | slice e => intro h; cases h
 | str => intro h; cases h
 | _ => intro _ x l _; rfl
def szM : Ty → Bool
 | .pair a b => szM a && szM b
 | .str => false
 | _ => true
theorem szL_m1 {α : Type} {f : α → Int → Int} : ∀ (xs : List α) (l : Int), 0 ≤ l → szL f xs l = -1 ∨ 0 ≤ szL f xs l
 | [], l, h => .inr h
 | x :: xs, l, h => by
   unfold szL
   split
   · exact .inl rfl
   · exact szL_m1 xs _ (by omega)
theorem szF_m1 : ∀ (t : Ty), szM t = true → ∀ (x : El t) (l : Int), 0 ≤ l → szF t x l = -1 ∨ 0 ≤ szF t x l := by
 intro t
 induction t with
 | pair a b iha ihb =>
   intro h x l hl
   simp only [szM, Bool.and_eq_true] at h
   show (if szF a x.1 l < 0 then -1 else szF b x.2 (szF a x.1 l)) = -1 ∨ 0 ≤ (if szF a x.1 l < 0 then -1 else szF b x.2 (szF a x.1 l))
   split
   · exact .inl rfl
   · exact ihb h.2 x.2 _ (by omega)
 | slice e =>
   intro _ x l hl
   show (if l - List.length x < 0 then -1 else szL (szF e) x (l - List.length x)) = -1 ∨ 0 ≤ (if l - List.length x < 0 then -1 else szL (szF e) x (l - List.length x))
   split
   · exact .inl rfl
   · exact szL_m1 x _ (by omega)
 | str => intro h; cases h
 | _ => intro _ x l hl; exact .inr hl
theorem szSpine (x y : Int) (h : x = y) : y = x := h.symm
def szPre {α : Type} (_ : α) (l : Int) : Prop := 0 ≤ l ∧ l ≤ big20
theorem mkSmall {n : Nat} (h : n ≤ big20) : (n : Int) ≤ (maxNew : Int) := by unfold big20 at h; unfold maxNew; omega
theorem subW {l : Int} {n : Nat} (h : 0 ≤ l ∧ l ≤ big20) (hn : n ≤ bigLen) : IntKind.i64.wrap (l - (n : Int)) = l - (n : Int) := by
 unfold big20 at h; unfold bigLen at hn; exact w64 (by omega) (by omega)
noncomputable def eqC {α : Type} (x y : α) : Bool := @decide (x = y) (Classical.propDecidable _)
theorem eqC_iff {α : Type} {x y : α} : eqC x y = true ↔ x = y := by unfold eqC; simp
theorem eqC_self {α : Type} (x : α) : eqC x x = true := eqC_iff.2 rfl
theorem eqC_no {α : Type} {x y : α} (h : x = y → False) : false = eqC x y := by
 cases he : eqC x y with
 | false => rfl
 | true => exact (h (eqC_iff.1 he)).elim
theorem eqC_yes {α : Type} {x y : α} (h : x = y) : true = eqC x y := (eqC_iff.2 h).symm
theorem notC {α : Type} {x y : α} (h : (!(eqC x y)) = false) : x = y := eqC_iff.1 (by simpa using h)
theorem bneI {x y : Int} (h : (x != y) = false) : x = y := by simpa using h
theorem lenEq {m n : Nat} (h : ((m : Int) != (n : Int)) = false) : m = n := by
 have : (m : Int) = (n : Int) := bneI h
 omega
theorem bneB {x y : Bool} (h : (x != y) = false) : x = y := by simpa using h
theorem bneS {x y : List UInt8} (h : (x != y) = false) : x = y := by simpa using h
def toInv {α : Type} (a : List α) (z : α) (ys : List α) (i : Int) : Prop := ∃ k : Nat, k ≤ a.length ∧ i = k ∧ ys = a.take k ++ List.replicate (a.length - k) z
theorem toStart {α : Type} {a : List α} {z : α} : toInv a z (List.replicate (a.length : Int).toNat z) 0 := ⟨0, Nat.zero_le _, rfl, by simp⟩
theorem toStep {α : Type} {a : List α} {z d : α} {ys : List α} {i : Int} (h : toInv a z ys i) (hl : i < a.length) (hb : a.length ≤ bigLen) :
   toInv a z (ys.set i.toNat (a.getD i.toNat d)) (IntKind.i64.wrap (i + 1)) := by
 obtain ⟨k, hk, rfl, rfl⟩ := h
 have hk' : k < a.length := by omega
 refine ⟨k + 1, hk', ?_, ?_⟩
 · unfold bigLen at hb; rw [w64 (by omega) (by omega)]; omega
 · have e1 : ((k : Int)).toNat = k := by omega
   rw [e1]
   have e2 : a.length - k = (a.length - (k + 1)) + 1 := by omega
   rw [e2, List.replicate_succ, List.set_append_right _ _ (by simp; omega)]
   have e3 : k - (List.take k a).length = 0 := by simp; omega
   rw [e3, List.set_cons_zero]
   rw [List.getD_eq_getElem?_getD, List.getElem?_eq_getElem hk']
   rw [Option.getD_some, List.take_succ_eq_append_getElem hk', List.append_assoc]
   rfl
theorem toEnd {α : Type} {a : List α} {z : α} {ys : List α} {i : Int} (h : toInv a z ys i) (hl : ¬ i < a.length) : ys = a := by
 obtain ⟨k, hk, rfl, rfl⟩ := h
 have : k = a.length := by omega
 subst this; simp
theorem toMu {α : Type} {a : List α} {z : α} {ys : List α} {i : Int} (h : toInv a z ys i) (hl : i < a.length) (hb : a.length ≤ bigLen) : (a.length - (IntKind.i64.wrap (i + 1))).toNat < (a.length - i).toNat := by
 obtain ⟨k, hk, rfl, rfl⟩ := h
 unfold bigLen at hb; rw [w64 (by omega) (by omega)]; omega
theorem toRange {α : Type} {a : List α} {z : α} {ys : List α} {i : Int} (h : toInv a z ys i) (hl : i < a.length) : inRange i a.length ∧ inRange i ys.length := by
 obtain ⟨k, hk, rfl, rfl⟩ := h
 unfold inRange; simp; omega
theorem toElem {α : Type} {a : List α} {z d : α} {ys : List α} {i : Int} (h : toInv a z ys i) (hl : i < a.length) : a.getD i.toNat d ∈ a := by
 obtain ⟨k, hk, rfl, rfl⟩ := h
 have : ((k : Int)).toNat < a.length := by omega
 rw [List.getD_eq_getElem?_getD, List.getElem?_eq_getElem this]
 simp
def upInv {α : Type} (a : List α) (i : Int) : Prop := ∃ k : Nat, k ≤ a.length ∧ i = k
theorem upStart {α : Type} {a : List α} : upInv a 0 := ⟨0, Nat.zero_le _, rfl⟩
theorem upStep {α : Type} {a : List α} {i : Int} (h : upInv a i) (hl : i < a.length) (hb : a.length ≤ bigLen) : upInv a (IntKind.i64.wrap (i + 1)) ∧ IntKind.i64.wrap (i + 1) = i + 1 ∧ (a.length - (IntKind.i64.wrap (i + 1))).toNat < (a.length - i).toNat := by
 obtain ⟨k, hk, rfl⟩ := h
 unfold bigLen at hb
 rw [w64 (by omega) (by omega)]
 exact ⟨⟨k + 1, by omega, by omega⟩, rfl, by omega⟩
theorem upRange {α : Type} {a : List α} {i : Int} (h : upInv a i) (hl : i < a.length) : inRange i a.length := by
 obtain ⟨k, hk, rfl⟩ := h
 unfold inRange; omega
theorem upElem {α : Type} {a : List α} {d : α} {i : Int} (h : upInv a i) (hl : i < a.length) : a.getD i.toNat d ∈ a := by
 obtain ⟨k, hk, rfl⟩ := h
 have : ((k : Int)).toNat < a.length := by omega
 rw [List.getD_eq_getElem?_getD, List.getElem?_eq_getElem this]
 simp
theorem drop_cons {α : Type} {a : List α} {d : α} {i : Int} (h : upInv a i) (hl : i < a.length) : a.drop i.toNat = a.getD i.toNat d :: a.drop (i + 1).toNat := by
 obtain ⟨k, hk, rfl⟩ := h
 have h1 : ((k : Int)).toNat = k := by omega
 have h2 : ((k : Int) + 1).toNat = k + 1 := by omega
 rw [h1, h2, List.drop_eq_getElem_cons (by omega), List.getD_eq_getElem?_getD, List.getElem?_eq_getElem (by omega)]
 rfl
theorem take_snoc {α : Type} {a : List α} {d : α} {i : Int} (h : upInv a i) (hl : i < a.length) : a.take (i + 1).toNat = a.take i.toNat ++ [a.getD i.toNat d] := by
 obtain ⟨k, hk, rfl⟩ := h
 have h1 : ((k : Int)).toNat = k := by omega
 have h2 : ((k : Int) + 1).toNat = k + 1 := by omega
 rw [h1, h2, List.take_succ_eq_append_getElem (by omega), List.getD_eq_getElem?_getD, List.getElem?_eq_getElem (by omega)]
 rfl
theorem up_end {α : Type} {a : List α} {i : Int} (h : upInv a i) (hl : ¬ i < a.length) : i.toNat = a.length := by
 obtain ⟨k, hk, rfl⟩ := h; omega
def szInv {α : Type} (f : α → Int → Int) (a : List α) (l0 : Int) (l i : Int) : Prop := upInv a i ∧ 0 ≤ l ∧ l ≤ big20 ∧ szL f a l0 = szL f (a.drop i.toNat) l
theorem szStart {α : Type} {f : α → Int → Int} {a : List α} {l : Int} (h : 0 ≤ l) (h' : l ≤ big20) : szInv f a l l 0 := ⟨upStart, h, h', rfl⟩
theorem szStep {α : Type} {f : α → Int → Int} {a : List α} {l0 l i : Int} {d : α} (h : szInv f a l0 l i) (hle : ∀ x l, f x l ≤ l ∨ f x l < 0) (hl : i < a.length) (hb : a.length ≤ bigLen) :
   (f (a.getD i.toNat d) l < 0 → szL f a l0 = -1) ∧ (¬ f (a.getD i.toNat d) l < 0 → szInv f a l0 (f (a.getD i.toNat d) l) (IntKind.i64.wrap (i + 1))) := by
 obtain ⟨h1, h2, h3, h4⟩ := h
 rw [drop_cons (d := d) h1 hl] at h4
 have h4 : szL f a l0 = if f (a.getD i.toNat d) l < 0 then -1 else szL f (a.drop (i + 1).toNat) (f (a.getD i.toNat d) l) := h4
 refine ⟨fun hn => by rw [h4, if_pos hn], fun hn => ?_⟩
 rw [if_neg hn] at h4
 obtain ⟨u1, u2, _⟩ := upStep h1 hl hb
 refine ⟨u1, by omega, by rcases hle (a.getD i.toNat d) l with h' | h' <;> omega, ?_⟩
 rw [u2]; exact h4
theorem szEnd {α : Type} {f : α → Int → Int} {a : List α} {l0 l i : Int} (h : szInv f a l0 l i) (hl : ¬ i < a.length) : szL f a l0 = l := by
 obtain ⟨h1, h2, h3, h4⟩ := h
 rw [up_end h1 hl] at h4
 simpa [szL] using h4
def eqInv {α : Type} (a b : List α) (i : Int) : Prop := upInv a i ∧ a.length = b.length ∧ a.take i.toNat = b.take i.toNat
theorem eqStart {α : Type} {a b : List α} (h : a.length = b.length) : eqInv a b 0 := ⟨upStart, h, rfl⟩
theorem eqStep {α : Type} {a b : List α} {d : α} {i : Int} (h : eqInv a b i) (hl : i < a.length) (hb : a.length ≤ bigLen) (he : a.getD i.toNat d = b.getD i.toNat d) : eqInv a b (IntKind.i64.wrap (i + 1)) := by
 obtain ⟨h1, h2, h3⟩ := h
 obtain ⟨u1, u2, _⟩ := upStep h1 hl hb
 refine ⟨u1, h2, ?_⟩
 have hb1 : upInv b i := by obtain ⟨k, hk, rfl⟩ := h1; exact ⟨k, by omega, rfl⟩
 rw [u2, take_snoc (d := d) h1 hl, take_snoc (d := d) hb1 (by omega), h3, he]
theorem eqNo {α : Type} {a b : List α} {d : α} {i : Int} (he : a.getD i.toNat d = b.getD i.toNat d → False) : false = eqC a b := eqC_no fun e => he (by rw [e])
theorem eqEnd {α : Type} {a b : List α} {i : Int} (h : eqInv a b i) (hl : ¬ i < a.length) : a = b := by
 obtain ⟨h1, h2, h3⟩ := h
 have e := up_end h1 hl
 rw [e, List.take_length] at h3
 rw [h3, h2, List.take_length]
theorem eqRange {α : Type} {a b : List α} {i : Int} (h : eqInv a b i) (hl : i < a.length) : inRange i a.length ∧ inRange i b.length := by
 obtain ⟨⟨k, hk, rfl⟩, h2, _⟩ := h
 unfold inRange; omega
end Fw
namespace Fw
open Go
theorem ne_selfC {α : Type} {x : α} (h : (!(eqC x x)) = true) : False := by rw [eqC_self] at h; cases h
def findI {α : Type} (p : α → Bool) (l : List α) : Int := match l.findIdx? p with | some k => k | none => -1
def fInv {α : Type} (p : α → Bool) (a : List α) (i : Int) : Prop := upInv a i ∧ ∀ x ∈ a.take i.toNat, p x = false
theorem fStart {α : Type} {p : α → Bool} {a : List α} : fInv p a 0 := ⟨upStart, fun x hx => by simp at hx⟩
theorem fStep {α : Type} {p : α → Bool} {a : List α} {d : α} {i : Int} (h : fInv p a i) (hl : i < a.length) (hb : a.length ≤ bigLen) (he : p (a.getD i.toNat d) = false) :
   fInv p a (IntKind.i64.wrap (i + 1)) ∧ (a.length - (IntKind.i64.wrap (i + 1))).toNat < (a.length - i).toNat := by
 obtain ⟨h1, h2⟩ := h
 obtain ⟨u1, u2, u3⟩ := upStep h1 hl hb
 refine ⟨⟨u1, ?_⟩, u3⟩
 rw [u2, take_snoc (d := d) h1 hl]
 intro x hx
 rcases List.mem_append.1 hx with hx | hx
 · exact h2 x hx
 · rw [List.mem_singleton.1 hx]; exact he
theorem fHit {α : Type} {p : α → Bool} {a : List α} {d : α} {i : Int} (h : fInv p a i) (hl : i < a.length) (he : p (a.getD i.toNat d) = true) : i = findI p a := by
 obtain ⟨⟨k, hk, rfl⟩, h2⟩ := h
 have h1 : ((k : Int)).toNat = k := by omega
 rw [h1] at h2 he
 have hk' : k < a.length := by omega
 have : a.findIdx? p = some k := by
   rw [List.findIdx?_eq_some_iff_getElem]
   refine ⟨hk', ?_, fun j hj => ?_⟩
   · rw [List.getD_eq_getElem?_getD, List.getElem?_eq_getElem hk'] at he; exact he
   · have := h2 (a[j]) (List.mem_take_iff_getElem.2 ⟨j, by omega, rfl⟩)
     simp [this]
 unfold findI; rw [this]
theorem fEnd {α : Type} {p : α → Bool} {a : List α} {i : Int} (h : fInv p a i) (hl : ¬ i < a.length) : (-1 : Int) = findI p a := by
 obtain ⟨h1, h2⟩ := h
 rw [up_end h1 hl, List.take_length] at h2
 have : a.findIdx? p = none := by rw [List.findIdx?_eq_none_iff]; exact h2
 unfold findI; rw [this]
theorem fRange {α : Type} {p : α → Bool} {a : List α} {i : Int} (h : fInv p a i) (hl : i < a.length) : inRange i a.length := upRange h.1 hl
theorem findI_lt {α : Type} {p : α → Bool} (a : List α) : findI p a = -1 ∨ (0 ≤ findI p a ∧ findI p a < a.length) := by
 unfold findI
 split
 · rename_i k h
   have := (List.findIdx?_eq_some_iff_getElem.1 h).1
   right; omega
 · exact .inl rfl
end Fw
namespace Fw
open Go
def foInv {α β : Type} (f : β → α → β) (z : β) (a : List α) (acc : β) (i : Int) : Prop := upInv a i ∧ acc = (a.take i.toNat).foldl f z
theorem foStart {α β : Type} {f : β → α → β} {z : β} {a : List α} : foInv f z a z 0 := ⟨upStart, by simp⟩
theorem foStep {α β : Type} {f : β → α → β} {z : β} {a : List α} {acc : β} {d : α} {i : Int} (h : foInv f z a acc i) (hl : i < a.length) (hb : a.length ≤ bigLen) :
   foInv f z a (f acc (a.getD i.toNat d)) (IntKind.i64.wrap (i + 1)) ∧ (a.length - (IntKind.i64.wrap (i + 1))).toNat < (a.length - i).toNat := by
 obtain ⟨h1, h2⟩ := h
 obtain ⟨u1, u2, u3⟩ := upStep h1 hl hb
 refine ⟨⟨u1, ?_⟩, u3⟩
 rw [u2, take_snoc (d := d) h1 hl, List.foldl_append, h2]; rfl
theorem foEnd {α β : Type} {f : β → α → β} {z : β} {a : List α} {acc : β} {i : Int} (h : foInv f z a acc i) (hl : ¬ i < a.length) : acc = a.foldl f z := by
 obtain ⟨h1, h2⟩ := h
 rw [up_end h1 hl, List.take_length] at h2; exact h2
theorem foRange {α β : Type} {f : β → α → β} {z : β} {a : List α} {acc : β} {i : Int} (h : foInv f z a acc i) (hl : i < a.length) : inRange i a.length := upRange h.1 hl
def modF (p q : Int) : Int := if inRangeF q 1 1000000000000 = true then (IntKind.i64.wrap (p.tmod q + q)).tmod q else 0
theorem inR_pos {q : Int} (h : (!(inRangeF q 1 1000000000000)) = false) : q ≠ 0 := by
 unfold inRangeF pick2 at h
 intro e; subst e; simp at h
def hstep (h v : Int) : Int := (IntKind.i64.wrap (IntKind.i64.wrap (IntKind.i64.wrap (h * 1000003) + modF v 2147483647) + 13)).tmod 2147483647
def hashF (l : List Int) : Int := l.foldl hstep 11
def keyedF (k : Int) (l : List Int) : Int := hashF ([k] ++ l ++ [k])
theorem digestEx : ∃ f : Int → List Int → Int, ∀ id l, f id l = hashF ([7, id] ++ l) := ⟨fun id l => hashF ([7, id] ++ l), fun _ _ => rfl⟩
noncomputable def digestF (id : Int) (l : List Int) : Int := Classical.choose digestEx id l
theorem digest_eq (id : Int) (l : List Int) : digestF id l = hashF ([7, id] ++ l) := Classical.choose_spec digestEx id l
theorem maxT {a b : Int} (h : decide (b > a) = true) : b = max a b := by have := of_decide_eq_true h; omega
theorem maxE {a b : Int} (h : decide (b > a) = false) : a = max a b := by have := of_decide_eq_false h; omega
theorem minT {a b : Int} (h : decide (b < a) = true) : b = min a b := by have := of_decide_eq_true h; omega
theorem minE {a b : Int} (h : decide (b < a) = false) : a = min a b := by have := of_decide_eq_false h; omega
end Fw
namespace Fw
open Go
theorem pick2_or (c b : Bool) : pick2 c true b = (c || b) := by cases c <;> rfl
theorem pick2_and (c a : Bool) : pick2 c a false = (c && a) := by cases c <;> rfl
abbrev Key := Int × Int × Int × Int × Int
abbrev Stamp := Int × Int × Int × Int × Int
abbrev Authority := Int × Int × Int
abbrev TStamp : Ty := .pair TI (.pair TI (.pair TI (.pair TI TI)))
theorem findRange {α : Type} {p : α → Bool} {l : List α} (h : ¬ findI p l < 0) : inRange (findI p l) l.length := by
 rcases findI_lt (p := p) l with h' | h'
 · omega
 · exact h'
def smallL (l : List Int) : Prop := l.length ≤ 1000000000
theorem smallLit {l : List Int} {n : Nat} (h : l.length = n) (hn : n ≤ 1000000000) : smallL l := by unfold smallL; omega
def markWithF (k : Key) (l : List Int) : Int := keyedF k.2.2.2.2 ([k.2.2.1] ++ l)
def keyI (keys : List Key) (n : Int) : Int := findI (fun (x : Key) => x.1 == n) keys
def keyAt (keys : List Key) (n : Int) : Key := keys.getD (keyI keys n).toNat (dflt (.pair TI (.pair TI (.pair TI (.pair TI TI)))))
def markByF (keys : List Key) (n : Int) (l : List Int) : Int × Bool := if keyI keys n < 0 then (0, false) else (markWithF (keyAt keys n) l, true)
theorem markBy_no {keys : List Key} {n : Int} {l : List Int} (h : keyI keys n < 0) : markByF keys n l = (0, false) := if_pos h
theorem markBy_yes {keys : List Key} {n : Int} {l : List Int} (h : ¬ keyI keys n < 0) : markByF keys n l = (markWithF (keyAt keys n) l, true) := if_neg h
def checkMarkF (keys : List Key) (n : Int) (l : List Int) (m : Int) : Bool := pick2 (decide (keyI keys n ≥ 0)) (markWithF (keyAt keys n) l == m) false
theorem checkMark_by (keys : List Key) (n : Int) (l : List Int) (m : Int) : pick2 (markByF keys n l).2 ((markByF keys n l).1 == m) false = checkMarkF keys n l m := by
 unfold checkMarkF
 by_cases h : keyI keys n < 0
 · rw [markBy_no h]
   have : decide (keyI keys n ≥ 0) = false := by simp; omega
   simp only [this, pick2_and, Bool.false_and]
 · rw [markBy_yes h]
   have : decide (keyI keys n ≥ 0) = true := by simp; omega
   simp only [this, pick2_and, Bool.true_and]
def stampIntsF (s : Stamp) : List Int := [103, s.1, s.2.1, s.2.2.1, s.2.2.2.1]
def authI (l : List Authority) (n : Int) : Int := findI (fun (x : Authority) => x.1 == n) l
def authAt (l : List Authority) (n : Int) : Authority := l.getD (authI l n).toNat (dflt (.pair TI (.pair TI TI)))
def stampBad (l : List Authority) (s : Stamp) : Bool := pick2 (pick2 (decide (authI l s.1 < 0)) true (decide (s.2.1 < 0))) true (!(isTimeF s.2.2.1))
def makeStampF (keys : List Key) (l : List Authority) (s : Stamp) : Stamp × Bool :=
 if stampBad l s = true then ((0, 0, 0, 0, 0), false)
 else if keyI keys (authAt l s.1).2.1 < 0 then ((0, 0, 0, 0, 0), false)
 else ((s.1, s.2.1, s.2.2.1, s.2.2.2.1, markWithF (keyAt keys (authAt l s.1).2.1) (stampIntsF s)), true)
theorem ms_1 {keys : List Key} {l : List Authority} {s : Stamp} (h : stampBad l s = true) : makeStampF keys l s = ((0, 0, 0, 0, 0), false) := if_pos h
theorem ms_2 {keys : List Key} {l : List Authority} {s : Stamp} (h : stampBad l s = false) (h2 : keyI keys (authAt l s.1).2.1 < 0) : makeStampF keys l s = ((0, 0, 0, 0, 0), false) := by
 unfold makeStampF; rw [if_neg (by rw [h]; decide), if_pos h2]
theorem ms_3 {keys : List Key} {l : List Authority} {s : Stamp} (h : stampBad l s = false) (h2 : ¬ keyI keys (authAt l s.1).2.1 < 0) :
   makeStampF keys l s = ((s.1, s.2.1, s.2.2.1, s.2.2.2.1, markWithF (keyAt keys (authAt l s.1).2.1) (stampIntsF s)), true) := by
 unfold makeStampF; rw [if_neg (by rw [h]; decide), if_neg h2]
theorem mb_ok {keys : List Key} {n : Int} {l : List Int} (h : (!(markByF keys n l).2) = false) : ¬ keyI keys n < 0 := by
 intro h2; rw [markBy_no h2] at h; cases h
theorem mb_no {keys : List Key} {n : Int} {l : List Int} (h : (!(markByF keys n l).2) = true) : keyI keys n < 0 := by
 by_cases h2 : keyI keys n < 0
 · exact h2
 · rw [markBy_yes h2] at h; cases h
theorem bad_idx {l : List Authority} {s : Stamp} (h : stampBad l s = false) : inRange (authI l s.1) l.length := by
 refine findRange fun h2 => ?_
 unfold stampBad authI at h
 simp only [pick2_or, Bool.or_eq_false_iff, decide_eq_false_iff_not] at h
 exact h.1.1 h2
def checkStampF (keys : List Key) (l : List Authority) (s : Stamp) : Bool := pick2 (makeStampF keys l s).2 (El.eq TStamp (makeStampF keys l s).1 s) false
end Fw
namespace Fw
open Go
theorem orF {a b : Bool} (h : pick2 a true b = false) : a = false ∧ b = false := by rw [pick2_or] at h; simpa using h
theorem andT {a b : Bool} (h : pick2 a b false = true) : a = true ∧ b = true := by rw [pick2_and] at h; simpa using h
theorem notF {a : Bool} (h : (!a) = false) : a = true := by simpa using h
theorem beqI2 {x y : Int} (h : (x == y) = true) : x = y := by simpa using h
theorem noOr {a b : Bool} (ha : a = true → False) (hb : b = true → False) (h : pick2 a true b = true) : False := by
 rw [pick2_or] at h
 rcases (Bool.or_eq_true _ _).mp h with h | h
 · exact ha h
 · exact hb h
theorem bself {x : Int} (h : (x != x) = true) : False := by simp at h
theorem nself {a : Bool} (ha : a = true) (h : (!a) = true) : False := by rw [ha] at h; cases h
theorem yesAnd {a b : Bool} (ha : a = true) (hb : b = true) : pick2 a b false = true := by rw [pick2_and, ha, hb]; rfl
theorem beqSelf {x : Int} : (x == x) = true := by simp
theorem eqC_by {α : Type} {x y : α} {b : Bool} (h1 : b = true → x = y) (h2 : x = y → b = true) : b = eqC x y := by
 cases hb : b with
 | true => exact eqC_yes (h1 hb)
 | false => exact eqC_no fun e => by rw [h2 e] at hb; cases hb
end Fw
namespace Fw
open Go
theorem fFindEnd {α : Type} {p : α → Bool} {a : List α} {i : Int} (h : fInv p a i) (hl : ¬ i < a.length) : a.find? p = none := by
 obtain ⟨h1, h2⟩ := h
 rw [up_end h1 hl, List.take_length] at h2
 exact List.find?_eq_none.2 (fun x hx => by rw [h2 x hx]; decide)
end Fw
namespace Fw
open Go
noncomputable def boolC (P : Prop) : Bool := @decide P (Classical.propDecidable _)
theorem boolC_iff {P : Prop} : boolC P = true ↔ P := by unfold boolC; simp
theorem boolC_yes {P : Prop} (h : P) : true = boolC P := (boolC_iff.2 h).symm
theorem boolC_no {P : Prop} (h : P → False) : false = boolC P := by
 cases he : boolC P with
 | false => rfl
 | true => exact (h (boolC_iff.1 he)).elim
theorem boolC_by {P : Prop} {b : Bool} (h1 : b = true → P) (h2 : P → b = true) : b = boolC P := by
 cases hb : b with
 | true => exact boolC_yes (h1 hb)
 | false => exact boolC_no fun e => by rw [h2 e] at hb; cases hb
def kInv {α : Type} (P : Nat → Prop) (L : List α) (i : Int) : Prop := upInv L i ∧ ∀ k, k < i.toNat → P k
theorem kStart {α : Type} {P : Nat → Prop} {L : List α} : kInv P L 0 := ⟨upStart, fun k hk => by simp at hk⟩
theorem kStep {α : Type} {P : Nat → Prop} {L : List α} {i : Int} (h : kInv P L i) (hl : i < L.length) (hb : L.length ≤ bigLen) (hP : P i.toNat) :
   kInv P L (IntKind.i64.wrap (i + 1)) ∧ (L.length - (IntKind.i64.wrap (i + 1))).toNat < (L.length - i).toNat := by
 obtain ⟨u1, u2, u3⟩ := upStep h.1 hl hb
 refine ⟨⟨u1, fun k hk => ?_⟩, u3⟩
 obtain ⟨n, hn, e⟩ := h.1
 rw [u2] at hk
 by_cases hk2 : k < i.toNat
 · exact h.2 k hk2
 · have : k = i.toNat := by omega
   rw [this]; exact hP
theorem kEnd {α : Type} {P : Nat → Prop} {L : List α} {i : Int} (h : kInv P L i) (hl : ¬ i < L.length) : ∀ k, k < L.length → P k := by
 intro k hk
 exact h.2 k (by omega)
theorem kLt {α : Type} {P : Nat → Prop} {L : List α} {i : Int} (h : kInv P L i) (hl : i < L.length) : i.toNat < L.length := by
 obtain ⟨n, hn, e⟩ := h.1; omega
theorem kRange {α : Type} {P : Nat → Prop} {L : List α} {i : Int} (h : kInv P L i) (hl : i < L.length) : inRange i L.length := upRange h.1 hl
theorem lenBeq {m n : Nat} (h : m = n) : ((m : Int) == (n : Int)) = true := by rw [h]; simp
theorem lenNe {m n : Nat} (h : m = n) (h2 : ((m : Int) != (n : Int)) = true) : False := by rw [h] at h2; simp at h2
theorem lenBeqI {m n : Nat} (h : ((m : Int) == (n : Int)) = true) : m = n := by have := beqI2 h; omega
abbrev Doc := Int × List (List UInt8) × List Int
abbrev Piece := Int × List Int × Int
abbrev Renewal := Int × Int × Int × List (Int × Bool) × List Stamp
abbrev Strand := List Piece × List Renewal
abbrev Sig := Int × Int × Int × Int × Int × Int × Int × Int × Int
abbrev Item := Int × Int × Doc × Sig × Strand
abbrev TPiece : Ty := .pair TI (.pair (.slice TI) TI)
abbrev TRen : Ty := .pair TI (.pair TI (.pair TI (.pair (.slice (.pair TI .bool)) (.slice TStamp))))
def docP (a : Doc) : Prop := inRangeF a.1 0 999 = true ∧ inRangeF (List.length a.2.1 : Int) 1 6 = true ∧ List.length a.2.2 = List.length a.2.1 ∧
 (∀ k, k < List.length a.2.1 → (List.length (List.getD a.2.1 k (dflt .str)) : Int) ≤ 40) ∧ (∀ k, k < List.length a.2.2 → inRangeF (List.getD a.2.2 k (dflt (.int .i64))) 1 1000000000000 = true)
noncomputable def docF (a : Doc) : Bool := boolC (docP a)
noncomputable def findPieceF (s : Strand) (p : Piece) : Int := findI (fun x => eqC x p) s.1
noncomputable def hasF (l : List Piece) (p : Piece) : Bool := boolC (∃ x ∈ l, x = p)
theorem backW {α : Type} {L : List α} {i : Int} (h : upInv L i) (hb : L.length ≤ bigLen) (h0 : i > 0) : IntKind.i64.wrap (i - 1) = i - 1 := by
 obtain ⟨k, hk, rfl⟩ := h
 unfold bigLen at hb
 exact w64 (by omega) (by omega)
theorem backRange {α : Type} {P : Nat → Prop} {L : List α} {i : Int} (h : kInv P L i) (hl : i < L.length) (hb : L.length ≤ bigLen) (h0 : i > 0) : inRange (IntKind.i64.wrap (i - 1)) L.length := by
 rw [backW h.1 hb h0]
 exact upRange (i := i - 1) ⟨(i - 1).toNat, by omega, by omega⟩ (by omega)
theorem hasYes {l : List Piece} {p d : Piece} {i : Int} (h : fInv (fun x => eqC x p) l i) (hl : i < l.length) (he : (fun x => eqC x p) (l.getD i.toNat d) = true) : true = hasF l p :=
 boolC_yes ⟨l.getD i.toNat d, upElem h.1 hl, eqC_iff.1 he⟩
theorem hasNo {l : List Piece} {p : Piece} {i : Int} (h : fInv (fun x => eqC x p) l i) (hl : ¬ i < l.length) : false = hasF l p := by
 refine boolC_no ?_
 rintro ⟨x, hx, e⟩
 have := List.find?_eq_none.1 (fFindEnd h hl) x hx
 exact this (eqC_iff.2 e)
def sigIntsF (s : Sig) : List Int := [104, s.1, s.2.1, s.2.2.1, s.2.2.2.1, s.2.2.2.2.1, s.2.2.2.2.2.1, s.2.2.2.2.2.2.1, s.2.2.2.2.2.2.2.1]
def signPieceF (s : Sig) : Piece := (s.1, sigIntsF s, s.2.2.2.2.2.2.2.2)
end Fw
namespace Fw
open Go
def gsInv {α : Type} (g : Nat → List Int) (z : List Int) (L : List α) (acc : List Int) (i : Int) : Prop := upInv L i ∧ acc = z ++ (List.range i.toNat).flatMap g
theorem gsStart {α : Type} {g : Nat → List Int} {z : List Int} {L : List α} : gsInv g z L z 0 := ⟨upStart, by simp⟩
theorem gsStep {α : Type} {g : Nat → List Int} {z : List Int} {L : List α} {acc acc' : List Int} {i : Int} (h : gsInv g z L acc i) (hl : i < L.length) (hb : L.length ≤ bigLen)
   (e : acc' = acc ++ g i.toNat) : gsInv g z L acc' (IntKind.i64.wrap (i + 1)) ∧ (L.length - (IntKind.i64.wrap (i + 1))).toNat < (L.length - i).toNat := by
 obtain ⟨u1, u2, u3⟩ := upStep h.1 hl hb
 obtain ⟨k, hk, e1⟩ := h.1
 refine ⟨⟨u1, ?_⟩, u3⟩
 have e2 : (IntKind.i64.wrap (i + 1)).toNat = i.toNat + 1 := by rw [u2]; omega
 rw [e, h.2, e2, List.range_succ, List.flatMap_append, List.append_assoc]
 simp
theorem gsEnd {α : Type} {g : Nat → List Int} {z : List Int} {L : List α} {acc : List Int} {i : Int} (h : gsInv g z L acc i) (hl : ¬ i < L.length) : acc = z ++ (List.range L.length).flatMap g := by
 obtain ⟨k, hk, e1⟩ := h.1
 have : i.toNat = L.length := by omega
 rw [h.2, this]
theorem flatLen {g : Nat → List Int} {c : Nat} (hc : ∀ k, (g k).length ≤ c) : ∀ n, ((List.range n).flatMap g).length ≤ c * n
 | 0 => by simp
 | n + 1 => by
   rw [List.range_succ, List.flatMap_append, List.length_append]
   have h1 := flatLen hc n
   have h2 := hc n
   have h3 : (List.flatMap g [n]).length ≤ c := by simpa using h2
   rw [Nat.mul_succ]; omega
theorem gsLen {α : Type} {g : Nat → List Int} {z : List Int} {L : List α} {acc : List Int} {i : Int} {c m n : Nat} (h : gsInv g z L acc i) (hc : ∀ k, (g k).length ≤ c) (hL : L.length ≤ m) (hn : z.length + c * m ≤ n) : acc.length ≤ n := by
 obtain ⟨k, hk, e1⟩ := h.1
 rw [h.2, List.length_append]
 have h1 := flatLen hc i.toNat
 have h2 : c * i.toNat ≤ c * m := Nat.mul_le_mul_left c (by omega)
 omega
theorem gsRange {α : Type} {g : Nat → List Int} {z : List Int} {L : List α} {acc : List Int} {i : Int} (h : gsInv g z L acc i) (hl : i < L.length) : inRange i L.length := upRange h.1 hl
def partG (s : List UInt8) (k : Nat) : List Int := [IntKind.i64.wrap (((s.getD k 0).toNat : Int))]
noncomputable def partF (id : Int) (s : List UInt8) (x : Int) : Int := digestF id ([x] ++ (List.range s.length).flatMap (partG s))
def byteG (l : List Int) (k : Nat) : List Int := [IntKind.i64.wrap (l.getD k (dflt (.int .u8)))]
def bytesF (l : List Int) : List Int := [] ++ (List.range l.length).flatMap (byteG l)
theorem flatCongr {g h : Nat → List Int} : ∀ n, (∀ k, k < n → g k = h k) → (List.range n).flatMap g = (List.range n).flatMap h
 | 0, _ => rfl
 | n + 1, e => by
   rw [List.range_succ, List.flatMap_append, List.flatMap_append, flatCongr n (fun k hk => e k (by omega))]
   simp [e n (by omega)]
theorem bytesEq (s : List UInt8) : bytesF (bytesOf s) = (List.range s.length).flatMap (partG s) := by
 unfold bytesF
 have hl : (bytesOf s).length = s.length := by unfold bytesOf; rw [List.length_map]
 rw [List.nil_append, hl]
 refine flatCongr _ fun k hk => ?_
 unfold byteG partG bytesOf
 rw [List.getD_eq_getElem?_getD, List.getElem?_map, List.getD_eq_getElem?_getD, List.getElem?_eq_getElem hk]
 rfl
theorem bytesLen (s : List UInt8) : (bytesF (bytesOf s)).length = s.length := by
 unfold bytesF bytesOf
 have : ∀ (l : List Int) n, ((List.range n).flatMap (byteG l)).length = n := fun l n => by
   induction n with
   | zero => rfl
   | succ n ih => rw [List.range_succ, List.flatMap_append, List.length_append, ih]; simp [byteG]
 rw [List.nil_append, this, List.length_map]
noncomputable def docG (id : Int) (d : Doc) (k : Nat) : List Int := [partF id (d.2.1.getD k (dflt .str)) (d.2.2.getD k (dflt (.int .i64)))]
noncomputable def docDigF (id : Int) (d : Doc) : Int := if docF d = true then digestF id ([d.1] ++ (List.range d.2.1.length).flatMap (docG id d)) else -1
theorem docDig0 {id : Int} {d : Doc} (h : (!(docF d)) = true) : (-1 : Int) = docDigF id d := by
 unfold docDigF; rw [if_neg (by intro e; rw [e] at h; cases h)]
theorem docDig1 {id : Int} {d : Doc} {acc : List Int} {i : Int} (h : (!(docF d)) = false) (hI : gsInv (docG id d) [d.1] d.2.1 acc i) (hl : ¬ i < d.2.1.length) : digestF id acc = docDigF id d := by
 unfold docDigF; rw [if_pos (notF h), gsEnd hI hl]
theorem docP_of {d : Doc} (h : (!(docF d)) = false) : docP d := boolC_iff.1 (notF h)
theorem docN {d : Doc} (h : docP d) : d.2.1.length ≤ 6 := by
 have h1 := h.2.1
 unfold inRangeF at h1
 have := of_decide_eq_true (andT h1).2
 omega
theorem doc40 {d : Doc} (h : docP d) {i : Int} {acc : List Int} {g : Nat → List Int} {z : List Int} (hI : gsInv g z d.2.1 acc i) (hl : i < d.2.1.length) : (d.2.1.getD i.toNat (dflt .str)).length ≤ 40 := by
 obtain ⟨k, hk, e⟩ := hI.1
 have := h.2.2.2.1 i.toNat (by omega)
 omega
theorem docX {d : Doc} (h : docP d) {i : Int} {acc : List Int} {g : Nat → List Int} {z : List Int} (hI : gsInv g z d.2.1 acc i) (hl : i < d.2.1.length) : inRange i d.2.2.length := by
 rw [h.2.2.1]; exact gsRange hI hl
noncomputable def piecesG (id : Int) (l : List Piece) (k : Nat) : List Int := [digestF id ([(l.getD k (dflt TPiece)).1, (l.getD k (dflt TPiece)).2.2] ++ (l.getD k (dflt TPiece)).2.1)]
noncomputable def piecesF (id : Int) (l : List Piece) : Int := digestF id ([2] ++ (List.range l.length).flatMap (piecesG id l))
abbrev TStep : Ty := .pair TI .bool
def stepG (r : Renewal) (k : Nat) : List Int := [(r.2.2.2.1.getD k (dflt TStep)).1, if (r.2.2.2.1.getD k (dflt TStep)).2 = true then 1 else 0]
def stmpG (r : Renewal) (k : Nat) : List Int := stampIntsF (r.2.2.2.2.getD k (dflt TStamp)) ++ [(r.2.2.2.2.getD k (dflt TStamp)).2.2.2.2]
def renMid (r : Renewal) : List Int := ([4, r.1, r.2.1, r.2.2.1] ++ (List.range r.2.2.2.1.length).flatMap (stepG r)) ++ [(r.2.2.2.2.length : Int)]
noncomputable def renDigF (id : Int) (r : Renewal) : Int := digestF id (renMid r ++ (List.range r.2.2.2.2.length).flatMap (stmpG r))
theorem stepYes {r : Renewal} {acc : List Int} {k : Nat} (h : (r.2.2.2.1.getD k (dflt TStep)).2 = true) : (acc ++ [(r.2.2.2.1.getD k (dflt TStep)).1]) ++ [1] = acc ++ stepG r k := by
 unfold stepG; rw [if_pos h, List.append_assoc]; rfl
theorem stepNo {r : Renewal} {acc : List Int} {k : Nat} (h : (r.2.2.2.1.getD k (dflt TStep)).2 = false) : (acc ++ [(r.2.2.2.1.getD k (dflt TStep)).1]) ++ [0] = acc ++ stepG r k := by
 unfold stepG; rw [if_neg (by rw [h]; decide), List.append_assoc]; rfl
theorem stepYesI {r : Renewal} {acc : List Int} {k : Nat} (h : (r.2.2.2.1.getD k (dflt TStep)).2 = true) : acc ++ [(r.2.2.2.1.getD k (dflt TStep)).1, 1] = acc ++ stepG r k := by
 unfold stepG; rw [if_pos h]
theorem stepNoI {r : Renewal} {acc : List Int} {k : Nat} (h : (r.2.2.2.1.getD k (dflt TStep)).2 = false) : acc ++ [(r.2.2.2.1.getD k (dflt TStep)).1, 0] = acc ++ stepG r k := by
 unfold stepG; rw [if_neg (by rw [h]; decide)]
theorem stmpEq {r : Renewal} {acc : List Int} {k : Nat} : (acc ++ stampIntsF (r.2.2.2.2.getD k (dflt TStamp))) ++ [(r.2.2.2.2.getD k (dflt TStamp)).2.2.2.2] = acc ++ stmpG r k := by
 unfold stmpG; rw [List.append_assoc]
theorem gsStart2 {α : Type} {g : Nat → List Int} {z acc : List Int} {L : List α} (e : acc = z) : gsInv g z L acc 0 := by rw [e]; exact gsStart
theorem renMidEq {r : Renewal} {acc : List Int} {i : Int} (h : gsInv (stepG r) [4, r.1, r.2.1, r.2.2.1] r.2.2.2.1 acc i) (hl : ¬ i < r.2.2.2.1.length) : acc ++ [(r.2.2.2.2.length : Int)] = renMid r := by
 unfold renMid; rw [← gsEnd h hl]
theorem midLen {r : Renewal} (h : r.2.2.2.1.length ≤ 1048576) : (renMid r).length ≤ 2097157 := by
 unfold renMid
 rw [List.length_append, List.length_append]
 have h1 := flatLen (g := stepG r) (c := 2) (fun _ => Nat.le_refl _) r.2.2.2.1.length
 simp only [List.length_cons, List.length_nil]
 omega
end Fw
namespace Fw
open Go
set_option linter.unusedSimpArgs false
set_option linter.unusedVariables false
theorem in_yes {a b c : Int} (h : (!(inRangeF a b c)) = false) : b ≤ a ∧ a ≤ c := by
 unfold inRangeF pick2 at h
 by_cases h1 : b ≤ a <;> by_cases h2 : a ≤ c <;> simp_all
end Fw
namespace Fw
open Go
theorem bneI' {x y : Int} (h : (x == y) = false) : x ≠ y := by simpa using h
theorem bneT {x y : Int} (h : (x != y) = true) : x ≠ y := by simpa using h
end Fw
namespace Fw
open Go
end Fw
namespace Fw
end Fw
namespace Fw
open Go
set_option linter.unusedSimpArgs false
def bnd : Int := 1152921504606846976
def cellsL {α : Type} (c : α → Nat) : List α → Nat
 | [] => 0
 | x :: xs => c x + cellsL c xs
def cellsC : (t : Ty) → El t → Nat
 | .slice e, xs => cellsL (cellsC e) xs
 | .pair a b, x => cellsC a x.1 + cellsC b x.2
 | .arr _ _, _ => 0
 | .int _, _ => 1
 | .bool, _ => 1
 | .str, _ => 1
def markPre (t : Ty) (x : El t) (n : Int) : Prop := 0 ≤ n ∧ n + cellsC t x ≤ bnd
theorem cellsL_append {α : Type} (c : α → Nat) : ∀ (a b : List α), cellsL c (a ++ b) = cellsL c a + cellsL c b
 | [], b => by simp [cellsL]
 | x :: a, b => by show c x + cellsL c (a ++ b) = c x + cellsL c a + _; rw [cellsL_append c a b]; omega
theorem take_succD {α : Type} {xs : List α} {i : Nat} (h : i < xs.length) (d : α) : xs.take (i + 1) = xs.take i ++ [xs.getD i d] := by
 rw [List.take_add_one, List.getD_eq_getElem?_getD, List.getElem?_eq_getElem h]; rfl
def Ty.wid : Ty → Nat
 | .slice e => e.wid
 | .pair a b => a.wid + b.wid
 | _ => 1
theorem cellsL_sz {α : Type} {c : α → Nat} {f : α → Int → Int} {W : Int} (hW : 0 ≤ W) (hle : ∀ x l, f x l ≤ l ∨ f x l < 0) (h : ∀ x l, 0 ≤ f x l → (c x : Int) ≤ W * (1 + (l - f x l))) :
   ∀ (xs : List α) (l : Int), 0 ≤ szL f xs l → (cellsL c xs : Int) ≤ W * (xs.length + (l - szL f xs l))
 | [], l, _ => by simp [cellsL, szL]
 | x :: xs, l, hs => by
   unfold szL at hs ⊢
   split at hs
   · omega
   · rename_i hn
     rw [if_neg hn]
     have h1 := h x l (by omega)
     have h2 := cellsL_sz hW hle h xs (f x l) hs
     have e : W * ((x :: xs).length + (l - szL f xs (f x l))) = W * (1 + (l - f x l)) + W * (xs.length + (f x l - szL f xs (f x l))) := by
       rw [← Int.mul_add]; congr 1; simp only [List.length_cons]; omega
     rw [e]
     show ((c x + cellsL c xs : Nat) : Int) ≤ _
     omega
theorem cells_sz : ∀ (t : Ty) (x : El t) (l : Int), 0 ≤ szF t x l → (cellsC t x : Int) ≤ (t.wid : Int) * (1 + (l - szF t x l))
 | .slice e, xs, l, h => by
   unfold szF at h ⊢
   split at h
   · omega
   · rename_i hn
     rw [if_neg hn]
     have := cellsL_sz (W := (e.wid : Int)) (by omega) (fun x l => szF_le e x l) (cells_sz e) xs _ h
     refine Int.le_trans this ?_
     refine Int.mul_le_mul_of_nonneg_left ?_ (by show (0 : Int) ≤ (e.wid : Int); omega)
     omega
 | .pair a b, x, l, h => by
   unfold szF at h ⊢
   split at h
   · omega
   · rename_i hn
     rw [if_neg hn]
     have h1 := cells_sz a x.1 l (by omega)
     have h2 := cells_sz b x.2 _ h
     have ha : szF a x.1 l ≤ l := (szF_le a x.1 l).resolve_right hn
     have hb : szF b x.2 (szF a x.1 l) ≤ szF a x.1 l := (szF_le b x.2 _).resolve_right (by omega)
     show ((cellsC a x.1 + cellsC b x.2 : Nat) : Int) ≤ ((a.wid + b.wid : Nat) : Int) * _
     have e1 : (a.wid : Int) * (1 + (l - szF a x.1 l)) ≤ (a.wid : Int) * (1 + (l - szF b x.2 (szF a x.1 l))) := Int.mul_le_mul_of_nonneg_left (by omega) (by omega)
     have e2 : (b.wid : Int) * (1 + (szF a x.1 l - szF b x.2 (szF a x.1 l))) ≤ (b.wid : Int) * (1 + (l - szF b x.2 (szF a x.1 l))) := Int.mul_le_mul_of_nonneg_left (by omega) (by omega)
     rw [Int.natCast_add, Int.natCast_add, Int.add_mul]
     omega
 | .arr _ _, _, l, _ => by show (0 : Int) ≤ 1 * (1 + (l - l)); omega
 | .int _, _, l, _ => by show (1 : Int) ≤ 1 * (1 + (l - l)); omega
 | .bool, _, l, _ => by show (1 : Int) ≤ 1 * (1 + (l - l)); omega
 | .str, x, l, _ => by show (1 : Int) ≤ 1 * (1 + (l - (l - x.length))); omega
theorem markPre_sz {t : Ty} {x : El t} {l : Int} (h : 0 ≤ szF t x l) (hl : l ≤ 1048576) (hw : t.wid ≤ 1000) : markPre t x 1 := by
 refine ⟨by omega, ?_⟩
 have h1 := cells_sz t x l h
 have h2 : (t.wid : Int) * (1 + (l - szF t x l)) ≤ 1000 * 1048577 := by
   refine Int.le_trans (Int.mul_le_mul_of_nonneg_right (b := 1000) (by omega) (by have := szF_le t x l; omega)) ?_
   omega
 unfold bnd; omega
theorem cellsLe (t : Ty) (x : El t) (l : Int) (h : 0 ≤ szF t x l) (hl : l ≤ 1048576) (hw : t.wid ≤ 1000) : ((cellsC t x : Nat) : Int) ≤ 2000000000 := by
 have h1 := markPre_sz h hl hw
 have h2 := cells_sz t x l h
 have h3 : (t.wid : Int) * (1 + (l - szF t x l)) ≤ 1000 * 1048577 := by
   refine Int.le_trans (Int.mul_le_mul_of_nonneg_right (b := 1000) (by omega) (by have := szF_le t x l; omega)) ?_
   omega
 omega
end Fw
namespace Fw
open Go
end Fw
namespace Fw
open Go
def hdP (p : Piece) : Int := List.getD p.2.1 0 (dflt TI)
def tblP (p : Piece) : Int := List.getD [7, 5, 5, 9, 6] (IntKind.i64.wrap (hdP p - 101)).toNat (dflt TI)
def kb1 (p : Piece) : Bool := pick2 ((List.length p.2.1 : Int) == 0) true (!(inRangeF (hdP p) 101 105))
def kb2 (p : Piece) : Bool := ((List.length p.2.1 : Int) != tblP p)
def kindF (p : Piece) : Int := if pick2 (kb1 p) true (kb2 p) = true then 0 else hdP p
theorem kLen {l : List Int} (h : ((List.length l : Int) == 0) = false) : inRange 0 l.length := by
 have h1 : ¬ ((List.length l : Int) = 0) := by simpa using h
 exact upRange (a := l) ⟨0, Nat.zero_le _, rfl⟩ (by omega)
theorem kLen1 {p : Piece} (h : kb1 p = false) : inRange 0 p.2.1.length := kLen (orF h).1
theorem kHd {p : Piece} (h : kb1 p = false) : 101 ≤ hdP p ∧ hdP p ≤ 105 := by
 have h2 := notF (orF h).2
 unfold inRangeF at h2
 exact ⟨of_decide_eq_true (andT h2).1, of_decide_eq_true (andT h2).2⟩
theorem kIdx {p : Piece} (h : kb1 p = false) : inRange (IntKind.i64.wrap (hdP p - 101)) 5 := by
 have := kHd h
 rw [w64 (by omega) (by omega)]
 exact upRange (a := [0, 0, 0, 0, 0]) ⟨(hdP p - 101).toNat, by simp; omega, by omega⟩ (by simp; omega)
theorem kind0 {p : Piece} (h : kb1 p = true) : (0 : Int) = kindF p := by
 unfold kindF; rw [if_pos (by rw [h]; rfl)]
theorem kind1 {p : Piece} (h : kb2 p = true) : (0 : Int) = kindF p := by
 unfold kindF; rw [if_pos (by rw [h, pick2_or, Bool.or_true])]
theorem kind2 {p : Piece} (h : kb1 p = false) (h2 : kb2 p = false) : hdP p = kindF p := by
 unfold kindF; rw [if_neg (by rw [h, h2]; decide)]
theorem kindI {p : Piece} (h : pick2 (kb1 p) true (kb2 p) = true) : (0 : Int) = kindF p := by
 unfold kindF; rw [if_pos h]
theorem kind7 {p : Piece} (h : (kindF p != 101) = false) : List.length p.2.1 = 7 := by
 have h1 := bneI h
 unfold kindF at h1
 split at h1
 · cases h1
 · rename_i hh
   have hh : pick2 (kb1 p) true (kb2 p) = false := by simpa using hh
   have e := bneI (orF hh).2
   unfold tblP at e
   rw [h1] at e
   have e2 : (IntKind.i64.wrap (101 - 101)).toNat = 0 := by decide
   rw [e2] at e
   have e3 : (List.length p.2.1 : Int) = 7 := e
   omega
theorem seven {l : List Int} (h : List.length l = 7) (j : Nat) (hj : j < 7) : inRange (j : Int) l.length :=
 upRange (a := l) ⟨j, by omega, rfl⟩ (by omega)
abbrev Cert := Int × Int × Int × Int × Int × Int × Int
def nth (p : Piece) (j : Nat) : Int := List.getD p.2.1 j (dflt TI)
def pcBad (p : Piece) : Bool := pick2 (kindF p != 101) true (nth p 6 != p.1)
def pieceCertF (p : Piece) : Cert × Bool := if pcBad p = true then ((0, 0, 0, 0, 0, 0, 0), false) else ((nth p 1, nth p 2, nth p 3, nth p 4, nth p 5, nth p 6, p.2.2), true)
theorem pc0 {p : Piece} (h : pcBad p = true) : pieceCertF p = ((0, 0, 0, 0, 0, 0, 0), false) := by unfold pieceCertF; rw [if_pos h]
theorem pc1 {p : Piece} (h : pcBad p = false) : pieceCertF p = ((nth p 1, nth p 2, nth p 3, nth p 4, nth p 5, nth p 6, p.2.2), true) := by unfold pieceCertF; rw [if_neg (by rw [h]; decide)]
theorem pc7 {p : Piece} (h : pcBad p = false) : List.length p.2.1 = 7 := kind7 (orF h).1
def certSpanF (c : Cert) : Int × Int := (c.2.2.2.1, c.2.2.2.2.1)
def certIntsF (c : Cert) : List Int := [101, c.1, c.2.1, c.2.2.1, c.2.2.2.1, c.2.2.2.2.1, c.2.2.2.2.2.1]
def isCertF (c : Cert) : Bool :=
 pick2 (pick2 (pick2 (pick2 (pick2 (inRangeF c.1 1 999) (inRangeF c.2.1 1 99) false) (inRangeF c.2.2.2.2.2.1 1 99) false) (c.2.1 != c.2.2.2.2.2.1) false) (inRangeF c.2.2.1 0 99) false) (isSpanF (certSpanF c)) false
def ownerF (keys : List Key) (n : Int) : Int := if keyI keys n < 0 then -1 else (keyAt keys n).2.1
theorem owner0 {keys : List Key} {n : Int} (h : keyI keys n < 0) : (-1 : Int) = ownerF keys n := by unfold ownerF; rw [if_pos h]
theorem owner1 {keys : List Key} {n : Int} (h : ¬ keyI keys n < 0) : (keyAt keys n).2.1 = ownerF keys n := by unfold ownerF; rw [if_neg h]
def checkCertF (keys : List Key) (c : Cert) : Bool :=
 pick2 (pick2 (isCertF c) (checkMarkF keys c.2.2.2.2.2.1 (certIntsF c) c.2.2.2.2.2.2) false) (ownerF keys c.2.1 == c.2.2.1) false
theorem checkCertI (keys : List Key) (c : Cert) : pick2 (pick2 (isCertF c) (checkMarkF keys c.2.2.2.2.2.1 (certIntsF c) c.2.2.2.2.2.2) false) (c.2.2.1 == ownerF keys c.2.1) false = checkCertF keys c := by
 unfold checkCertF
 have : (c.2.2.1 == ownerF keys c.2.1) = (ownerF keys c.2.1 == c.2.2.1) := by rw [Bool.eq_iff_iff]; simp; exact eq_comm
 rw [this]
def cfTest (keys : List Key) (g : Sig) (p : Piece) : Bool :=
 pick2 (pick2 (pick2 (pieceCertF p).2 (checkCertF keys (pieceCertF p).1) false) ((pieceCertF p).1.1 == g.2.1) false) ((pieceCertF p).1.2.1 == g.1) false
def cfStep (keys : List Key) (g : Sig) (acc : Cert × Int) (p : Piece) : Cert × Int := if cfTest keys g p = true then ((pieceCertF p).1, IntKind.i64.wrap (acc.2 + 1)) else acc
def cfAll (keys : List Key) (l : List Piece) (g : Sig) : Cert × Int := l.foldl (cfStep keys g) ((0, 0, 0, 0, 0, 0, 0), 0)
def certForF (keys : List Key) (l : List Piece) (g : Sig) : Cert × Bool := if ((cfAll keys l g).2 != 1) = true then ((0, 0, 0, 0, 0, 0, 0), false) else ((cfAll keys l g).1, true)
theorem cfYes {keys : List Key} {g : Sig} {acc : Cert × Int} {p : Piece} (h : cfTest keys g p = true) : cfStep keys g acc p = ((pieceCertF p).1, IntKind.i64.wrap (acc.2 + 1)) := by unfold cfStep; rw [if_pos h]
theorem cfNo {keys : List Key} {g : Sig} {acc : Cert × Int} {p : Piece} (h : cfTest keys g p = false) : cfStep keys g acc p = acc := by unfold cfStep; rw [if_neg (by rw [h]; decide)]
def cfInv (keys : List Key) (g : Sig) (l : List Piece) (c : Cert) (n : Int) (i : Int) : Prop := foInv (cfStep keys g) ((0, 0, 0, 0, 0, 0, 0), 0) l (c, n) i
theorem cfStart {keys : List Key} {g : Sig} {l : List Piece} : cfInv keys g l (0, 0, 0, 0, 0, 0, 0) 0 0 := foStart
theorem cfRange {keys : List Key} {g : Sig} {l : List Piece} {c : Cert} {n i : Int} (h : cfInv keys g l c n i) (hl : i < l.length) : inRange i l.length := foRange h hl
theorem cfGo1 {keys : List Key} {g : Sig} {l : List Piece} {c : Cert} {n i : Int} {d : Piece} (h : cfInv keys g l c n i) (hl : i < l.length) (hb : l.length ≤ bigLen) (ht : cfTest keys g (l.getD i.toNat d) = true) :
   cfInv keys g l (pieceCertF (l.getD i.toNat d)).1 (IntKind.i64.wrap (n + 1)) (IntKind.i64.wrap (i + 1)) ∧ (l.length - (IntKind.i64.wrap (i + 1))).toNat < (l.length - i).toNat := by
 have := foStep (d := d) h hl hb
 rw [cfYes ht] at this; exact this
theorem cfGo0 {keys : List Key} {g : Sig} {l : List Piece} {c : Cert} {n i : Int} {d : Piece} (h : cfInv keys g l c n i) (hl : i < l.length) (hb : l.length ≤ bigLen) (ht : cfTest keys g (l.getD i.toNat d) = false) :
   cfInv keys g l c n (IntKind.i64.wrap (i + 1)) ∧ (l.length - (IntKind.i64.wrap (i + 1))).toNat < (l.length - i).toNat := by
 have := foStep (d := d) h hl hb
 rw [cfNo ht] at this; exact this
theorem cfEnd0 {keys : List Key} {g : Sig} {l : List Piece} {c : Cert} {n i : Int} (h : cfInv keys g l c n i) (hl : ¬ i < l.length) (hn : (n != 1) = true) : certForF keys l g = ((0, 0, 0, 0, 0, 0, 0), false) := by
 have e : (c, n) = cfAll keys l g := foEnd h hl
 unfold certForF; rw [← e, if_pos hn]
theorem cfEnd1 {keys : List Key} {g : Sig} {l : List Piece} {c : Cert} {n i : Int} (h : cfInv keys g l c n i) (hl : ¬ i < l.length) (hn : (n != 1) = false) : certForF keys l g = (c, true) := by
 have e : (c, n) = cfAll keys l g := foEnd h hl
 unfold certForF; rw [← e, if_neg (by rw [hn]; decide)]
end Fw
namespace Fw
open Go
def efF {α β : Type} (bad : α → Bool) (g : β → α → β) (e : β) : List α → β → β
 | [], m => m
 | x :: t, m => if bad x = true then e else efF bad g e t (g m x)
def efInv {α β : Type} (bad : α → Bool) (g : β → α → β) (e z : β) (L : List α) (m : β) (i : Int) : Prop := upInv L i ∧ efF bad g e L z = efF bad g e (L.drop i.toNat) m
theorem efStart {α β : Type} {bad : α → Bool} {g : β → α → β} {e z : β} {L : List α} : efInv bad g e z L z 0 := ⟨upStart, rfl⟩
theorem efRange {α β : Type} {bad : α → Bool} {g : β → α → β} {e z m : β} {L : List α} {i : Int} (h : efInv bad g e z L m i) (hl : i < L.length) : inRange i L.length := upRange h.1 hl
theorem efCons {α β : Type} {bad : α → Bool} {g : β → α → β} {e z m : β} {L : List α} {d : α} {i : Int} (h : efInv bad g e z L m i) (hl : i < L.length) :
   efF bad g e L z = if bad (L.getD i.toNat d) = true then e else efF bad g e (L.drop (i.toNat + 1)) (g m (L.getD i.toNat d)) := by
 obtain ⟨⟨k, hk, rfl⟩, h2⟩ := h
 have h1 : ((k : Int)).toNat = k := by omega
 rw [h1] at h2 ⊢
 have hk' : k < L.length := by omega
 rw [h2, List.drop_eq_getElem_cons hk']
 have : L.getD k d = L[k] := by rw [List.getD_eq_getElem?_getD, List.getElem?_eq_getElem hk']; rfl
 rw [this, efF]
theorem efStop {α β : Type} {bad : α → Bool} {g : β → α → β} {e z m : β} {L : List α} {d : α} {i : Int} (h : efInv bad g e z L m i) (hl : i < L.length) (hb : bad (L.getD i.toNat d) = true) : e = efF bad g e L z := by
 rw [efCons (d := d) h hl, if_pos hb]
theorem efStep {α β : Type} {bad : α → Bool} {g : β → α → β} {e z m : β} {L : List α} {d : α} {i : Int} (h : efInv bad g e z L m i) (hl : i < L.length) (hb : L.length ≤ bigLen) (hx : bad (L.getD i.toNat d) = false) :
   efInv bad g e z L (g m (L.getD i.toNat d)) (IntKind.i64.wrap (i + 1)) ∧ (L.length - (IntKind.i64.wrap (i + 1))).toNat < (L.length - i).toNat := by
 obtain ⟨u1, u2, u3⟩ := upStep h.1 hl hb
 obtain ⟨k, hk, e1⟩ := h.1
 refine ⟨⟨u1, ?_⟩, u3⟩
 have e2 : (IntKind.i64.wrap (i + 1)).toNat = i.toNat + 1 := by rw [u2]; omega
 rw [e2, efCons (d := d) h hl, if_neg (by rw [hx]; decide)]
theorem efEnd {α β : Type} {bad : α → Bool} {g : β → α → β} {e z m : β} {L : List α} {i : Int} (h : efInv bad g e z L m i) (hl : ¬ i < L.length) : m = efF bad g e L z := by
 obtain ⟨k, hk, e1⟩ := h.1
 rw [h.2, List.drop_eq_nil_of_le (by omega)]; rfl
abbrev Method := Int × Int × Int × Int
abbrev TMethod : Ty := .pair TI (.pair TI (.pair TI TI))
abbrev Frame := List Key × List Authority × List Method × Int × Int
def methI (l : List Method) (n : Int) : Int := findI (fun (x : Method) => x.1 == n) l
def methAt (l : List Method) (n : Int) : Method := l.getD (methI l n).toNat (dflt TMethod)
def stampKeyF (l : List Authority) (s : Stamp) : Int := if authI l s.1 < 0 then 0 else (authAt l s.1).2.1
theorem stampKey0 {l : List Authority} {s : Stamp} (h : authI l s.1 < 0) : (0 : Int) = stampKeyF l s := by unfold stampKeyF; rw [if_pos h]
theorem stampKey1 {l : List Authority} {s : Stamp} (h : ¬ authI l s.1 < 0) : (authAt l s.1).2.1 = stampKeyF l s := by unfold stampKeyF; rw [if_neg h]
end Fw
namespace Fw
open Go
set_option linter.unusedSimpArgs false
set_option linter.unusedVariables false
def pickF {α β : Type} (f : α → β × Bool) (L : List α) : List β := L.filterMap (fun x => if (f x).2 = true then some (f x).1 else none)
def pkInv {α β : Type} (f : α → β × Bool) (L : List α) (acc : List β) (i : Int) : Prop := upInv L i ∧ acc = pickF f (L.take i.toNat)
theorem pkStart {α β : Type} {f : α → β × Bool} {L : List α} : pkInv f L [] 0 := ⟨upStart, by simp [pickF]⟩
theorem pkRange {α β : Type} {f : α → β × Bool} {L : List α} {acc : List β} {i : Int} (h : pkInv f L acc i) (hl : i < L.length) : inRange i L.length := upRange h.1 hl
theorem pick_len {α β : Type} (f : α → β × Bool) (L : List α) : (pickF f L).length ≤ L.length := List.length_filterMap_le _ _
theorem pkLen {α β : Type} {f : α → β × Bool} {L : List α} {acc : List β} {i : Int} (h : pkInv f L acc i) (hs : L.length ≤ 1048576) : acc.length + 1 ≤ maxApp := by
 have := pick_len f (L.take i.toNat)
 rw [← h.2, List.length_take] at this
 unfold maxApp; omega
theorem pick_app {α β : Type} (f : α → β × Bool) (L : List α) (x : α) : pickF f (L ++ [x]) = pickF f L ++ (if (f x).2 = true then [(f x).1] else []) := by
 unfold pickF
 rw [List.filterMap_append]
 congr 1
 split
 · rename_i h; simp [h]
 · rename_i h; simp [h]
theorem pkStep {α β : Type} {f : α → β × Bool} {L : List α} {acc acc' : List β} {d : α} {i : Int} (h : pkInv f L acc i) (hl : i < L.length) (hb : L.length ≤ bigLen)
   (e : acc' = acc ++ (if (f (L.getD i.toNat d)).2 = true then [(f (L.getD i.toNat d)).1] else [])) :
   pkInv f L acc' (IntKind.i64.wrap (i + 1)) ∧ (L.length - (IntKind.i64.wrap (i + 1))).toNat < (L.length - i).toNat := by
 obtain ⟨u1, u2, u3⟩ := upStep h.1 hl hb
 obtain ⟨k, hk, e1⟩ := h.1
 refine ⟨⟨u1, ?_⟩, u3⟩
 have e2 : (IntKind.i64.wrap (i + 1)).toNat = i.toNat + 1 := by rw [u2]; omega
 have hi : i.toNat < L.length := by omega
 rw [e2, take_succD hi d, pick_app, e, h.2]
theorem pkYes {α β : Type} {f : α → β × Bool} {L : List α} {acc : List β} {d : α} {i : Int} (h : pkInv f L acc i) (hl : i < L.length) (hb : L.length ≤ bigLen) (g : (f (L.getD i.toNat d)).2 = true) :
   pkInv f L (acc ++ [(f (L.getD i.toNat d)).1]) (IntKind.i64.wrap (i + 1)) ∧ (L.length - (IntKind.i64.wrap (i + 1))).toNat < (L.length - i).toNat :=
 pkStep (d := d) h hl hb (by rw [if_pos g])
theorem pkNo {α β : Type} {f : α → β × Bool} {L : List α} {acc : List β} {d : α} {i : Int} (h : pkInv f L acc i) (hl : i < L.length) (hb : L.length ≤ bigLen) (g : (f (L.getD i.toNat d)).2 = false) :
   pkInv f L acc (IntKind.i64.wrap (i + 1)) ∧ (L.length - (IntKind.i64.wrap (i + 1))).toNat < (L.length - i).toNat :=
 pkStep (d := d) h hl hb (by rw [if_neg (by rw [g]; decide), List.append_nil])
theorem pkEnd {α β : Type} {f : α → β × Bool} {L : List α} {acc : List β} {i : Int} (h : pkInv f L acc i) (hl : ¬ i < L.length) : acc = pickF f L := by
 obtain ⟨k, hk, e1⟩ := h.1
 rw [h.2, List.take_of_length_le (by omega)]
theorem kindK {p : Piece} {k : Int} (h : (kindF p != k) = false) (hk : k ≠ 0) {n : Nat} (hn : List.getD [7, 5, 5, 9, 6] (IntKind.i64.wrap (k - 101)).toNat (dflt TI) = (n : Int)) : List.length p.2.1 = n := by
 have h1 := bneI h
 unfold kindF at h1
 split at h1
 · exact (hk h1.symm).elim
 · rename_i hh
   have hh : pick2 (kb1 p) true (kb2 p) = false := by simpa using hh
   have e := bneI (orF hh).2
   unfold tblP at e
   rw [h1, hn] at e
   omega
theorem nIdx {l : List Int} {n : Nat} (h : List.length l = n) (j : Nat) (hj : j < n) : inRange (j : Int) l.length :=
 upRange (a := l) ⟨j, by omega, rfl⟩ (by omega)
abbrev Mandate := Int × Int × Int × Int × Int × Int
abbrev Status := Int × Int × Int × Int × Int
def pmBad (p : Piece) : Bool := pick2 (kindF p != 105) true (nth p 5 != p.1)
def pieceMandF (p : Piece) : Mandate × Bool := if pmBad p = true then ((0, 0, 0, 0, 0, 0), false) else ((nth p 1, nth p 2, nth p 3, nth p 4, nth p 5, p.2.2), true)
theorem pm0 {p : Piece} (h : pmBad p = true) : pieceMandF p = ((0, 0, 0, 0, 0, 0), false) := by unfold pieceMandF; rw [if_pos h]
theorem pm1 {p : Piece} (h : pmBad p = false) : pieceMandF p = ((nth p 1, nth p 2, nth p 3, nth p 4, nth p 5, p.2.2), true) := by unfold pieceMandF; rw [if_neg (by rw [h]; decide)]
theorem pmN {p : Piece} (h : (kindF p != 105) = false) : List.length p.2.1 = 6 := kindK h (by decide) rfl
def psBad (p : Piece) : Bool := pick2 (kindF p != 102) true (nth p 4 != p.1)
def pieceStatF (p : Piece) : Status × Bool := if psBad p = true then ((0, 0, 0, 0, 0), false) else ((nth p 1, nth p 2, nth p 3, nth p 4, p.2.2), true)
theorem ps0 {p : Piece} (h : psBad p = true) : pieceStatF p = ((0, 0, 0, 0, 0), false) := by unfold pieceStatF; rw [if_pos h]
theorem ps1 {p : Piece} (h : psBad p = false) : pieceStatF p = ((nth p 1, nth p 2, nth p 3, nth p 4, p.2.2), true) := by unfold pieceStatF; rw [if_neg (by rw [h]; decide)]
theorem psN {p : Piece} (h : (kindF p != 102) = false) : List.length p.2.1 = 5 := kindK h (by decide) rfl
def mandatesF (l : List Piece) : List Mandate := pickF pieceMandF l
def statFor (c : Cert) (p : Piece) : Status × Bool := ((pieceStatF p).1, pick2 (pick2 (pieceStatF p).2 ((pieceStatF p).1.1 == c.1) false) ((pieceStatF p).1.2.2.2.1 == c.2.2.2.2.2.1) false)
def statusesF (l : List Piece) (c : Cert) : List Status := pickF (statFor c) l
theorem andLt {i m n : Int} (h : pick2 (decide (i < m)) (decide (i < n)) false = true) : i < m ∧ i < n := by
 unfold pick2 at h
 cases h1 : decide (i < m) <;> rw [h1] at h
 · cases h
 · exact ⟨of_decide_eq_true h1, of_decide_eq_true h⟩
theorem andGe {i m n : Int} (h : pick2 (decide (i < m)) (decide (i < n)) false = false) : ¬ (i < m ∧ i < n) := by
 rintro ⟨h1, h2⟩
 unfold pick2 at h
 rw [decide_eq_true h1, decide_eq_true h2] at h
 cases h
theorem geNot {x : Int} (h : decide (x ≥ 0) = true) : ¬ x < 0 := by have := of_decide_eq_true h; omega
end Fw
namespace Fw
open Go
noncomputable def pairDF (m a b : Int) : Int := digestF m [1, a, b]
theorem rg {x a b : Int} (h : (!(inRangeF x a b)) = false) : a ≤ x ∧ x ≤ b := by
 unfold inRangeF pick2 at h
 cases h1 : decide (a ≤ x) <;> rw [h1] at h
 · cases h
 · cases h2 : decide (x ≤ b) <;> rw [h2] at h
   · cases h
   · exact ⟨of_decide_eq_true h1, of_decide_eq_true h2⟩
end Fw
namespace Fw
open Go
def cpInv {α : Type} (L : List α) (acc : List α) (i : Int) : Prop := upInv L i ∧ acc = L.take i.toNat
theorem cpStart {α : Type} {L : List α} : cpInv L [] 0 := ⟨upStart, by simp⟩
theorem cpRange {α : Type} {L acc : List α} {i : Int} (h : cpInv L acc i) (hl : i < L.length) : inRange i L.length := upRange h.1 hl
theorem cpStep {α : Type} {L acc acc' : List α} {d : α} {i : Int} (h : cpInv L acc i) (hl : i < L.length) (hb : L.length ≤ bigLen) (e : acc' = acc ++ [L.getD i.toNat d]) :
   cpInv L acc' (IntKind.i64.wrap (i + 1)) ∧ (L.length - (IntKind.i64.wrap (i + 1))).toNat < (L.length - i).toNat := by
 obtain ⟨u1, u2, u3⟩ := upStep h.1 hl hb
 obtain ⟨k, hk, e1⟩ := h.1
 refine ⟨⟨u1, ?_⟩, u3⟩
 have e2 : (IntKind.i64.wrap (i + 1)).toNat = i.toNat + 1 := by rw [u2]; omega
 rw [e2, take_succD (by omega) d, e, h.2]
theorem cpEnd {α : Type} {L acc : List α} {i : Int} (h : cpInv L acc i) (hl : ¬ i < L.length) : acc = L := by
 obtain ⟨k, hk, e1⟩ := h.1
 rw [h.2, List.take_of_length_le (by omega)]
theorem cpLen {α : Type} {L acc : List α} {i : Int} (h : cpInv L acc i) (_ : i < L.length) (hs : L.length ≤ big20) : acc.length + 1 ≤ maxApp := by
 rw [h.2, List.length_take]
 unfold big20 at hs; unfold maxApp; omega
theorem appOk {α : Type} {l : List α} (h : l.length ≤ big20) : 0 + l.length ≤ maxApp := by
 unfold big20 at h; unfold maxApp; omega
end Fw
namespace Fw
open Go
noncomputable def leafOfF (m doc : Int) (l : List Piece) (b : Int) : Int := digestF m [3, doc, piecesF m l, b]
noncomputable def beforeF (m : Int) (ch : List Renewal) (k : Int) : Int := if k > 0 then renDigF m (ch.getD (IntKind.i64.wrap (k - 1)).toNat (dflt TRen)) else 0
def chAt (s : Strand) (k : Int) : Renewal := s.2.getD k.toNat (dflt TRen)
def leafAtBad (s : Strand) (docs : List Int) (k : Int) : Bool :=
 pick2 (pick2 (!(inRangeF k 0 (IntKind.i64.wrap ((s.2.length : Int) - 1)))) true ((docs.length : Int) != (s.2.length : Int))) true (!(inRangeF (chAt s k).1 0 (s.1.length : Int)))
noncomputable def leafAtF (s : Strand) (docs : List Int) (k : Int) : Int :=
 if leafAtBad s docs k = true then -1 else leafOfF (chAt s k).2.1 (docs.getD k.toNat (dflt TI)) (subL s.1 0 (chAt s k).1) (beforeF (chAt s k).2.1 s.2 k)
theorem la0 {s : Strand} {docs : List Int} {k : Int} (h : leafAtBad s docs k = true) : (-1 : Int) = leafAtF s docs k := by unfold leafAtF; rw [if_pos h]
theorem la1 {s : Strand} {docs : List Int} {k : Int} (h : leafAtBad s docs k = false) (g : k > 0) :
   leafOfF (chAt s k).2.1 (docs.getD k.toNat (dflt TI)) (subL s.1 0 (chAt s k).1) (renDigF (chAt s k).2.1 (s.2.getD (IntKind.i64.wrap (k - 1)).toNat (dflt TRen))) = leafAtF s docs k := by
 unfold leafAtF beforeF; rw [if_neg (by rw [h]; decide), if_pos g]
theorem la2 {s : Strand} {docs : List Int} {k : Int} (h : leafAtBad s docs k = false) (g : ¬ k > 0) :
   leafOfF (chAt s k).2.1 (docs.getD k.toNat (dflt TI)) (subL s.1 0 (chAt s k).1) 0 = leafAtF s docs k := by
 unfold leafAtF beforeF; rw [if_neg (by rw [h]; decide), if_neg g]
theorem laIdx {k : Int} {n : Nat} (h : (!(inRangeF k 0 (IntKind.i64.wrap ((n : Int) - 1)))) = false) (hb : n ≤ bigLen) : inRange k n := by
 have := rg h
 unfold bigLen at hb
 rw [w64 (by omega) (by omega)] at this
 exact ⟨this.1, by omega⟩
theorem prevIdx {k : Int} {n : Nat} (h : inRange k n) (g : k > 0) (hb : n ≤ bigLen) : inRange (IntKind.i64.wrap (k - 1)) n := by
 obtain ⟨h1, h2⟩ := h
 unfold bigLen at hb
 rw [w64 (by omega) (by omega)]
 exact ⟨by omega, by omega⟩
theorem getD_mem {α : Type} {l : List α} {k : Int} (h : inRange k l.length) (d : α) : l.getD k.toNat d ∈ l := by
 obtain ⟨h1, h2⟩ := h
 rw [List.getD_eq_getElem?_getD, List.getElem?_eq_getElem (by omega)]
 exact List.getElem_mem _
theorem subL_sm {l : List Piece} {a b : Int} (h : Sm big20 (.slice TPiece) l) : Sm big20 (.slice TPiece) (subL l a b) := by
 refine ⟨?_, fun x hx => h.2 x (List.mem_of_mem_take (List.mem_of_mem_drop hx))⟩
 have := h.1
 unfold subL
 rw [List.length_drop, List.length_take]; omega
noncomputable def ddF (d : Doc) (r : Renewal) : Int × Bool := (docDigF r.2.1 d, true)
noncomputable def docDigsF (s : Strand) (d : Doc) : List Int := pickF (ddF d) s.2
theorem pkLen2 {α β : Type} {f : α → β × Bool} {L : List α} {acc : List β} {i : Int} (h : pkInv f L acc i) (hs : L.length ≤ 2000000) : acc.length + 1 ≤ maxApp := by
 have := pick_len f (L.take i.toNat)
 rw [← h.2, List.length_take] at this
 unfold maxApp; omega
end Fw
namespace Fw
open Go
def itemEvF (x : Item) : List Strand × List (List Stamp) := ([x.2.2.2.2], [])
end Fw
namespace Fw
open Go
abbrev TDoc : Ty := .pair TI (.pair (.slice .str) (.slice TI))
end Fw
namespace Fw
open Go
abbrev TSign : Ty := .pair TI (.pair TI (.pair TI (.pair TI (.pair TI (.pair TI (.pair TI (.pair TI TI)))))))
abbrev TItem : Ty := .pair TI (.pair TI (.pair TDoc (.pair TSign (.pair (.slice TPiece) (.slice TRen)))))
end Fw
namespace Fw
open Go
end Fw
namespace Fw
open Go
theorem appMore {α : Type} {l : List α} (h : l.length ≤ 4000000) : 0 + l.length ≤ maxApp := by unfold maxApp; omega
abbrev TStrand : Ty := .pair (.slice TPiece) (.slice TRen)
end Fw
namespace Fw
open Go
end Fw
namespace Fw
open Go
end Fw
namespace Fw
open Go
end Fw
namespace Fw
open Go
end Fw
namespace Fw
open Go
end Fw
namespace Fw
open Go
def tkInv {α : Type} (p : α → Bool) (l : List α) (i : Int) : Prop := 0 ≤ i ∧ i ≤ l.length ∧ ∀ y ∈ l.take i.toNat, p y = true
section
variable {α : Type} {p : α → Bool} {l : List α} {i : Int} {d x : α}
theorem tkStart : tkInv p l 0 := ⟨by omega, by omega, by simp⟩
theorem tkRange (h : tkInv p l i) (hl : i < (l.length : Int)) : inRange i l.length := ⟨h.1, hl⟩
theorem tkEnd (h : tkInv p l i) (g : pick2 (decide (i < (l.length : Int))) (p (l.getD i.toNat d)) false = false) : i.toNat = (l.takeWhile p).length := by
 obtain ⟨h1, h2, h3⟩ := h
 have e : l.takeWhile p = l.take i.toNat := by
   have e1 : l = l.take i.toNat ++ l.drop i.toNat := (List.take_append_drop _ _).symm
   rw [e1, List.takeWhile_append_of_pos h3]
   have e2 : (l.drop i.toNat).takeWhile p = [] := by
     by_cases hl : i.toNat < l.length
     · rw [List.drop_eq_getElem_cons hl, List.takeWhile_cons_of_neg]
       have hd : decide (i < (l.length : Int)) = true := decide_eq_true (by omega)
       rw [hd] at g
       have g : p (l.getD i.toNat d) = false := g
       rw [List.getD_eq_getElem?_getD, List.getElem?_eq_getElem hl] at g
       simp only [Option.getD_some] at g
       rw [g]; simp
     · rw [List.drop_eq_nil_of_le (by omega)]; rfl
   rw [e2, List.append_nil, ← e1]
 rw [e, List.length_take]; omega
def insP (p : α → Bool) (x : α) (l : List α) : List α := l.takeWhile p ++ x :: l.dropWhile p
theorem tw_take : l.take (l.takeWhile p).length = l.takeWhile p := by
 have e := List.takeWhile_append_dropWhile (p := p) (l := l)
 have : (l.takeWhile p ++ l.dropWhile p).take (l.takeWhile p).length = l.takeWhile p := List.take_left
 rwa [e] at this
theorem tw_drop : l.drop (l.takeWhile p).length = l.dropWhile p := by
 have e := List.takeWhile_append_dropWhile (p := p) (l := l)
 have : (l.takeWhile p ++ l.dropWhile p).drop (l.takeWhile p).length = l.dropWhile p := List.drop_left
 rwa [e] at this
theorem insP_len : (insP p x l).length = l.length + 1 := by
 have e := congrArg List.length (List.takeWhile_append_dropWhile (p := p) (l := l))
 rw [List.length_append] at e
 unfold insP; rw [List.length_append, List.length_cons]; omega
theorem insP_eq {m k : Nat} (hm : m = (l.takeWhile p).length) (hk : k = (l.takeWhile p).length) : l.take m ++ ([] ++ [x]) ++ l.drop k = insP p x l := by
 subst hm; subst hk
 rw [tw_take, tw_drop]; simp [insP]
theorem sub0_len (h : tkInv p l i) : (subL l 0 i).length = i.toNat := by
 unfold subL; rw [List.length_drop, List.length_take]; have := h.2.1; have := h.1; simp; omega
end
end Fw
namespace Fw
open Go
end Fw
namespace Fw
open Go
abbrev Red := Int × List Int × List Bool × List (List UInt8) × List Int × List (List Int)
end Fw
namespace Fw
open Go
end Fw
namespace Fw
open Go
end Fw
namespace Fw
open Go
abbrev Step1 := Int × Bool
end Fw
namespace Fw
open Go
section
variable {con : Stamp → Stamp → Bool} {st : List Stamp}
end
end Fw
namespace Fw
open Go
abbrev Span := Int × Int
def makeSpanF (a b : Int) : Span × Bool := if max 0 a > min 10000 b then ((0, 0), false) else ((max 0 a, min 10000 b), true)
theorem mkSp0 {a b : Int} (h : max 0 a > min 10000 b) : makeSpanF a b = ((0, 0), false) := by unfold makeSpanF; rw [if_pos h]
theorem mkSp1 {a b : Int} (h : ¬ max 0 a > min 10000 b) : makeSpanF a b = ((max 0 a, min 10000 b), true) := by unfold makeSpanF; rw [if_neg h]
theorem isSpan_iff (s : Span) : isSpanF s = true ↔ 0 ≤ s.1 ∧ s.1 ≤ s.2 ∧ s.2 ≤ 10000 := by
 unfold isSpanF isTimeF inRangeF
 simp only [pick2_and, Bool.and_eq_true, decide_eq_true_eq]
 omega
theorem mkSpI {a b : Int} : pick2 (decide (a > b)) true (!(isSpanF (max a 0, min b 10000))) = true ↔ max 0 a > min 10000 b := by
 have h := isSpan_iff (max a 0, min b 10000)
 rw [pick2_or, Bool.or_eq_true, decide_eq_true_eq, Bool.not_eq_true', ← Bool.not_eq_true, h]
 simp only []
 omega
theorem mkSpI0 {a b : Int} (h : pick2 (decide (a > b)) true (!(isSpanF (max a 0, min b 10000))) = true) : makeSpanF a b = ((0, 0), false) := mkSp0 (mkSpI.1 h)
theorem mkSpI1 {a b : Int} (h : pick2 (decide (a > b)) true (!(isSpanF (max a 0, min b 10000))) = false) : makeSpanF a b = ((max a 0, min b 10000), true) := by
 rw [mkSp1 (fun h2 => by rw [mkSpI.2 h2] at h; cases h), Int.max_comm, Int.min_comm]
def ssBad (l : List Authority) (s : Stamp) : Bool := pick2 (pick2 (decide (authI l s.1 < 0)) true (decide ((authAt l s.1).2.2 < 0))) true (!(isTimeF s.2.2.1))
def stampSpanF (l : List Authority) (s : Stamp) : Span × Bool :=
 if ssBad l s = true then ((0, 0), false) else makeSpanF (IntKind.i64.wrap (s.2.2.1 - (authAt l s.1).2.2)) (IntKind.i64.wrap (s.2.2.1 + (authAt l s.1).2.2))
theorem ss0 {l : List Authority} {s : Stamp} (h : ssBad l s = true) : stampSpanF l s = ((0, 0), false) := by unfold stampSpanF; rw [if_pos h]
theorem ss1 {l : List Authority} {s : Stamp} (h : ssBad l s = false) : stampSpanF l s = makeSpanF (IntKind.i64.wrap (s.2.2.1 - (authAt l s.1).2.2)) (IntKind.i64.wrap (s.2.2.1 + (authAt l s.1).2.2)) := by
 unfold stampSpanF; rw [if_neg (by rw [h]; decide)]
theorem ssIdx {l : List Authority} {s : Stamp} (h : ssBad l s = false) : inRange (authI l s.1) l.length := by
 refine findRange fun h2 => ?_
 have h1 := (orF (orF h).1).1
 exact of_decide_eq_false h1 h2
def inSp (t : Int) (s : Span) : Bool := pick2 (isSpanF s) (inRangeF t s.1 s.2) false
def cntStep (t : Int) (n : Int) (s : Span) : Int := if inSp t s = true then IntKind.i64.wrap (n + 1) else n
def countAtF (l : List Span) (t : Int) : Int := l.foldl (cntStep t) 0
theorem inSp_iff {t : Int} {s : Span} : inSp t s = true ↔ 0 ≤ s.1 ∧ s.1 ≤ t ∧ t ≤ s.2 ∧ s.2 ≤ 10000 := by
 have h := isSpan_iff s
 unfold inSp
 rw [pick2_and, Bool.and_eq_true, h]
 unfold inRangeF
 rw [pick2_and, Bool.and_eq_true, decide_eq_true_eq, decide_eq_true_eq]
 omega
theorem cntSpec {t : Int} {s : Span} : pick2 (pick2 (isSpanF s) (decide (s.1 ≤ t)) false) (decide (t ≤ s.2)) false = inSp t s := by
 unfold inSp inRangeF
 cases isSpanF s <;> cases decide (s.1 ≤ t) <;> rfl
theorem cntY {t n : Int} {s : Span} (h : inSp t s = true) : cntStep t n s = IntKind.i64.wrap (n + 1) := if_pos h
theorem cntN {t n : Int} {s : Span} (h : inSp t s = false) : cntStep t n s = n := if_neg (by rw [h]; decide)
theorem countAux (t : Int) : ∀ (l : List Span) (k : Nat), k + l.length ≤ bigLen → l.foldl (cntStep t) (k : Int) = ((k + l.countP (inSp t) : Nat) : Int)
 | [], k, _ => rfl
 | s :: r, k, h => by
   have hb : k + 1 + r.length ≤ bigLen := by rw [List.length_cons] at h; omega
   rw [List.foldl_cons, List.countP_cons]
   cases hs : inSp t s with
   | true =>
     rw [cntY hs]
     have e : IntKind.i64.wrap ((k : Int) + 1) = ((k + 1 : Nat) : Int) := by
       rw [w64 (by omega) (by unfold bigLen at hb; omega)]; omega
     rw [e, countAux t r (k + 1) hb]
     simp only [if_true]
     omega
   | false =>
     rw [cntN hs, countAux t r k (by omega)]
     simp
theorem countAt_eq {l : List Span} (h : l.length ≤ bigLen) (t : Int) : countAtF l t = ((l.countP (inSp t) : Nat) : Int) := by
 have := countAux t l 0 (by omega)
 unfold countAtF
 rw [Nat.zero_add] at this
 exact this
def supF (l : List Span) (t liars : Int) : Bool := pick2 (inRangeF liars 0 (IntKind.i64.wrap ((l.length : Int) - 1))) (decide (countAtF l t ≥ IntKind.i64.wrap ((l.length : Int) - liars))) false
theorem sup_iff {l : List Span} (hb : l.length ≤ bigLen) (t liars : Int) : supF l t liars = true ↔ 0 ≤ liars ∧ liars < l.length ∧ (l.length : Int) - liars ≤ ((l.countP (inSp t) : Nat) : Int) := by
 unfold supF
 rw [countAt_eq hb, pick2_and, Bool.and_eq_true, decide_eq_true_eq]
 have e1 : IntKind.i64.wrap ((l.length : Int) - 1) = (l.length : Int) - 1 := w64 (by omega) (by unfold bigLen at hb; omega)
 rw [e1]
 unfold inRangeF
 rw [pick2_and, Bool.and_eq_true, decide_eq_true_eq, decide_eq_true_eq]
 constructor
 · rintro ⟨⟨h1, h2⟩, h3⟩
   rw [w64 (by unfold bigLen at hb; omega) (by unfold bigLen at hb; omega)] at h3
   omega
 · rintro ⟨h1, h2, h3⟩
   rw [w64 (by unfold bigLen at hb; omega) (by unfold bigLen at hb; omega)]
   omega
theorem cntMono {l : List Span} {t u : Int} (h : ∀ s ∈ l, inSp t s = true → inSp u s = true) : l.countP (inSp t) ≤ l.countP (inSp u) :=
 List.countP_mono_left h
theorem lastFrom (t : Int) : ∀ l : List Span, (∃ s ∈ l, inSp t s = true) → ∃ s ∈ l, inSp t s = true ∧ ∀ x ∈ l, inSp t x = true → x.1 ≤ s.1
 | [], h => by obtain ⟨s, hs, _⟩ := h; cases hs
 | a :: r, h => by
   by_cases hr : ∃ s ∈ r, inSp t s = true
   · obtain ⟨s, hs, h1, h2⟩ := lastFrom t r hr
     by_cases ha : inSp t a = true ∧ s.1 ≤ a.1
     · refine ⟨a, List.mem_cons_self, ha.1, fun x hx hi => ?_⟩
       rcases List.mem_cons.1 hx with e | e
       · rw [e]; exact Int.le_refl _
       · exact Int.le_trans (h2 x e hi) ha.2
     · refine ⟨s, List.mem_cons_of_mem _ hs, h1, fun x hx hi => ?_⟩
       rcases List.mem_cons.1 hx with e | e
       · rw [e] at hi ⊢
         exact Int.le_of_lt (Int.not_le.1 fun hh => ha ⟨hi, hh⟩)
       · exact h2 x e hi
   · obtain ⟨s, hs, h1⟩ := h
     rcases List.mem_cons.1 hs with e | e
     · refine ⟨s, hs, h1, fun x hx hi => ?_⟩
       rcases List.mem_cons.1 hx with e2 | e2
       · rw [e, e2]; exact Int.le_refl _
       · exact (hr ⟨x, e2, hi⟩).elim
     · exact (hr ⟨s, e, h1⟩).elim
theorem firstTo (t : Int) : ∀ l : List Span, (∃ s ∈ l, inSp t s = true) → ∃ s ∈ l, inSp t s = true ∧ ∀ x ∈ l, inSp t x = true → s.2 ≤ x.2
 | [], h => by obtain ⟨s, hs, _⟩ := h; cases hs
 | a :: r, h => by
   by_cases hr : ∃ s ∈ r, inSp t s = true
   · obtain ⟨s, hs, h1, h2⟩ := firstTo t r hr
     by_cases ha : inSp t a = true ∧ a.2 ≤ s.2
     · refine ⟨a, List.mem_cons_self, ha.1, fun x hx hi => ?_⟩
       rcases List.mem_cons.1 hx with e | e
       · rw [e]; exact Int.le_refl _
       · exact Int.le_trans ha.2 (h2 x e hi)
     · refine ⟨s, List.mem_cons_of_mem _ hs, h1, fun x hx hi => ?_⟩
       rcases List.mem_cons.1 hx with e | e
       · rw [e] at hi ⊢
         exact Int.le_of_lt (Int.not_le.1 fun hh => ha ⟨hi, hh⟩)
       · exact h2 x e hi
   · obtain ⟨s, hs, h1⟩ := h
     rcases List.mem_cons.1 hs with e | e
     · refine ⟨s, hs, h1, fun x hx hi => ?_⟩
       rcases List.mem_cons.1 hx with e2 | e2
       · rw [e, e2]; exact Int.le_refl _
       · exact (hr ⟨x, e2, hi⟩).elim
     · exact (hr ⟨s, e, h1⟩).elim
theorem supSome {l : List Span} (hb : l.length ≤ bigLen) {t liars : Int} (h : supF l t liars = true) : ∃ s ∈ l, inSp t s = true := by
 obtain ⟨h1, h2, h3⟩ := (sup_iff hb t liars).1 h
 exact List.countP_pos_iff.1 (by omega)
theorem supFrom {l : List Span} (hb : l.length ≤ bigLen) {t liars : Int} (h : supF l t liars = true) : ∃ s ∈ l, isSpanF s = true ∧ s.1 ≤ t ∧ supF l s.1 liars = true := by
 obtain ⟨s, hs, h1, h2⟩ := lastFrom t l (supSome hb h)
 have hi := inSp_iff.1 h1
 refine ⟨s, hs, (isSpan_iff s).2 ⟨hi.1, by omega, hi.2.2.2⟩, hi.2.1, ?_⟩
 obtain ⟨g1, g2, g3⟩ := (sup_iff hb t liars).1 h
 refine (sup_iff hb s.1 liars).2 ⟨g1, g2, ?_⟩
 have := cntMono (l := l) (t := t) (u := s.1) (fun x hx hx2 => by
   have hx3 := inSp_iff.1 hx2
   have hx4 := h2 x hx hx2
   exact inSp_iff.2 ⟨hx3.1, hx4, by omega, hx3.2.2.2⟩)
 omega
theorem supTo {l : List Span} (hb : l.length ≤ bigLen) {t liars : Int} (h : supF l t liars = true) : ∃ s ∈ l, isSpanF s = true ∧ t ≤ s.2 ∧ supF l s.2 liars = true := by
 obtain ⟨s, hs, h1, h2⟩ := firstTo t l (supSome hb h)
 have hi := inSp_iff.1 h1
 refine ⟨s, hs, (isSpan_iff s).2 ⟨hi.1, by omega, hi.2.2.2⟩, hi.2.2.1, ?_⟩
 obtain ⟨g1, g2, g3⟩ := (sup_iff hb t liars).1 h
 refine (sup_iff hb s.2 liars).2 ⟨g1, g2, ?_⟩
 have := cntMono (l := l) (t := t) (u := s.2) (fun x hx hx2 => by
   have hx3 := inSp_iff.1 hx2
   have hx4 := h2 x hx hx2
   exact inSp_iff.2 ⟨hx3.1, by omega, hx4, hx3.2.2.2⟩)
 omega
def agP (P : Int → Bool) : Nat → Span × Bool
 | 0 => ((0, 0), false)
 | k + 1 => if P (k : Int) = true then ((if (agP P k).2 = true then (agP P k).1.1 else (k : Int), (k : Int)), true) else agP P k
def agreedF (l : List Span) (liars : Int) : Span × Bool := agP (fun t => supF l t liars) 10001
theorem agNone {P : Int → Bool} : ∀ k : Nat, (∀ t : Nat, t < k → P (t : Int) = false) → agP P k = ((0, 0), false)
 | 0, _ => rfl
 | k + 1, h => by
   rw [agP, if_neg (by rw [h k (by omega)]; decide)]
   exact agNone k fun t ht => h t (by omega)
theorem agSome {P : Int → Bool} {a b : Nat} (ha : P (a : Int) = true) (hb : P (b : Int) = true) (hA : ∀ t : Nat, t < a → P (t : Int) = false) : ∀ k : Nat, a < k → b < k → (∀ t : Nat, b < t → t < k → P (t : Int) = false) →
   agP P k = (((a : Int), (b : Int)), true)
 | 0, h, _, _ => by omega
 | k + 1, h1, h2, h3 => by
   rw [agP]
   by_cases e : b = k
   · subst e
     rw [if_pos hb]
     by_cases e2 : a = b
     · subst e2
       rw [agNone a hA]; rfl
     · -- below b there is a last one: what is told of the beginning is a
       have hab : a < b := by omega
       have : (agP P b).2 = true ∧ (agP P b).1.1 = (a : Int) := by
         clear h1 h2 h3 e2
         have go : ∀ n : Nat, a < n → (agP P n).2 = true ∧ (agP P n).1.1 = (a : Int) := by
           intro n
           induction n with
           | zero => intro h; omega
           | succ n ih =>
             intro h
             rw [agP]
             by_cases hn : a = n
             · subst hn
               rw [if_pos ha, agNone a hA]; exact ⟨rfl, rfl⟩
             · have := ih (by omega)
               split
               · exact ⟨rfl, by show (if _ then _ else _) = _; rw [if_pos this.1]; exact this.2⟩
               · exact this
         exact go b hab
       rw [if_pos this.1, this.2]
   · rw [if_neg (by rw [h3 k (by omega) (by omega)]; decide)]
     exact agSome ha hb hA k (by
       by_cases e2 : a = k
       · exact (e (by
           have : ¬ b < a := fun hh => by rw [hA b hh] at hb; cases hb
           omega)).elim
       · omega) (by omega) fun t ht1 ht2 => h3 t ht1 (by omega)
def agInv (l : List Span) (liars : Int) (s : Span) (found : Bool) (t : Int) : Prop := ∃ k : Nat, k ≤ 10001 ∧ t = k ∧ (s, found) = agP (fun t => supF l t liars) k
theorem agStart {l : List Span} {liars : Int} : agInv l liars (0, 0) false 0 := ⟨0, by omega, rfl, rfl⟩
theorem agStep {l : List Span} {liars t : Int} {s s' : Span} {found found' : Bool} (h : agInv l liars s found t) (hl : t ≤ 10000)
   (e : (s', found') = if supF l t liars = true then ((if found = true then s.1 else t, t), true) else (s, found)) :
   agInv l liars s' found' (IntKind.i64.wrap (t + 1)) ∧ (10001 - (IntKind.i64.wrap (t + 1))).toNat < (10001 - t).toNat := by
 obtain ⟨k, hk, rfl, e2⟩ := h
 have ew : IntKind.i64.wrap ((k : Int) + 1) = ((k + 1 : Nat) : Int) := by rw [w64 (by omega) (by omega)]; omega
 rw [ew]
 refine ⟨⟨k + 1, by omega, rfl, ?_⟩, by omega⟩
 rw [e, agP]
 have e3 : s = (agP (fun t => supF l t liars) k).1 := congrArg Prod.fst e2
 have e4 : found = (agP (fun t => supF l t liars) k).2 := congrArg Prod.snd e2
 split
 · rw [← e3, ← e4]
 · exact e2
theorem agEnd {l : List Span} {liars t : Int} {s : Span} {found : Bool} (h : agInv l liars s found t) (hl : ¬ t ≤ 10000) : (s, found) = agreedF l liars := by
 obtain ⟨k, hk, rfl, e2⟩ := h
 have : k = 10001 := by omega
 subst this
 exact e2
def aeInv (l : List Span) (liars f t i : Int) : Prop := upInv l i ∧
 ((f = -1 ∧ ∀ x ∈ l.take i.toNat, isSpanF x = true → supF l x.1 liars = false) ∨ (0 ≤ f ∧ f ≤ 10000 ∧ supF l f liars = true ∧ ∀ x ∈ l.take i.toNat, isSpanF x = true → supF l x.1 liars = true → f ≤ x.1)) ∧
 ((t = -1 ∧ ∀ x ∈ l.take i.toNat, isSpanF x = true → supF l x.2 liars = false) ∨ (0 ≤ t ∧ t ≤ 10000 ∧ supF l t liars = true ∧ ∀ x ∈ l.take i.toNat, isSpanF x = true → supF l x.2 liars = true → x.2 ≤ t))
theorem aeStart {l : List Span} {liars : Int} : aeInv l liars (-1) (-1) 0 :=
 ⟨upStart, .inl ⟨rfl, fun x hx => by simp at hx⟩, .inl ⟨rfl, fun x hx => by simp at hx⟩⟩
def aeA (l : List Span) (liars f : Int) (x : Span) : Bool := pick2 (pick2 (isSpanF x) (supF l x.1 liars) false) (pick2 (decide (f < 0)) true (decide (x.1 < f))) false
def aeB (l : List Span) (liars : Int) (x : Span) : Bool := pick2 (isSpanF x) (supF l x.2 liars) false
theorem aeStep {l : List Span} {liars f t f' t' i : Int} {d : Span} (h : aeInv l liars f t i) (hl : i < l.length) (hb : l.length ≤ bigLen)
   (ef : f' = if aeA l liars f (l.getD i.toNat d) = true then (l.getD i.toNat d).1 else f) (et : t' = if aeB l liars (l.getD i.toNat d) = true then max t (l.getD i.toNat d).2 else t) :
   aeInv l liars f' t' (IntKind.i64.wrap (i + 1)) ∧ (l.length - (IntKind.i64.wrap (i + 1))).toNat < (l.length - i).toNat := by
 obtain ⟨h1, h2, h3⟩ := h
 obtain ⟨u1, u2, u3⟩ := upStep h1 hl hb
 refine ⟨⟨u1, ?_, ?_⟩, u3⟩ <;> rw [u2, take_snoc (d := d) h1 hl]
 · generalize l.getD i.toNat d = x at ef et
   have hx := isSpan_iff x
   unfold aeA at ef
   simp only [pick2_and, pick2_or] at ef
   cases hs : isSpanF x with
   | false =>
     rw [hs] at ef
     simp at ef
     subst ef
     rcases h2 with ⟨h2, h4⟩ | ⟨h2, h5, h6, h4⟩
     · refine .inl ⟨h2, fun y hy hy2 => ?_⟩
       rcases List.mem_append.1 hy with hy | hy
       · exact h4 y hy hy2
       · rw [List.mem_singleton.1 hy, hs] at hy2; cases hy2
     · refine .inr ⟨h2, h5, h6, fun y hy hy2 hy3 => ?_⟩
       rcases List.mem_append.1 hy with hy | hy
       · exact h4 y hy hy2 hy3
       · rw [List.mem_singleton.1 hy, hs] at hy2; cases hy2
   | true =>
     have hx2 := hx.1 hs
     rw [hs] at ef
     cases hp : supF l x.1 liars with
     | false =>
       rw [hp] at ef
       simp at ef
       subst ef
       rcases h2 with ⟨h2, h4⟩ | ⟨h2, h5, h6, h4⟩
       · refine .inl ⟨h2, fun y hy hy2 => ?_⟩
         rcases List.mem_append.1 hy with hy | hy
         · exact h4 y hy hy2
         · rw [List.mem_singleton.1 hy]; exact hp
       · refine .inr ⟨h2, h5, h6, fun y hy hy2 hy3 => ?_⟩
         rcases List.mem_append.1 hy with hy | hy
         · exact h4 y hy hy2 hy3
         · rw [List.mem_singleton.1 hy, hp] at hy3; cases hy3
     | true =>
       rw [hp] at ef
       simp at ef
       rcases h2 with ⟨h2, h4⟩ | ⟨h2, h5, h6, h4⟩
       · rw [if_pos (.inl (by omega))] at ef
         subst ef
         refine .inr ⟨hx2.1, by omega, hp, fun y hy hy2 hy3 => ?_⟩
         rcases List.mem_append.1 hy with hy | hy
         · rw [h4 y hy hy2] at hy3; cases hy3
         · rw [List.mem_singleton.1 hy]; exact Int.le_refl _
       · split at ef
         · subst ef
           refine .inr ⟨hx2.1, by omega, hp, fun y hy hy2 hy3 => ?_⟩
           rcases List.mem_append.1 hy with hy | hy
           · have := h4 y hy hy2 hy3; omega
           · rw [List.mem_singleton.1 hy]; exact Int.le_refl _
         · subst ef
           refine .inr ⟨h2, h5, h6, fun y hy hy2 hy3 => ?_⟩
           rcases List.mem_append.1 hy with hy | hy
           · exact h4 y hy hy2 hy3
           · rw [List.mem_singleton.1 hy]; omega
 · generalize l.getD i.toNat d = x at ef et
   have hx := isSpan_iff x
   unfold aeB at et
   simp only [pick2_and] at et
   cases hs : isSpanF x with
   | false =>
     rw [hs] at et
     simp at et
     subst et
     rcases h3 with ⟨h2, h4⟩ | ⟨h2, h5, h6, h4⟩
     · refine .inl ⟨h2, fun y hy hy2 => ?_⟩
       rcases List.mem_append.1 hy with hy | hy
       · exact h4 y hy hy2
       · rw [List.mem_singleton.1 hy, hs] at hy2; cases hy2
     · refine .inr ⟨h2, h5, h6, fun y hy hy2 hy3 => ?_⟩
       rcases List.mem_append.1 hy with hy | hy
       · exact h4 y hy hy2 hy3
       · rw [List.mem_singleton.1 hy, hs] at hy2; cases hy2
   | true =>
     have hx2 := hx.1 hs
     rw [hs] at et
     cases hp : supF l x.2 liars with
     | false =>
       rw [hp] at et
       simp at et
       subst et
       rcases h3 with ⟨h2, h4⟩ | ⟨h2, h5, h6, h4⟩
       · refine .inl ⟨h2, fun y hy hy2 => ?_⟩
         rcases List.mem_append.1 hy with hy | hy
         · exact h4 y hy hy2
         · rw [List.mem_singleton.1 hy]; exact hp
       · refine .inr ⟨h2, h5, h6, fun y hy hy2 hy3 => ?_⟩
         rcases List.mem_append.1 hy with hy | hy
         · exact h4 y hy hy2 hy3
         · rw [List.mem_singleton.1 hy, hp] at hy3; cases hy3
     | true =>
       rw [hp] at et
       simp at et
       rcases h3 with ⟨h2, h4⟩ | ⟨h2, h5, h6, h4⟩
       · have e : t' = x.2 := by omega
         subst e
         refine .inr ⟨by omega, by omega, hp, fun y hy hy2 hy3 => ?_⟩
         rcases List.mem_append.1 hy with hy | hy
         · rw [h4 y hy hy2] at hy3; cases hy3
         · rw [List.mem_singleton.1 hy]; exact Int.le_refl _
       · refine .inr ⟨by omega, by omega, ?_, fun y hy hy2 hy3 => ?_⟩
         · rcases Int.le_total t x.2 with g | g
           · rw [et, Int.max_eq_right g]; exact hp
           · rw [et, Int.max_eq_left g]; exact h6
         · rcases List.mem_append.1 hy with hy | hy
           · have := h4 y hy hy2 hy3; omega
           · rw [List.mem_singleton.1 hy]; omega
theorem aeNone {l : List Span} {liars f t i : Int} (hb : l.length ≤ bigLen) (h : aeInv l liars f t i) (hl : ¬ i < l.length) (hf : f < 0) : agreedF l liars = ((0, 0), false) := by
 obtain ⟨h1, h2, h3⟩ := h
 rw [up_end h1 hl, List.take_length] at h2
 refine agNone _ fun n _ => ?_
 cases hn : supF l (n : Int) liars with
 | false => rfl
 | true =>
   obtain ⟨s, hs, g1, g2, g3⟩ := supFrom hb hn
   rcases h2 with ⟨_, h4⟩ | ⟨h4, _⟩
   · rw [h4 s hs g1] at g3; cases g3
   · omega
theorem aeSome {l : List Span} {liars f t i : Int} (hb : l.length ≤ bigLen) (h : aeInv l liars f t i) (hl : ¬ i < l.length) (hf : ¬ f < 0) : agreedF l liars = ((f, t), true) := by
 obtain ⟨h1, h2, h3⟩ := h
 rw [up_end h1 hl, List.take_length] at h2 h3
 rcases h2 with ⟨h2, _⟩ | ⟨h2, h4, h5, h6⟩
 · omega
 · rcases h3 with ⟨_, h7⟩ | ⟨h3, h8, h9, h7⟩
   · obtain ⟨s, hs, g1, g2, g3⟩ := supTo hb h5
     rw [h7 s hs g1] at g3; cases g3
   · have ef : f = ((f.toNat : Nat) : Int) := by omega
     have et : t = ((t.toNat : Nat) : Int) := by omega
     unfold agreedF
     rw [ef, et]
     rw [ef] at h5
     rw [et] at h9
     refine agSome (P := fun t => supF l t liars) h5 h9 (fun n hn => ?_) 10001 (by omega) (by omega) (fun n hn hn2 => ?_)
     · show supF l (n : Int) liars = false
       cases hc : supF l (n : Int) liars with
       | false => rfl
       | true =>
         obtain ⟨s, hs, g1, g2, g3⟩ := supFrom hb hc
         have := h6 s hs g1 g3
         omega
     · show supF l (n : Int) liars = false
       cases hc : supF l (n : Int) liars with
       | false => rfl
       | true =>
         obtain ⟨s, hs, g1, g2, g3⟩ := supTo hb hc
         have := h7 s hs g1 g3
         omega
theorem agBad {l : List Span} {liars : Int} (h : (!(inRangeF liars 0 (IntKind.i64.wrap ((l.length : Int) - 1)))) = true) : agreedF l liars = ((0, 0), false) := by
 refine agNone _ fun n _ => ?_
 show supF l (n : Int) liars = false
 unfold supF
 rw [Bool.not_eq_true'] at h
 rw [h]; rfl
end Fw
