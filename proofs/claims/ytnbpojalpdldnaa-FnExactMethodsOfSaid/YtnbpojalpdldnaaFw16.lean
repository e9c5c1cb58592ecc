/- Guards, and regions in the order of the text. Conditions: none. -/
import Derived.Test.YtnbpojalpdldnaaFw15
namespace Fw
open Go

def coreB0 : A → Option Bool
  | .c (.pure .bool) y => some y
  | _ => none
def coreB (ρ : Env) : A → Option Bool
  | .c (.pure .bool) y => some y
  | .cond s g ver _ a => if (ρ.get s).g = g ∧ (ρ.get s).ver = ver then coreB0 a else none
  | _ => none
def isCond : A → Bool
  | .cond _ _ _ _ _ => true
  | _ => false

def dstOf (ops : List Oper) (j : Nat) : Option Nat :=
  match ops[j]? with
  | some o => o.dst
  | none => none

/-- an operation, under its guard -/
def step (C : Ctx) (ops : List Oper) (ρ : Env) (o : Oper) : Out :=
  match o.guard with
  | none => ex C none ρ o
  | some (j, b) =>
    match dstOf ops j with
    | some s =>
      match coreB ρ (ρ.get s).a with
      | some y =>
        match ex C (some (s, (ρ.get s).g, (ρ.get s).ver, b)) ρ o with
        | some ([⟨d, false, A⟩], cs) =>
          if isCond A = false ∧ s ≠ d ∧ o.dst = some d ∧ A.tgt ≠ some d then some ([w1 d (.cond s (ρ.get s).g (ρ.get s).ver b A)], cs.map fun p => y = b → p) else none
        | _ => none
      | none => none
    | none => none

section
variable {n B : Nat} {X : List Nat} {w0 : World} {M0 M : Mem} {ω : Own} {ρ : Env} {a : Act} {w : World} {P : Program} {C : Ctx}

/-- the age of what a reference points to -/
def A.ageLe (ρ : Env) : A → Prop
  | .ptr k g _ => g ≤ (ρ.get k).g
  | .bor k g _ _ _ _ _ => g ≤ (ρ.get k).g
  | .elp k g _ _ _ _ _ _ => g ≤ (ρ.get k).g
  | .al k g _ _ => g ≤ (ρ.get k).g
  | .cond s g _ _ a => g ≤ (ρ.get s).g ∧ a.ageLe ρ
  | _ => True

theorem Rel0.age {vals : Vl} {t : Nat} {v : Value} : ∀ {b : A}, Rel0 n M ω w ρ vals t v b → b.ageLe ρ
  | .junk, _ => trivial
  | .c _ _, _ => trivial
  | .ptr _ _ _, h => h.1.2
  | .bor _ _ _ _ _ _ _, h => h.1.2.1
  | .elp _ _ _ _ _ _ _ _, h => h.1.2.1
  | .al _ _ _ _, h => h.1.2
  | .eptr _ _ _, _ => trivial
  | .cond _ _ _ _ _, h => h.elim
  | .tup _, _ => trivial
  | .fn _, _ => trivial

theorem get_puts1 (ρ : Env) (d t : Nat) (U : A) : (ρ.puts [w1 d U]).get t = if t = d then ⟨(ρ.get t).g + 1, 0, U⟩ else ρ.get t := by
  show (ρ.put (w1 d U)).get t = _
  rw [Env.get_put]; rfl

theorem Rel0.swap {vals : Vl} {t d : Nat} {v : Value} {U U' : A} : ∀ {b : A}, b.ageLe ρ → Rel0 n M ω w (ρ.puts [w1 d U]) vals t v b → Rel0 n M ω w (ρ.puts [w1 d U']) vals t v b
  | .junk, _, h => h
  | .c _ _, _, h => h
  | .ptr k g off, ha, ⟨h1, h2⟩ => by
    refine ⟨⟨h1.1, ?_⟩, fun hg => h2 ?_⟩
    · have := h1.2; rw [get_puts1] at this ⊢; split at this <;> simp_all
    · rw [get_puts1] at hg ⊢; split at hg <;> simp_all
  | .bor k g ver u x org e, ha, ⟨h1, h2⟩ => by
    have ha' : g ≤ (ρ.get k).g := ha
    by_cases hk : k = d
    · subst hk
      refine ⟨⟨h1.1, ?_, fun hg => ?_⟩, fun hc => ?_⟩
      · rw [get_puts1]; simp; omega
      · rw [get_puts1] at hg; simp at hg; omega
      · have := hc.1; rw [get_puts1] at this; simp at this; omega
    · have e : (ρ.puts [w1 d U']).get k = (ρ.puts [w1 d U]).get k := by rw [get_puts1, get_puts1]; simp [hk]
      refine ⟨⟨h1.1, by rw [e]; exact h1.2.1, by rw [e]; exact h1.2.2⟩, fun hc => ?_⟩
      rw [e]; exact h2 (by unfold curK at *; rw [← e]; exact hc)
  | .elp k g ver off et i eo arr, ha, ⟨h1, h2⟩ => by
    have ha' : g ≤ (ρ.get k).g := ha
    by_cases hk : k = d
    · subst hk
      refine ⟨⟨h1.1, ?_, fun hg => ?_⟩, fun hc => ?_⟩
      · rw [get_puts1]; simp; omega
      · rw [get_puts1] at hg; simp at hg; omega
      · have := hc.1; rw [get_puts1] at this; simp at this; omega
    · have e : (ρ.puts [w1 d U']).get k = (ρ.puts [w1 d U]).get k := by rw [get_puts1, get_puts1]; simp [hk]
      refine ⟨⟨h1.1, by rw [e]; exact h1.2.1, by rw [e]; exact h1.2.2⟩, fun hc => ?_⟩
      rw [e]; exact h2 (by unfold curK at *; rw [← e]; exact hc)
  | .al k g ag off, ha, ⟨h1, b, cs, h2, h3, h4⟩ => by
    have ha' : g ≤ (ρ.get k).g := ha
    refine ⟨⟨h1.1, ?_⟩, b, cs, h2, h3, fun hg => h4 ?_⟩
    · have := h1.2; rw [get_puts1] at this ⊢; split at this <;> simp_all
    · rw [get_puts1] at hg ⊢; split at hg <;> simp_all
  | .eptr _ _ _, _, h => h
  | .cond _ _ _ _ _, _, h => h.elim
  | .tup _, _, h => h
  | .fn _, _, h => h

theorem Rel0.swapNe {vals : Vl} {t d : Nat} {v : Value} {U U' : A} : ∀ {b : A}, b.tgt ≠ some d → Rel0 n M ω w (ρ.puts [w1 d U]) vals t v b → Rel0 n M ω w (ρ.puts [w1 d U']) vals t v b
  | .junk, _, h => h
  | .c _ _, _, h => h
  | .ptr k g off, ha, ⟨h1, h2⟩ => by
    have hk : k ≠ d := fun e => ha (by rw [e]; rfl)
    have e : (ρ.puts [w1 d U']).get k = (ρ.puts [w1 d U]).get k := by rw [get_puts1, get_puts1]; simp [hk]
    exact ⟨⟨h1.1, by rw [e]; exact h1.2⟩, fun hg => h2 (by rw [← e]; exact hg)⟩
  | .bor k g ver u x org ee, ha, ⟨h1, h2⟩ => by
    have hk : k ≠ d := fun e => ha (by rw [e]; rfl)
    have e : (ρ.puts [w1 d U']).get k = (ρ.puts [w1 d U]).get k := by rw [get_puts1, get_puts1]; simp [hk]
    refine ⟨⟨h1.1, by rw [e]; exact h1.2.1, by rw [e]; exact h1.2.2⟩, fun hc => ?_⟩
    rw [e]; exact h2 (by unfold curK at *; rw [← e]; exact hc)
  | .elp k g ver off et i eo arr, ha, ⟨h1, h2⟩ => by
    have hk : k ≠ d := fun e => ha (by rw [e]; rfl)
    have e : (ρ.puts [w1 d U']).get k = (ρ.puts [w1 d U]).get k := by rw [get_puts1, get_puts1]; simp [hk]
    refine ⟨⟨h1.1, by rw [e]; exact h1.2.1, by rw [e]; exact h1.2.2⟩, fun hc => ?_⟩
    rw [e]; exact h2 (by unfold curK at *; rw [← e]; exact hc)
  | .al k g ag off, ha, ⟨h1, b, cs, h2, h3, h4⟩ => by
    have hk : k ≠ d := fun e => ha (by rw [e]; rfl)
    have e : (ρ.puts [w1 d U']).get k = (ρ.puts [w1 d U]).get k := by rw [get_puts1, get_puts1]; simp [hk]
    exact ⟨⟨h1.1, by rw [e]; exact h1.2⟩, b, cs, h2, h3, fun hg => h4 (by rw [← e]; exact hg)⟩
  | .eptr _ _ _, _, h => h
  | .cond _ _ _ _ _, _, h => h.elim
  | .tup _, _, h => h
  | .fn _, _, h => h

/-- what stands in slot d is said otherwise -/
theorem St0.rewrap {tmps tmps' : Array Value} {w' : World} {M' : Mem} {ω' : Own} (S0 : St0 n B X w0 M0 M ω ρ tmps w) {d : Nat} (hd : d < n) {U U' : A} (hval : ∀ t, t ≠ d → vl tmps' t = vl tmps t)
    (S1 : St0 n B X w0 M0 M' ω' (ρ.puts [w1 d U]) tmps' w') (hrel : Rel n M' ω' w' (ρ.puts [w1 d U']) (vl tmps') d (vl tmps' d) U') :
    St0 n B X w0 M0 M' ω' (ρ.puts [w1 d U']) tmps' w' := by
  refine ⟨S1.size, S1.fr, S1.m0, S1.old, S1.mem, S1.dis, fun t ht => ?_, fun t ht => ?_⟩
  · rw [get_puts1, if_neg (by omega)]; exact S0.high t ht
  · by_cases h : t = d
    · subst h
      rw [get_puts1, if_pos rfl]; exact hrel
    · have h1 := S1.slots t ht
      rw [get_puts1, if_neg h] at h1 ⊢
      have h0 := S0.slots t ht
      generalize (ρ.get t).a = b at h0 h1
      cases b with
      | cond s g ver bb a =>
        obtain ⟨k1, k2⟩ := h0
        obtain ⟨g1, g2⟩ := h1
        by_cases hk : s = d
        · subst hk
          have := k1.2.1
          refine ⟨⟨g1.1, ?_, fun hg => ?_⟩, fun hc => ?_⟩
          · rw [get_puts1]; simp; omega
          · rw [get_puts1] at hg; simp at hg; omega
          · have := hc.1; rw [get_puts1] at this; simp at this; omega
        · have e : (ρ.puts [w1 d U']).get s = (ρ.puts [w1 d U]).get s := by rw [get_puts1, get_puts1]; simp [hk]
          have e0 : (ρ.puts [w1 d U]).get s = ρ.get s := by rw [get_puts1]; simp [hk]
          refine ⟨⟨g1.1, by rw [e]; exact g1.2.1, by rw [e]; exact g1.2.2⟩, fun hc => ?_⟩
          have hc' : curK (ρ.puts [w1 d U]) s g ver := by unfold curK at *; rw [← e]; exact hc
          obtain ⟨c1, c2⟩ := g2 hc'
          refine ⟨fun hv => ?_, c2⟩
          have hr := c1 hv
          have hs : vl tmps' s = vl tmps s := hval s hk
          have hr0 := (k2 (by unfold curK at *; rw [← e0, ← e]; exact hc)).1 (hs.symm.trans hv)
          exact Rel0.swap (ρ := ρ) (d := d) (U := U) (U' := U') (Rel0.age hr0) hr
      | junk => exact trivial
      | c s x => exact h1
      | ptr k g off => 
        have h0' : Rel0 n M ω w ρ (vl tmps) t (vl tmps t) (.ptr k g off) := h0
        have h1' : Rel0 n M' ω' w' (ρ.puts [w1 d U]) (vl tmps') t (vl tmps' t) (.ptr k g off) := h1
        exact Rel0.swap (b := .ptr k g off) (Rel0.age h0') h1'
      | bor k g ver u x org e => 
        have h0' : Rel0 n M ω w ρ (vl tmps) t (vl tmps t) (.bor k g ver u x org e) := h0
        have h1' : Rel0 n M' ω' w' (ρ.puts [w1 d U]) (vl tmps') t (vl tmps' t) (.bor k g ver u x org e) := h1
        exact Rel0.swap (b := .bor k g ver u x org e) (Rel0.age h0') h1'
      | elp k g ver off et i eo arr => 
        have h0' : Rel0 n M ω w ρ (vl tmps) t (vl tmps t) (.elp k g ver off et i eo arr) := h0
        have h1' : Rel0 n M' ω' w' (ρ.puts [w1 d U]) (vl tmps') t (vl tmps' t) (.elp k g ver off et i eo arr) := h1
        exact Rel0.swap (b := .elp k g ver off et i eo arr) (Rel0.age h0') h1'
      | al k g ag off => 
        have h0' : Rel0 n M ω w ρ (vl tmps) t (vl tmps t) (.al k g ag off) := h0
        have h1' : Rel0 n M' ω' w' (ρ.puts [w1 d U]) (vl tmps') t (vl tmps' t) (.al k g ag off) := h1
        exact Rel0.swap (b := .al k g ag off) (Rel0.age h0') h1'
      | eptr u x off => exact h1
      | tup l => exact h1
      | fn f => exact h1

theorem wanted_iff {opsA : Array Oper} {o : Oper} {j : Nat} {b : Bool} {s : Nat} {tmps : Array Value} (hg : o.guard = some (j, b)) (hs : dstOf opsA.toList j = some s) (hlt : s < tmps.size) :
    Region.wanted o (yielded opsA tmps) = true ↔ tmps.getD s undef = .bool b := by
  have hj : (opsA[j]?).bind (·.dst) = some s := by
    unfold dstOf at hs
    rw [Array.getElem?_toList] at hs
    cases h : opsA[j]? with
    | none => rw [h] at hs; cases hs
    | some o => rw [h] at hs; exact hs
  have hv : tmps[s]? = some (tmps.getD s undef) := by
    rw [Array.getD_eq_getD_getElem?, Array.getElem?_eq_getElem hlt]; rfl
  unfold Region.wanted yielded
  rw [hg]
  simp only [hj, Option.bind_some, hv]
  generalize tmps.getD s undef = v
  cases v <;> simp

theorem coreB_val {tmps : Array Value} (S : St0 n B X w0 M0 M ω ρ tmps w) {s : Nat} {y : Bool} (h : coreB ρ (ρ.get s).a = some y) : s < n ∧ ∀ b, vl tmps s = .bool b → y = b := by
  have hs : s < n := by
    rcases Nat.lt_or_ge s n with h' | h'
    · exact h'
    · rw [S.high s h'] at h; cases h
  refine ⟨hs, fun b hb => ?_⟩
  have hr := S.slots s hs
  have base : ∀ {A' : A}, coreB0 A' = some y → Rel0 n M ω w ρ (vl tmps) s (vl tmps s) A' → y = b := by
    intro A' h1 h2
    unfold coreB0 at h1
    split at h1
    · simp only [Option.some.injEq] at h1
      subst h1
      obtain ⟨cs, bs, k1, ⟨k2, k3⟩, _⟩ := h2
      have e1 : cs = [vl tmps s] := k1
      have e2 : cs = [.bool _] := k3
      rw [e1, hb] at e2
      simpa using e2.symm
    · cases h1
  generalize hA : (ρ.get s).a = A' at h hr
  cases A' with
  | cond s1 g1 v1 b1 a1 =>
    obtain ⟨h1, h2⟩ := hr
    simp only [coreB] at h
    split at h
    · rename_i hc
      obtain ⟨h3, h4⟩ := h2 hc
      by_cases hv : vl tmps s1 = .bool b1
      · exact base h (h3 hv)
      · have := h4 hv
        have hb' : tmps.getD s undef = .bool b := hb
        rw [this] at hb'
        cases hb'
    · cases h
  | junk => cases h
  | c s' x =>
    refine base (A' := .c s' x) ?_ hr
    unfold coreB at h
    split at h
    · rename_i heq; cases heq; exact h
    · rename_i heq; cases heq
    · cases h
  | ptr k g off => cases h
  | bor k g ver u x org e => cases h
  | elp k g ver off et i eo arr => cases h
  | eptr u x off => cases h
  | al k g ag off => cases h
  | tup l => cases h
  | fn f => cases h

theorem puts1_g (ρ : Env) {d t : Nat} (A' : A) (h : t ≠ d) : (ρ.puts [w1 d A']).get t = ρ.get t := by rw [get_puts1, if_neg h]

/-- an operation under its guard, in whatever world fits -/
theorem step_ok (hC : CtxOk P C) (hF : ∀ f F, C.fn f = some F → Meets P f F) {opsA : Array Oper} (S : St0 C.n B X w0 M0 M ω ρ a.tmps w) (hB : B ≤ w0.heap.size)
    {i : Nat} {o : Oper} (hi : opsA[i]? = some o) {ws : List Wr} {cs : List Prop} (h : step C opsA.toList ρ o = some (ws, cs)) (hcs : ∀ p ∈ cs, p) {K : Act → World → Prop}
    {Q : Exit → Act → World → Prop} (hK : ∀ a' w', a'.defers = a.defers → (∃ v, a' = a.put o.dst v) → (∃ M' ω', St0 C.n B X w0 M0 M' ω' (ρ.puts ws) a'.tmps w') → K a' w') :
    wpOp P opsA Q i K a w := by
  unfold wpOp
  simp only [hi]
  unfold step at h
  split at h
  · rename_i hg
    have hw : Region.wanted o (yielded opsA a.tmps) = true := by unfold Region.wanted; rw [hg]
    rw [if_pos hw]
    have hgo := ex_ok hC hF S hB (gd := none) (by intro _ _ _ _ e; cases e) h hcs
    exact .inl (Oper.wp_mono (fun a' w' ⟨⟨v, h1⟩, h2⟩ => hK a' w' (by rw [h1]; cases o.dst <;> rfl) ⟨v, h1⟩ h2) (Goes.wp hgo))
  · rename_i j b hg
    split at h
    · rename_i s hs
      split at h
      · rename_i y hy
        obtain ⟨hsn, hyv⟩ := coreB_val S hy
        split at h
        · rename_i d A' cs' he
          split at h
          · rename_i hc
            obtain ⟨hcd, hsd, hdst, htd⟩ := hc
            simp only [Option.some.injEq, Prod.mk.injEq] at h
            obtain ⟨rfl, rfl⟩ := h
            have hd : d < C.n := by
              unfold ex at he
              rw [hdst] at he
              simp only at he
              split at he
              · assumption
              · cases he
            have hiff := wanted_iff hg hs (by rw [S.size]; exact hsn)
            have hput : ∀ v, (a.put o.dst v) = ⟨a.tmps.setIfInBounds d v, a.defers⟩ := fun v => by rw [hdst]; rfl
            have hdz : d < a.tmps.size := by rw [S.size]; exact hd
            by_cases hw : Region.wanted o (yielded opsA a.tmps) = true
            · rw [if_pos hw]
              have hval : vl a.tmps s = .bool b := hiff.1 hw
              have hyb := hyv b hval
              have hgo := ex_ok hC hF S hB (gd := some (s, (ρ.get s).g, (ρ.get s).ver, b)) (by rintro _ _ _ _ ⟨⟩; exact ⟨⟨rfl, rfl⟩, hval⟩) he
                (fun p hp => hcs _ (List.mem_map.2 ⟨p, hp, rfl⟩) hyb)
              refine .inl (Oper.wp_mono ?_ (Goes.wp hgo))
              rintro a' w' ⟨⟨v, rfl⟩, M', ω', hS⟩
              rw [hput] at hS ⊢
              refine hK _ _ rfl ⟨v, (hput v).symm⟩ ⟨M', ω', ?_⟩
              have hs' : vl (a.tmps.setIfInBounds d v) s = .bool b := by
                show (a.tmps.setIfInBounds d v).getD s undef = _
                rw [getD_set a.tmps hdz, if_neg hsd]; exact hval
              refine St0.rewrap S hd (U := A') (fun t ht => ?_) hS ?_
              · show (a.tmps.setIfInBounds d v).getD t undef = _
                rw [getD_set a.tmps hdz, if_neg ht]
              · refine ⟨⟨hsn, ?_, fun _ => ?_⟩, fun _ => ⟨fun _ => ?_, fun e => (e hs').elim⟩⟩
                · rw [puts1_g ρ _ hsd]; exact Nat.le_refl _
                · rw [puts1_g ρ _ hsd]; exact Nat.le_refl _
                · have hr := hS.slots d hd
                  have hgd : (ρ.puts [w1 d A']).get d = ⟨(ρ.get d).g + 1, 0, A'⟩ := by rw [get_puts1, if_pos rfl]
                  have hr : Rel C.n M' ω' w' (ρ.puts [w1 d A']) (vl (a.tmps.setIfInBounds d v)) d (vl (a.tmps.setIfInBounds d v) d) ((ρ.puts [w1 d A']).get d).a := hr
                  rw [hgd] at hr
                  have hr0 : Rel0 C.n M' ω' w' (ρ.puts [w1 d A']) (vl (a.tmps.setIfInBounds d v)) d (vl (a.tmps.setIfInBounds d v) d) A' := by
                    cases A' <;> first | exact hr | cases hcd
                  exact Rel0.swapNe htd hr0
            · rw [if_neg hw]
              have hval : vl a.tmps s ≠ .bool b := fun e => hw (hiff.2 e)
              refine hK _ _ (by rw [hput]) ⟨_, rfl⟩ ?_
              rw [hput]
              refine ⟨_, _, put_ok S hd fun hst => ?_⟩
              refine ⟨⟨hsn, ?_, fun _ => ?_⟩, fun _ => ⟨fun e => ?_, fun _ => rfl⟩⟩
              · rw [puts1_g ρ _ hsd]; exact Nat.le_refl _
              · rw [puts1_g ρ _ hsd]; exact Nat.le_refl _
              · have e' : (a.tmps.setIfInBounds d undef).getD s undef = .bool b := e
                rw [getD_set a.tmps hdz, if_neg hsd] at e'
                exact (hval e').elim
          · cases h
        · cases h
      · cases h
    · cases h

end
end Fw
