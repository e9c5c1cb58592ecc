/- Calls by contract, and all operations together. Conditions: none. -/
import Derived.Test.YtnbpojalpdldnaaFw13
namespace Fw
open Go

/-- a result, or several -/
def ResR (M : Mem) (R : RowFn) : (ss : List Sh) → Value → Vals (ss.map Sh.ty) → List Nat → Prop
  | [s], v, x, bs => ∃ cs, ValC s.ag v cs ∧ EncO M R s cs x.1 bs
  | ss, v, x, bs => ∃ vs, v = .tuple vs.toArray ∧ TupR M R (resK ss x) vs bs

/-- what memory a call leaves behind -/
structure After (w : World) (M : Mem) (w' : World) (M' : Mem) : Prop where
  le : M.le M'
  mem : ∀ b o v, M' b o = some v → w'.cell? ⟨b, o, none⟩ = some v
  old : ∀ b o, b < w.heap.size → M' b o = M b o

/-- function f keeps the contract F -/
structure Meets (P : Program) (f : Nat) (F : Fun) : Prop where
  fn : ∃ fn, P.funcs[f]? = some fn ∧ (fn.name == "runtime.NumGoroutine") = false ∧ fn.body.isNone = false
  call : ∀ (w : World) (M : Mem) (vs : List Value) (xs : Vals F.args), (∀ b o v, M b o = some v → w.cell? ⟨b, o, none⟩ = some v) → ArgsR M F.args vs xs → F.pre xs →
    Calls P f vs.toArray w fun e w' => ∃ v M' bs, e = .returned v ∧ Fr w.heap.size [] w w' ∧ After w M w' M' ∧ ResR M' (rows w') F.res v (F.run xs) bs ∧ bs.Nodup ∧
      ∀ b ∈ bs, w.heap.size ≤ b ∧ ∀ o, M' b o = none

section
variable {n B : Nat} {X : List Nat} {w0 : World} {M0 M : Mem} {ω : Own} {ρ : Env} {tmps : Array Value} {w : World} {P : Program} {C : Ctx}

/-- the operands' values, one by one -/
def OpdsR (n : Nat) (M : Mem) (ω : Own) (w : World) (ρ : Env) (vals : Vl) : List Opd → List Value → Prop
  | [], [] => True
  | q :: qs, v :: vs => OpdR n M ω w ρ vals q v ∧ OpdsR n M ω w ρ vals qs vs
  | _, _ => False

theorem argsK_ok (S : St0 n B X w0 M0 M ω ρ tmps w) {R : Type} {r : R} : ∀ (ts : List Ty) (qs : List Opd) (vs : List Value) (k : Vals ts → Option R), argsK ts qs k = some r →
    OpdsR n M ω w ρ (vl tmps) qs vs → ∃ xs, k xs = some r ∧ ArgsR (full w) ts vs xs
  | [], [], [], k, h, _ => ⟨(), h, trivial⟩
  | t :: ts, q :: qs, v :: vs, k, h, ⟨hq, hqs⟩ => by
    simp only [argsK] at h
    obtain ⟨x, h1, h2⟩ := rd_ok S h
    obtain ⟨xs, h3, h4⟩ := argsK_ok S ts qs vs _ h1 hqs
    exact ⟨(x, xs), h3, h2 v hq, h4⟩
  | [], _ :: _, _, k, h, _ => by simp [argsK] at h
  | _ :: _, [], _, k, h, _ => by simp [argsK] at h
  | [], [], _ :: _, _, _, hq => hq.elim
  | _ :: _, _ :: _, [], _, _, hq => hq.elim

/-- the world behind a call, its result in limbo -/
theorem call_step (S : St0 n B X w0 M0 M ω ρ tmps w) (hB : B ≤ w0.heap.size) {w' : World} {M' : Mem} {bs : List Nat} (hfr : Fr w.heap.size [] w w') (hM : M.le M')
    (hmem : ∀ b o v, M' b o = some v → w'.cell? ⟨b, o, none⟩ = some v) (hold : ∀ b o, b < w.heap.size → M' b o = M b o)
    (hbs : ∀ b ∈ bs, w.heap.size ≤ b ∧ b < w'.heap.size ∧ ∀ o, M' b o = none) (L : Nat) :
    St0 n B X w0 M0 M' (fun b => if b ∈ bs then some L else ω b) ρ tmps w' := by
  refine S.step [] S.size ⟨hfr.os, hfr.tape, hfr.output, hfr.size, fun k hk hx => hfr.block k (Nat.lt_of_lt_of_le hk (S.bnd hB)) (by simp)⟩ hM (fun b o hb _ => hold b o (Nat.lt_of_lt_of_le hb (S.bnd hB))) hmem ?_ (fun _ _ => rfl) (by simp) ?_ (by simp)
  · intro b k hk
    split at hk
    · rename_i hb
      obtain ⟨h1, h2, h3⟩ := hbs b hb
      exact ⟨.inl (Nat.le_trans (S.bnd hB) h1), h2, h3⟩
    · obtain ⟨h1, h2, h3⟩ := S.dis b k hk
      exact ⟨h1, Nat.lt_of_lt_of_le h2 hfr.size, fun o => by rw [hold b o h2]; exact h3 o⟩
  · intro t _ _ b hb
    obtain ⟨_, h2, _⟩ := S.dis b t hb
    refine ⟨?_, hfr.block b h2 (by simp)⟩
    rw [if_neg (fun h => by have := (hbs b h).1; omega)]; exact hb

theorem TupR.closed {M M' : Mem} {R : RowFn} : ∀ (ss : List Sh) (x : Vals (ss.map Sh.ty)) (vs : List Value) (bs : List Nat), ss.all Sh.closed = true → TupR M R (resK ss x) vs bs → TupR M' R (resK ss x) vs bs
  | [], _, [], _, _, h => h
  | [], _, _ :: _, _, _, h => h
  | s :: ss, x, v :: vs, bs, hc, ⟨cs, b1, b2, h1, h2, h3, h4⟩ => by
    simp at hc
    exact ⟨cs, b1, b2, h1, EncO.closed s cs x.1 b1 hc.1 h2, h3, TupR.closed ss x.2 vs b2 (by simpa using hc.2) h4⟩
  | _ :: _, _, [], _, _, h => h
theorem ResR.closed {M M' : Mem} {R : RowFn} (ss : List Sh) (v : Value) (x : Vals (ss.map Sh.ty)) (bs : List Nat) (hc : ss.all Sh.closed = true) (h : ResR M R ss v x bs) : ResR M' R ss v x bs := by
  match ss, x, h with
  | [s], x, ⟨cs, h1, h2⟩ => exact ⟨cs, h1, EncO.closed s cs x.1 bs (by simpa using hc) h2⟩
  | [], x, ⟨vs, h1, h2⟩ => exact ⟨vs, h1, TupR.closed [] x vs bs hc h2⟩
  | s :: s' :: ss, x, ⟨vs, h1, h2⟩ => exact ⟨vs, h1, TupR.closed (s :: s' :: ss) x vs bs hc h2⟩

theorem TupR.rows {M : Mem} {R : RowFn} : ∀ (l : List (Option SV)) (vs : List Value) (bs : List Nat), TupR M R l vs bs → ∀ b ∈ bs, ∃ row, R b = some row
  | [], [], bs, h, b, hb => by rw [show bs = [] from h] at hb; simp at hb
  | some q :: l, v :: vs, bs, ⟨cs, b1, b2, h1, h2, h3, h4⟩, b, hb => by
    rw [h3] at hb
    rcases List.mem_append.1 hb with hb | hb
    · exact EncO.rows q.s cs q.x b1 h2 b hb
    · exact TupR.rows l vs b2 h4 b hb
  | none :: l, _ :: vs, bs, h, b, hb => TupR.rows (l := l) (vs := vs) (bs := bs) h b hb
  | [], _ :: _, _, h, _, _ => h.elim
  | some _ :: _, [], _, h, _, _ => h.elim
  | none :: _, [], _, h, _, _ => h.elim
theorem ResR.rows {M : Mem} {R : RowFn} (ss : List Sh) (v : Value) (x : Vals (ss.map Sh.ty)) (bs : List Nat) (h : ResR M R ss v x bs) : ∀ b ∈ bs, ∃ row, R b = some row := by
  match ss, x, h with
  | [s], x, ⟨cs, h1, h2⟩ => exact EncO.rows s cs x.1 bs h2
  | [], x, ⟨vs, h1, h2⟩ => exact TupR.rows _ vs bs h2
  | s :: s' :: ss, x, ⟨vs, h1, h2⟩ => exact TupR.rows _ vs bs h2

theorem put_res (S : St0 n B X w0 M0 M ω ρ tmps w) {d : Nat} (hd : d < n) {v : Value} {ss : List Sh} {x : Vals (ss.map Sh.ty)} {bs : List Nat}
    (h : ResR M (rows w) ss v x bs) (hn : bs.Nodup) (hb : ∀ b ∈ bs, ∃ L, n ≤ L ∧ ω b = some L) :
    St0 n B X w0 M0 M (settle n d ω) (ρ.puts [w1 d (resA ss x)]) (tmps.setIfInBounds d v) w := by
  have hbs : ∀ b ∈ bs, settle n d ω b = some d := fun b hi => let ⟨_, h1, h2⟩ := hb b hi; settle_lim h2 h1
  match ss, x, h with
  | [s], x, ⟨cs, h1, h2⟩ => exact put_ok S hd fun _ => ⟨cs, bs, h1, h2, hn, hbs⟩
  | [], x, ⟨vs, h1, h2⟩ => exact put_ok S hd fun _ => ⟨vs, bs, h1, h2, hn, hbs⟩
  | s :: s' :: ss, x, ⟨vs, h1, h2⟩ => exact put_ok S hd fun _ => ⟨vs, bs, h1, h2, hn, hbs⟩

/-- a call, by its contract -/
theorem exCall_ok (S : St0 n B X w0 M0 M ω ρ tmps w) (hB : B ≤ w0.heap.size) (hF : ∀ f F, C.fn f = some F → Meets P f F) {f d : Nat} (hd : d < n) {qs : List Opd} {ws : List Wr} {cs : List Prop}
    (h : exCall C f d qs = some (ws, cs)) (hcs : ∀ p ∈ cs, p) {vs : List Value} (hqs : OpdsR n M ω w ρ (vl tmps) qs vs)
    (hio : exCallM C f d qs = some (ws, cs) → Calls P f vs.toArray w fun e w' => ∃ v M' ω', e = .returned v ∧ St0 n B X w0 M0 M' ω' (ρ.puts ws) (tmps.setIfInBounds d v) w') :
    Calls P f vs.toArray w fun e w' => ∃ v M' ω', e = .returned v ∧ St0 n B X w0 M0 M' ω' (ρ.puts ws) (tmps.setIfInBounds d v) w' := by
  unfold exCall at h
  split at h
  · rename_i F hf
    have hm := hF f F hf
    split at h
    · rename_i hcl
      obtain ⟨xs, h1, h2⟩ := argsK_ok S F.args qs vs _ h hqs
      simp only [Option.some.injEq, Prod.mk.injEq] at h1
      obtain ⟨rfl, rfl⟩ := h1
      refine (hm.call w (full w) vs xs (fun _ _ _ h => h) h2 (hcs _ (by simp))).mono ?_
      rintro e w' ⟨v, M', bs, rfl, hfr, haf, hr, hn, hbs⟩
      have hr' := ResR.closed (M' := M) F.res v _ bs hcl hr
      have S2 := call_step S hB (M' := M) (bs := bs) hfr (Mem.le_refl _) (fun b o v' hv => by
          have hc := S.mem b o v' hv
          rw [cell_of_block (hfr.block b (World.block_lt_of_cell? _ _ hc) (by simp))]; exact hc) (fun _ _ _ => rfl)
        (fun b hb => ⟨(hbs b hb).1, by obtain ⟨row, hrow⟩ := ResR.rows F.res v _ bs hr b hb; exact rows_lt hrow, fun o => by
          cases hm : M b o with
          | none => rfl
          | some u => have := World.block_lt_of_cell? _ _ (S.mem b o u hm); have h3 := (hbs b hb).1; simp at this; omega⟩) n
      exact ⟨v, M, _, rfl, put_res S2 hd hr' hn (fun b hb => ⟨n, Nat.le_refl _, by simp [hb]⟩)⟩
    · cases h
  · exact hio h

end
end Fw
