/- Each operation does what is computed of it: variables and their parts. Conditions: none. -/
import Derived.Test.YtnbpojalpdldnaaFw9
namespace Fw
open Go

theorem castK_rfl {a : Ty} {R : Type} (k : El a → R) : castK rfl k = k := rfl

theorem subK_self {R : Type} {T t : Ty} {x : El T} {off : Nat} {k : El t → Option R} {r : R}
    (h : (if h : off = 0 ∧ T = t then castK h.2 k x else none) = some r) :
    ∃ y, k y = some r ∧ ∀ M vs, Enc M T vs x → Enc M t ((vs.drop off).take t.size) y := by
  split at h
  · rename_i hc
    obtain ⟨rfl, rfl⟩ := hc
    refine ⟨x, h, fun M vs he => ?_⟩
    have := Enc.length T vs x he
    simp only [List.drop_zero, ← this, List.take_length]; exact he
  · cases h
theorem El.subK_ok {R : Type} : ∀ (T : Ty) (x : El T) (off : Nat) (t : Ty) (k : El t → Option R) (r : R), El.subK T x off t k = some r →
    ∃ y, k y = some r ∧ ∀ M vs, Enc M T vs x → Enc M t ((vs.drop off).take t.size) y
  | .pair a b, x, off, t, k, r, h => by
    simp only [El.subK] at h
    split at h
    · rename_i hc
      obtain ⟨rfl, rfl⟩ := hc
      refine ⟨x, h, fun M vs he => ?_⟩
      have := Enc.length _ vs x he
      simp only [List.drop_zero, ← this, List.take_length]; exact he
    · split at h
      · rename_i hlt
        obtain ⟨y, h1, h2⟩ := El.subK_ok a x.1 off t k r h
        refine ⟨y, h1, fun M vs ⟨v1, v2, e, g1, g2⟩ => ?_⟩
        subst e
        have l1 := Enc.length _ _ _ g1
        have ih := h2 M v1 g1
        have il := Enc.length _ _ _ ih
        simp at il
        rwa [List.drop_append_of_le_length (by omega), List.take_append_of_le_length (by simp; omega)]
      · rename_i hge
        obtain ⟨y, h1, h2⟩ := El.subK_ok b x.2 (off - a.size) t k r h
        refine ⟨y, h1, fun M vs ⟨v1, v2, e, g1, g2⟩ => ?_⟩
        subst e
        have l1 := Enc.length _ _ _ g1
        have ih := h2 M v2 g2
        rwa [List.drop_append, List.drop_eq_nil_of_le (by omega : v1.length ≤ off), List.nil_append, l1]
  | .int _, _, _, _, _, _, h => subK_self h
  | .bool, _, _, _, _, _, h => subK_self h
  | .str, _, _, _, _, _, h => subK_self h
  | .slice _, _, _, _, _, _, h => subK_self h
  | .arr _ _, _, _, _, _, _, h => subK_self h

theorem Sh.subK_ok {R : Type} : ∀ (s : Sh) (x : El s.ty) (off : Nat) (t : Ty) (k : (s : Sh) → El s.ty → Option R) (r : R), s.subK x off t k = some r →
    ∃ s' y, k s' y = some r ∧ s'.ty = t ∧ ∀ M Rw vs bs, EncO M Rw s vs x bs → ∃ bs', bs'.Sublist bs ∧ EncO M Rw s' ((vs.drop off).take s'.size) y bs'
  | .pure T, x, off, t, k, r, h => by
    obtain ⟨y, h1, h2⟩ := El.subK_ok T x off t _ r h
    exact ⟨.pure t, y, h1, rfl, fun M Rw vs bs ⟨e1, e2⟩ => ⟨[], List.nil_sublist _, rfl, h2 M vs e2⟩⟩
  | .pair a b, x, off, t, k, r, h => by
    simp only [Sh.subK] at h
    split at h
    · rename_i hc
      obtain ⟨rfl, rfl⟩ := hc
      refine ⟨.pair a b, x, h, rfl, fun M Rw vs bs he => ⟨bs, List.Sublist.refl _, ?_⟩⟩
      have := EncO.length _ vs x bs he
      simp only [List.drop_zero, ← this, List.take_length]; exact he
    · split at h
      · rename_i hlt
        obtain ⟨s', y, h1, h0, h2⟩ := Sh.subK_ok a x.1 off t k r h
        refine ⟨s', y, h1, h0, fun M Rw vs bs ⟨v1, v2, b1, b2, e1, e2, g1, g2⟩ => ?_⟩
        subst e1; subst e2
        have l1 := EncO.length _ _ _ _ g1
        obtain ⟨bs', k1, k2⟩ := h2 M Rw v1 b1 g1
        have il := EncO.length _ _ _ _ k2
        simp at il
        refine ⟨bs', k1.trans (List.sublist_append_left _ _), ?_⟩
        rwa [List.drop_append_of_le_length (by omega), List.take_append_of_le_length (by simp; omega)]
      · rename_i hge
        obtain ⟨s', y, h1, h0, h2⟩ := Sh.subK_ok b x.2 (off - a.size) t k r h
        refine ⟨s', y, h1, h0, fun M Rw vs bs ⟨v1, v2, b1, b2, e1, e2, g1, g2⟩ => ?_⟩
        subst e1; subst e2
        have l1 := EncO.length _ _ _ _ g1
        obtain ⟨bs', k1, k2⟩ := h2 M Rw v2 b2 g2
        refine ⟨bs', k1.trans (List.sublist_append_right _ _), ?_⟩
        rwa [List.drop_append, List.drop_eq_nil_of_le (by omega : v1.length ≤ off), List.nil_append, l1]
  | .own e, x, off, t, k, r, h => by
    simp only [Sh.subK] at h
    split at h
    · rename_i hc
      obtain ⟨rfl, rfl⟩ := hc
      refine ⟨.own e, x, h, rfl, fun M Rw vs bs he => ⟨bs, List.Sublist.refl _, ?_⟩⟩
      have := EncO.length _ vs x bs he
      simp only [List.drop_zero, ← this, List.take_length]; exact he
    · cases h
  | .nil e, x, off, t, k, r, h => by
    simp only [Sh.subK] at h
    split at h
    · rename_i hc
      obtain ⟨rfl, rfl⟩ := hc
      refine ⟨.nil e, x, h, rfl, fun M Rw vs bs he => ⟨bs, List.Sublist.refl _, ?_⟩⟩
      have := EncO.length _ vs x bs he
      simp only [List.drop_zero, ← this, List.take_length]; exact he
    · cases h
  | .ref _, _, _, _, _, _, h => by simp [Sh.subK] at h
  | .hole _, _, _, _, _, _, h => by simp [Sh.subK] at h

section
variable {n B : Nat} {X : List Nat} {w0 : World} {M0 M : Mem} {ω : Own} {ρ : Env} {tmps : Array Value} {w : World} {P : Program} {C : Ctx}

theorem ptrK_ok (_ : St0 n B X w0 M0 M ω ρ tmps w) {R : Type} {q : Opd} {k : (j g off : Nat) → Ent → Option R} {r : R} (h : ptrK q k = some r) :
    ∃ j g off e, k j g off e = some r ∧ ∀ v, OpdR n M ω w ρ (vl tmps) q v → j < n ∧ e = ρ.get j ∧ refOk n ρ j g ∧
      (e.g = g → ∃ b, vl tmps j = .pointer (some ⟨b, 0, none⟩) ∧ v = .pointer (some ⟨b, off, none⟩)) := by
  unfold ptrK at h
  split at h
  · rename_i j g off ha
    refine ⟨j, g, off, q.tgt, h, fun v hq => ?_⟩
    have hr := hq.rel (by rw [ha]; intro _ _ _ _ _ e; cases e)
    have htg := hq.tgt j (by rw [ha]; rfl)
    rw [ha] at hr
    exact ⟨hr.1.1, htg, hr.1, fun hg => hr.2 (by rw [← htg]; exact hg)⟩
  · rename_i s x ha
    split at h
    · rename_i j hj
      refine ⟨j, _, 0, _, h, fun v hq => ?_⟩
      have hr := hq.rel (by rw [ha]; intro _ _ _ _ _ e; cases e)
      rw [ha] at hr
      obtain ⟨e1, e2, e3⟩ := hq.slot j hj
      have hjn := e3 (by rw [ha]; intro e; cases e)
      obtain ⟨cs, bs, h1, ⟨b, row, bss, h2, h3, _⟩, _⟩ := hr
      have h1' : cs = [v] := h1
      rw [h3] at h1'
      have hv := (List.cons.inj h1').1.symm
      exact ⟨hjn, e2, ⟨hjn, by rw [e2]; exact Nat.le_refl _⟩, fun _ => ⟨b, by rw [← e1]; exact hv, hv⟩⟩
    · cases h
  · cases h

/-- a part of a variable is handed out -/
theorem give_ok (S : St0 n B X w0 M0 M ω ρ tmps w) {d j : Nat} (hd : d < n) (hj : j < n) {s : Sh} {x : El s.ty} (ha : (ρ.get j).a = .c (.ref s) x) {off : Nat}
    {s' : Sh} {y : El s'.ty} (hs : ∀ M Rw vs bs, EncO M Rw s vs x bs → ∃ bs', bs'.Sublist bs ∧ EncO M Rw s' ((vs.drop off).take s'.size) y bs')
    {ws : List Wr} {cs : List Prop} (h : give d j (ρ.get j).g (ρ.get j).ver (some off) s' y = some (ws, cs)) {v : Value} {b : Nat} {row : List Value}
    (hb : vl tmps j = .pointer (some ⟨b, 0, none⟩)) (hr : rows w b = some row) (hv : s'.noref = true → ValC s'.ty.ag v ((row.drop off).take s'.size))
    (hv' : s'.free = true → ValC s'.ag v ((row.drop off).take s'.size)) :
    ∃ M' ω', St0 n B X w0 M0 M' ω' (ρ.puts ws) (tmps.setIfInBounds d v) w := by
  obtain ⟨b', row', bss, k1, k2, k3, k4, k5⟩ := ref_ptr S hj ha
  rw [hb] at k1
  simp only [Value.pointer.injEq, Option.some.injEq, Addr.mk.injEq, and_true] at k1
  subst k1
  rw [hr] at k2
  simp only [Option.some.injEq] at k2
  subst k2
  obtain ⟨bs', g1, g2⟩ := hs _ _ _ _ k3
  unfold give at h
  split at h
  · rename_i hf
    simp only [out1, Option.some.injEq, Prod.mk.injEq] at h
    obtain ⟨rfl, rfl⟩ := h
    have := EncO.free _ _ _ _ hf g2
    subst this
    exact ⟨_, _, put_c S hd (hv' hf) g2 List.nodup_nil (by simp)⟩
  · split at h
    · rename_i hn
      simp only [out1, Option.some.injEq, Prod.mk.injEq] at h
      obtain ⟨rfl, rfl⟩ := h
      refine ⟨_, _, put_ref S hd (t := 0) (by intros; intro e; cases e) (by intros; intro e; cases e) (by intros; intro e; cases e) ⟨⟨hj, Nat.le_refl _, fun _ => Nat.le_refl _⟩, fun _ => ?_⟩⟩
      rw [List.nodup_cons] at k4
      refine ⟨_, hv hn, EncO.toEnc (M_heapOf _ _ _ _ _) s' _ y bs' hn (fun i hi row' hrow => ?_) g2, fun off' ho => ?_, fun _ _ _ _ e => by cases e⟩
      · have hi' := g1.subset hi
        refine heapOf_rows S hrow (k5 i (by simp [hi'])) ?_
        rw [hb]
        exact notBox_ne (fun e => k4.1 (e ▸ hi'))
      · simp only [Option.some.injEq] at ho
        subst ho
        refine ⟨row, ?_, ?_⟩
        · rw [ha]; exact ⟨b, hb, k5 b (by simp), hr⟩
        · simp only [Bx.isT, if_true]
          rw [Sh.size_ty s' hn]
    · cases h

/-- the value of a variable's cells -/
def mkVal (ag : Bool) (cs : List Value) : Value := if ag = true then .agg cs.toArray else cs.headD undef
theorem mkVal_ok {ag : Bool} {cs : List Value} (h : ag = false → cs.length = 1) : ValC ag (mkVal ag cs) cs := by
  unfold ValC mkVal
  cases ag with
  | true => simp
  | false =>
    simp only [Bool.false_eq_true, if_false]
    match cs, h rfl with
    | [c], _ => rfl
theorem Ty.size_sc : ∀ t : Ty, t.ag = false → t.size = 1
  | .int _, _ => rfl
  | .bool, _ => rfl
  | .str, _ => rfl
  | .slice _, _ => rfl
  | .pair _ _, h => by simp [Ty.ag] at h
  | .arr _ _, h => by simp [Ty.ag] at h
theorem free_solid_ag {s : Sh} (h : s.free = true) : s.ag = s.ty.ag := by
  cases s <;> first | rfl | simp [Sh.free] at h
theorem free_size : ∀ {s : Sh}, s.free = true → s.size = s.ty.size := by
  intro s; induction s with
  | pure t => intro _; rfl
  | nil t => intro _; rfl
  | own t _ => intro h; simp [Sh.free] at h
  | ref t _ => intro h; simp [Sh.free] at h
  | hole t => intro h; simp [Sh.free] at h
  | pair a b iha ihb => intro h; simp [Sh.free] at h; simp [Sh.size, Ty.size, iha h.1, ihb h.2]

theorem cellsAt_sub {M : Mem} {b : Nat} {row : List Value} (h : CellsAt M b 0 row) (off len : Nat) : CellsAt M b off ((row.drop off).take len) := by
  intro i c hc
  rw [List.getElem?_take] at hc
  split at hc
  · rw [List.getElem?_drop] at hc
    have := h (off + i) c hc
    simpa using this
  · cases hc

theorem getD_of_lt' {α : Type} (xs : List α) (i : Nat) (d : α) (h : i < xs.length) : xs[i]? = some (xs.getD i d) := by
  rw [List.getElem?_eq_getElem h, List.getD_eq_getElem?_getD, List.getElem?_eq_getElem h]; rfl
/-- a part of what slot j owns is handed out -/
theorem give2_ok (S : St0 n B X w0 M0 M ω ρ tmps w) {d j : Nat} (hd : d < n) (hj : j < n) {s' : Sh} {y : El s'.ty} {cs' : List Value} {bs' : List Nat}
    (he : EncO M (rows w) s' cs' y bs') (hn : bs'.Nodup) (ho : ∀ b ∈ bs', ω b = some j ∧ notBox (vl tmps j) b = true)
    {ws : List Wr} {cs : List Prop} (h : give d j (ρ.get j).g (ρ.get j).ver none s' y = some (ws, cs)) {v : Value} (hv : ValC s'.ag v cs') :
    ∃ M' ω', St0 n B X w0 M0 M' ω' (ρ.puts ws) (tmps.setIfInBounds d v) w := by
  unfold give at h
  split at h
  · rename_i hf
    simp only [out1, Option.some.injEq, Prod.mk.injEq] at h
    obtain ⟨rfl, rfl⟩ := h
    have := EncO.free _ _ _ _ hf he
    subst this
    exact ⟨_, _, put_c S hd hv he List.nodup_nil (by simp)⟩
  · split at h
    · rename_i hnr
      simp only [out1, Option.some.injEq, Prod.mk.injEq] at h
      obtain ⟨rfl, rfl⟩ := h
      refine ⟨_, _, put_ref S hd (t := 0) (by intros; intro e; cases e) (by intros; intro e; cases e) (by intros; intro e; cases e) ⟨⟨hj, Nat.le_refl _, fun _ => Nat.le_refl _⟩, fun _ => ?_⟩⟩
      exact ⟨cs', by rw [← Sh.ag_ty s' hnr]; exact hv, EncO.toEnc (M_heapOf _ _ _ _ _) s' _ y bs' hnr (fun i hi row' hrow => heapOf_rows S hrow (ho i hi).1 (ho i hi).2) he, fun off ho => by (cases ho), fun _ _ _ _ e => by cases e⟩
    · cases h

theorem give2B_ok (S : St0 n B X w0 M0 M ω ρ tmps w) {d j : Nat} (hd : d < n) (hj : j < n) {s' : Sh} {y : El s'.ty} {cs' : List Value} {bs' : List Nat} {bx : Bx}
    (he : EncO M (rows w) s' cs' y bs') (hn : bs'.Nodup) (ho : ∀ b ∈ bs', ω b = some j ∧ notBox (vl tmps j) b = true)
    (hx : s'.free = false → ∀ off et i eo, bx = .el off et i eo → ElC ω w j (ρ.get j).a (vl tmps j) off et i eo s'.ty.size cs')
    {ws : List Wr} {cs : List Prop} (h : giveB d j (ρ.get j).g (ρ.get j).ver bx s' y = some (ws, cs)) {v : Value} (hv : ValC s'.ag v cs') :
    ∃ M' ω', St0 n B X w0 M0 M' ω' (ρ.puts ws) (tmps.setIfInBounds d v) w := by
  unfold giveB at h
  split at h
  · rename_i hf
    simp only [out1, Option.some.injEq, Prod.mk.injEq] at h
    obtain ⟨rfl, rfl⟩ := h
    have := EncO.free _ _ _ _ hf he
    subst this
    exact ⟨_, _, put_c S hd hv he List.nodup_nil (by simp)⟩
  · rename_i hf
    split at h
    · rename_i hnr
      simp only [out1, Option.some.injEq, Prod.mk.injEq] at h
      obtain ⟨rfl, rfl⟩ := h
      refine ⟨_, _, put_ref S hd (t := 0) (by intros; intro e; cases e) (by intros; intro e; cases e) (by intros; intro e; cases e) ⟨⟨hj, Nat.le_refl _, fun _ => Nat.le_refl _⟩, fun _ => ?_⟩⟩
      exact ⟨cs', by rw [← Sh.ag_ty s' hnr]; exact hv, EncO.toEnc (M_heapOf _ _ _ _ _) s' _ y bs' hnr (fun i hi row' hrow => heapOf_rows S hrow (ho i hi).1 (ho i hi).2) he, fun off ho => by (cases ho), hx (by simpa using hf)⟩
    · cases h

theorem noref_box' {M : Mem} {R : RowFn} {s : Sh} (hn : ∀ s', s ≠ .ref s') {v : Value} {cs : List Value} {bs : List Nat} {x : El s.ty} (h1 : ValC s.ag v cs) (h2 : EncO M R s cs x bs) :
    ∀ b ∈ bs, notBox v b = true := by
  intro b hb
  cases s with
  | ref s => exact (hn _ rfl).elim
  | pure u => rw [h2.1] at hb; simp at hb
  | nil e => rw [h2.1] at hb; simp at hb
  | hole u => rw [h2.1] at hb; simp at hb
  | own e =>
    rcases h2 with ⟨h, _⟩ | ⟨b', cap, row, bss, _, h, _⟩
    · rw [h] at hb; simp at hb
    · subst h
      simp only [ValC, Sh.ag, Bool.false_eq_true, if_false, List.cons.injEq, and_true] at h1
      rw [← h1]; rfl
  | pair a b =>
    simp only [ValC, Sh.ag, if_true] at h1
    rw [h1]; rfl

/-- the content of a slot, and its place -/
theorem contK_ok (S : St0 n B X w0 M0 M ω ρ tmps w) {j : Nat} (hj : j < n) {R : Type} {k : (s : Sh) → El s.ty → Option R} {r : R} (h : contK (ρ.get j) k = some r) :
    ∃ s x pc bs, k s x = some r ∧ Place ω w j (ρ.get j).a (vl tmps j) pc ∧ EncO M (rows w) s pc x bs ∧ bs.Nodup ∧ (∀ b ∈ bs, ω b = some j) ∧
      (∀ b ∈ bs, notBox (vl tmps j) b = true) := by
  unfold contK at h
  split at h
  · rename_i s x ha
    obtain ⟨b, row, bss, k1, k2, k3, k4, k5⟩ := ref_ptr S hj ha
    rw [List.nodup_cons] at k4
    refine ⟨s, x, row, bss, h, ?_, k3, k4.2, fun i hi => k5 i (by simp [hi]), fun i hi => ?_⟩
    · rw [ha]; exact ⟨b, k1, k5 b (by simp), k2⟩
    · rw [k1]; exact notBox_ne (fun e => k4.1 (e ▸ hi))
  · rename_i s x hnr ha
    have hr := S.slots j hj
    rw [ha] at hr
    obtain ⟨cs, bs, k1, k2, k3, k4⟩ := hr
    have hnr' : ∀ s', s ≠ .ref s' := by
      intro s' e
      subst e
      exact hnr s' x rfl HEq.rfl
    refine ⟨s, x, cs, bs, h, ?_, k2, k3, k4, noref_box' hnr' k1 k2⟩
    rw [ha]
    cases s with
    | ref s'' => exact (hnr' _ rfl).elim
    | _ => exact k1
  · cases h

theorem Place.uniq {a : A} {v : Value} {c1 c2 : List Value} {k : Nat} (h1 : Place ω w k a v c1) (h2 : Place ω w k a v c2) : c1 = c2 := by
  cases a with
  | c s x =>
    have gen : ValC s.ag v c1 → ValC s.ag v c2 → c1 = c2 := by
      intro g1 g2
      unfold ValC at g1 g2
      split at g1
      · rename_i hag
        rw [if_pos hag] at g2
        rw [g1] at g2
        simpa using g2
      · rename_i hag
        rw [if_neg hag] at g2
        rw [g1, g2]
    cases s with
    | ref s =>
      obtain ⟨b, e1, _, e2⟩ := h1
      obtain ⟨b', e3, _, e4⟩ := h2
      rw [e1] at e3; simp at e3; subst e3
      rw [e2] at e4; simpa using e4
    | _ => exact gen h1 h2
  | _ => exact h1.elim

/-- the cells of an element that is pointed to -/
theorem elem_ok (S : St0 n B X w0 M0 M ω ρ tmps w) {j : Nat} (hj : j < n) {R : Type} {off i eo : Nat} {et : Ty} {arr : Option Nat} {k : (s : Sh) → El s.ty → Option R} {r : R}
    (h : elemK (ρ.get j) off et i arr k = some r) {v : Value} (hp : ElpR ω w j (ρ.get j).a (vl tmps j) off et i eo arr v) :
    ∃ e y b o cs bs, k e y = some r ∧ v = .pointer (some ⟨b, o + eo, none⟩) ∧ CellsAt (full w) b o cs ∧ EncO M (rows w) e cs y bs ∧ bs.Nodup ∧
      (∀ i ∈ bs, ω i = some j ∧ notBox (vl tmps j) i = true) ∧
      ((∃ u, e = .pure u) ∨ arr ≠ none ∨ ∀ eo sz, eo + sz ≤ cs.length → ElC ω w j (ρ.get j).a (vl tmps j) off et i eo sz ((cs.drop eo).take sz)) := by
  unfold elemK at h
  cases arr with
  | none =>
    obtain ⟨s, x, pc, bs, h1, h2, h3, h4, h5, h6⟩ := contK_ok S hj h
    obtain ⟨s1, y1, g1, g0, g2⟩ := Sh.subK_ok s x off _ _ _ h1
    obtain ⟨bs', e1, e2⟩ := g2 _ _ _ _ h3
    unfold ElpR at hp
    simp only [Option.isSome_none, Bool.false_eq_true, if_false] at hp
    obtain ⟨pc', p1, a, len, cap, p2, p0, p3, p4⟩ := hp
    have := Place.uniq p1 h2
    subst this
    have hhead : ∀ hd, (pc'.drop off).take 1 = [hd] → pc'[off]? = some hd := by
      intro hd he
      have := congrArg (fun l => l[0]?) he
      simpa using this
    split at g1
    · rename_i e ys
      split at g1
      · rename_i hnr
        rcases e2 with ⟨_, ⟨a', k1, _⟩, k2⟩ | ⟨b, cap', row, bss, k1, k2, k3, k4, k5, k6, k7⟩
        · have := hhead _ k1
          rw [p2] at this
          simp at this
          omega
        · have := hhead _ k2
          rw [p2] at this
          simp at this
          obtain ⟨rfl, rfl, rfl⟩ := this
          have hx := getD_of_lt' ys i (dflt e.ty) p0
          obtain ⟨l1, bb, l2, l3⟩ := GroupsO.get ys row bss i _ k7 hx
          have hety : e.ty = et := by have := g0; simpa using this
          have hsub : bb.Sublist bs := by
            refine List.Sublist.trans ?_ e1
            rw [k1]; exact l2.trans (List.sublist_cons_self _ _)
          refine ⟨e, _, b, i * e.size, _, bb, g1, ?_, ?_, l3, h4.sublist hsub, fun q hq => ⟨h5 q (hsub.subset hq), h6 q (hsub.subset hq)⟩, .inr (.inr fun eo' sz hs => ?_)⟩
          · rw [p4, ← hety, ← Sh.size_ty e hnr]; simp
          · exact cellsAt_sub (rows_full k5) _ _
          · have hes : e.size = et.size := by rw [Sh.size_ty e hnr, hety]
            refine ⟨pc', _, _, _, row, p1, p2, p0, h5 _ (e1.subset (by rw [k1]; simp)), k5, ?_⟩
            rw [List.length_take, List.length_drop] at hs
            rw [hes, List.drop_take, List.take_take, List.drop_drop, Nat.min_eq_left (by omega)]
      · cases g1
    · rename_i e ys
      obtain ⟨e3, a', cap', k1, k2, k3, k4⟩ := e2
      have := hhead _ k1
      rw [p2] at this
      simp at this
      obtain ⟨rfl, rfl, rfl⟩ := this
      obtain ⟨k5, k6⟩ := k4
      have hx := getD_of_lt' ys i (dflt e) p0
      obtain ⟨cs, l1, l2, l3⟩ := SliceAt.get ys _ i _ k6 hx
      have hety : e = et := by have := g0; simpa using this
      subst hety
      exact ⟨.pure e, _, a.block, a.off + i * e.size, cs, [], g1, p4, l2.mono (M_full S), ⟨rfl, l3⟩, List.nodup_nil, by simp, .inl ⟨_, rfl⟩⟩
    · cases g1
  | some m =>
    simp only at h
    split at h
    · rename_i s x ha
      obtain ⟨s1, y1, g1, g0, g2⟩ := Sh.subK_ok s x off _ _ _ h
      obtain ⟨b, row, bss, k1, k2, k3, k4, k5⟩ := ref_ptr S hj ha
      obtain ⟨bs', e1, e2⟩ := g2 _ _ _ _ k3
      unfold ElpR at hp
      simp only [Option.isSome_some, if_true] at hp
      obtain ⟨p1, b', p2, p3⟩ := hp
      have him := p1 m rfl
      rw [k1] at p2
      simp only [Value.pointer.injEq, Option.some.injEq, Addr.mk.injEq, and_true] at p2
      subst p2
      split at g1
      · rename_i m' e ys
        obtain ⟨e3, e4, e5⟩ := e2
        have hety : m' = m ∧ e = et := by have := g0; simpa using this
        obtain ⟨rfl, rfl⟩ := hety
        have hx := getD_of_lt' ys i (dflt e) (by omega)
        have hg := Groups.get ys _ i _ e5 hx
        refine ⟨.pure e, _, b, off + i * e.size, _, [], g1, p3, ?_, ⟨rfl, hg⟩, List.nodup_nil, by simp, .inl ⟨_, rfl⟩⟩
        have hc := cellsAt_sub (rows_full k2) off (Sh.size (.pure (.arr m' e)))
        have hlen := Enc.length _ _ _ hg
        intro q c hq
        have := hc (i * e.size + q) c (by
          rw [List.getElem?_take] at hq
          split at hq
          · rw [List.getElem?_drop] at hq; exact hq
          · cases hq)
        rwa [← Nat.add_assoc] at this
      · cases g1
    · cases h

theorem cells_part {M : Mem} {b o : Nat} {cs : List Value} (h : CellsAt M b o cs) (off len : Nat) : CellsAt M b (o + off) ((cs.drop off).take len) := by
  intro i c hc
  rw [List.getElem?_take] at hc
  split at hc
  · rw [List.getElem?_drop] at hc
    have := h (off + i) c hc
    rwa [← Nat.add_assoc] at this
  · cases hc

theorem give_size {d j g ver : Nat} {org : Option Nat} {s : Sh} {y : El s.ty} {r : List Wr × List Prop} (h : give d j g ver org s y = some r) : s.size = s.ty.size := by
  unfold give at h
  split at h
  · rename_i hf; exact free_size hf
  · split at h
    · rename_i hn; exact Sh.size_ty s hn
    · cases h
theorem give_ag {d j g ver : Nat} {org : Option Nat} {s : Sh} {y : El s.ty} {r : List Wr × List Prop} (h : give d j g ver org s y = some r) : s.ag = s.ty.ag := by
  unfold give at h
  split at h
  · rename_i hf; exact free_solid_ag hf
  · split at h
    · rename_i hn; exact Sh.ag_ty s hn
    · cases h

theorem Sh.pos : ∀ s : Sh, s.free = false → s.noref = true → 0 < s.size
  | .pure _, h, _ => by simp [Sh.free] at h
  | .nil _, h, _ => by simp [Sh.free] at h
  | .own _, _, _ => by simp [Sh.size]
  | .ref _, _, h => by simp [Sh.noref] at h
  | .hole _, _, h => by simp [Sh.noref] at h
  | .pair a b, h, hn => by
    simp only [Sh.noref, Bool.and_eq_true] at hn
    simp only [Sh.size]
    cases ha : a.free with
    | false => have := Sh.pos a ha hn.1; omega
    | true =>
      have hb : b.free = false := by simpa [Sh.free, ha] using h
      have := Sh.pos b hb hn.2; omega
theorem giveB_nr {d j g ver : Nat} {b : Bx} {s : Sh} {y : El s.ty} {r : List Wr × List Prop} (hf : s.free = false) (h : giveB d j g ver b s y = some r) : s.noref = true := by
  unfold giveB at h
  rw [if_neg (by simp [hf])] at h
  split at h
  · assumption
  · cases h
theorem valC_fun {ag : Bool} {v : Value} {c1 c2 : List Value} (h1 : ValC ag v c1) (h2 : ValC ag v c2) : c1 = c2 := by
  unfold ValC at *
  cases ag with
  | true =>
    simp only [if_true] at h1 h2
    rw [h1] at h2
    simp only [Value.agg.injEq] at h2
    have := congrArg Array.toList h2
    simpa using this
  | false =>
    simp only [Bool.false_eq_true, if_false] at h1 h2
    rw [h1, h2]
theorem giveB_size {d j g ver : Nat} {b : Bx} {s : Sh} {y : El s.ty} {r : List Wr × List Prop} (h : giveB d j g ver b s y = some r) : s.size = s.ty.size := by
  unfold giveB at h
  split at h
  · rename_i hf; exact free_size hf
  · split at h
    · rename_i hn; exact Sh.size_ty s hn
    · cases h
theorem giveB_ag {d j g ver : Nat} {b : Bx} {s : Sh} {y : El s.ty} {r : List Wr × List Prop} (h : giveB d j g ver b s y = some r) : s.ag = s.ty.ag := by
  unfold giveB at h
  split at h
  · rename_i hf; exact free_solid_ag hf
  · split at h
    · rename_i hn; exact Sh.ag_ty s hn
    · cases h

theorem exLoad_elp (S : St0 n B X w0 M0 M ω ρ tmps w) {t : TypeId} {T : Ty} {d : Nat} (hd : d < n) {q : Opd} {ws : List Wr} {cs : List Prop} (hTy : TyR P t T)
    {k g ver off i eo : Nat} {et : Ty} {arr : Option Nat} (ha : q.a = .elp k g ver off et i eo arr)
    (h : (if q.tgt.g = g ∧ q.tgt.ver = ver then elemK q.tgt off et i arr fun e y => e.subK y eo T fun s z => giveB d k q.tgt.g q.tgt.ver (elB arr off et i eo) s z else none) = some (ws, cs))
    {v : Value} (hq : OpdR n M ω w ρ (vl tmps) q v) : Res n B X w0 M0 ρ tmps d ws ((Instr.loadAt t v).run P w) := by
  split at h
  · rename_i hg
    have hr := hq.rel (by rw [ha]; intro _ _ _ _ _ e; cases e)
    have ht := hq.tgt k (by rw [ha]; rfl)
    rw [ht] at h hg
    rw [ha] at hr
    obtain ⟨r1, r2⟩ := hr
    have hp := r2 hg
    obtain ⟨e, y, b, o, cs', bs, g1, g2, g3, g4, g5, g6, g7⟩ := elem_ok S r1.1 h hp
    have key : ∃ s' z bs', giveB d k (ρ.get k).g (ρ.get k).ver (elB arr off et i eo) s' z = some (ws, cs) ∧ s'.ty = T ∧ bs'.Sublist bs ∧ EncO M (rows w) s' ((cs'.drop eo).take s'.size) z bs' ∧ (s'.free = false → ¬ ∃ u, e = .pure u) := by
      by_cases he : ∃ u, e = .pure u
      · obtain ⟨u, rfl⟩ := he
        obtain ⟨z, k1, k2⟩ := El.subK_ok u y eo T _ _ g1
        exact ⟨.pure T, z, [], k1, rfl, List.nil_sublist _, ⟨rfl, k2 M cs' g4.2⟩, fun h => by simp [Sh.free] at h⟩
      · obtain ⟨s', z, h3, h0, h4⟩ := Sh.subK_ok e y eo T _ _ g1
        obtain ⟨bs', e1, e2⟩ := h4 _ _ _ _ g4
        exact ⟨s', z, bs', h3, h0, e1, e2, fun _ => he⟩
    obtain ⟨s', z, bs', h3, h0, e1, e2, hnp⟩ := key
    have hl := EncO.length _ _ _ _ e2
    have hsz : s'.size = T.size := by rw [giveB_size h3, h0]
    have hag : s'.ag = T.ag := by rw [giveB_ag h3, h0]
    have hv := mkVal_ok (ag := T.ag) (cs := (cs'.drop eo).take s'.size) (fun hg => by rw [hl, hsz]; exact Ty.size_sc T hg)
    obtain ⟨M', ω', hS⟩ := give2B_ok S hd r1.1 e2 (g5.sublist e1) (fun b hb => g6 b (e1.subset hb)) (fun hf off' et' i' eo' hb => by
      rcases g7 with g7 | g7 | g7
      · exact (hnp hf g7).elim
      · cases arr with
        | none => exact (g7 rfl).elim
        | some m => cases hb
      · cases arr with
        | some m => cases hb
        | none =>
          have hb' : Bx.el off et i eo = .el off' et' i' eo' := hb
          cases hb'
          have hsz' : s'.size = s'.ty.size := by rw [hsz, h0]
          rw [← hsz']
          refine g7 eo s'.size ?_
          rw [List.length_take, List.length_drop] at hl
          have := Sh.pos s' hf (giveB_nr hf h3)
          omega) h3 (by rw [hag]; exact hv)
    refine ⟨_, w, M', ω', ?_, hS⟩
    subst g2
    simp only [Instr.loadAt, Instr.sureAddr, Sem.run_bind, Sem.run_pure, Result.andThen_ok]
    exact run_loadVar hTy (by rw [hl, hsz]) (cells_part g3 eo _) hv
  · cases h

theorem exLoad_ok (hC : CtxOk P C) (S : St0 n B X w0 M0 M ω ρ tmps w) {t : TypeId} {d : Nat} (hd : d < n) {q : Opd} {ws : List Wr} {cs : List Prop}
    (h : exLoad C t d q = some (ws, cs)) {v : Value} (hq : OpdR n M ω w ρ (vl tmps) q v) : Res n B X w0 M0 ρ tmps d ws ((Instr.loadAt t v).run P w) := by
  unfold exLoad at h
  split at h
  · rename_i T hT
    have hTy := hC.ty t T hT
    split at h
    · rename_i u x off ha
      have hr := hq.rel (by rw [ha]; intro _ _ _ _ _ e; cases e)
      rw [ha] at hr
      obtain ⟨b, o, cs', h1, h2, h3⟩ := hr
      obtain ⟨y, h4, h5⟩ := El.subK_ok u x off T _ _ h
      simp only [out1, Option.some.injEq, Prod.mk.injEq] at h4
      obtain ⟨rfl, rfl⟩ := h4
      have h6 := h5 M cs' h3
      have hl := Enc.length _ _ _ h6
      have hv := mkVal_ok (ag := T.ag) (cs := (cs'.drop off).take T.size) (fun hg => by rw [hl]; exact Ty.size_sc T hg)
      have hc : CellsAt (full w) b (o + off) ((cs'.drop off).take T.size) := by
        intro i c hc
        rw [List.getElem?_take] at hc
        split at hc
        · rw [List.getElem?_drop] at hc
          have := (h2.mono (M_full S)) (off + i) c hc
          rwa [← Nat.add_assoc] at this
        · cases hc
      refine ⟨_, w, _, _, ?_, put_pure S hd hv h6⟩
      subst h1
      simp only [Instr.loadAt, Instr.sureAddr, Sem.run_bind, Sem.run_pure, Result.andThen_ok]
      exact run_loadVar hTy hl hc hv
    · rename_i k g ver off et i eo arr ha
      exact exLoad_elp S hd hTy ha h hq
    · rename_i k g ag off ha
      have hrr := hq.rel (by rw [ha]; intro _ _ _ _ _ e; cases e)
      have htg := hq.tgt k (by rw [ha]; rfl)
      rw [ha] at hrr
      obtain ⟨⟨hkn, _⟩, b, cs', q1, q2, q3⟩ := hrr
      split at h
      · rename_i hc
        rw [htg] at hc h
        split at h
        · rename_i s x hA
          split at h
          · rename_i hh
            obtain ⟨hag, hnr⟩ := hh
            have hs := S.slots k hkn
            rw [hA] at hs
            obtain ⟨pc, bs, k1, k2, k3, k4⟩ := (show Owns M ω w k s x (vl tmps k) by cases s <;> exact hs)
            have hpl : Place ω w k (ρ.get k).a (vl tmps k) pc := by
              rw [hA]; cases s <;> first | exact k1 | (simp [Sh.noref] at hnr)
            have hpc : cs' = pc := by
              have := q3 hc
              rw [hag] at this
              exact valC_fun this k1
            subst hpc
            obtain ⟨s', y, h3, h0, h4⟩ := Sh.subK_ok s x off T _ _ h
            obtain ⟨bs', g1, g2⟩ := h4 _ _ _ _ k2
            have hl := EncO.length _ _ _ _ g2
            have hbx : ∀ i ∈ bs', ω i = some k ∧ notBox (vl tmps k) i = true := fun i hi =>
              ⟨k4 i (g1.subset hi), noref_box' (fun s'' e => by rw [e] at hnr; simp [Sh.noref] at hnr) k1 k2 i (g1.subset hi)⟩
            have hsz : s'.size = T.size := by
              unfold give at h3
              split at h3
              · rename_i hf; rw [free_size hf, h0]
              · split at h3
                · rename_i hn; rw [Sh.size_ty s' hn, h0]
                · cases h3
            have hv := mkVal_ok (ag := T.ag) (cs := (cs'.drop off).take s'.size) (fun hg => by rw [hl, hsz]; exact Ty.size_sc T hg)
            have hS : ∃ M' ω', St0 n B X w0 M0 M' ω' (ρ.puts ws) (tmps.setIfInBounds d (mkVal T.ag ((cs'.drop off).take s'.size))) w := by
              unfold give at h3
              split at h3
              · rename_i hf
                simp only [out1, Option.some.injEq, Prod.mk.injEq] at h3
                obtain ⟨rfl, rfl⟩ := h3
                have := EncO.free _ _ _ _ hf g2
                subst this
                exact ⟨_, _, put_c S hd (by rw [free_solid_ag hf, h0]; exact hv) g2 List.nodup_nil (by simp)⟩
              · split at h3
                · rename_i hn
                  simp only [out1, Option.some.injEq, Prod.mk.injEq] at h3
                  obtain ⟨rfl, rfl⟩ := h3
                  refine ⟨_, _, put_ref S hd (t := 0) (by intros; intro e; cases e) (by intros; intro e; cases e) (by intros; intro e; cases e) ⟨⟨hkn, Nat.le_refl _, fun _ => Nat.le_refl _⟩, fun _ => ?_⟩⟩
                  refine ⟨(cs'.drop off).take s'.size, by rw [h0]; exact hv, EncO.toEnc (M_heapOf _ _ _ _ _) s' _ y bs' hn (fun i hi row' hrow => heapOf_rows S hrow (hbx i hi).1 (hbx i hi).2) g2, fun off' ho => ?_, fun _ _ _ _ e => by cases e⟩
                  simp only [Option.some.injEq] at ho
                  subst ho
                  exact ⟨cs', hpl, by simp only [Bx.isT, if_true]; rw [Sh.size_ty s' hn]⟩
                · cases h3
            obtain ⟨M', ω', hS⟩ := hS
            refine ⟨_, w, M', ω', ?_, hS⟩
            subst q1
            simp only [Instr.loadAt, Instr.sureAddr, Sem.run_bind, Sem.run_pure, Result.andThen_ok]
            have hcc := cells_part (q2.mono (M_full S)) off s'.size
            rw [Nat.zero_add] at hcc
            exact run_loadVar hTy (by rw [hl, hsz]) hcc hv
          · cases h
        · cases h
      · cases h
    · rename_i hne1 hne2
      obtain ⟨j, g, off, e, h1, h2⟩ := ptrK_ok S h
      obtain ⟨hj, rfl, hro, hp⟩ := h2 v hq
      split at h1
      · rename_i hg
        obtain ⟨b, hb, hvv⟩ := hp hg
        split at h1
        · rename_i s x ha
          obtain ⟨s', y, h3, h0, h4⟩ := Sh.subK_ok s x off T _ _ h1
          obtain ⟨b', row, bss, k1, k2, k3, k4, k5⟩ := ref_ptr S hj ha
          rw [hb] at k1
          simp only [Value.pointer.injEq, Option.some.injEq, Addr.mk.injEq, and_true] at k1
          subst k1
          obtain ⟨bs', g1, g2⟩ := h4 _ _ _ _ k3
          have hl := EncO.length _ _ _ _ g2
          have hsz : s'.size = T.size := by
            unfold give at h3
            split at h3
            · rename_i hf; rw [free_size hf, h0]
            · split at h3
              · rename_i hn; rw [Sh.size_ty s' hn, h0]
              · cases h3
          have hv := mkVal_ok (ag := T.ag) (cs := (row.drop off).take s'.size) (fun hg => by rw [hl, hsz]; exact Ty.size_sc T hg)
          have hg' : g = (ρ.get j).g := hg.symm
          subst hg'
          obtain ⟨M', ω', hS⟩ := give_ok S hd hj ha h4 h3 hb k2 (v := mkVal T.ag ((row.drop off).take s'.size)) (fun _ => by rw [h0]; exact hv) (fun hf => by rw [free_solid_ag hf, h0]; exact hv)
          refine ⟨_, w, M', ω', ?_, hS⟩
          subst hvv
          simp only [Instr.loadAt, Instr.sureAddr, Sem.run_bind, Sem.run_pure, Result.andThen_ok]
          exact run_loadVar hTy (by rw [hl, hsz]) (cellsAt_sub (rows_full k2) off _) hv
        · cases h1
      · cases h1
  · cases h

end
end Fw
