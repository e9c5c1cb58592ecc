/- Each operation does what is computed of it: stores. Conditions: none. -/
import Derived.Test.YtnbpojalpdldnaaFwD
namespace Fw
open Go

theorem ov_left {v1 v2 p : List Value} {o : Nat} (h : o + p.length ≤ v1.length) : ov (v1 ++ v2) o p = ov v1 o p ++ v2 := by
  unfold ov
  rw [List.take_append_of_le_length (by omega), List.drop_append_of_le_length h]
  simp
theorem ov_right {v1 v2 p : List Value} {o : Nat} (h : v1.length ≤ o) : ov (v1 ++ v2) o p = v1 ++ ov v2 (o - v1.length) p := by
  unfold ov
  rw [List.take_append, List.take_of_length_le h, List.drop_append, List.drop_eq_nil_of_le (by omega), show o + p.length - v1.length = o - v1.length + p.length by omega]
  simp
theorem ov_all {v p : List Value} (h : p.length = v.length) : ov v 0 p = p := by
  unfold ov
  simp [h]

/-- what is known of a part that was replaced -/
def UpdOk (a : Sh) (x : El a.ty) (off : Nat) (s' : Sh) (y : El s'.ty) (s2 : Sh) (x2 : El s2.ty) : Prop :=
  s2.ty = a.ty ∧ ∀ M R vs bs cs bs', EncO M R a vs x bs → EncO M R s' cs y bs' → off + cs.length ≤ vs.length ∧
    ∃ b1 b2 b3, bs = b1 ++ b2 ++ b3 ∧ EncO M R s2 (ov vs off cs) x2 (b1 ++ bs' ++ b3)

theorem upd_here {a s' : Sh} {x : El a.ty} {y : El s'.ty} {off : Nat} (h0 : off = 0) (hty : s'.ty = a.ty) (hsz : s'.size = a.size) : UpdOk a x off s' y s' y := by
  subst h0
  refine ⟨hty, fun M R vs bs cs bs' h1 h2 => ?_⟩
  have l1 := EncO.length _ _ _ _ h1
  have l2 := EncO.length _ _ _ _ h2
  have hl : cs.length = vs.length := by rw [l1, l2, hsz]
  exact ⟨by omega, [], bs, [], by simp, by rw [ov_all hl]; simpa using h2⟩

theorem upd_left {a b s' s1 : Sh} {x : El a.ty} {z : El b.ty} {y : El s'.ty} {y1 : El s1.ty} {off : Nat} (h : UpdOk a x off s' y s1 y1) {s2 : Sh} {x2 : El s2.ty}
    (hty : s2.ty = .pair s1.ty b.ty) (he : ∀ M R v1 v2 b1 b2, EncO M R s1 v1 y1 b1 → EncO M R b v2 z b2 → EncO M R s2 (v1 ++ v2) x2 (b1 ++ b2)) :
    s2.ty = .pair a.ty b.ty ∧ ∀ M R vs bs cs bs', (∃ v1 v2 b1 b2, vs = v1 ++ v2 ∧ bs = b1 ++ b2 ∧ EncO M R a v1 x b1 ∧ EncO M R b v2 z b2) → EncO M R s' cs y bs' → off + cs.length ≤ vs.length ∧
      ∃ b1 b2 b3, bs = b1 ++ b2 ++ b3 ∧ EncO M R s2 (ov vs off cs) x2 (b1 ++ bs' ++ b3) := by
  refine ⟨by rw [hty, h.1], fun M R vs bs cs bs' ⟨v1, v2, c1, c2, e1, e2, g1, g2⟩ hs => ?_⟩
  subst e1; subst e2
  obtain ⟨k1, d1, d2, d3, k2, k3⟩ := h.2 M R v1 c1 cs bs' g1 hs
  refine ⟨by simp; omega, d1, d2, d3 ++ c2, by rw [k2]; simp, ?_⟩
  rw [ov_left k1]
  have := he M R _ _ _ _ k3 g2
  simpa using this
theorem upd_right {a b s' s1 : Sh} {x : El a.ty} {z : El b.ty} {y : El s'.ty} {y1 : El s1.ty} {off : Nat} (hoff : a.size ≤ off) (h : UpdOk b z (off - a.size) s' y s1 y1) {s2 : Sh} {x2 : El s2.ty}
    (hty : s2.ty = .pair a.ty s1.ty) (he : ∀ M R v1 v2 b1 b2, EncO M R a v1 x b1 → EncO M R s1 v2 y1 b2 → EncO M R s2 (v1 ++ v2) x2 (b1 ++ b2)) :
    s2.ty = .pair a.ty b.ty ∧ ∀ M R vs bs cs bs', (∃ v1 v2 b1 b2, vs = v1 ++ v2 ∧ bs = b1 ++ b2 ∧ EncO M R a v1 x b1 ∧ EncO M R b v2 z b2) → EncO M R s' cs y bs' → off + cs.length ≤ vs.length ∧
      ∃ b1 b2 b3, bs = b1 ++ b2 ++ b3 ∧ EncO M R s2 (ov vs off cs) x2 (b1 ++ bs' ++ b3) := by
  refine ⟨by rw [hty, h.1], fun M R vs bs cs bs' ⟨v1, v2, c1, c2, e1, e2, g1, g2⟩ hs => ?_⟩
  subst e1; subst e2
  have l1 := EncO.length _ _ _ _ g1
  obtain ⟨k1, d1, d2, d3, k2, k3⟩ := h.2 M R v2 c2 cs bs' g2 hs
  refine ⟨by simp; omega, c1 ++ d1, d2, d3, by rw [k2]; simp, ?_⟩
  rw [ov_right (by omega), l1]
  have := he M R _ _ _ _ g1 k3
  simpa using this

theorem El.updK_ok {R : Type} {s' : Sh} {y : El s'.ty} (hn : s'.noref = true) : ∀ (T : Ty) (x : El T) (off : Nat) (k : (s : Sh) → El s.ty → Option R) (r : R), El.updK T x off s' y k = some r →
    ∃ s2 x2, k s2 x2 = some r ∧ UpdOk (.pure T) x off s' y s2 x2 ∧ s2.ag = s2.ty.ag
  | .pair a b, x, off, k, r, h => by
    simp only [El.updK] at h
    have hpair : ∀ M R vs bs, EncO M R (.pure (.pair a b)) vs x bs → ∃ v1 v2 b1 b2, vs = v1 ++ v2 ∧ bs = b1 ++ b2 ∧ EncO M R (.pure a) v1 x.1 b1 ∧ EncO M R (.pure b) v2 x.2 b2 :=
      fun M R vs bs ⟨e1, v1, v2, e2, e3, e4⟩ => ⟨v1, v2, [], [], e2, by simp [e1], ⟨rfl, e3⟩, ⟨rfl, e4⟩⟩
    split at h
    · rename_i hc
      exact ⟨s', y, h, upd_here hc.1 hc.2.symm (by rw [Sh.size_ty s' hn, ← hc.2]; rfl), Sh.ag_ty s' hn⟩
    · split at h
      · obtain ⟨s1, y1, h1, h2, _⟩ := El.updK_ok hn a x.1 off _ r h
        obtain ⟨s2, z, g1, g2, g3, _, _, _, g7⟩ := mkPair_ok s1 y1 (.pure b) x.2
        rw [g1] at h1
        obtain ⟨u1, u2⟩ := upd_left (b := .pure b) (z := x.2) h2 g2 g7
        exact ⟨s2, z, h1, ⟨u1, fun M R vs bs cs bs' e1 e2 => u2 M R vs bs cs bs' (hpair M R vs bs e1) e2⟩, by rw [g3, g2]; rfl⟩
      · rename_i hge
        obtain ⟨s1, y1, h1, h2, _⟩ := El.updK_ok hn b x.2 (off - a.size) _ r h
        obtain ⟨s2, z, g1, g2, g3, _, _, _, g7⟩ := mkPair_ok (.pure a) x.1 s1 y1
        rw [g1] at h1
        obtain ⟨u1, u2⟩ := upd_right (a := .pure a) (x := x.1) (by show a.size ≤ off; omega) h2 g2 g7
        exact ⟨s2, z, h1, ⟨u1, fun M R vs bs cs bs' e1 e2 => u2 M R vs bs cs bs' (hpair M R vs bs e1) e2⟩, by rw [g3, g2]; rfl⟩
  | .int _, x, off, k, r, h => by
    simp only [El.updK] at h
    split at h
    · rename_i hc; exact ⟨s', y, h, upd_here hc.1 hc.2.symm (by rw [Sh.size_ty s' hn, ← hc.2]; rfl), Sh.ag_ty s' hn⟩
    · cases h
  | .bool, x, off, k, r, h => by
    simp only [El.updK] at h
    split at h
    · rename_i hc; exact ⟨s', y, h, upd_here hc.1 hc.2.symm (by rw [Sh.size_ty s' hn, ← hc.2]; rfl), Sh.ag_ty s' hn⟩
    · cases h
  | .str, x, off, k, r, h => by
    simp only [El.updK] at h
    split at h
    · rename_i hc; exact ⟨s', y, h, upd_here hc.1 hc.2.symm (by rw [Sh.size_ty s' hn, ← hc.2]; rfl), Sh.ag_ty s' hn⟩
    · cases h
  | .slice _, x, off, k, r, h => by
    simp only [El.updK] at h
    split at h
    · rename_i hc; exact ⟨s', y, h, upd_here hc.1 hc.2.symm (by rw [Sh.size_ty s' hn, ← hc.2]; rfl), Sh.ag_ty s' hn⟩
    · cases h
  | .arr _ _, x, off, k, r, h => by
    simp only [El.updK] at h
    split at h
    · rename_i hc; exact ⟨s', y, h, upd_here hc.1 hc.2.symm (by rw [Sh.size_ty s' hn, ← hc.2]; rfl), Sh.ag_ty s' hn⟩
    · cases h

theorem Sh.updK_ok {R : Type} {s' : Sh} {y : El s'.ty} (hn : s'.noref = true) : ∀ (a : Sh) (x : El a.ty) (off : Nat) (k : (s : Sh) → El s.ty → Option R) (r : R), a.updK x off s' y k = some r →
    ∃ s2 x2, k s2 x2 = some r ∧ UpdOk a x off s' y s2 x2 ∧ s2.ag = s2.ty.ag
  | .pure T, x, off, k, r, h => El.updK_ok hn T x off k r h
  | .pair a b, x, off, k, r, h => by
    simp only [Sh.updK] at h
    split at h
    · rename_i hc
      exact ⟨s', y, h, upd_here hc.1 hc.2.1.symm hc.2.2, Sh.ag_ty s' hn⟩
    · split at h
      · obtain ⟨s1, y1, h1, h2, _⟩ := Sh.updK_ok hn a x.1 off _ r h
        obtain ⟨s2, z, g1, g2, g3, _, _, _, g7⟩ := mkPair_ok s1 y1 b x.2
        rw [g1] at h1
        obtain ⟨u1, u2⟩ := upd_left (b := b) (z := x.2) h2 g2 g7
        exact ⟨s2, z, h1, ⟨u1, fun M R vs bs cs bs' e1 e2 => u2 M R vs bs cs bs' e1 e2⟩, by rw [g3, g2]; rfl⟩
      · rename_i hge
        obtain ⟨s1, y1, h1, h2, _⟩ := Sh.updK_ok hn b x.2 (off - a.size) _ r h
        obtain ⟨s2, z, g1, g2, g3, _, _, _, g7⟩ := mkPair_ok a x.1 s1 y1
        rw [g1] at h1
        obtain ⟨u1, u2⟩ := upd_right (a := a) (x := x.1) (by omega) h2 g2 g7
        exact ⟨s2, z, h1, ⟨u1, fun M R vs bs cs bs' e1 e2 => u2 M R vs bs cs bs' e1 e2⟩, by rw [g3, g2]; rfl⟩
  | .own e, x, off, k, r, h => by
    simp only [Sh.updK] at h
    split at h
    · rename_i hc; exact ⟨s', y, h, upd_here hc.1 hc.2.symm (by rw [Sh.size_ty s' hn, ← hc.2]; rfl), Sh.ag_ty s' hn⟩
    · cases h
  | .nil e, x, off, k, r, h => by
    simp only [Sh.updK] at h
    split at h
    · rename_i hc; exact ⟨s', y, h, upd_here hc.1 hc.2.symm (by rw [Sh.size_ty s' hn, ← hc.2]; rfl), Sh.ag_ty s' hn⟩
    · cases h
  | .hole t, x, off, k, r, h => by
    simp only [Sh.updK] at h
    split at h
    · rename_i hc; exact ⟨s', y, h, upd_here hc.1 hc.2.symm (by rw [Sh.size_ty s' hn, ← hc.2]; rfl), Sh.ag_ty s' hn⟩
    · cases h
  | .ref s, x, off, k, r, h => by simp [Sh.updK] at h

section
variable {n B : Nat} {X : List Nat} {w0 : World} {M0 M : Mem} {ω : Own} {ρ : Env} {tmps : Array Value} {w : World} {P : Program} {C : Ctx}

/-- the content of a variable turned, its row written -/
theorem put_row (S : St0 n B X w0 M0 M ω ρ tmps w) {j b : Nat} (hj : j < n) (hb : ω b = some j) (hv : vl tmps j = .pointer (some ⟨b, 0, none⟩)) {row : List Value} {w' : World} (hu : Upd w b row w')
    {s2 : Sh} {x2 : El s2.ty} {bs : List Nat} (he : EncO M (rows w) s2 row x2 bs) (hn : (b :: bs).Nodup) (hbs : ∀ i ∈ bs, ω i = some n ∨ ω i = some j) :
    ∃ ω', St0 n B X w0 M0 M ω' (ρ.puts [⟨j, true, .c (.ref s2) x2⟩]) tmps w' := by
  refine ⟨fun i => if ω i = some n then some j else ω i, ?_⟩
  obtain ⟨d1, d2, d3⟩ := S.dis b j hb
  have hget : (ρ.puts [(⟨j, true, .c (.ref s2) x2⟩ : Wr)]).get j = ⟨(ρ.get j).g, (ρ.get j).ver + 1, .c (.ref s2) x2⟩ := by
    show (ρ.put _).get j = _
    rw [Env.get_put]; simp
  have hbn : b ∉ bs := (List.nodup_cons.1 hn).1
  refine S.step _ S.size ⟨hu.os, hu.tape, hu.output, Nat.le_of_eq hu.size.symm, fun k hk hx => hu.other k (fun e => ?_)⟩ (Mem.le_refl _) (fun _ _ _ _ => rfl) ?_ ?_ (fun _ _ => rfl) ?_ ?_ ?_
  · subst e
    rcases d1 with d1 | d1
    · omega
    · exact hx d1
  · intro i o v hm
    have hne : i ≠ b := fun e => by subst e; rw [d3 o] at hm; cases hm
    rw [cell_of_block (hu.other i hne)]
    exact S.mem i o v hm
  · intro i k hk
    have : ∃ k', ω i = some k' := by
      revert hk
      show (if ω i = some n then some j else ω i) = some k → _
      split
      · rename_i e; intro _; exact ⟨n, e⟩
      · intro e; exact ⟨k, e⟩
    obtain ⟨k', hk'⟩ := this
    obtain ⟨q1, q2, q3⟩ := S.dis i k' hk'
    exact ⟨q1, by rw [hu.size]; exact q2, q3⟩
  · intro x hx
    simp at hx; subst hx; exact hj
  · intro t ht hne i hi
    have htj : t ≠ j := fun e => hne _ (List.mem_singleton.2 rfl) e.symm
    refine ⟨?_, hu.other i (fun e => ?_)⟩
    · show (if ω i = some n then some j else ω i) = some t
      rw [if_neg (by rw [hi]; simp; omega)]; exact hi
    · subst e; rw [hb] at hi; simp at hi; exact htj hi.symm
  · intro t ⟨x, hx, hxt⟩ _
    simp at hx; subst hx
    have : t = j := hxt.symm
    subst this
    rw [hget]
    refine ⟨[.pointer (some ⟨b, 0, none⟩)], b :: bs, ?_, ⟨b, row, bs, rfl, rfl, hu.row, ?_⟩, hn, ?_⟩
    · have hv' : tmps.getD t undef = .pointer (some ⟨b, 0, none⟩) := hv
      rw [hv']; rfl
    · exact EncO.mono (Mem.le_refl _) s2 row x2 bs (fun i hi => rows_of_block (hu.other i (fun e => hbn (e ▸ hi)))) he
    · intro i hi
      show (if ω i = some n then some t else ω i) = some t
      rcases List.mem_cons.1 hi with rfl | hi
      · rw [if_neg (by rw [hb]; simp; omega)]; exact hb
      · rcases hbs i hi with h | h
        · rw [if_pos h]
        · rw [if_neg (by rw [h]; simp; omega)]; exact h

theorem noneIs_ok {j : Nat} : ∀ {ws : List Wr}, noneIs j ws = true → ∀ x ∈ ws, x.slot ≠ j
  | [], _, x, hx => by simp at hx
  | y :: r, hn, x, hx => by
    simp only [noneIs] at hn
    split at hn
    · cases hn
    · rename_i hne
      rcases List.mem_cons.1 hx with rfl | hx
      · exact hne
      · exact noneIs_ok hn x hx

end
end Fw
