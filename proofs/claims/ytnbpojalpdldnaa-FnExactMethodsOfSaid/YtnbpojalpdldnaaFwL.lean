/- Each operation does what is computed of it: appends. Conditions: none. -/
import Derived.Test.YtnbpojalpdldnaaFwK
import Derived.Test.YtnbpojalpdldnaaFwU
namespace Fw
open Go

theorem Sh.cutK_ok {R : Type} : ∀ (s : Sh) (x : El s.ty) (off : Nat) (t : Ty) (k : (s : Sh) → El s.ty → (s2 : Sh) → El s2.ty → Option R) (r : R), s.cutK x off t k = some r →
    ∃ s' y s2 x2, k s' y s2 x2 = some r ∧ s'.ty = t ∧ s2.ty = s.ty ∧ ∀ M Rw vs bs, EncO M Rw s vs x bs → ∃ b1 b2 b3, bs = b1 ++ b2 ++ b3 ∧ EncO M Rw s' ((vs.drop off).take s'.size) y b2 ∧ EncO M Rw s2 vs x2 (b1 ++ b3)
  | .pure T, x, off, t, k, r, h => by
    obtain ⟨y, h1, h2⟩ := El.subK_ok T x off t _ r h
    exact ⟨.pure t, y, .pure T, x, h1, rfl, rfl, fun M Rw vs bs ⟨e1, e2⟩ => ⟨[], [], [], by simp [e1], ⟨rfl, h2 M vs e2⟩, ⟨rfl, e2⟩⟩⟩
  | .pair a b, x, off, t, k, r, h => by
    simp only [Sh.cutK] at h
    split at h
    · rename_i hc
      obtain ⟨rfl, rfl, hno⟩ := hc
      refine ⟨_, _, _, _, h, rfl, rfl, fun M Rw vs bs he => ?_⟩
      have hl := EncO.length _ _ _ _ he
      refine ⟨[], bs, [], by simp, ?_, rfl, ?_⟩
      · have : (vs.drop 0).take (Sh.pair a b).size = vs := by rw [List.drop_zero, ← hl, List.take_length]
        rw [this]; exact he
      · rw [hl]; exact Sh.size_ty _ hno
    · split at h
      · rename_i hlt
        obtain ⟨s', y, s2, x2, h1, h2, h2', h3⟩ := Sh.cutK_ok a x.1 off t _ r h
        obtain ⟨s3, x3, g1, g2, _, _, _, _, g7⟩ := mkPair_ok s2 x2 b x.2
        rw [g1] at h1
        refine ⟨s', y, s3, x3, h1, h2, by rw [g2, h2'], fun M Rw vs bs ⟨v1, v2, c1, c2, e1, e2, k1, k2⟩ => ?_⟩
        subst e1; subst e2
        obtain ⟨d1, d2, d3, f1, f2, f3⟩ := h3 M Rw v1 c1 k1
        have l1 := EncO.length _ _ _ _ k1
        have l2 := EncO.length _ _ _ _ f2
        simp at l2
        refine ⟨d1, d2, d3 ++ c2, by simp [f1], ?_, by rw [← List.append_assoc]; exact g7 M Rw _ _ _ _ f3 k2⟩
        rwa [List.drop_append_of_le_length (by omega), List.take_append_of_le_length (by simp; omega)]
      · rename_i hge
        obtain ⟨s', y, s2, x2, h1, h2, h2', h3⟩ := Sh.cutK_ok b x.2 (off - a.size) t _ r h
        obtain ⟨s3, x3, g1, g2, _, _, _, _, g7⟩ := mkPair_ok a x.1 s2 x2
        rw [g1] at h1
        refine ⟨s', y, s3, x3, h1, h2, by rw [g2, h2'], fun M Rw vs bs ⟨v1, v2, c1, c2, e1, e2, k1, k2⟩ => ?_⟩
        subst e1; subst e2
        obtain ⟨d1, d2, d3, f1, f2, f3⟩ := h3 M Rw v2 c2 k2
        have l1 := EncO.length _ _ _ _ k1
        refine ⟨c1 ++ d1, d2, d3, by simp [f1], ?_, by rw [List.append_assoc]; exact g7 M Rw _ _ _ _ k1 f3⟩
        rwa [List.drop_append, List.drop_eq_nil_of_le (by omega : v1.length ≤ off), List.nil_append, l1]
  | .own e, x, off, t, k, r, h => by
    simp only [Sh.cutK] at h
    split at h
    · rename_i hc
      obtain ⟨rfl, rfl⟩ := hc
      refine ⟨_, _, _, _, h, rfl, rfl, fun M Rw vs bs he => ?_⟩
      have hl := EncO.length _ _ _ _ he
      refine ⟨[], bs, [], by simp, ?_, rfl, hl⟩
      have : (vs.drop 0).take (Sh.own e).size = vs := by rw [List.drop_zero, ← hl, List.take_length]
      rw [this]; exact he
    · cases h
  | .nil e, x, off, t, k, r, h => by
    simp only [Sh.cutK] at h
    split at h
    · rename_i hc
      obtain ⟨rfl, rfl⟩ := hc
      refine ⟨_, _, _, _, h, rfl, rfl, fun M Rw vs bs he => ?_⟩
      have hl := EncO.length _ _ _ _ he
      have h0 := he.1
      refine ⟨[], [], [], by simp [h0], ?_, ⟨rfl, he.2⟩⟩
      have : (vs.drop 0).take (Sh.nil e).size = vs := by rw [List.drop_zero, ← hl, List.take_length]
      rw [this]; exact ⟨rfl, he.2⟩
    · cases h
  | .ref s, x, off, t, k, r, h => by simp [Sh.cutK] at h
  | .hole s, x, off, t, k, r, h => by simp [Sh.cutK] at h

theorem ValC.fun_ {ag : Bool} {v : Value} {c1 c2 : List Value} (h1 : ValC ag v c1) (h2 : ValC ag v c2) : c1 = c2 := by
  unfold ValC at *
  cases ag with
  | true =>
    simp only [if_true] at h1 h2
    rw [h1] at h2
    simpa using h2
  | false =>
    simp only [Bool.false_eq_true, if_false] at h1 h2
    rw [h1, h2]

section
variable {n B : Nat} {X : List Nat} {w0 : World} {M0 M : Mem} {ω : Own} {ρ : Env} {tmps : Array Value} {w w' : World} {P : Program} {C : Ctx}

/-- a part of what the variable behind slot j holds goes to limbo -/
theorem cut_ok (S : St0 n B X w0 M0 M ω ρ tmps w) {j L : Nat} (hj : j < n) {bl : List Nat} (hbl : ∀ b ∈ bl, ω b = some j) {A' : A}
    (hA : Rel n M (fun b => if b ∈ bl then some L else ω b) w (ρ.puts [⟨j, true, A'⟩]) (vl tmps) j (vl tmps j) A') :
    St0 n B X w0 M0 M (fun b => if b ∈ bl then some L else ω b) (ρ.puts [⟨j, true, A'⟩]) tmps w ∧ Moved n M M ω (fun b => if b ∈ bl then some L else ω b) w ρ tmps [⟨j, true, A'⟩] L := by
  have hdis : ∀ b k, (if b ∈ bl then some L else ω b) = some k → (B ≤ b ∨ b ∈ X) ∧ b < w.heap.size ∧ ∀ o, M b o = none := by
    intro b k hk
    by_cases hb : b ∈ bl
    · exact S.dis b j (hbl b hb)
    · rw [if_neg hb] at hk; exact S.dis b k hk
  have hown : ∀ t, t < n → (∀ x ∈ ([⟨j, true, A'⟩] : List Wr), x.slot ≠ t) → ∀ b, ω b = some t → (if b ∈ bl then some L else ω b) = some t ∧ w.heap[b]? = w.heap[b]? := by
    intro t _ hne b hb
    have : t ≠ j := fun e => hne _ (List.mem_singleton.2 rfl) e.symm
    refine ⟨?_, rfl⟩
    rw [if_neg (fun h => by rw [hbl b h] at hb; simp at hb; exact this hb.symm)]
    exact hb
  have hget : (ρ.puts [(⟨j, true, A'⟩ : Wr)]).get j = ⟨(ρ.get j).g, (ρ.get j).ver + 1, A'⟩ := by
    show (ρ.put _).get j = _
    rw [Env.get_put]; simp
  refine ⟨S.step _ S.size (Fr.refl _ _ _) (Mem.le_refl _) (fun _ _ _ _ => rfl) S.mem hdis (fun _ _ => rfl) (by intro x hx; simp at hx; subst hx; exact hj) hown ?_, ?_⟩
  · intro t ⟨x, hx, hxt⟩ _
    simp at hx; subst hx
    have : t = j := hxt.symm
    subst this
    rw [hget]; exact hA
  · refine ⟨⟨Mem.le_refl _, fun b k hk => (hdis b k hk).2.2, fun k => Older.puts _ ρ k, fun _ _ => rfl, fun k hkn hk b hb => ?_⟩, by intro x hx; simp at hx; subst hx; exact hj, ?_⟩
    · refine hown k hkn (fun x hx e => ?_) b hb
      simp at hx; subst hx
      have : j = k := e
      subst this
      rw [hget] at hk
      have := congrArg Ent.ver hk
      simp at this
    · intro L' hL' hne b hb
      show (if b ∈ bl then some L else ω b) = some L'
      rw [if_neg (fun h => by rw [hbl b h] at hb; simp at hb; omega)]; exact hb

theorem tkOwn_ok (S : St0 n B X w0 M0 M ω ρ tmps w) (L : Nat) {R : Type} {q : Opd} {k : (s : Sh) → El s.ty → List Wr → Option R} {r : R}
    (h : tkOwn q k = some r) {v : Value} (hq : OpdR n M ω w ρ (vl tmps) q v) : ∃ s x ws, k s x ws = some r ∧
      ∃ M' ω', St0 n B X w0 M0 M' ω' (ρ.puts ws) tmps w ∧ Moved n M M' ω ω' w ρ tmps ws L ∧ Taken n M' ω' w L v s x := by
  unfold tkOwn at h
  split at h
  · rename_i j g ver t y0 off ha
    have hr := hq.rel (by rw [ha]; intro _ _ _ _ _ e; cases e)
    have htg := hq.tgt j (by rw [ha]; rfl)
    rw [ha] at hr
    obtain ⟨⟨hjn, _⟩, hcl⟩ := hr
    split at h
    · rename_i hc
      rw [htg] at hc h
      obtain ⟨cs, h1, h2, h3⟩ := hcl hc
      obtain ⟨pc, h4, h5⟩ := h3.1 off rfl
      simp only [Bx.isT, if_true] at h5
      subst h5
      have hslot := S.slots j hjn
      split at h
      · rename_i s x hA
        rw [hA] at hslot h4
        obtain ⟨pcs, bs, k1, ⟨b, row, bss, k2, k3, k4, k5⟩, k6, k7⟩ := hslot
        obtain ⟨b', h6, h7, h8⟩ := h4
        have hbb : b' = b := by
          have e1 : pcs = [tmps.getD j undef] := k1
          have e2 : tmps.getD j undef = .pointer (some ⟨b', 0, none⟩) := h6
          rw [e1, e2] at k3
          simpa using k3
        subst hbb
        rw [k4] at h8
        simp only [Option.some.injEq] at h8
        subst h8
        obtain ⟨s', y, s2, x2, g1, g2, _, g3⟩ := Sh.cutK_ok s x off t _ r h
        split at g1
        · rename_i hno
          obtain ⟨b1, b2, b3, e1, e2, e3⟩ := g3 _ _ _ _ k5
          have hsz : s'.size = t.size := by rw [Sh.size_ty s' hno, g2]
          have hag : s'.ag = t.ag := by rw [Sh.ag_ty s' hno, g2]
          subst k2
          rw [e1] at k6 k7
          have hnd := List.nodup_cons.1 k6
          obtain ⟨q1, q2⟩ := hnd
          rw [List.nodup_append] at q2
          obtain ⟨q3, q4, q5⟩ := q2
          rw [List.nodup_append] at q3
          obtain ⟨q6, q7, q8⟩ := q3
          obtain ⟨S1, m1⟩ := cut_ok S (L := L) hjn (bl := b2) (fun i hi => k7 i (by simp [hi])) (A' := .c (.ref s2) x2)
            ⟨pcs, b' :: (b1 ++ b3), k1, ⟨b', row, b1 ++ b3, rfl, k3, k4, e3⟩, by
              rw [List.nodup_cons, List.nodup_append]
              refine ⟨fun hm => q1 (by simp at hm ⊢; rcases hm with hm | hm <;> simp [hm]), q6, q4, fun a ha c hc => q5 a (by simp [ha]) c hc⟩, fun i hi => by
              refine (if_neg (fun hm => ?_)).trans (k7 i (by simp at hi ⊢; rcases hi with hi | hi | hi <;> simp [hi]))
              simp only [List.mem_cons, List.mem_append] at hi
              rcases hi with hi | hi | hi
              · subst hi; exact q1 (by simp [hm])
              · exact q8 i hi i hm rfl
              · exact q5 i (by simp [hm]) i hi rfl⟩
          exact ⟨s', y, _, g1, M, _, S1, m1, ⟨_, b2, by rw [hag]; exact h1, by rw [← hsz]; exact e2, q7, fun i hi => if_pos hi⟩⟩
        · cases g1
      · rename_i s x hnr hA
        rw [hA] at hslot h4
        have hslot' : Owns M ω w j s x (tmps.getD j undef) := hslot
        obtain ⟨pcs, bs, k1, k2, k6, k7⟩ := hslot'
        have h4' : ValC s.ag (tmps.getD j undef) pc := by cases s <;> first | exact h4 | exact (hnr _ _ rfl (HEq.refl _)).elim
        have := ValC.fun_ k1 h4'
        subst this
        obtain ⟨s', y, s2, x2, g1, g2, _, g3⟩ := Sh.cutK_ok s x off t _ r h
        split at g1
        · rename_i hno
          obtain ⟨b1, b2, b3, e1, e2, e3⟩ := g3 _ _ _ _ k2
          have hsz : s'.size = t.size := by rw [Sh.size_ty s' hno, g2]
          have hag : s'.ag = t.ag := by rw [Sh.ag_ty s' hno, g2]
          obtain ⟨S1, m1⟩ := move_ok S (L := L) hjn
          rw [e1] at k6 k7
          rw [List.nodup_append] at k6
          obtain ⟨q1, _, _⟩ := k6
          rw [List.nodup_append] at q1
          exact ⟨s', y, _, g1, M, _, S1, m1, ⟨_, b2, by rw [hag]; exact h1, by rw [← hsz]; exact e2, q1.2.1, fun i hi => if_pos (k7 i (by simp [hi]))⟩⟩
        · cases g1
      · cases h
    · cases h
  · rename_i s x ha
    have hr := hq.rel (by rw [ha]; intro _ _ _ _ _ e; cases e)
    rw [ha] at hr
    obtain ⟨cs, bs, h1, h2, h3, h4⟩ := hr
    split at h
    · rename_i hf
      have hbs := EncO.free s cs x bs hf h2
      subst hbs
      exact ⟨s, x, [], h, M, ω, S, ⟨Step.refl S, by simp, fun _ _ _ _ h => h⟩, ⟨cs, [], h1, h2, h3, by simp⟩⟩
    · split at h
      · rename_i j hj
        obtain ⟨e1, e2, e3⟩ := hq.slot j hj
        have hjn := e3 (by rw [ha]; intro e; cases e)
        obtain ⟨g1, g2⟩ := move_ok S (L := L) hjn
        refine ⟨s, x, _, h, M, _, g1, g2, ⟨cs, bs, h1, h2, h3, fun b hb => ?_⟩⟩
        have := h4 b hb
        rw [hj] at this
        simp only [Option.getD_some] at this
        simp [this]
      · cases h
  · cases h

theorem upd_ok (S : St0 n B X w0 M0 M ω ρ tmps w) {b L : Nat} (hL : n ≤ L) (hb : ω b = some L) {row : List Value} (hu : Upd w b row w') : St0 n B X w0 M0 M ω ρ tmps w' := by
  obtain ⟨d1, d2, d3⟩ := S.dis b L hb
  refine S.step [] S.size ⟨hu.os, hu.tape, hu.output, Nat.le_of_eq hu.size.symm, fun k hk hx => hu.other k (fun e => ?_)⟩ (Mem.le_refl _) (fun _ _ _ _ => rfl) ?_ ?_ (fun _ _ => rfl) (by simp) ?_ (by simp)
  · subst e
    rcases d1 with d1 | d1
    · omega
    · exact hx d1
  · intro i o v hm
    have hne : i ≠ b := fun e => by subst e; rw [d3 o] at hm; cases hm
    rw [cell_of_block (hu.other i hne)]
    exact S.mem i o v hm
  · intro i k hk
    obtain ⟨q1, q2, q3⟩ := S.dis i k hk
    exact ⟨q1, by rw [hu.size]; exact q2, q3⟩
  · intro t ht _ i hi
    exact ⟨hi, hu.other i (fun e => by subst e; rw [hb] at hi; simp at hi; omega)⟩

/-- an append in place, and one that makes a new row -/
theorem run_append_room {t ty te : TypeId} {E : Ty} (hu : P.underlying t = some (.slice te)) (hE : TyR P te E) {base : Option Addr} {nn cap m c : Nat} {a : Option Addr} {news : List Value}
    (hl : news.length = m * E.size) (hnews : ∀ ad, a = some ad → (ad.spot = none ∨ m = 0) ∧ CellsAt (full w) ad.block ad.off news) (ha : a = none → m = 0) (hroom : nn + m ≤ cap)
    {w' : World} (hst : ∀ ad, base = some ad → (storeCells (ad.add (nn * E.size)) news).run P w = .ok () w') (hno : base = none → w' = w) :
    (Builtin.append_ #[t, t] ty #[.slice base nn cap, .slice a m c]).run P w = .ok (.slice base (nn + m) cap) w' := by
  obtain ⟨i, h1, h2, _⟩ := hE.info
  have hf : (Builtin.firstCells E.size m (.slice a m c)).run P w = .ok news.toArray w := by
    cases a with
    | none =>
      have : news = [] := List.length_eq_zero_iff.1 (by rw [hl, ha rfl, Nat.zero_mul])
      subst this; rfl
    | some ad =>
      obtain ⟨g1, g2⟩ := hnews _ rfl
      rcases g1 with g1 | g1
      · obtain ⟨b, o, sp⟩ := ad
        simp only at g1
        subst g1
        exact run_loadCells hl g2
      · subst g1
        have : news = [] := List.length_eq_zero_iff.1 (by rw [hl, Nat.zero_mul])
        subst this
        unfold Builtin.firstCells
        rw [Nat.zero_mul]; rfl
  cases base with
  | none =>
    rw [hno rfl]
    simp [Builtin.append_, run_underlying' hu, run_sizeOf hE, Builtin.lenOf, hroom, hf]
  | some ad =>
    have hs := hst ad rfl
    simp [Builtin.append_, run_underlying' hu, run_sizeOf hE, Builtin.lenOf, hroom, hf, hs]

theorem run_append_new {t ty te : TypeId} {E : Ty} (hu : P.underlying t = some (.slice te)) (hE : TyR P te E) {base : Option Addr} {nn cap m c : Nat} {ad : Addr} {olds news : List Value}
    (hlo : olds.length = nn * E.size) (holds : ∀ bd, base = some bd → (bd.spot = none ∨ nn = 0) ∧ CellsAt (full w) bd.block bd.off olds) (hbase : base = none → nn = 0 ∧ cap = 0)
    (hl : news.length = m * E.size) (hsp : ad.spot = none) (hnews : CellsAt (full w) ad.block ad.off news) (hg : cap < nn + m) (hle : nn + m ≤ maxApp) :
    ∃ cap' zs w', (Builtin.append_ #[t, t] ty #[.slice base nn cap, .slice (some ad) m c]).run P w = .ok (.slice (some ⟨w.heap.size, 0, none⟩) (nn + m) cap') w' ∧ Grown w w' (olds ++ news ++ zs) ∧
      nn + m ≤ cap' ∧ cap' ≤ bigLen ∧ (olds ++ news ++ zs).length = cap' * E.size := by
  obtain ⟨i, i1, i2, i3, zv, i4, i5⟩ := hE.info
  obtain ⟨zd, _, y2, y3⟩ := zOk_cells i5
  obtain ⟨zv1, y4, y5⟩ := zc_enc (fun _ _ => none) E zd [] y2
  rw [List.append_nil] at y4
  have hzl : zv.cells.size = E.size := by
    have := Enc.length _ _ _ y5
    rw [← y4, ← y3] at this
    simpa using this
  have hbytes : (nn + m) * i.bytes ≤ 140737488355328 := Nat.le_trans (Nat.mul_le_mul hle i3) (by decide)
  have h63 : nn + m ≤ maxLen := Nat.le_trans hle (by decide)
  have hN : ∀ j v, news[j]? = some v → w.cell? (ad.add j) = some v := fun j v hj => by
    obtain ⟨b, o, sp⟩ := ad
    simp only at hsp
    subst hsp
    rw [addr_add]; exact hnews j v hj
  have hcap := grownCap_ge w (nn + m) cap te
  have hcap2 := grownCap_le_maxLen w (nn + m) cap te h63
  have hz : (Builtin.zeroCells zv.cells (grownCap w (nn + m) cap te - (nn + m))).size = (grownCap w (nn + m) cap te - (nn + m)) * E.size := by simp [Builtin.zeroCells, hzl]
  refine ⟨grownCap w (nn + m) cap te, (Builtin.zeroCells zv.cells (grownCap w (nn + m) cap te - (nn + m))).toList, w.drew.alloc (.cells (olds.toArray ++ news.toArray ++ Builtin.zeroCells zv.cells (grownCap w (nn + m) cap te - (nn + m))) te), ?_, ?_, hcap, by simp only [maxLen] at hcap2; simp only [bigLen]; omega, ?_⟩
  · cases base with
    | none =>
      obtain ⟨rfl, rfl⟩ := hbase rfl
      have : olds = [] := List.length_eq_zero_iff.1 (by simpa using hlo)
      subst this
      have hr := run_append_nil (P := P) w t ty te i zv hu i1 i4 ad m c news (by rw [i2]; exact hl) hN (by omega) (by simp only [maxLen] at h63; omega) (by rw [Nat.zero_add] at hbytes; omega)
      simpa using hr
    | some bd =>
      obtain ⟨g1, g2⟩ := holds bd rfl
      have hO : ∀ j v, olds[j]? = some v → w.cell? (bd.add j) = some v := fun j v hj => by
        rcases g1 with g1 | g1
        · obtain ⟨b, o, sp⟩ := bd
          simp only at g1
          subst g1
          rw [addr_add]; exact g2 j v hj
        · subst g1
          have : olds = [] := List.length_eq_zero_iff.1 (by rw [hlo, Nat.zero_mul])
          subst this; simp at hj
      exact run_append_grow (P := P) w t ty te i zv hu i1 i4 bd nn cap olds (by rw [i2]; exact hlo) hO ad m c news (by rw [i2]; exact hl) hN hg (by simp only [maxLen] at h63; omega) (growslice_fits hg hbytes)
  · have := Grown.drew (Grown.alloc w.drew (olds.toArray ++ news.toArray ++ Builtin.zeroCells zv.cells (grownCap w (nn + m) cap te - (nn + m))) te)
    simpa using this
  · simp only [List.length_append, hlo, hl, Array.length_toList, hz]
    rw [← Nat.add_mul, ← Nat.add_mul]; congr 1; omega

/-- the source of an append: its cells, what they encode -/
structure SrcR (n : Nat) (M : Mem) (ω : Own) (w : World) (E : Ty) (v : Value) (e : Sh) (ys : List (El e.ty)) : Prop where
  src : ∃ a c news bs, v = .slice a ys.length c ∧ news.length = ys.length * e.size ∧ (∀ ad, a = some ad → (ad.spot = none ∨ ys.length = 0) ∧ CellsAt (full w) ad.block ad.off news) ∧ (a = none → ys.length = 0) ∧
    GroupsO (EncO M (rows w) e) e.size news ys bs ∧ bs.Nodup ∧ (∀ b ∈ bs, ω b = some n) ∧ (e.ty = E → e.noref = true → Plain news)

theorem groupsO_plain {M : Mem} {Rw : RowFn} {e : Sh} (hn : e.noref = true) : ∀ (ys : List (El e.ty)) (vs : List Value) (bs : List Nat), vs.length = ys.length * e.size → GroupsO (EncO M Rw e) e.size vs ys bs → Plain vs
  | [], vs, bs, hl, _ => by
    have : vs = [] := List.length_eq_zero_iff.1 (by simpa using hl)
    subst this; intro c hc; simp at hc
  | y :: ys, vs, bs, hl, ⟨v1, v2, b1, b2, h1, h2, h3, h4, h5⟩ => by
    subst h1
    intro c hc
    rcases List.mem_append.1 hc with hc | hc
    · exact EncO.plain e _ _ _ hn h4 c hc
    · exact groupsO_plain hn ys v2 b2 (by simp [Nat.add_mul] at hl; omega) h5 c hc

theorem srcK_ok (S : St0 n B X w0 M0 M ω ρ tmps w) {E : Ty} {R : Type} {q : Opd} {k : (e : Sh) → List (El e.ty) → List Wr → Option R} {r : R}
    (h : srcK E q k = some r) {v : Value} (hq : OpdR n M ω w ρ (vl tmps) q v) : ∃ e ys ws, k e ys ws = some r ∧
      ∃ M' ω', St0 n B X w0 M0 M' ω' (ρ.puts ws) tmps w ∧ M.le M' ∧ (∀ L, n ≤ L → L ≠ n → ∀ b, ω b = some L → ω' b = some L) ∧ SrcR n M' ω' w E v e ys := by
  have shared : ∀ (M' M2 : Mem) (ω' : Own) (e : Ty) (ys : List (El e)) (cs : List Value), M'.le (full w) → (∀ cs x, Enc M' e cs x → Enc M2 e cs x) → ValC (Ty.ag (.slice e)) v cs → Enc M' (.slice e) cs ys → SrcR n M2 ω' w E v (.pure e) ys := by
    intro M' M2 ω' e ys cs hM hM2 hv he
    obtain ⟨a, cap, g2, g3, g4, g5⟩ := he
    have e1 : cs = [v] := hv
    rw [e1] at g2
    simp only [List.cons.injEq, and_true] at g2
    cases a with
    | none =>
      have hy : ys = [] := List.length_eq_zero_iff.1 (by simp at g5; omega)
      subst hy
      exact ⟨none, cap, [], [], g2, by simp, by simp, by simp, rfl, List.nodup_nil, by simp, fun _ _ c hc => by simp at hc⟩
    | some ad =>
      obtain ⟨k1, k2⟩ := g5
      obtain ⟨vs, k3, k4⟩ := SliceAt.groups ys _ k2
      have hgl := Groups.length _ _ k3
      have hgo : GroupsO (EncO M2 (rows w) (.pure e)) e.size vs ys [] := GroupsO.ofGroups ys vs (fun cs x hx => ⟨rfl, hM2 cs x hx⟩) k3
      exact ⟨some ad, cap, vs, [], g2, hgl, fun ad' h => by simp only [Option.some.injEq] at h; subst h; exact ⟨k1.imp id (fun hc => by omega), k4.mono hM⟩, by simp, hgo, List.nodup_nil, by simp, fun _ hn => groupsO_plain hn ys vs [] hgl hgo⟩
  unfold srcK at h
  split at h
  · rename_i hf
    obtain ⟨ys, h1, h2⟩ := rd_ok S h
    obtain ⟨cs, g1, g2⟩ := h2 v hq
    exact ⟨.pure E, ys, [], h1, M, ω, S, Mem.le_refl _, fun _ _ _ _ h => h, shared (full w) M ω E ys cs (Mem.le_refl _) (fun cs x hx => Enc.flat E cs x hf hx) g1 g2⟩
  · obtain ⟨s, y, ws, h1, M', ω', S1, m1, t1⟩ := tk_ok S n h hq
    have hlim : ∀ L, n ≤ L → L ≠ n → ∀ b, ω b = some L → ω' b = some L := fun L hL hne b hb => m1.limbo L hL hne b hb
    obtain ⟨cs, bs, k1, k2, k3, k4⟩ := t1.enc
    split at h1
    · rename_i e ys
      split at h1
      · rename_i hc
        refine ⟨e, ys, ws, h1, M', ω', S1, m1.step.mem, hlim, ?_⟩
        have e1 : cs = [v] := k1
        subst e1
        rcases k2 with ⟨k2, ⟨a, e2, e3⟩, rfl⟩ | ⟨b, cap, row, bss, e2, e3, e4, e5, e6, e7, e8⟩
        · simp only [List.cons.injEq, and_true] at e2
          exact ⟨a, 0, [], [], e2, by simp, fun ad h => ⟨.inr rfl, fun j c hj => by simp at hj⟩, by simp, rfl, List.nodup_nil, by simp, fun _ _ c hc => by simp at hc⟩
        · simp only [List.cons.injEq, and_true] at e3
          obtain ⟨g1, g2⟩ := GroupsO.cut ys row bss e8
          rw [e2] at k3 k4
          have hnl : (row.take (ys.length * e.size)).length = ys.length * e.size := by rw [List.length_take]; omega
          refine ⟨some ⟨b, 0, none⟩, cap, row.take (ys.length * e.size), bss, e3, hnl, fun ad h => ?_, by simp, g2, (List.nodup_cons.1 k3).2, fun i hi => k4 i (by simp [hi]), fun _ hn => groupsO_plain hn ys _ bss hnl g2⟩
          simp only [Option.some.injEq] at h
          subst h
          refine ⟨.inl rfl, fun j c hj => rows_full e6 j c ?_⟩
          rw [List.getElem?_take] at hj
          split at hj
          · exact hj
          · cases hj
      · cases h1
    · rename_i e ys
      split at h1
      · have k2' := k2.2
        exact ⟨.pure e, ys, ws, h1, M', ω', S1, m1.step.mem, hlim, shared M' M' ω' e ys cs (M_full S1) (fun _ _ h => h) k1 k2'⟩
      · cases h1
    · rename_i e _
      split at h1
      · refine ⟨.pure e, [], ws, h1, M', ω', S1, m1.step.mem, hlim, ?_⟩
        have e1 : cs = [v] := k1
        subst e1
        obtain ⟨_, ⟨a, e2, e3⟩, _⟩ := k2
        simp only [List.cons.injEq, and_true] at e2
        exact ⟨a, 0, [], [], e2, by simp, fun ad h => ⟨.inr rfl, fun j c hj => by simp at hj⟩, by simp, rfl, List.nodup_nil, by simp, fun _ _ c hc => by simp at hc⟩
      · cases h1
    · cases h1

theorem castSh_cast {a b : Sh} {R : Type} (h : a = b) (k : List (El b.ty) → R) (x : List (El a.ty)) : castSh h k x = k (h ▸ x) := by subst h; rfl

theorem castLs_heq {a b : Ty} {R : Type} (h : a = b) (k : List (El b) → R) (ys : List (El a)) : ∃ ys' : List (El b), castLs h k ys = k ys' ∧ HEq ys ys' := by subst h; exact ⟨ys, rfl, HEq.rfl⟩
theorem heq_groups {a b : Ty} (h : a = b) {p : List Value → El a → List Nat → Prop} {q : List Value → El b → List Nat → Prop} {sz : Nat} (hpq : ∀ cs x y bs, HEq x y → p cs x bs → q cs y bs) {ys : List (El a)} {ys' : List (El b)} (hh : HEq ys ys')
    {vs : List Value} {bs : List Nat} (hg : GroupsO p sz vs ys bs) : GroupsO q sz vs ys' bs ∧ ys'.length = ys.length := by
  subst h
  have := eq_of_heq hh
  subst this
  exact ⟨GroupsO.imp ys vs bs (fun x _ cs b _ hp => hpq cs x x b HEq.rfl hp) hg, rfl⟩
theorem upRow_src {s : Sh} {E : Ty} {e2 : Sh} {ys : List (El e2.ty)} {R : Type} {k : (e : Sh) → List (El e.ty) → Option R} {r : R} {v : Value} (h : upRowK s e2 ys k = some r) (hs : SrcR n M ω w E v e2 ys) :
    ∃ e ys', k e ys' = some r ∧ SrcR n M ω w E v e ys' := by
  unfold upRowK at h
  split at h
  · rename_i e
    split at h
    · exact ⟨e2, ys, h, hs⟩
    · split at h
      · rename_i hu
        split at h
        · rename_i hc
          obtain ⟨c1, c2⟩ := hc
          obtain ⟨ys', h1, h2⟩ := castLs_heq (upB_ty e2 e hu) (fun ys => k e ys) ys
          rw [h1] at h
          obtain ⟨a, c, news, bs, e1, e3, e4, e5, e6, e7, e8, e9⟩ := hs.src
          obtain ⟨g1, g2⟩ := heq_groups (upB_ty e2 e hu) (q := EncO M (rows w) e) (fun cs x y bs hxy hp => upB_enc e2 e hu x y cs bs hxy hp) h2 e6
          have hsz : e2.size = e.size := by rw [Sh.size_ty e2 c1, Sh.size_ty e c2, upB_ty e2 e hu]
          refine ⟨e, ys', h, ⟨a, c, news, bs, by rw [g2]; exact e1, by rw [g2, ← hsz]; exact e3, by rw [g2]; exact e4, by rw [g2]; exact e5, by rw [← hsz]; exact g1, e7, e8, fun he _ => e9 (by rw [upB_ty e2 e hu]; exact he) c1⟩⟩
        · exact ⟨e2, ys, h, hs⟩
      · exact ⟨e2, ys, h, hs⟩
  · exact ⟨e2, ys, h, hs⟩
theorem exAppend_ok (hC : CtxOk P C) (S : St0 n B X w0 M0 M ω ρ tmps w) (hB : B ≤ w0.heap.size) {gd : Gd} (hg : GuardOk ρ (vl tmps) gd) {t : TypeId} {d : Nat} (hd : d < n) {oa ob : Operand} {ws : List Wr} {cs : List Prop}
    (h : exAppend C t d gd ρ oa ob = some (ws, cs)) (hcs : ∀ p ∈ cs, p) (df : List Deferred) (ty : TypeId) :
    Res n B X w0 M0 ρ tmps d ws ((Builtin.append_ #[t, t] ty #[Act.eval ⟨tmps, df⟩ oa, Act.eval ⟨tmps, df⟩ ob]).run P w) := by
  unfold exAppend at h
  split at h
  · rename_i E hT
    obtain ⟨te, hu, hTe⟩ := (hC.ty t _ hT).under
    obtain ⟨s, x, ws1, h1, M1, ω1, S1, m1, t1⟩ := tkOwn_ok S (n + 1) h (opd_rel S hg oa df)
    obtain ⟨e2, ys, ws2, h2, M2, ω2, S2, m2, l2, r2⟩ := srcK_ok S1 h1 (opd_rel S1 (guard_next hg ws1) ob df)
    obtain ⟨e2, ys, h2, r2⟩ := upRow_src h2 r2
    split at h2
    · rename_i hc
      obtain ⟨c1, c0, c2, c3⟩ := hc
      obtain ⟨cs1, bs1, a1, a2, a3, a4⟩ := t1.enc
      obtain ⟨a, c, news, bs2, e1, e3, e4, e5, e6, e7, e8, e9⟩ := r2.src
      have hpl := e9 c2 c3
      have hsz : e2.size = E.size := by rw [Sh.size_ty e2 c3, c2]
      rw [hsz] at e3 e6
      have hput : ∀ A : List Wr, ρ.puts (ws1 ++ (ws2 ++ A)) = ((ρ.puts ws1).puts ws2).puts A := fun A => by rw [Env.puts_append, Env.puts_append]
      have a4' : ∀ b ∈ bs1, ω2 b = some (n + 1) := fun b hb => l2 (n + 1) (by omega) (by omega) b (a4 b hb)
      -- the destination: empty, or a row
      have dest : (∃ a, Act.eval ⟨tmps, df⟩ oa = .slice a 0 0 ∧ True) ∧ (∀ (R : Type) (k : Nat → (e : Sh) → List (El e.ty) → Option R) (r : R), appRowK E s x e2 ys k = some r → k 0 e2 ys = some r) ∨
          ∃ (e : Sh) (xs : List (El e.ty)) (b cap : Nat) (row : List Value) (bss : List Nat), Act.eval ⟨tmps, df⟩ oa = .slice (some ⟨b, 0, none⟩) xs.length cap ∧ bs1 = b :: bss ∧ rows w b = some row ∧ row.length = cap * E.size ∧ xs.length ≤ cap ∧ cap ≤ bigLen ∧ e.size = E.size ∧
            GroupsO (EncO M2 (rows w) e) E.size row xs bss ∧
            (∀ (R : Type) (k : Nat → (e : Sh) → List (El e.ty) → Option R) (r : R), appRowK E s x e2 ys k = some r → (xs = [] ∧ k 0 e2 ys = some r) ∨ ∃ h : e2 = e, k xs.length e (xs ++ h ▸ ys) = some r) := by
        cases s with
        | nil e =>
          obtain ⟨q1, ⟨a, q2, q3⟩, q4⟩ := a2
          have : cs1 = [Act.eval ⟨tmps, df⟩ oa] := a1
          rw [this] at q2
          simp only [List.cons.injEq, and_true] at q2
          exact .inl ⟨⟨a, q2, q3⟩, fun R k r hh => hh⟩
        | own e =>
          have hcs1 : cs1 = [Act.eval ⟨tmps, df⟩ oa] := a1
          have hes : e.size = E.size := by
            have h1 : e.ty = E := by have := c1; simpa using this
            rw [Sh.size_ty e c0, h1]
          rcases a2 with ⟨q1, ⟨a, q2, q3⟩, q4⟩ | ⟨b, cap, row, bss, q1, q2, q3, q4, q5, q6, q7⟩
          · rw [hcs1] at q2
            simp only [List.cons.injEq, and_true] at q2
            have q4' : x = ([] : List (El e.ty)) := q4
            subst q4'
            refine .inl ⟨⟨a, q2, q3⟩, fun R k r hh => ?_⟩
            simp only [appRowK] at hh
            split at hh
            · rename_i he
              subst he
              rw [castSh_cast] at hh
              exact hh
            · exact hh
          · rw [hcs1] at q2
            simp only [List.cons.injEq, and_true] at q2
            refine .inr ⟨e, x, b, cap, row, bss, q2, q1, q5, by rw [q6, hes], q3, q4, hes, ?_, ?_⟩
            · rw [← hes]
              exact GroupsO.imp _ row bss (fun x _ cs b _ hp => EncO.mono m2 e cs x b (fun _ _ => rfl) hp) q7
            · intro R k r hh
              simp only [appRowK] at hh
              split at hh
              · rename_i he
                rw [castSh_cast] at hh
                exact .inr ⟨he, hh⟩
              · cases x with
                | nil => exact .inl ⟨rfl, hh⟩
                | cons x0 xs => cases hh
        | pure T => simp [appRowK] at h2
        | hole T => simp [Sh.noref] at c0
        | ref T => simp [Sh.noref] at c0
        | pair T T' => simp at c1
      have hvb := e1
      rcases dest with ⟨⟨a0, d1, d2⟩, d3⟩ | ⟨e, xs, b, cap, row, bss, d1, d2, d3, d4, d5, d6, d7, d8, d9⟩
      · have h3 := d3 _ _ _ h2
        simp only [Option.some.injEq, Prod.mk.injEq] at h3
        obtain ⟨rfl, rfl⟩ := h3
        have hle : 0 + ys.length ≤ maxApp := hcs _ (by simp)
        unfold Res
        rw [d1, hvb]
        simp only [hput]
        by_cases hm : ys.length = 0
        · have hy : ys = [] := List.length_eq_zero_iff.1 hm
          subst hy
          have hnews : news = [] := List.length_eq_zero_iff.1 (by rw [e3]; simp)
          subst hnews
          refine ⟨.slice a0 0 0, w, M2, _, ?_, put_c S2 hd (s := .own e2) (x := []) (cs := [.slice a0 0 0]) (bs := []) rfl (.inl ⟨rfl, ⟨a0, rfl, trivial⟩, rfl⟩) List.nodup_nil (by simp)⟩
          exact run_append_room (P := P) (w := w) (ty := ty) hu hTe (base := a0) (nn := 0) (cap := 0) (m := 0) (c := c) (a := a) (news := []) (by simp) (fun ad h => ⟨(e4 ad h).1, fun j c hj => by simp at hj⟩) (fun _ => rfl) (Nat.le_refl _) (fun ad _ => rfl) (fun _ => rfl)
        · cases a with
          | none => exact (hm (e5 rfl)).elim
          | some ad =>
            obtain ⟨f1, f2⟩ := e4 ad rfl
            have f1 : ad.spot = none := f1.resolve_right (by omega)
            obtain ⟨cap', zs, w', g1, g2, g3, g4, g5⟩ := run_append_new (P := P) (w := w) (ty := ty) hu hTe (base := a0) (nn := 0) (cap := 0) (m := ys.length) (c := c) (ad := ad) (olds := []) (news := news) (by simp)
              (fun bd h => ⟨.inr rfl, fun j c hj => by simp at hj⟩) (fun _ => ⟨rfl, rfl⟩) e3 f1 f2 (by omega) hle
            rw [List.nil_append] at g2 g5
            obtain ⟨ω3, S3⟩ := own_new S2 hB hd g2 (s := e2) (xs := ys) (bs := bs2) (cap := cap') (GroupsO.spare _ _ _ _ (by rw [hsz]; exact e6)) (by rw [g5, hsz]) (by omega) g4 e7 (fun i hi => ⟨n, Nat.le_refl _, e8 i hi⟩)
            rw [Nat.zero_add] at g1
            exact ⟨_, w', M2, ω3, g1, S3⟩
      · -- a row
        have hbl : ω2 b = some (n + 1) := a4' b (by rw [d2]; simp)
        have hnd : (b :: bss).Nodup := by rw [← d2]; exact a3
        obtain ⟨n1, n2⟩ := List.nodup_cons.1 hnd
        have hlim1 : ∀ i ∈ bss, ω2 i = some (n + 1) := fun i hi => a4' i (by rw [d2]; simp [hi])
        have hdj : ∀ i ∈ bs2, ω2 i ≠ some (n + 1) := fun i hi e => by rw [e8 i hi] at e; simp at e
        -- what is to be encoded behind
        have goal : ∃ (e' : Sh) (zs : List (El e'.ty)), cs = [xs.length + ys.length ≤ maxApp] ∧ ws = ws1 ++ (ws2 ++ [w1 d (.c (.own e') zs)]) ∧ zs.length = xs.length + ys.length ∧ e'.size = E.size ∧
            (∀ (w' : World), (∀ i ∈ bss ++ bs2, rows w' i = rows w i) → ∀ old spare, old.length = xs.length * E.size → GroupsO (EncO M2 (rows w) e) E.size old xs bss → GroupsO (EncO M2 (rows w') e') e'.size (old ++ news ++ spare) zs (bss ++ bs2)) := by
          rcases d9 _ _ _ h2 with ⟨hx, h3⟩ | ⟨he, h3⟩
          · simp only [Option.some.injEq, Prod.mk.injEq] at h3
            obtain ⟨rfl, rfl⟩ := h3
            subst hx
            refine ⟨e2, ys, by simp, rfl, by simp, hsz, fun w' hrow old spare hold hgo => ?_⟩
            have hb0 : bss = [] := hgo
            have ho : old = [] := List.length_eq_zero_iff.1 (by simpa using hold)
            subst hb0; subst ho
            rw [List.nil_append, List.nil_append, hsz]
            exact GroupsO.spare _ _ _ _ (GroupsO.imp ys news bs2 (fun x _ cs b' hb' hp => EncO.mono (Mem.le_refl _) e2 cs x b' (fun i hi => hrow i (by simp [hb' i hi])) hp) e6)
          · subst he
            simp only [Option.some.injEq, Prod.mk.injEq] at h3
            obtain ⟨rfl, rfl⟩ := h3
            refine ⟨e2, xs ++ ys, rfl, rfl, by simp, hsz, fun w' hrow old spare hold hgo => ?_⟩
            rw [hsz]
            refine GroupsO.spare _ _ _ _ (GroupsO.append xs ys old news bss bs2 hold ?_ ?_)
            · exact GroupsO.imp xs old bss (fun x _ cs b' hb' hp => EncO.mono (Mem.le_refl _) e2 cs x b' (fun i hi => hrow i (by simp [hb' i hi])) hp) hgo
            · exact GroupsO.imp ys news bs2 (fun x _ cs b' hb' hp => EncO.mono (Mem.le_refl _) e2 cs x b' (fun i hi => hrow i (by simp [hb' i hi])) hp) e6
        obtain ⟨e', zs, k1, k2, k3, k4, k5⟩ := goal
        subst k2
        have hle : xs.length + ys.length ≤ maxApp := hcs _ (by rw [k1]; simp)
        obtain ⟨q1, q2⟩ := GroupsO.cut xs row bss d8
        have hol : (row.take (xs.length * E.size)).length = xs.length * E.size := by rw [List.length_take]; omega
        have hnd2 : (bss ++ bs2).Nodup := by
          rw [List.nodup_append]
          exact ⟨n2, e7, fun i hi j hj e => by subst e; exact hdj i hj (hlim1 i hi)⟩
        have hlim2 : ∀ i ∈ bss ++ bs2, ∃ L, n ≤ L ∧ ω2 i = some L := fun i hi => by
          rcases List.mem_append.1 hi with hi | hi
          · exact ⟨n + 1, by omega, hlim1 i hi⟩
          · exact ⟨n, Nat.le_refl _, e8 i hi⟩
        have hbn : b ∉ bss ++ bs2 := fun hm => by
          rcases List.mem_append.1 hm with hm | hm
          · exact n1 hm
          · exact hdj b hm hbl
        unfold Res
        rw [d1, hvb]
        simp only [hput]
        by_cases hroom : xs.length + ys.length ≤ cap
        · have hfit : xs.length * E.size + 0 + news.length ≤ row.length := by
            rw [e3, d4, Nat.add_zero, ← Nat.add_mul]; exact Nat.mul_le_mul_right _ hroom
          obtain ⟨w', f1, f2⟩ := run_storeCells (P := P) news 0 w b (xs.length * E.size) row d3 hfit hpl
          rw [Nat.add_zero] at f2
          have S3 := upd_ok S2 (L := n + 1) (by omega) hbl f2
          have hrow : ∀ i ∈ bss ++ bs2, rows w' i = rows w i := fun i hi => rows_of_block (f2.other i (fun e => hbn (e ▸ hi)))
          refine ⟨.slice (some ⟨b, 0, none⟩) (xs.length + ys.length) cap, w', M2, _, ?_, put_c S3 hd (s := .own e') (x := zs) (cs := [.slice (some ⟨b, 0, none⟩) (xs.length + ys.length) cap]) (bs := b :: (bss ++ bs2)) rfl
            (.inr ⟨b, cap, _, bss ++ bs2, rfl, by rw [k3], by omega, d6, f2.row, ?_, k5 w' hrow _ _ hol q2⟩) (List.nodup_cons.2 ⟨hbn, hnd2⟩) ?_⟩
          · exact run_append_room (P := P) (w := w) (ty := ty) hu hTe (base := some ⟨b, 0, none⟩) (nn := xs.length) (cap := cap) (m := ys.length) (c := c) (a := a) (news := news) e3 e4 e5 hroom
              (fun ad h => by simp only [Option.some.injEq] at h; subst h; rw [addr_add, Nat.zero_add]; exact f1) (fun h => by cases h)
          · simp only [List.length_append, hol, List.length_drop]
            rw [k4, ← d4]; omega
          · intro i hi
            rcases List.mem_cons.1 hi with rfl | hi
            · exact ⟨n + 1, by omega, hbl⟩
            · exact hlim2 i hi
        · cases a with
          | none => have := e5 rfl; omega
          | some ad =>
            obtain ⟨f1, f2⟩ := e4 ad rfl
            have f1 : ad.spot = none := f1.resolve_right (by omega)
            obtain ⟨cap', sp, w', g1, g2, g3, g4, g5⟩ := run_append_new (P := P) (w := w) (ty := ty) hu hTe (base := some ⟨b, 0, none⟩) (nn := xs.length) (cap := cap) (m := ys.length) (c := c) (ad := ad) (olds := row.take (xs.length * E.size)) (news := news) hol
              (fun bd h => by
                simp only [Option.some.injEq] at h; subst h
                refine ⟨.inl rfl, fun j c hj => rows_full d3 j c ?_⟩
                rw [List.getElem?_take] at hj
                split at hj
                · exact hj
                · cases hj) (fun h => by cases h) e3 f1 f2 (by omega) hle
            obtain ⟨ω3, S3⟩ := own_new S2 hB hd g2 (s := e') (xs := zs) (bs := bss ++ bs2) (cap := cap') (k5 w (fun _ _ => rfl) _ _ hol q2) (by rw [g5, k4]) (by omega) g4 hnd2 hlim2
            rw [k3] at S3
            exact ⟨_, w', M2, ω3, g1, S3⟩
    · cases h2
  · cases h
end
end Fw
