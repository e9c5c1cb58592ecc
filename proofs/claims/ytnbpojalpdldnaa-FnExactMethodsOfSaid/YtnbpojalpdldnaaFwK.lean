/- Each operation does what is computed of it: conversions, made slices, parts of results. Conditions: none. -/
import Derived.Test.YtnbpojalpdldnaaFwE
import Derived.Laws.AppendOwn
import Derived.Laws.MakeOwn
import Derived.Laws.BytesString
import Derived.Laws.StructEq
namespace Fw
open Go

/-- w' is w with one new block -/
structure Grown (w w' : World) (row : List Value) : Prop where
  os : w'.os = w.os
  tape : w'.tape = w.tape
  output : w'.output = w.output
  size : w'.heap.size = w.heap.size + 1
  old : ∀ k, k < w.heap.size → w'.heap[k]? = w.heap[k]?
  row : rows w' w.heap.size = some row

theorem Grown.alloc (w : World) (c : Array Value) (e : TypeId) : Grown w (w.alloc (.cells c e)) c.toList :=
  ⟨rfl, rfl, rfl, by simp, fun _ hk => heap_alloc_old hk, rows_alloc c e⟩
theorem Grown.drew {w w' : World} {row : List Value} {k : Nat} (h : Grown { w with drawn := k } w' row) : Grown w w' row :=
  ⟨h.os, h.tape, h.output, h.size, h.old, h.row⟩

section
variable {n B : Nat} {X : List Nat} {w0 : World} {M0 M : Mem} {ω : Own} {ρ : Env} {tmps : Array Value} {w w' : World} {P : Program} {C : Ctx}

theorem grown_ok (S : St0 n B X w0 M0 M ω ρ tmps w) (hB : B ≤ w.heap.size) {row : List Value} (hg : Grown w w' row) (L : Nat) :
    St0 n B X w0 M0 M (fun b => if b = w.heap.size then some L else ω b) ρ tmps w' := by
  refine S.step [] S.size ⟨hg.os, hg.tape, hg.output, by rw [hg.size]; omega, fun k hk _ => hg.old k (by omega)⟩ (Mem.le_refl _) (fun _ _ _ _ => rfl) ?_ ?_ (fun _ _ => rfl) (by simp) ?_ (by simp)
  · intro b o v hm
    have h := S.mem b o v hm
    have hlt := World.block_lt_of_cell? _ _ h
    rw [cell_of_block (hg.old b hlt)]; exact h
  · intro b k hk
    by_cases hb : b = w.heap.size
    · subst hb
      refine ⟨.inl hB, by rw [hg.size]; omega, fun o => ?_⟩
      cases hm : M w.heap.size o with
      | none => rfl
      | some v => have := World.block_lt_of_cell? _ _ (S.mem _ _ _ hm); simp at this
    · rw [if_neg hb] at hk
      obtain ⟨h1, h2, h3⟩ := S.dis b k hk
      exact ⟨h1, by rw [hg.size]; omega, h3⟩
  · intro t _ _ b hb
    obtain ⟨_, h2, _⟩ := S.dis b t hb
    exact ⟨by rw [if_neg (by omega)]; exact hb, hg.old b h2⟩

theorem EncO.grown {row : List Value} (hg : Grown w w' row) {s : Sh} {cs : List Value} {x : El s.ty} {bs : List Nat} (h : EncO M (Fw.rows w) s cs x bs) :
    EncO M (Fw.rows w') s cs x bs :=
  EncO.mono (Mem.le_refl _) s cs x bs (fun b hb => by obtain ⟨row, hr⟩ := EncO.rows s cs x bs h b hb; exact rows_of_block (hg.old b (rows_lt hr))) h

/-- a new row, held by slot d -/
theorem own_new (S : St0 n B X w0 M0 M ω ρ tmps w) (hB : B ≤ w0.heap.size) {d : Nat} (hd : d < n) {row : List Value} (hg : Grown w w' row) {s : Sh} {xs : List (El s.ty)} {bs : List Nat} {cap : Nat}
    (he : GroupsO (EncO M (rows w) s) s.size row xs bs) (hc : row.length = cap * s.size) (h1 : xs.length ≤ cap) (h2 : cap ≤ bigLen)
    (hn : bs.Nodup) (hb : ∀ b ∈ bs, ∃ L, n ≤ L ∧ ω b = some L) :
    ∃ ω', St0 n B X w0 M0 M ω' (ρ.puts [w1 d (.c (.own s) xs)]) (tmps.setIfInBounds d (.slice (some ⟨w.heap.size, 0, none⟩) xs.length cap)) w' := by
  have S2 := grown_ok S (S.bnd hB) hg n
  have hlt : ∀ b ∈ bs, b < w.heap.size := fun b hi => by
    obtain ⟨row, hr⟩ := GroupsO.rows (Q := fun b => ∃ row, rows w b = some row) xs _ bs (fun x _ cs b hp => EncO.rows s cs x b hp) he b hi
    exact rows_lt hr
  refine ⟨_, put_c S2 hd (s := .own s) (x := xs) (cs := [.slice (some ⟨w.heap.size, 0, none⟩) xs.length cap]) (bs := w.heap.size :: bs) rfl
    (.inr ⟨_, cap, row, bs, rfl, rfl, h1, h2, hg.row, hc, GroupsO.imp xs _ bs (fun x _ cs b _ hp => EncO.grown hg hp) he⟩) ?_ ?_⟩
  · rw [List.nodup_cons]
    exact ⟨fun h => by have := hlt _ h; omega, hn⟩
  · intro b hi
    rcases List.mem_cons.1 hi with rfl | hi
    · exact ⟨n, Nat.le_refl _, by simp⟩
    · obtain ⟨L, g1, g2⟩ := hb b hi
      have := hlt b hi
      exact ⟨L, g1, (if_neg (by omega)).trans g2⟩

/-- cells of plain numbers are a row -/
theorem groups_ints (k : IntKind) : ∀ (ns : List Int), (∀ x ∈ ns, inR k x) → Groups (Enc M (.int k)) 1 (ns.map (Value.int k)) ns
  | [], _ => rfl
  | x :: ns, h => ⟨[.int k x], ns.map (Value.int k), rfl, rfl, ⟨rfl, h x (by simp)⟩, groups_ints k ns fun y hy => h y (by simp [hy])⟩
theorem groups_ints_eq (k : IntKind) : ∀ (ns : List Int) (vs : List Value), Groups (Enc M (.int k)) 1 vs ns → vs = ns.map (Value.int k) ∧ ∀ x ∈ ns, inR k x
  | [], vs, h => ⟨h, by simp⟩
  | x :: ns, vs, ⟨v1, v2, h1, h2, ⟨h3, h4⟩, h5⟩ => by
    obtain ⟨e1, e2⟩ := groups_ints_eq k ns v2 h5
    subst h1; subst h3; subst e1
    exact ⟨rfl, fun y hy => by rcases List.mem_cons.1 hy with rfl | hy; exact h4; exact e2 y hy⟩
theorem bytesOf_range (x : List UInt8) : ∀ y ∈ bytesOf x, inR .u8 y := by
  intro y hy
  obtain ⟨b, _, rfl⟩ := List.mem_map.1 hy
  have := b.toNat_lt
  constructor
  · show (0 : Int) ≤ _; omega
  · show _ ≤ (255 : Int); omega

theorem grown_markStringish {w w' : World} {c : Array Value} {e : TypeId} (he : w' = w.alloc (.cells c e)) :
    ∃ w2, (markStringish ⟨w.heap.size, 0, none⟩).run P w' = .ok () w2 ∧ Grown w w2 c.toList := by
  subst he
  have hblk : (w.alloc (.cells c e)).heap[w.heap.size]? = some (.cells c e) := heap_alloc_new w _
  refine ⟨(w.alloc (.cells c e)).freeze ⟨w.heap.size, c.size, none⟩ 1, ?_, ?_⟩
  · have hsh : (shape w.heap.size).run P (w.alloc (.cells c e)) = .ok (some (e, c.size)) (w.alloc (.cells c e)) := by
      rw [run_shape]; unfold World.shape?; rw [hblk]
    unfold markStringish
    simp only [Sem.run_bind, hsh, Result.andThen_ok, run_freeze]
  · have hfz : ∀ k, ((w.alloc (.cells c e)).freeze ⟨w.heap.size, c.size, none⟩ 1).heap[k]? = if w.heap.size = k then some (.cells c e (if (0 : Nat) == 0 then (c.size, c.size + 1) else (min 0 c.size, max 0 (c.size + 1)))) else (w.alloc (.cells c e)).heap[k]? := by
      intro k
      unfold World.freeze
      rw [if_neg (by decide), Array.getElem?_modify]
      by_cases hk : w.heap.size = k
      · subst hk; rw [if_pos rfl, if_pos rfl, hblk]; rfl
      · rw [if_neg hk, if_neg hk]
    refine ⟨rfl, rfl, rfl, ?_, fun k hk => ?_, ?_⟩
    · unfold World.freeze
      rw [if_neg (by decide), Array.size_modify]; simp
    · rw [hfz, if_neg (by omega)]
      exact heap_alloc_old hk
    · unfold rows
      rw [hfz, if_pos rfl]
      simp

theorem exConvert_ok (hC : CtxOk P C) (S : St0 n B X w0 M0 M ω ρ tmps w) (hB : B ≤ w0.heap.size) {t u : TypeId} {d : Nat} (hd : d < n) {q : Opd} {ws : List Wr} {cs : List Prop}
    (h : exConvert C t u d q = some (ws, cs)) (hcs : ∀ p ∈ cs, p) {v : Value} (hq : OpdR n M ω w ρ (vl tmps) q v) : Res n B X w0 M0 ρ tmps d ws ((convert t u v).run P w) := by
  unfold exConvert at h
  split at h
  · rename_i k k2 ht hu
    have e1 : P.underlying t = some (.int k) := (hC.ty t _ ht).under
    have e2 : P.underlying u = some (.int k2) := (hC.ty u _ hu).under
    obtain ⟨x, h1, h2⟩ := rd_int S h
    simp only [out1, Option.some.injEq, Prod.mk.injEq] at h1
    obtain ⟨rfl, rfl⟩ := h1
    obtain ⟨rfl, _⟩ := h2 v hq
    refine ⟨_, w, _, _, ?_, put_int S hd (inR_wrap k2 x)⟩
    simp only [convert, Sem.run_bind, run_underlying' e1, run_underlying' e2, Result.andThen_ok]
    rfl
  · rename_i ht hu
    have e1 : P.underlying t = some .string := (hC.ty t _ ht).under
    obtain ⟨te, e2, e3⟩ := (hC.ty u _ hu).under
    have e3' : P.underlying te = some (.int .u8) := e3.under
    obtain ⟨x, h1, h2⟩ := rd_str S h
    simp only [Option.some.injEq, Prod.mk.injEq] at h1
    obtain ⟨rfl, rfl⟩ := h1
    obtain ⟨rfl, hx⟩ := h2 v hq
    have hlen : (ByteArray.mk x.toArray).size = x.length := by simp [ByteArray.size]
    have hcap := grownCap_ge w x.length 0 te
    have hcap2 := grownCap_le_maxLen w x.length 0 te (by simp only [maxLen]; simp only [bigLen] at hx; omega)
    have hmap : ((ByteArray.mk x.toArray).data.map fun b => Value.int .u8 b.toNat).toList = (bytesOf x).map (Value.int .u8) := by
      simp [bytesOf]
    obtain ⟨w2, r1, r2⟩ := grown_markStringish (P := P) (w := w.drew) (c := ((ByteArray.mk x.toArray).data.map fun b => Value.int .u8 b.toNat) ++ Array.replicate (grownCap w x.length 0 te - x.length) (.int .u8 0)) (e := te) rfl
    have r2' : Grown w w2 _ := r2.drew
    obtain ⟨ω', S2⟩ := own_new S hB hd r2' (s := .pure (.int .u8)) (xs := bytesOf x) (bs := []) (cap := grownCap w x.length 0 te) (by
        rw [Array.toList_append, hmap]
        refine GroupsO.spare _ _ _ _ (GroupsO.ofGroups _ _ (fun cs x h => ⟨rfl, h⟩) (groups_ints .u8 _ (bytesOf_range x)))) (by
        show _ = _ * 1
        rw [Array.toList_append, List.length_append, hmap, Array.toList_replicate, List.length_map, List.length_replicate, Nat.mul_one]
        have : (bytesOf x).length = x.length := by simp [bytesOf]
        omega) (by simpa [bytesOf] using hcap) (by simp only [maxLen] at hcap2; simp only [bigLen]; omega) List.nodup_nil (by simp)
    refine ⟨_, w2, _, ω', ?_, S2⟩
    have hl2 : (bytesOf x).length = x.length := by simp [bytesOf]
    rw [hl2]
    simp only [convert, Sem.run_bind, run_underlying' e1, run_underlying' e2, run_underlying' e3', Result.andThen_ok, Conv.stringToBytes, run_choose, Question.forced, Bool.false_eq_true, if_false, hlen, Sem.run_pure]
    have hr : (newRow te (((ByteArray.mk x.toArray).data.map fun b => Value.int .u8 b.toNat) ++ Array.replicate (grownCap w x.length 0 te - x.length) (.int .u8 0))).run P w.drew = .ok ⟨w.drew.heap.size, 0, none⟩ (w.drew.alloc (.cells (((ByteArray.mk x.toArray).data.map fun b => Value.int .u8 b.toNat) ++ Array.replicate (grownCap w x.length 0 te - x.length) (.int .u8 0)) te)) := run_newRow (P := P) (w := w.drew) te _
    unfold grownCap at *
    unfold World.drew at *
    rw [hr]
    simp only [Result.andThen_ok]
    rw [r1]
    rfl
  · rename_i ht hu
    have e2 : P.underlying u = some .string := (hC.ty u _ hu).under
    obtain ⟨te, e1, e3⟩ := (hC.ty t _ ht).under
    have e3' : P.underlying te = some (.int .u8) := e3.under
    obtain ⟨x, h1, h2⟩ := rd_ok S h
    simp only [out1, Option.some.injEq, Prod.mk.injEq] at h1
    obtain ⟨rfl, rfl⟩ := h1
    obtain ⟨cs, g1, a, cap, g2, g3, g4, g5⟩ := h2 v hq
    have hv : v = .slice a x.length cap := by
      have : cs = [v] := g1
      rw [this] at g2
      simpa using g2
    subst hv
    have hfold : ∀ (x : List Int) (acc : List UInt8), x.foldl (fun (r : ByteArray) n => r.push (UInt8.ofNat n.toNat)) ⟨acc.toArray⟩ = ⟨(acc ++ strOf x).toArray⟩ := by
      intro x
      induction x with
      | nil => intro acc; simp [strOf]
      | cons y x ih =>
        intro acc
        have : (ByteArray.mk acc.toArray).push (UInt8.ofNat y.toNat) = ⟨(acc ++ [UInt8.ofNat y.toNat]).toArray⟩ := by
          simp [ByteArray.push]
        rw [List.foldl_cons, this, ih]
        simp [strOf]
    have hstr : (strOf x).length ≤ bigLen := by simp only [strOf, List.length_map]; omega
    refine ⟨.string ⟨(strOf x).toArray⟩, w, _, _, ?_, put_pure S hd (t := .str) (cs := [_]) rfl ⟨rfl, hstr⟩⟩
    cases a with
    | none =>
      have hx0 : x = [] := List.length_eq_zero_iff.1 (by simp at g5; omega)
      subst hx0
      simp only [convert, Sem.run_bind, run_underlying' e1, run_underlying' e2, run_underlying' e3', Result.andThen_ok, Conv.bytesToString]
      rfl
    | some ad =>
      obtain ⟨g6, g7⟩ := g5
      obtain ⟨vs, g8, g9⟩ := SliceAt.groups x _ g7
      obtain ⟨g10, g11⟩ := groups_ints_eq .u8 x vs g8
      subst g10
      have hload : (loadCells ad x.length).run P w = .ok (x.map (Value.int .u8)).toArray w := by
        by_cases hx0 : x = []
        · subst hx0; rfl
        · have : x.length ≠ 0 := fun h => hx0 (List.length_eq_zero_iff.1 h)
          have g6 : ad.spot = none := g6.resolve_right (by omega)
          obtain ⟨b, o, sp⟩ := ad
          simp only at g6
          subst g6
          exact run_loadCells (by simp) g9
      have := run_bytesToString (P := P) w ad x.length cap x hload
      have he : (ByteArray.empty) = ⟨([] : List UInt8).toArray⟩ := rfl
      rw [he, hfold, List.nil_append] at this
      simp only [convert, Sem.run_bind, run_underlying' e1, run_underlying' e2, run_underlying' e3', Result.andThen_ok]
      exact this
  · cases h

theorem repN_groups {M : Mem} {Rw : RowFn} {T : Ty} {s : Sh} {x : El s.ty} (hs : s.ty = T) (hno : s.noref = true) {cs : List Value} (he : EncO M Rw s cs x []) : ∀ (m : Nat),
    GroupsO (EncO M Rw s) s.size ((List.replicate m cs).flatten) (List.replicate m x) []
  | 0 => rfl
  | m + 1 => by
    refine ⟨cs, (List.replicate m cs).flatten, [], [], by simp [List.replicate_succ], EncO.length _ _ _ _ he, rfl, he, ?_⟩
    exact repN_groups hs hno he m

theorem madeCells_flat (z : Array Value) (m : Nat) (_ : 0 < z.size) : (madeCells z (m * z.size)).toList = (List.replicate m z.toList).flatten := by
  have hlen : (madeCells z (m * z.size)).toList.length = (List.replicate m z.toList).length * z.size := by simp [madeCells]
  refine segs_flatten z.size _ _ hlen fun i p hp => ?_
  have hi : i < m := by
    have := (List.getElem?_eq_some_iff.1 hp).1
    simpa using this
  have hp' : p = z.toList := by
    rw [List.getElem?_replicate, if_pos hi] at hp
    simpa using hp.symm
  subst hp'
  apply List.ext_getElem?
  intro j
  rw [List.getElem?_take]
  by_cases hj : j < z.size
  · rw [if_pos hj, List.getElem?_drop]
    have hmul : i * z.size + z.size ≤ m * z.size := by
      have := Nat.mul_le_mul_right z.size (show i + 1 ≤ m from hi)
      rw [Nat.add_mul, Nat.one_mul] at this; exact this
    have hlt : i * z.size + j < m * z.size := by omega
    have hmod : (i * z.size + j) % z.size = j := by rw [Nat.mul_comm, Nat.mul_add_mod, Nat.mod_eq_of_lt hj]
    simp [madeCells, hlt, hmod, hj]
  · rw [if_neg hj]
    symm
    rw [List.getElem?_eq_none_iff]; simpa using hj

theorem exMakeSlice_ok (hC : CtxOk P C) (S : St0 n B X w0 M0 M ω ρ tmps w) (hB : B ≤ w0.heap.size) {t : TypeId} {d : Nat} (hd : d < n) {q1 q2 : Opd} {ws : List Wr} {cs : List Prop}
    (h : exMakeSlice C t d q1 q2 = some (ws, cs)) (hcs : ∀ p ∈ cs, p) {v1 v2 : Value} (hq1 : OpdR n M ω w ρ (vl tmps) q1 v1) (hq2 : OpdR n M ω w ρ (vl tmps) q2 v2) :
    Res n B X w0 M0 ρ tmps d ws ((Instr.makeSlice t v1 v2).run P w) := by
  unfold exMakeSlice at h
  split at h
  · rename_i e hT
    obtain ⟨te, hu, hTe⟩ := (hC.ty t _ hT).under
    obtain ⟨x, h1, h2⟩ := rd_int S h
    obtain ⟨y, h3, h4⟩ := rd_int S h1
    obtain ⟨rfl, _⟩ := h2 v1 hq1
    obtain ⟨rfl, _⟩ := h4 v2 hq2
    obtain ⟨s, z, k1, k2, k3, k4, k5, k6⟩ := zeroK_ok e
    rw [k1] at h3
    simp only [Option.some.injEq, Prod.mk.injEq] at h3
    obtain ⟨rfl, rfl⟩ := h3
    have c1 : x = y := hcs _ (by simp)
    have c2 : 0 ≤ x := hcs _ (by simp)
    have c3 : x ≤ maxNew := hcs _ (by simp)
    subst c1
    obtain ⟨i, i1, i2, i3, zv, i4, i5⟩ := hTe.info
    obtain ⟨zc, z1, z2, z3⟩ := zOk_cells i5
    obtain ⟨v1', z4, z5⟩ := k6 M (rows w) zc [] z2
    rw [List.append_nil] at z4
    subst z4
    have hsz : s.size = e.size := by rw [Sh.size_ty s k4, k2]
    have hzl : zv.cells.size = e.size := by
      have := EncO.length _ _ _ _ z5
      rw [← z3] at this
      simpa [hsz] using this
    have hb : (i.bytes : Int) * x ≤ 281474976710656 := by
      have : (i.bytes : Int) * x ≤ 32768 * (maxNew : Int) := Int.mul_le_mul (by omega) c3 c2 (by omega)
      exact Int.le_trans this (by decide)
    have hrun := run_make (P := P) w t te i zv hu i1 i4 .i64 .i64 x x c2 (Int.le_refl _) hb (by simp only [maxNew] at c3; omega)
    have hrow : GroupsO (EncO M (rows w) s) s.size (madeCells zv.cells (x.toNat * i.size)).toList (List.replicate x.toNat z) [] := by
      rcases Nat.eq_zero_or_pos e.size with h0 | h0
      · have hz0 : zc = [] := List.length_eq_zero_iff.1 (by rw [← z3]; simp [hzl, h0])
        have : (madeCells zv.cells (x.toNat * i.size)).toList = (List.replicate x.toNat zc).flatten := by
          rw [i2, h0, Nat.mul_zero, hz0]
          simp [madeCells]
        rw [this]
        exact repN_groups k2 k4 z5 _
      · rw [i2, ← hzl, madeCells_flat _ _ (by omega), z3]
        exact repN_groups k2 k4 z5 _
    obtain ⟨ω', S2⟩ := own_new S hB hd (Grown.alloc w (madeCells zv.cells (x.toNat * i.size)) te) (s := s) (xs := List.replicate x.toNat z) (bs := []) (cap := x.toNat) hrow
      (by simp [madeCells, i2, hsz]) (by simp) (by simp only [maxNew] at c3; simp only [bigLen]; omega) List.nodup_nil (by simp)
    refine ⟨_, _, M, ω', hrun, ?_⟩
    simpa using S2
  · cases h

theorem TupR.get {M : Mem} {R : RowFn} : ∀ (l : List (Option SV)) (vs : List Value) (bs : List Nat) (i : Nat) (q : SV), TupR M R l vs bs → l[i]? = some (some q) →
    ∃ v cs b bs', vs[i]? = some v ∧ ValC q.s.ag v cs ∧ EncO M R q.s cs q.x b ∧ TupR M R (l.set i none) vs bs' ∧ bs.Perm (b ++ bs')
  | [], _, _, _, _, _, h => by simp at h
  | some q' :: l, v :: vs, bs, 0, q, ⟨cs, b1, b2, h1, h2, h3, h4⟩, h => by
    simp at h; subst h
    exact ⟨v, cs, b1, b2, rfl, h1, h2, h4, by rw [h3]⟩
  | some q' :: l, v :: vs, bs, i + 1, q, ⟨cs, b1, b2, h1, h2, h3, h4⟩, h => by
    obtain ⟨v', cs', b, bs', g1, g2, g3, g4, g5⟩ := TupR.get l vs b2 i q h4 (by simpa using h)
    refine ⟨v', cs', b, b1 ++ bs', by simpa using g1, g2, g3, ⟨cs, b1, bs', h1, h2, rfl, g4⟩, ?_⟩
    rw [h3]
    refine (List.Perm.append_left b1 g5).trans ?_
    rw [← List.append_assoc, ← List.append_assoc]
    exact List.Perm.append_right bs' List.perm_append_comm
  | none :: l, v :: vs, bs, 0, q, h, hi => by simp at hi
  | none :: l, v :: vs, bs, i + 1, q, h, hi => by
    obtain ⟨v', cs', b, bs', g1, g2, g3, g4, g5⟩ := TupR.get l vs bs i q h (by simpa using hi)
    exact ⟨v', cs', b, bs', by simpa using g1, g2, g3, g4, g5⟩
  | some _ :: _, [], _, _, _, h, _ => h.elim
  | none :: _, [], _, _, _, h, _ => h.elim

/-- a part of what slot j holds goes to limbo -/
theorem part_ok (S : St0 n B X w0 M0 M ω ρ tmps w) {j L : Nat} (hj : j < n) {bl : List Nat} (hbl : ∀ b ∈ bl, ω b = some j) {A' : A}
    (hA : Rel n M (fun b => if b ∈ bl then some L else ω b) w (ρ.puts [w1 j A']) (vl tmps) j (vl tmps j) A') :
    St0 n B X w0 M0 M (fun b => if b ∈ bl then some L else ω b) (ρ.puts [w1 j A']) tmps w := by
  refine S.step [w1 j A'] S.size (Fr.refl _ _ _) (Mem.le_refl _) (fun _ _ _ _ => rfl) S.mem ?_ (fun _ _ => rfl) (by intro x hx; simp at hx; subst hx; exact hj) ?_ ?_
  · intro b k hk
    by_cases hb : b ∈ bl
    · exact S.dis b j (hbl b hb)
    · rw [if_neg hb] at hk; exact S.dis b k hk
  · intro t _ hne b hb
    have : t ≠ j := fun e => hne _ (List.mem_singleton.2 rfl) e.symm
    refine ⟨?_, rfl⟩
    rw [if_neg (fun h => by rw [hbl b h] at hb; simp at hb; exact this hb.symm)]
    exact hb
  · intro t ⟨x, hx, hxt⟩ _
    simp at hx; subst hx
    have : t = j := hxt.symm
    subst this
    have hget : (ρ.puts [w1 t A']).get t = ⟨(ρ.get t).g + 1, 0, A'⟩ := by
      show (ρ.put (w1 t A')).get t = _
      rw [Env.get_put]; simp [w1]
    rw [hget]; exact hA

theorem exExtract_ok (S : St0 n B X w0 M0 M ω ρ tmps w) {d i : Nat} (hd : d < n) {q : Opd} {ws : List Wr} {cs : List Prop}
    (h : exExtract d q i = some (ws, cs)) {v : Value} (hq : OpdR n M ω w ρ (vl tmps) q v) : Res n B X w0 M0 ρ tmps d ws ((Instr.extract v i).run P w) := by
  unfold exExtract at h
  split at h
  · rename_i l j ha hj
    have hr := hq.rel (by rw [ha]; intro _ _ _ _ _ e; cases e)
    rw [ha] at hr
    obtain ⟨vs, bs, hv, ht, hn, hb⟩ := hr
    subst hv
    have hjn : j < n := (hq.slot j hj).2.2 (by rw [ha]; simp)
    have hvj := (hq.slot j hj).1
    rw [hj] at hb
    simp only [Option.getD_some] at hb
    split at h
    · rename_i s x hl
      obtain ⟨v, cs', b, bs', g1, g2, g3, g4, g5⟩ := TupR.get l vs bs i ⟨s, x⟩ ht hl
      have hrun : (Instr.extract (.tuple vs.toArray) i).run P w = .ok v w := by
        unfold Instr.extract
        have : vs.toArray[i]? = some v := by simpa using g1
        simp only [this]; rfl
      split at h
      · rename_i hf
        simp only [out1, Option.some.injEq, Prod.mk.injEq] at h
        obtain ⟨rfl, rfl⟩ := h
        have hb0 := EncO.free _ _ _ _ hf g3
        subst hb0
        exact ⟨v, w, _, _, hrun, put_c S hd g2 g3 List.nodup_nil (by simp)⟩
      · simp only [Option.some.injEq, Prod.mk.injEq] at h
        obtain ⟨rfl, rfl⟩ := h
        have hnd : (b ++ bs').Nodup := g5.nodup_iff.1 hn
        rw [List.nodup_append] at hnd
        have S1 := part_ok S (L := n) hjn (bl := b) (fun i hi => hb i (g5.mem_iff.2 (by simp [hi]))) (A' := .tup (l.set i none))
          ⟨vs, bs', hvj.symm, g4, hnd.2.1, fun i hi => by
            refine (if_neg (fun h => hnd.2.2 i h i hi rfl)).trans ?_
            exact hb i (g5.mem_iff.2 (by simp [hi]))⟩
        have S2 := put_c S1 hd g2 g3 hnd.1 (fun i hi => ⟨n, Nat.le_refl _, if_pos hi⟩)
        exact ⟨v, w, _, _, hrun, S2⟩
    · cases h
  · cases h
end
end Fw
