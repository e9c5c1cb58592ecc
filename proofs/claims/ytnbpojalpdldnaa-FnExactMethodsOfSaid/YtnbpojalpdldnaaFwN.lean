/- From a reading of memory as data to the framework's encoding. Conditions: none. -/
import Derived.Test.YtnbpojalpdldnaaFwG
import Derived.Deep.Slices
namespace Fw
open Go Go.ChangeShapes Go.WideShapes Go.ChangeAt Go.RowKit

def fldLayB (go : TypeId → Ty → Bool) : List Go.Field → Nat → Ty → Bool
  | [f], off, T => f.offset == off && go f.type T
  | f :: f' :: r, off, .pair A B => f.offset == off && go f.type A && fldLayB go (f' :: r) (off + A.size) B
  | _, _, _ => false
def layB (P : Program) : Nat → TypeId → Ty → Bool
  | 0, _, _ => false
  | n + 1, t, T => (P.cellsOf t == T.size) && (match T, P.underlying t with
    | .int k, some (.int k') => decide (k = k')
    | .bool, some .bool => true
    | .str, some .string => true
    | .slice E, some (.slice e) => (E.size != 0) && layB P n e E
    | .pair a b, some (.struct fs) => fldLayB (layB P n) fs.toList 0 (.pair a b)
    | _, _ => false)

section
variable {H : Type} {enc : TypeId × Value → H} {P : Program} {w : World} {held : Bool}

theorem cell_spot {w : World} {a : Addr} {v : Value} (h : w.cell? a = some v) : a.spot = none := by
  unfold World.cell? at h
  split at h
  · cases hs : a.spot with
    | none => rfl
    | some _ => rw [hs] at h; simp at h
  · cases h

theorem sliceAt_of {α : Type} {M : Mem} {p : List Value → α → Prop} {sz b : Nat} : ∀ (len o : Nat) (f : Nat → α), (∀ i, i < len → ∃ cs, cs.length = sz ∧ CellsAt M b (o + i * sz) cs ∧ p cs (f i)) →
    SliceAt M p sz b o ((List.range len).map f)
  | 0, _, _, _ => trivial
  | len + 1, o, f, h => by
    rw [List.range_succ_eq_map, List.map_cons, List.map_map]
    refine ⟨by simpa using h 0 (by omega), ?_⟩
    refine sliceAt_of len (o + sz) (f ∘ Nat.succ) fun i hi => ?_
    have := h (i + 1) (by omega)
    rwa [Nat.add_mul, Nat.one_mul, Nat.add_comm (i * sz) sz, ← Nat.add_assoc] at this

theorem fields_enc {n : Nat} {go : TypeId → Ty → Bool} (hgo : ∀ t T, go t T = true → P.cellsOf t = T.size ∧ ∀ cs d, DataW.trod enc P w 0 (fun _ => true) held n t cs = some d → ∃ x : El T, Enc (full w) T cs x) :
    ∀ (fs : List Go.Field) (off : Nat) (T : Ty) (cs : List Value), fldLayB go fs off T = true →
      (∀ (i : Nat) (f : Go.Field), fs[i]? = some f → ∃ d, DataW.trod enc P w 0 (fun _ => true) held n f.type ((cs.drop f.offset).take (P.cellsOf f.type)) = d ∧ d.isSome = true) → cs.length = off + T.size → ∃ x : El T, Enc (full w) T (cs.drop off) x
  | [], _, _, _, h, _, _ => by simp [fldLayB] at h
  | [f], off, T, cs, h, hm, hl => by
    simp only [fldLayB, Bool.and_eq_true, beq_iff_eq] at h
    obtain ⟨h1, h2⟩ := h
    obtain ⟨h3, h4⟩ := hgo _ _ h2
    obtain ⟨d, hd, hs⟩ := hm 0 f rfl
    obtain ⟨y, hy⟩ := Option.isSome_iff_exists.1 hs
    rw [hy] at hd
    have := h4 _ _ hd
    rwa [h1, h3, List.take_of_length_le (by simp; omega)] at this
  | f :: f' :: r, off, T, cs, h, hm, hl => by
    cases T with
    | pair A B =>
      simp only [fldLayB, Bool.and_eq_true, beq_iff_eq] at h
      obtain ⟨⟨h1, h2⟩, h3⟩ := h
      obtain ⟨h4, h5⟩ := hgo _ _ h2
      obtain ⟨d, hd, hs⟩ := hm 0 f rfl
      obtain ⟨y, hy⟩ := Option.isSome_iff_exists.1 hs
      rw [hy] at hd
      obtain ⟨x, hx⟩ := h5 _ _ hd
      have hl' : cs.length = off + (A.size + B.size) := hl
      obtain ⟨z, hz⟩ := fields_enc hgo (f' :: r) (off + A.size) B cs h3 (fun i g hg => hm (i + 1) g (by simpa using hg)) (by omega)
      rw [h1, h4] at hx
      refine ⟨(x, z), _, _, ?_, hx, hz⟩
      rw [← List.drop_drop, List.take_append_drop]
    | _ => simp [fldLayB] at h

theorem trod_enc : ∀ (n : Nat) (t : TypeId) (T : Ty), layB P n t T = true → ∀ (fuel : Nat) (cs : List Value) (d : DataW H × List MemPlace), DataW.trod enc P w 0 (fun _ => true) held fuel t cs = some d → ∃ x : El T, Enc (full w) T cs x
  | 0, _, _, h, _, _, _, _ => by simp [layB] at h
  | n + 1, t, T, h, 0, cs, d, hd => by simp [DataW.trod] at hd
  | n + 1, t, T, h, fuel + 1, cs, d, hd => by
    simp only [layB, Bool.and_eq_true, beq_iff_eq] at h
    obtain ⟨hsz, h⟩ := h
    cases hu : P.underlying t with
    | none => rw [hu] at h; cases T <;> cases h
    | some dsc =>
      rw [hu] at h
      cases T with
      | int k =>
        cases dsc with
        | int k' =>
          have hk : k = k' := by simpa using h
          subst hk
          obtain ⟨x, e1, e2, e3⟩ := DataW.trod_int hu hd
          simp only [Lit.wf, Bool.and_eq_true, decide_eq_true_eq] at e3
          exact ⟨x, e1, e3⟩
        | _ => cases h
      | bool =>
        cases dsc with
        | bool =>
          obtain ⟨b, e1, _⟩ := DataW.trod_bool hu hd
          exact ⟨b, e1⟩
        | _ => cases h
      | str =>
        cases dsc with
        | string =>
          obtain ⟨s, e1, _, e3⟩ := DataW.trod_string hu hd
          refine ⟨s.data.toList, ?_, ?_⟩
          · rw [e1]
          · show s.data.toList.length ≤ bigLen
            rw [Array.length_toList]; exact e3
        | _ => cases h
      | slice E =>
        cases dsc with
        | slice e =>
          simp only [Bool.and_eq_true, bne_iff_ne] at h
          obtain ⟨hE, h⟩ := h
          have hce : P.cellsOf e = E.size := by
            cases n with
            | zero => simp [layB] at h
            | succ n => simp only [layB, Bool.and_eq_true, beq_iff_eq] at h; exact h.1
          rcases Deep.open_slice hu hd with ⟨rfl, _⟩ | ⟨a, len, cap, m, nf, D, Pl, rfl, _, hl, hm, hmm, _, hx⟩
          · exact ⟨[], none, 0, rfl, Nat.le_refl _, by simp [bigLen], rfl⟩
          · rw [hce] at hx
            have hmc : m = cap := by simpa using hmm
            have hsp : 0 < m → a.spot = none := by
              intro hm0
              obtain ⟨cs', h1, _⟩ := hx 0 hm0
              obtain ⟨_, h4, h5⟩ := World.cells?_some h1
              have h0 := h5 0 (by omega)
              rw [List.getElem?_eq_getElem (by omega)] at h0
              have := cell_spot h0
              simpa [Addr.add] using this
            -- every element
            have hel : ∀ i, i < m → ∃ (x : El E) (cs : List Value), cs.length = E.size ∧ CellsAt (full w) a.block (a.off + i * E.size) cs ∧ Enc (full w) E cs x := by
              intro i hi
              obtain ⟨cs', h1, h2⟩ := hx i hi
              obtain ⟨_, h4, h5⟩ := World.cells?_some h1
              obtain ⟨x, h6⟩ := trod_enc n e E h nf cs' _ h2
              refine ⟨x, cs', h4, fun j c hj => ?_, h6⟩
              have hjl := (List.getElem?_eq_some_iff.1 hj).1
              have := h5 j (by omega)
              rw [hj] at this
              show w.cell? _ = _
              rw [← this]
              have hsp := hsp (by omega)
              obtain ⟨b, o, sp⟩ := a
              simp only at hsp
              subst hsp
              simp only [addr_add]
            have hlm : len ≤ m := by omega
            have hch : ∃ f : Nat → El E, ∀ i, i < m → ∃ cs, cs.length = E.size ∧ CellsAt (full w) a.block (a.off + i * E.size) cs ∧ Enc (full w) E cs (f i) := by
              refine ⟨fun i => if hi : i < m then Classical.choose (hel i hi) else dflt E, fun i hi => ?_⟩
              obtain ⟨cs, h1, h2, h3⟩ := Classical.choose_spec (hel i hi)
              refine ⟨cs, h1, h2, ?_⟩
              simp only [dif_pos hi]; exact h3
            obtain ⟨f, hf⟩ := hch
            refine ⟨(List.range len).map f, some a, cap, by simp, by simpa using hl, hm, ?_, sliceAt_of len a.off f fun i hi => hf i (by omega)⟩
            by_cases h0 : m = 0
            · exact .inr (by omega)
            · exact .inl (hsp (by omega))
        | _ => cases h
      | arr m e => cases dsc <;> cases h
      | pair a b =>
        cases dsc with
        | struct fs =>
          obtain ⟨xs, m, e1, e2, e3, e4, e5⟩ := DataW.trod_struct hu hd
          have hf : ∃ x : El (.pair a b), Enc (full w) (.pair a b) (cs.drop 0) x := fields_enc (P := P) (w := w) (enc := enc) (held := held) (n := m) (go := layB P n) (fun t T ht => ⟨by
              cases n with
              | zero => simp [layB] at ht
              | succ n => simp only [layB, Bool.and_eq_true, beq_iff_eq] at ht; exact ht.1, fun cs d hd => trod_enc n t T ht m cs d hd⟩) fs.toList 0 (.pair a b) cs h (fun i f hf => ⟨_, e5 i f (by simpa using hf), by
              have hi : i < fs.size := by have := (List.getElem?_eq_some_iff.1 hf).1; simpa using this
              rw [List.getElem?_eq_getElem (by rw [e4]; exact hi)]; rfl⟩) (by rw [e3, hsz, Nat.zero_add])
          simpa using hf
        | _ => cases h

def layAll (P : Program) : List TypeId → List Ty → Bool
  | [], [] => true
  | t :: ts, T :: Ts => layB P 12 t T && layAll P ts Ts
  | _, _ => false

theorem layB_val {n : Nat} {t : TypeId} {T : Ty} (h : layB P n t T = true) {r : Reach} {b0 : Nat} {v : Value} (hval : Value.okWide P w r b0 t v) : ValC T.ag v v.cells.toList := by
  cases n with
  | zero => simp [layB] at h
  | succ n =>
    simp only [layB, Bool.and_eq_true, beq_iff_eq] at h
    obtain ⟨_, h⟩ := h
    cases hu : P.underlying t with
    | none => rw [hu] at h; cases T <;> cases h
    | some dsc =>
      rw [hu] at h
      cases T with
      | int k =>
        cases dsc with
        | int k' => obtain ⟨x, rfl⟩ := okWide_int hu hval; rfl
        | _ => cases h
      | bool =>
        cases dsc with
        | bool => obtain ⟨x, rfl⟩ := okWide_bool hu hval; rfl
        | _ => cases h
      | str =>
        cases dsc with
        | string => obtain ⟨x, rfl⟩ := okWide_string hu hval; rfl
        | _ => cases h
      | slice E =>
        cases dsc with
        | slice e => obtain ⟨a, l, c, rfl⟩ := okWide_slice hu hval; rfl
        | _ => cases h
      | arr m e => cases dsc <;> cases h
      | pair a b =>
        cases dsc with
        | struct fs =>
          unfold Value.okWide at hval
          rw [hu] at hval
          obtain ⟨cs, rfl, _⟩ := hval
          rfl
        | _ => cases h

theorem argsR_of {r : Reach} {b0 : Nat} : ∀ (ts : List TypeId) (Ts : List Ty) (vs : List Value) (ds : List (DataW H)) (p : List MemPlace), layAll P ts Ts = true → DataW.TrodAll enc P w 0 (fun _ => true) held ts vs ds p →
    (∀ (j : Nat) t v, ts[j]? = some t → vs[j]? = some v → Value.okWide P w r b0 t v) → ∃ xs : Vals Ts, ArgsR (full w) Ts vs xs
  | [], [], [], _, _, _, _, _ => ⟨(), trivial⟩
  | [], [], _ :: _, ds, _, _, h, _ => by cases ds <;> exact h.elim
  | [], _ :: _, _, _, _, h, _, _ => by cases h
  | _ :: _, [], _, _, _, h, _, _ => by cases h
  | _ :: _, _ :: _, [], _, _, _, h, _ => h.elim
  | _ :: _, _ :: _, _ :: _, [], _, _, h, _ => h.elim
  | t :: ts, T :: Ts, v :: vs, d :: ds, p, hl, h, hval => by
    simp only [layAll, Bool.and_eq_true] at hl
    obtain ⟨p1, p2, ⟨fuel, hd⟩, h2, _⟩ := h
    obtain ⟨x, hx⟩ := trod_enc 12 t T hl.1 fuel _ _ hd
    obtain ⟨xs, hxs⟩ := argsR_of ts Ts vs ds p2 hl.2 h2 (fun j t v h1 h2 => hval (j + 1) t v (by simpa using h1) (by simpa using h2))
    exact ⟨(x, xs), ⟨_, layB_val hl.1 (hval 0 t v rfl rfl), hx⟩, hxs⟩

theorem trodAll_len {w : World} {held : Bool} : ∀ {ts : List TypeId} {vs : List Value} {ds : List (DataW H)} {p : List MemPlace}, DataW.TrodAll enc P w 0 (fun _ => true) held ts vs ds p → ds.length = ts.length
  | [], [], [], _, _ => rfl
  | [], [], _ :: _, _, h => h.elim
  | [], _ :: _, [], _, h => h.elim
  | [], _ :: _, _ :: _, _, h => h.elim
  | _ :: _, [], [], _, h => h.elim
  | _ :: _, [], _ :: _, _, h => h.elim
  | _ :: _, _ :: _, [], _, h => h.elim
  | t :: ts, v :: vs, d :: ds, p, ⟨_, _, _, h2, _⟩ => by simp [trodAll_len h2]

/-- a law that answers true for all that may be read -/
theorem yes_call {f : Nat} {Ts : List Ty} {pre : Vals Ts → Prop} {run : Vals Ts → Vals ([Sh.pure .bool].map Sh.ty)} (hm : Meets P f ⟨Ts, [.pure .bool], pre, run⟩) (hpre : ∀ xs, WfAll Ts xs → pre xs) (hrun : ∀ xs, WfAll Ts xs → run xs = (true, ()))
    {ts : List TypeId} (hlay : layAll P ts Ts = true) {args : Array Value} {ds : List (DataW H)} {p : List MemPlace} {r : Reach} {b0 : Nat} (hA : DataW.TrodAll enc P w 0 (fun _ => true) held ts args.toList ds p)
    (hval : ∀ (j : Nat) t v, ts[j]? = some t → args.toList[j]? = some v → Value.okWide P w r b0 t v) :
    Calls P f args w fun e w' => e = .returned (.bool true) ∧ Fr w.heap.size [] w w' := by
  obtain ⟨xs, hxs⟩ := argsR_of ts Ts args.toList ds p hlay hA hval
  have hwf := argsR_wf _ _ _ hxs
  have := hm.call w (full w) args.toList xs (fun _ _ _ h => h) hxs (hpre xs hwf)
  rw [Array.toArray_toList] at this
  refine this.mono fun e w' ⟨v, M', bs, he, hfr, _, hres, _⟩ => ?_
  subst he
  refine ⟨?_, hfr⟩
  obtain ⟨cs, h1, h2⟩ := hres
  have e0 : (run xs).1 = true := by rw [hrun xs hwf]
  have e1 : cs = [.bool (run xs).1] := h2.2
  have e2 : cs = [v] := by simpa [ValC, Sh.ag, Ty.ag] using h1
  rw [e1, e0] at e2
  simp only [List.cons.injEq, and_true] at e2
  rw [← e2]
end
end Fw
