/- The program's types as the framework's, and what loads and stores do over them. Conditions: none. -/
import Derived.Test.YtnbpojalpdldnaaFw4
namespace Fw
open Go

def repN (f : List Value → Option (List Value)) : Nat → List Value → Option (List Value)
  | 0, vs => some vs
  | m + 1, vs => match f vs with | some r => repN f m r | none => none
/-- the cells of the zero value, taken off the front -/
def zc : Ty → List Value → Option (List Value)
  | .int k, .int k' n :: r => if k = k' ∧ n = 0 then some r else none
  | .bool, .bool b :: r => if b = false then some r else none
  | .str, .string s :: r => if s.data.toList = [] then some r else none
  | .slice _, .slice none 0 0 :: r => some r
  | .pair a b, vs => match zc a vs with | some r => zc b r | none => none
  | .arr n e, vs => repN (zc e) n vs
  | _, _ => none
def zOk (T : Ty) : Value → Bool
  | .agg cs => T.ag && (match zc T cs.toList with | some [] => true | _ => false)
  | z => !T.ag && (match zc T [z] with | some [] => true | _ => false)

def pairTy : List Ty → Option Ty
  | [] => none
  | [_] => none
  | [a, b] => some (.pair a b)
  | a :: r => match pairTy r with | some t => some (.pair a t) | none => none

def baseOk (P : Program) (t : TypeId) (T : Ty) : Bool :=
  match P.info? t with
  | some i => i.size == T.size && decide (i.bytes ≤ 32768) && (match i.zero with | some z => zOk T z | none => false)
  | none => false

def optAll {α β : Type} (f : α → Option β) : List α → Option (List β)
  | [] => some []
  | a :: r => match f a, optAll f r with | some b, some l => some (b :: l) | _, _ => none

def tyOf (P : Program) : Nat → TypeId → Option Ty
  | 0, _ => none
  | n + 1, t =>
    let r : Option Ty := match P.underlying t with
      | some (.int k) => some (.int k)
      | some .bool => some .bool
      | some .string => some .str
      | some (.slice e) => match tyOf P n e with | some T => some (.slice T) | none => none
      | some (.array m e) => match tyOf P n e with | some T => some (.arr m T) | none => none
      | some (.struct fs) => match optAll (fun f => tyOf P n f.type) fs.toList with | some l => pairTy l | none => none
      | _ => none
    match r with
    | some T => if baseOk P t T = true then some T else none
    | none => none

def TyR (P : Program) (t : TypeId) (T : Ty) : Prop := ∃ n, tyOf P n t = some T

theorem tyOf_raw {P : Program} {n : Nat} {t : TypeId} {T : Ty} (h : tyOf P (n + 1) t = some T) :
    baseOk P t T = true ∧ (match P.underlying t with
      | some (.int k) => T = .int k
      | some .bool => T = .bool
      | some .string => T = .str
      | some (.slice e) => ∃ E, tyOf P n e = some E ∧ T = .slice E
      | some (.array m e) => ∃ E, tyOf P n e = some E ∧ T = .arr m E
      | some (.struct fs) => ∃ l, optAll (fun f => tyOf P n f.type) fs.toList = some l ∧ pairTy l = some T
      | _ => False) := by
  simp only [tyOf] at h
  split at h
  · rename_i T' hr
    split at h
    · rename_i hb
      simp only [Option.some.injEq] at h
      subst h
      refine ⟨hb, ?_⟩
      cases hu : P.underlying t with
      | none => rw [hu] at hr; simp at hr
      | some d =>
        rw [hu] at hr
        cases d <;> simp at hr ⊢
        case int k => exact hr.symm
        case bool => exact hr.symm
        case string => exact hr.symm
        case slice e =>
          split at hr
          · rename_i E he; simp at hr; exact ⟨E, he, hr.symm⟩
          · simp at hr
        case array m e =>
          split at hr
          · rename_i E he; simp at hr; exact ⟨E, he, hr.symm⟩
          · simp at hr
        case struct fs =>
          split at hr
          · rename_i l he; exact ⟨l, he, hr⟩
          · simp at hr
    · simp at h
  · simp at h

theorem pairTy_pair : ∀ (l : List Ty) (T : Ty), pairTy l = some T → ∃ a b, T = .pair a b
  | [], _, h => by simp [pairTy] at h
  | [_], _, h => by simp [pairTy] at h
  | [a, b], T, h => by simp [pairTy] at h; exact ⟨a, b, h.symm⟩
  | a :: b :: c :: r, T, h => by
    simp only [pairTy] at h
    split at h
    · simp at h; exact ⟨_, _, h.symm⟩
    · simp at h

theorem TyR.base {P : Program} {t : TypeId} {T : Ty} (h : TyR P t T) : baseOk P t T = true := by
  obtain ⟨n, h⟩ := h
  cases n with
  | zero => simp [tyOf] at h
  | succ n => exact (tyOf_raw h).1
theorem TyR.info {P : Program} {t : TypeId} {T : Ty} (h : TyR P t T) : ∃ i, P.info? t = some i ∧ i.size = T.size ∧ i.bytes ≤ 32768 ∧ ∃ z, i.zero = some z ∧ zOk T z = true := by
  have hb := h.base
  unfold baseOk at hb
  split at hb
  · rename_i i hi
    simp only [Bool.and_eq_true, beq_iff_eq, decide_eq_true_eq] at hb
    obtain ⟨⟨h1, h2⟩, h3⟩ := hb
    split at h3
    · rename_i z hz; exact ⟨i, hi, h1, h2, z, hz, h3⟩
    · simp at h3
  · simp at hb

/-- the underlying type says what T is -/
theorem TyR.under {P : Program} {t : TypeId} {T : Ty} (h : TyR P t T) : match T with
    | .int k => P.underlying t = some (.int k)
    | .bool => P.underlying t = some .bool
    | .str => P.underlying t = some .string
    | .slice E => ∃ e, P.underlying t = some (.slice e) ∧ TyR P e E
    | .arr m E => ∃ e, P.underlying t = some (.array m e) ∧ TyR P e E
    | .pair a b => ∃ fs n l, P.underlying t = some (.struct fs) ∧ optAll (fun f => tyOf P n f.type) fs.toList = some l ∧ pairTy l = some (.pair a b) := by
  obtain ⟨n, h⟩ := h
  cases n with
  | zero => simp [tyOf] at h
  | succ n =>
    have := (tyOf_raw h).2
    cases hu : P.underlying t with
    | none => rw [hu] at this; exact this.elim
    | some d =>
      rw [hu] at this
      cases d <;> simp only at this
      case int k => subst this; rfl
      case bool => subst this; rfl
      case string => subst this; rfl
      case slice e => obtain ⟨E, h1, rfl⟩ := this; exact ⟨e, rfl, n, h1⟩
      case array m e => obtain ⟨E, h1, rfl⟩ := this; exact ⟨e, rfl, n, h1⟩
      case struct fs =>
        obtain ⟨l, h1, h2⟩ := this
        obtain ⟨a, b, rfl⟩ := pairTy_pair l T h2
        exact ⟨fs, n, l, rfl, h1, h2⟩
      all_goals exact this.elim

section runs
variable {P : Program} {w : World} {t : TypeId} {T : Ty}
theorem run_underlying' {d : TypeDesc} (h : P.underlying t = some d) : (underlying t).run P w = .ok d w := by
  simp [underlying, h]
theorem run_sizeOf (h : TyR P t T) : (Go.sizeOf t).run P w = .ok T.size w := by
  obtain ⟨i, h1, h2, _⟩ := h.info
  simp [Go.sizeOf, typeInfo, h1, h2]
theorem run_isAgg (h : TyR P t T) : (isAgg t).run P w = .ok T.ag w := by
  have hu := h.under
  cases T with
  | int k => simp [isAgg, run_underlying' hu, Ty.ag]
  | bool => simp [isAgg, run_underlying' hu, Ty.ag]
  | str => simp [isAgg, run_underlying' hu, Ty.ag]
  | slice e => obtain ⟨e', h1, _⟩ := hu; simp [isAgg, run_underlying' h1, Ty.ag]
  | arr m e => obtain ⟨e', h1, _⟩ := hu; simp [isAgg, run_underlying' h1, Ty.ag]
  | pair a b => obtain ⟨fs, n, l, h1, _⟩ := hu; simp [isAgg, run_underlying' h1, Ty.ag]
end runs

/-- all cells of the heap -/
def full (w : World) : Mem := fun b o => w.cell? ⟨b, o, none⟩

theorem addr_add (b o n : Nat) : (Addr.mk b o none).add n = ⟨b, o + n, none⟩ := by
  unfold Addr.add; split
  · rename_i h; subst h; rfl
  · rfl

theorem run_loadCellsFrom {P : Program} {w : World} {b o : Nat} : ∀ (n i : Nat) (acc : Array Value) (cs : List Value), cs.length = n →
    CellsAt (full w) b (o + i) cs → (loadCellsFrom ⟨b, o, none⟩ i n acc).run P w = .ok (acc ++ cs.toArray) w
  | 0, i, acc, cs, hl, _ => by
    have : cs = [] := List.length_eq_zero_iff.1 hl
    subst this; simp [loadCellsFrom]
  | n + 1, i, acc, [], hl, _ => by simp at hl
  | n + 1, i, acc, c :: cs, hl, hc => by
    have h0 : w.cell? ⟨b, o + i, none⟩ = some c := hc 0 c rfl
    have ih := run_loadCellsFrom (P := P) n (i + 1) (acc.push c) cs (by simpa using hl) (fun j d hj => by
      have := hc (j + 1) d (by simpa using hj)
      rwa [show o + i + (j + 1) = o + (i + 1) + j by omega] at this)
    simp only [loadCellsFrom, Sem.run_bind, run_load, addr_add, h0, Result.andThen_ok]
    rw [ih]
    congr 1
    apply Array.ext'
    simp
theorem run_loadCells {P : Program} {w : World} {b o n : Nat} {cs : List Value} (hl : cs.length = n) (hc : CellsAt (full w) b o cs) :
    (loadCells ⟨b, o, none⟩ n).run P w = .ok cs.toArray w := by
  unfold loadCells
  rw [run_loadCellsFrom n 0 #[] cs hl (by simpa using hc)]
  simp

theorem run_loadVar {P : Program} {w : World} {t : TypeId} {T : Ty} (h : TyR P t T) {b o : Nat} {cs : List Value} {v : Value}
    (hl : cs.length = T.size) (hc : CellsAt (full w) b o cs) (hv : ValC T.ag v cs) : (loadVar t ⟨b, o, none⟩).run P w = .ok v w := by
  unfold loadVar
  rw [Sem.run_bind, run_isAgg h]
  unfold ValC at hv
  cases hag : T.ag with
  | true =>
    rw [hag] at hv
    simp only [if_true] at hv
    subst hv
    simp [run_sizeOf h, run_loadCells hl hc]
  | false =>
    rw [hag] at hv
    simp only [Bool.false_eq_true, if_false] at hv
    subst hv
    have : w.cell? ⟨b, o, none⟩ = some v := by simpa [full] using hc 0 v rfl
    simp [this]

/-- cells that are stored: none is an aggregate -/
def Plain (cs : List Value) : Prop := ∀ c ∈ cs, c.oneCell' = true

theorem Enc.plain {M : Mem} : ∀ (t : Ty) (vs : List Value) (x : El t), Enc M t vs x → Plain vs
  | .int _, _, _, h => by rw [h.1]; intro c hc; simp at hc; subst hc; rfl
  | .bool, _, _, h => by rw [show _ = _ from h]; intro c hc; simp at hc; subst hc; rfl
  | .str, _, _, h => by rw [h.1]; intro c hc; simp at hc; subst hc; rfl
  | .slice e, vs, xs, ⟨a, cap, h, _⟩ => by rw [h]; intro c hc; simp at hc; subst hc; rfl
  | .pair a b, vs, x, ⟨v1, v2, h1, h2, h3⟩ => by
    subst h1; intro c hc
    rcases List.mem_append.1 hc with hc | hc
    · exact Enc.plain a _ _ h2 c hc
    · exact Enc.plain b _ _ h3 c hc
  | .arr n e, vs, xs, ⟨h1, h2⟩ => by
    have key : ∀ (xs : List (El e)) (vs : List Value), Groups (Enc M e) e.size vs xs → Plain vs := by
      intro xs
      induction xs with
      | nil => intro vs h c hc; rw [show vs = [] from h] at hc; simp at hc
      | cons x xs ih =>
        intro vs ⟨v1, v2, h1, _, h3, h4⟩ c hc
        subst h1
        rcases List.mem_append.1 hc with hc | hc
        · exact Enc.plain e _ _ h3 c hc
        · exact ih v2 h4 c hc
    exact key xs vs h2

/-- w' is w but that block b's cells are row' -/
structure Upd (w : World) (b : Nat) (row' : List Value) (w' : World) : Prop where
  os : w'.os = w.os
  tape : w'.tape = w.tape
  output : w'.output = w.output
  size : w'.heap.size = w.heap.size
  row : rows w' b = some row'
  other : ∀ k, k ≠ b → w'.heap[k]? = w.heap[k]?

theorem rows_cells {w : World} {b : Nat} {row : List Value} (h : rows w b = some row) :
    ∃ c e fr, w.heap[b]? = some (.cells c e fr) ∧ c.toList = row ∧ (fr.2 ≤ fr.1 ∨ c.size ≤ fr.1) := by
  unfold rows at h
  split at h
  · rename_i c e fr hb
    split at h
    · rename_i hf; simp at h; exact ⟨c, e, fr, hb, h, hf⟩
    · simp at h
  · simp at h
theorem rows_cell {w : World} {b : Nat} {row : List Value} (h : rows w b = some row) (o : Nat) : w.cell? ⟨b, o, none⟩ = row[o]? := by
  obtain ⟨c, e, fr, h1, h2, h3⟩ := rows_cells h
  subst h2
  simp [World.cell?, h1]
theorem rows_full {w : World} {b : Nat} {row : List Value} (h : rows w b = some row) : CellsAt (full w) b 0 row := fun j c hj => by
  show w.cell? _ = _
  rw [rows_cell h]; simpa using hj
theorem rows_frozen {w : World} {b : Nat} {row : List Value} (h : rows w b = some row) {o : Nat} (ho : o < row.length) : w.frozen? ⟨b, o, none⟩ = false := by
  obtain ⟨c, e, fr, h1, h2, h3⟩ := rows_cells h
  subst h2
  simp only [World.frozen?, h1]
  simp at ho
  rcases h3 with h3 | h3
  · by_cases hh : fr.1 ≤ o
    · have : ¬ o < fr.2 := by omega
      simp [this]
    · simp [hh]
  · have : ¬ fr.1 ≤ o := by omega
    simp [this]
theorem rows_lt {w : World} {b : Nat} {row : List Value} (h : rows w b = some row) : b < w.heap.size := by
  obtain ⟨c, e, fr, h1, _⟩ := rows_cells h
  rcases Nat.lt_or_ge b w.heap.size with h' | h'
  · exact h'
  · simp [Array.getElem?_eq_none h'] at h1
theorem rows_setCell {w : World} {b o : Nat} {row : List Value} (h : rows w b = some row) (v : Value) : rows (w.setCell ⟨b, o, none⟩ v) b = some (row.set o v) := by
  obtain ⟨c, e, fr, h1, h2, h3⟩ := rows_cells h
  subst h2
  simp only [rows, World.setCell, Array.getElem?_modify, if_true, h1, Option.map_some]
  have hs : (none : Option Nat).isSome = false := rfl
  simp only [hs, Bool.false_eq_true, if_false, Array.size_setIfInBounds]
  rw [if_pos h3]
  simp

theorem run_store_row {P : Program} {w : World} {b o : Nat} {row : List Value} {v : Value} (h : rows w b = some row) (ho : o < row.length) (hv : v.oneCell' = true) :
    (store ⟨b, o, none⟩ v).run P w = .ok () (w.setCell ⟨b, o, none⟩ v) := by
  rw [run_store P w _ v _ hv, rows_cell h, List.getElem?_eq_getElem ho, rows_frozen h ho]
  rfl

theorem run_storeCells {P : Program} : ∀ (cs : List Value) (i : Nat) (w : World) (b o : Nat) (row : List Value), rows w b = some row → o + i + cs.length ≤ row.length → Plain cs →
    ∃ w', (storeCells ⟨b, o, none⟩ cs i).run P w = .ok () w' ∧ Upd w b (row.take (o + i) ++ cs ++ row.drop (o + i + cs.length)) w'
  | [], i, w, b, o, row, h, _, _ => ⟨w, rfl, rfl, rfl, rfl, rfl, by simpa using h, fun _ _ => rfl⟩
  | c :: cs, i, w, b, o, row, h, hl, hp => by
    have ho : o + i < row.length := by simp at hl; omega
    have h1 := run_store_row (P := P) h ho (hp c (by simp))
    obtain ⟨w', h2, h3⟩ := run_storeCells (P := P) cs (i + 1) (w.setCell ⟨b, o + i, none⟩ c) b o (row.set (o + i) c) (rows_setCell h c) (by simp at hl ⊢; omega) (fun d hd => hp d (by simp [hd]))
    refine ⟨w', ?_, ?_⟩
    · simp only [storeCells, Sem.run_bind, addr_add, h1, Result.andThen_ok]; exact h2
    · refine ⟨h3.os, h3.tape, h3.output, by rw [h3.size]; simp, ?_, fun k hk => ?_⟩
      · rw [h3.row]
        congr 1
        have e1 : (row.set (o + i) c).take (o + (i + 1)) = row.take (o + i) ++ [c] := by
          rw [show o + (i + 1) = (o + i) + 1 by omega, List.take_succ_eq_append_getElem (by simpa using ho)]
          simp [List.take_set_of_le]
        have e2 : (row.set (o + i) c).drop (o + (i + 1) + cs.length) = row.drop (o + i + (c :: cs).length) := by
          rw [List.drop_set_of_lt (by omega)]
          congr 1; simp; omega
        rw [e1, e2]; simp
      · rw [h3.other k hk, RowKit.Below.heap_setCell _ _ _ _ hk]

theorem run_storeVar {P : Program} {w : World} {t : TypeId} {T : Ty} (h : TyR P t T) {b o : Nat} {row cs : List Value} {v : Value}
    (hr : rows w b = some row) (hl : cs.length = T.size) (ho : o + cs.length ≤ row.length) (hp : Plain cs) (hv : v.cells.toList = cs) :
    ∃ w', (storeVar t ⟨b, o, none⟩ v).run P w = .ok () w' ∧ Upd w b (row.take o ++ cs ++ row.drop (o + cs.length)) w' := by
  obtain ⟨w', h1, h2⟩ := run_storeCells (P := P) cs 0 w b o row hr (by simpa using ho) hp
  refine ⟨w', ?_, by simpa using h2⟩
  have hsz : v.cells.size = T.size := by rw [← hl, ← hv]; simp
  unfold storeVar
  simp only [Sem.run_bind, run_sizeOf h, Result.andThen_ok]
  rw [if_neg (by simp [hsz]), hv]
  exact h1

theorem ValC.cells {ag : Bool} {v : Value} {cs : List Value} (h : ValC ag v cs) (hp : Plain cs) : v.cells.toList = cs := by
  unfold ValC at h
  cases ag with
  | true => simp only [if_true] at h; subst h; simp [Value.cells]
  | false =>
    simp only [Bool.false_eq_true, if_false] at h; subst h
    have := hp v (by simp)
    cases v <;> first | rfl | (simp [Value.oneCell'] at this)

/-- a new block -/
theorem rows_alloc {w : World} (c : Array Value) (e : TypeId) : rows (w.alloc (.cells c e)) w.heap.size = some c.toList := by
  unfold rows World.alloc
  simp
theorem heap_alloc_old {w : World} {o : Obj} {k : Nat} (h : k < w.heap.size) : (w.alloc o).heap[k]? = w.heap[k]? := RowKit.Below.heap_alloc w o k h
theorem Fr.alloc {B : Nat} {X : List Nat} (w : World) (o : Obj) (h : B ≤ w.heap.size) : Fr B X w (w.alloc o) :=
  ⟨rfl, rfl, rfl, by simp, fun k hk _ => heap_alloc_old (by omega)⟩
theorem Fr.upd {B : Nat} {X : List Nat} {w w' : World} {b : Nat} {row : List Value} (h : Upd w b row w') (hb : B ≤ b ∨ b ∈ X) : Fr B X w w' :=
  ⟨h.os, h.tape, h.output, by rw [h.size]; exact Nat.le_refl _, fun k hk hx => h.other k (fun e => by subst e; rcases hb with hb | hb; omega; exact hx hb)⟩

end Fw
