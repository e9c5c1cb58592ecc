/- Plain laws of parcels being accepted and items being moved. Conditions: none. -/
import Derived.Test.YtlfmjohahkeejaaGreatP2
namespace Fw
open Go
abbrev TArch : Ty := .pair TI (.slice TItem)
abbrev TParcel : Ty := .pair TI (.pair TI (.pair (.slice TItem) TI))
theorem archLen {a : Archive} (h : archF a = true) : a.2.length ≤ 8 := by
  have := (boolC_iff.1 h).2.2; omega
theorem addSm {a : Archive} {x : Item} (ha : Sm big20 TArch a) (hx : Sm big20 TItem x) : Sm big20 TArch (addItemF a x).1 := by
  unfold addItemF
  split
  · rename_i h
    refine ⟨ha.1, ?_, fun y hy => ?_⟩
    · have := archLen h.2
      show (insI x a.2).length ≤ big20
      have : (insI x a.2).length ≤ 8 := this
      unfold big20; omega
    · rcases insP_mem hy with rfl | hy
      · exact hx
      · exact ha.2.2 y hy
  · exact ha
theorem dropSm {a : Archive} {n : Int} (ha : Sm big20 TArch a) : Sm big20 TArch (dropItemF a n).1 := by
  unfold dropItemF
  split
  · exact ha
  · refine ⟨ha.1, ?_, fun y hy => ?_⟩
    · have h := ha.2.1
      show (a.2.take (itAt a n).toNat ++ a.2.drop ((itAt a n).toNat + 1)).length ≤ big20
      rw [List.length_append, List.length_take, List.length_drop]
      omega
    · rcases List.mem_append.1 hy with hy | hy
      · exact ha.2.2 y (List.mem_of_mem_take hy)
      · exact ha.2.2 y (List.mem_of_mem_drop hy)
noncomputable def acStep (acc : Archive × Bool) (x : Item) : Archive × Bool := if acc.2 = true then addItemF acc.1 x else acc
def acOk (a : Archive) (p : Parcel) (c : Bool) : Bool := pick2 c (p.2.1 == a.1) false
noncomputable def acRun (a : Archive) (p : Parcel) (m : Int) : Archive × Bool := p.2.2.1.foldl acStep (a, acOk a p (checkParcelF p m))
noncomputable def acceptF (a : Archive) (p : Parcel) (m : Int) : Archive × Bool := if (acRun a p m).2 = true then ((acRun a p m).1, true) else (a, false)
theorem st_stuck {α β : Type} {f : α × Bool → β → α × Bool} (hf : ∀ a x, f (a, false) x = (a, false)) : ∀ (l : List β) (a : α), l.foldl f (a, false) = (a, false)
  | [], _ => rfl
  | x :: l, a => by rw [List.foldl_cons, hf, st_stuck hf l a]
theorem ac_stuck (a : Archive) (x : Item) : acStep (a, false) x = (a, false) := rfl
/-- the loop may end early -/
theorem st_end {α β : Type} {f : α × Bool → β → α × Bool} (hf : ∀ a x, f (a, false) x = (a, false)) {z : α × Bool} {l : List β} {o : α} {b : Bool} {i : Int} (h : foInv f z l (o, b) i)
    (g : pick2 (decide (i < (l.length : Int))) b false = false) : l.foldl f z = (o, b) := by
  by_cases hl : i < (l.length : Int)
  · rw [decide_eq_true hl] at g
    have hb : b = false := g
    subst hb
    have e : l = l.take i.toNat ++ l.drop i.toNat := (List.take_append_drop _ _).symm
    rw [e, List.foldl_append, ← h.2, st_stuck hf]
  · exact (foEnd h hl).symm
theorem ac0 {a : Archive} {p : Parcel} {m : Int} (h : pick2 (!(checkParcelF p m)) true (p.2.1 != a.1) = true) : acceptF a p m = (a, false) := by
  have : acOk a p (checkParcelF p m) = false := by
    unfold acOk
    cases hc : checkParcelF p m with
    | false => rfl
    | true =>
      rw [hc] at h
      have h : (p.2.1 != a.1) = true := h
      show (p.2.1 == a.1) = false
      simpa using h
  unfold acceptF acRun
  rw [this, st_stuck ac_stuck]; rfl
theorem acGo {a : Archive} {p : Parcel} {m : Int} (h : pick2 (!(checkParcelF p m)) true (p.2.1 != a.1) = false) : acOk a p (checkParcelF p m) = true := by
  have := orF h
  unfold acOk
  rw [notF this.1]
  show (p.2.1 == a.1) = true
  simpa using this.2
def acInv (a : Archive) (p : Parcel) (m : Int) (o : Archive) (b : Bool) (i : Int) : Prop := foInv acStep (a, acOk a p (checkParcelF p m)) p.2.2.1 (o, b) i ∧ Sm big20 TArch o
theorem acStart {a : Archive} {p : Parcel} {m : Int} {b : Bool} (ha : Sm big20 TArch a) (hb : b = acOk a p (checkParcelF p m)) : acInv a p m a b 0 := by subst hb; exact ⟨foStart, ha⟩
theorem acNext {a o o' : Archive} {p : Parcel} {m i : Int} {b b' : Bool} (h : acInv a p m o b i) (hb1 : b = true) (hl : i < (p.2.2.1.length : Int)) (hb : p.2.2.1.length ≤ bigLen) (hx : Sm big20 TItem (p.2.2.1.getD i.toNat (dflt TItem)))
    (e1 : o' = (addItemF o (p.2.2.1.getD i.toNat (dflt TItem))).1) (e2 : b' = (addItemF o (p.2.2.1.getD i.toNat (dflt TItem))).2) :
    acInv a p m o' b' (IntKind.i64.wrap (i + 1)) ∧ ((p.2.2.1.length : Int) - IntKind.i64.wrap (i + 1)).toNat < ((p.2.2.1.length : Int) - i).toNat := by
  subst hb1
  have s := foStep (d := dflt TItem) h.1 hl hb
  have e : acStep (o, true) (p.2.2.1.getD i.toNat (dflt TItem)) = (o', b') := by rw [e1, e2]; rfl
  rw [e] at s
  exact ⟨⟨s.1, by rw [e1]; exact addSm h.2 hx⟩, s.2⟩
theorem acFail {a o : Archive} {p : Parcel} {m i : Int} (h : acInv a p m o true i) (hl : i < (p.2.2.1.length : Int)) (g : (!(addItemF o (p.2.2.1.getD i.toNat (dflt TItem))).2) = true) : acceptF a p m = (a, false) := by
  have hb : (addItemF o (p.2.2.1.getD i.toNat (dflt TItem))).2 = false := by simpa using g
  obtain ⟨k, hk, rfl⟩ := h.1.1
  have e0 : ((k : Int)).toNat = k := by omega
  rw [e0] at hb
  have e1 : p.2.2.1.take (k + 1) = p.2.2.1.take k ++ [p.2.2.1.getD k (dflt TItem)] := take_succD (by omega) _
  have e2 : p.2.2.1 = p.2.2.1.take (k + 1) ++ p.2.2.1.drop (k + 1) := (List.take_append_drop _ _).symm
  have e3 : (acRun a p m).2 = false := by
    have q : (o, true) = (p.2.2.1.take k).foldl acStep (a, acOk a p (checkParcelF p m)) := by have := h.1.2; rwa [e0] at this
    unfold acRun
    rw [e2, List.foldl_append, e1, List.foldl_append, ← q]
    show ((p.2.2.1.drop (k + 1)).foldl acStep (acStep (o, true) (p.2.2.1.getD k (dflt TItem)))).2 = false
    have q2 : acStep (o, true) (p.2.2.1.getD k (dflt TItem)) = ((addItemF o (p.2.2.1.getD k (dflt TItem))).1, false) := by
      show addItemF o _ = _
      exact Prod.ext rfl hb
    rw [q2, st_stuck ac_stuck]
  unfold acceptF
  rw [if_neg (by rw [e3]; simp)]
theorem acDone {a o : Archive} {p : Parcel} {m i : Int} (h : acInv a p m o true i) (hl : ¬ i < (p.2.2.1.length : Int)) : acceptF a p m = (o, true) := by
  have e : (o, true) = acRun a p m := foEnd h.1 hl
  unfold acceptF
  rw [← e]; rfl
theorem acEndS {a o : Archive} {p : Parcel} {m i : Int} {b : Bool} (h : acInv a p m o b i) (g : pick2 (decide (i < (p.2.2.1.length : Int))) b false = false) : acRun a p m = (o, b) := st_end ac_stuck h.1 g
theorem acBadS {a o : Archive} {p : Parcel} {m : Int} {b : Bool} (h : acRun a p m = (o, b)) (g : (!b) = true) : acceptF a p m = (a, false) := by
  unfold acceptF; rw [h, if_neg]; intro e; have e : b = true := e; rw [e] at g; cases g
theorem acYesS {a o : Archive} {p : Parcel} {m : Int} {b : Bool} (h : acRun a p m = (o, b)) (g : (!b) = false) : acceptF a p m = (o, true) := by
  unfold acceptF; rw [h, if_pos]; exact notF g
theorem addCells (a : Archive) (x : Item) : cellsL (cellsC TItem) (addItemF a x).1.2 ≤ cellsL (cellsC TItem) a.2 + cellsC TItem x := by
  unfold addItemF
  split
  · show cellsL (cellsC TItem) (insP _ x a.2) ≤ _
    rw [cellsL_insP]; exact Nat.le_refl _
  · exact Nat.le_add_right _ _
theorem dropCells (a : Archive) (n : Int) : cellsL (cellsC TItem) (dropItemF a n).1.2 ≤ cellsL (cellsC TItem) a.2 := by
  have e3 : ∀ k m : Nat, k ≤ m → cellsL (cellsC TItem) (a.2.take k ++ a.2.drop m) ≤ cellsL (cellsC TItem) a.2 := fun k m hkm => by
    have q : cellsL (cellsC TItem) a.2 = cellsL (cellsC TItem) (a.2.take k) + cellsL (cellsC TItem) (a.2.drop k) := by rw [← cellsL_append, List.take_append_drop]
    have q2 : cellsL (cellsC TItem) (a.2.drop k) = cellsL (cellsC TItem) ((a.2.drop k).take (m - k)) + cellsL (cellsC TItem) ((a.2.drop k).drop (m - k)) := by rw [← cellsL_append, List.take_append_drop]
    rw [List.drop_drop, Nat.add_sub_cancel' hkm] at q2
    rw [cellsL_append]; omega
  unfold dropItemF
  split
  · exact Nat.le_refl _
  · exact e3 _ _ (by omega)
theorem acRunCells : ∀ (l : List Item) (z : Archive × Bool), cellsL (cellsC TItem) (l.foldl acStep z).1.2 ≤ cellsL (cellsC TItem) z.1.2 + cellsL (cellsC TItem) l
  | [], z => Nat.le_add_right _ _
  | x :: l, z => by
    have ih := acRunCells l (acStep z x)
    have h1 : cellsL (cellsC TItem) (acStep z x).1.2 ≤ cellsL (cellsC TItem) z.1.2 + cellsC TItem x := by
      unfold acStep
      split
      · exact addCells _ _
      · exact Nat.le_add_right _ _
    show cellsL (cellsC TItem) (l.foldl acStep (acStep z x)).1.2 ≤ cellsL (cellsC TItem) z.1.2 + (cellsC TItem x + cellsL (cellsC TItem) l)
    omega
theorem acceptCells (a : Archive) (p : Parcel) (m : Int) : cellsL (cellsC TItem) (acceptF a p m).1.2 ≤ cellsL (cellsC TItem) a.2 + cellsL (cellsC TItem) p.2.2.1 := by
  unfold acceptF
  split
  · exact acRunCells _ _
  · exact Nat.le_add_right _ _
/-! moving -/
noncomputable def dpStep (acc : Archive × Bool) (n : Int) : Archive × Bool := if acc.2 = true then dropItemF acc.1 n else acc
theorem dp_stuck (a : Archive) (x : Int) : dpStep (a, false) x = (a, false) := rfl
noncomputable def mvP (a b : Archive) (ids : List Int) (m : Int) : Parcel × Bool := makeParcelF a b.1 ids m
noncomputable def mvT (a b : Archive) (ids : List Int) (m : Int) : Archive × Bool := acceptF b (mvP a b ids m).1 m
noncomputable def mvR (a b : Archive) (ids : List Int) (m : Int) : Archive × Bool := ids.foldl dpStep (a, (mvT a b ids m).2)
noncomputable def moveF (a b : Archive) (ids : List Int) (m : Int) : Archive × Archive × Bool :=
  if (mvP a b ids m).2 = true ∧ (mvR a b ids m).2 = true then ((mvR a b ids m).1, (mvT a b ids m).1, true) else (a, b, false)
theorem mkSm {a : Archive} {to m : Int} {ids : List Int} (ha : Sm big20 TArch a) (hs : ids.length ≤ 1048576) : Sm big20 TParcel (makeParcelF a to ids m).1 := by
  unfold makeParcelF
  split
  · exact ⟨trivial, trivial, ⟨Nat.zero_le _, fun x hx => by simp at hx⟩, trivial⟩
  · rename_i h
    have h1 : ids.any (mpBad a) = false := by cases hq : ids.any (mpBad a) with | false => rfl | true => exact (h (.inl hq)).elim
    refine ⟨trivial, trivial, ⟨?_, fun x hx => ?_⟩, trivial⟩
    · show (ids.map (itGet a)).length ≤ big20
      rw [List.length_map]; unfold big20; omega
    · obtain ⟨n, hn, rfl⟩ := List.mem_map.1 hx
      have hb := List.any_eq_false.1 h1 n hn
      exact ha.2.2 _ (itMem (fun e => hb (decide_eq_true e)) (Nat.le_trans ha.2.1 (by unfold bigLen big20; omega)))
def mvInv (a b : Archive) (ids : List Int) (m : Int) (o : Archive) (ok : Bool) (i : Int) : Prop := foInv dpStep (a, (mvT a b ids m).2) ids (o, ok) i ∧ Sm big20 TArch o
theorem mvStart {a b : Archive} {ids : List Int} {m : Int} {ok : Bool} (ha : Sm big20 TArch a) (hb : ok = (mvT a b ids m).2) : mvInv a b ids m a ok 0 := by subst hb; exact ⟨foStart, ha⟩
theorem mvNext {a b o o' : Archive} {ids : List Int} {m i : Int} {ok ok' : Bool} (h : mvInv a b ids m o ok i) (hk : ok = true) (hl : i < (ids.length : Int)) (hb : ids.length ≤ bigLen)
    (e1 : o' = (dropItemF o (ids.getD i.toNat (dflt TI))).1) (e2 : ok' = (dropItemF o (ids.getD i.toNat (dflt TI))).2) :
    mvInv a b ids m o' ok' (IntKind.i64.wrap (i + 1)) ∧ ((ids.length : Int) - IntKind.i64.wrap (i + 1)).toNat < ((ids.length : Int) - i).toNat := by
  subst hk
  have s := foStep (d := dflt TI) h.1 hl hb
  have e : dpStep (o, true) (ids.getD i.toNat (dflt TI)) = (o', ok') := by rw [e1, e2]; rfl
  rw [e] at s
  exact ⟨⟨s.1, by rw [e1]; exact dropSm h.2⟩, s.2⟩
theorem mvFail {a b o : Archive} {ids : List Int} {m i : Int} (h : mvInv a b ids m o true i) (hl : i < (ids.length : Int)) (g : (!(dropItemF o (ids.getD i.toNat (dflt TI))).2) = true) : moveF a b ids m = (a, b, false) := by
  have hb : (dropItemF o (ids.getD i.toNat (dflt TI))).2 = false := by simpa using g
  obtain ⟨k, hk, rfl⟩ := h.1.1
  have e0 : ((k : Int)).toNat = k := by omega
  rw [e0] at hb
  have e1 : ids.take (k + 1) = ids.take k ++ [ids.getD k (dflt TI)] := take_succD (by omega) _
  have e2 : ids = ids.take (k + 1) ++ ids.drop (k + 1) := (List.take_append_drop _ _).symm
  have e3 : (mvR a b ids m).2 = false := by
    have q : (o, true) = (ids.take k).foldl dpStep (a, (mvT a b ids m).2) := by have := h.1.2; rwa [e0] at this
    have q3 : mvR a b ids m = (ids.take (k + 1) ++ ids.drop (k + 1)).foldl dpStep (a, (mvT a b ids m).2) := by rw [List.take_append_drop]; rfl
    rw [q3, List.foldl_append, e1, List.foldl_append, ← q]
    show ((ids.drop (k + 1)).foldl dpStep (dpStep (o, true) (ids.getD k (dflt TI)))).2 = false
    have q2 : dpStep (o, true) (ids.getD k (dflt TI)) = ((dropItemF o (ids.getD k (dflt TI))).1, false) := by
      show dropItemF o _ = _
      exact Prod.ext rfl hb
    rw [q2, st_stuck dp_stuck]
  unfold moveF
  rw [if_neg (by rw [e3]; simp)]
theorem mvBad {a b : Archive} {ids : List Int} {m : Int} (h : pick2 (!(mvP a b ids m).2) true (!(mvT a b ids m).2) = true) : moveF a b ids m = (a, b, false) := by
  unfold moveF
  rw [if_neg]
  rintro ⟨h1, h2⟩
  rw [h1] at h
  have h : (!(mvT a b ids m).2) = true := h
  have h3 : (mvT a b ids m).2 = false := by simpa using h
  have : mvR a b ids m = (a, false) := by unfold mvR; rw [h3, st_stuck dp_stuck]
  rw [this] at h2; cases h2
theorem mvGo {a b : Archive} {ids : List Int} {m : Int} (h : pick2 (!(mvP a b ids m).2) true (!(mvT a b ids m).2) = false) : (mvP a b ids m).2 = true ∧ true = (mvT a b ids m).2 := ⟨notF (orF h).1, (notF (orF h).2).symm⟩
theorem mvDone {a b o : Archive} {ids : List Int} {m i : Int} (h : mvInv a b ids m o true i) (hl : ¬ i < (ids.length : Int)) (hp : (mvP a b ids m).2 = true) : moveF a b ids m = (o, (mvT a b ids m).1, true) := by
  have e : (o, true) = mvR a b ids m := foEnd h.1 hl
  unfold moveF
  rw [← e, if_pos ⟨hp, rfl⟩]
/-- the reference's loop stops where something fails -/
theorem mvEndS {a b o : Archive} {ids : List Int} {m i : Int} {ok : Bool} (h : mvInv a b ids m o ok i) (hp : (mvP a b ids m).2 = true) (g : pick2 (pick2 (decide (i < (ids.length : Int))) (mvP a b ids m).2 false) ok false = false) : mvR a b ids m = (o, ok) := by
  refine st_end dp_stuck h.1 ?_
  rw [hp] at g
  cases hd : decide (i < (ids.length : Int)) with
  | false => rfl
  | true => rw [hd] at g; exact g
theorem mvBadS {a b o : Archive} {ids : List Int} {m i : Int} {ok : Bool} (h : mvInv a b ids m o ok i) (g : pick2 (pick2 (decide (i < (ids.length : Int))) (mvP a b ids m).2 false) ok false = false)
    (g2 : pick2 (!(mvP a b ids m).2) true (!ok) = true) : moveF a b ids m = (a, b, false) := by
  unfold moveF
  rw [if_neg]
  rintro ⟨h1, h2⟩
  rw [mvEndS h h1 g] at h2
  have h2 : ok = true := h2
  rw [h1, h2] at g2; cases g2
theorem mvYesS {a b o : Archive} {ids : List Int} {m i : Int} {ok : Bool} (h : mvInv a b ids m o ok i) (g : pick2 (pick2 (decide (i < (ids.length : Int))) (mvP a b ids m).2 false) ok false = false)
    (g2 : pick2 (!(mvP a b ids m).2) true (!ok) = false) : moveF a b ids m = (o, (mvT a b ids m).1, true) := by
  have h1 := notF (orF g2).1
  have h2 := notF (orF g2).2
  have e := mvEndS h h1 g
  unfold moveF
  rw [if_pos ⟨h1, by rw [e]; exact h2⟩, e]
theorem dpCells : ∀ (l : List Int) (z : Archive × Bool), cellsL (cellsC TItem) (l.foldl dpStep z).1.2 ≤ cellsL (cellsC TItem) z.1.2
  | [], z => Nat.le_refl _
  | x :: l, z => by
    have ih := dpCells l (dpStep z x)
    have h1 : cellsL (cellsC TItem) (dpStep z x).1.2 ≤ cellsL (cellsC TItem) z.1.2 := by
      unfold dpStep
      split
      · exact dropCells _ _
      · exact Nat.le_refl _
    exact Nat.le_trans ih h1
theorem mpCellsN {a : Archive} {to m : Int} {ids : List Int} (h : ((cellsC TArch a : Nat) : Int) ≤ 2000000000) (hs : ids.length ≤ 1048576) : ((cellsL (cellsC TItem) (makeParcelF a to ids m).1.2.2.1 : Nat) : Int) ≤ 5000000000000000 := by
  have e1 : cellsC TArch a = 1 + cellsL (cellsC TItem) a.2 := rfl
  unfold makeParcelF
  split
  · show ((0 : Nat) : Int) ≤ _; omega
  · have k2 : ∀ n ∈ ids, cellsC TItem (itGet a n) ≤ cellsL (cellsC TItem) a.2 + 100 := fun n _ => by
      have q : cellsC TItem (itGet a n) ≤ cellsL (cellsC TItem) a.2 + cellsC TItem (dflt TItem) := cellsL_getD _ _ _ _
      have k3 : cellsC TItem (dflt TItem) ≤ 100 := by decide
      omega
    have k := cellsL_map k2
    show ((cellsL (cellsC TItem) (ids.map (itGet a)) : Nat) : Int) ≤ _
    have k4 : (cellsL (cellsC TItem) a.2 + 100) * ids.length ≤ 2000000100 * 1048576 := Nat.mul_le_mul (by omega) hs
    omega
theorem mvCells1 {a b : Archive} {ids : List Int} {m : Int} (h : ((cellsC TArch a : Nat) : Int) ≤ 2000000000) : ((cellsV TArch (moveF a b ids m).1 : Nat) : Int) ≤ 10000000000000000 := by
  have e1 : cellsC TArch a = 1 + cellsL (cellsC TItem) a.2 := rfl
  have e2 : ∀ b : Archive, cellsV TArch b = 0 + cellsL (cellsC TItem) b.2 := fun _ => rfl
  have k : cellsL (cellsC TItem) (mvR a b ids m).1.2 ≤ cellsL (cellsC TItem) a.2 := dpCells ids (a, (mvT a b ids m).2)
  rw [e2]
  unfold moveF
  split
  · show ((0 + cellsL (cellsC TItem) (mvR a b ids m).1.2 : Nat) : Int) ≤ _; omega
  · show ((0 + cellsL (cellsC TItem) a.2 : Nat) : Int) ≤ _; omega
theorem mvCells2 {a b : Archive} {ids : List Int} {m : Int} (h : ((cellsC TArch a : Nat) : Int) ≤ 2000000000) (hb : ((cellsC TArch b : Nat) : Int) ≤ 2000000000) (hs : ids.length ≤ 1048576) : ((cellsV TArch (moveF a b ids m).2.1 : Nat) : Int) ≤ 10000000000000000 := by
  have e1 : cellsC TArch b = 1 + cellsL (cellsC TItem) b.2 := rfl
  have e2 : ∀ b : Archive, cellsV TArch b = 0 + cellsL (cellsC TItem) b.2 := fun _ => rfl
  have k : cellsL (cellsC TItem) (mvT a b ids m).1.2 ≤ _ := acceptCells b (mvP a b ids m).1 m
  have k2 : ((cellsL (cellsC TItem) (mvP a b ids m).1.2.2.1 : Nat) : Int) ≤ _ := mpCellsN (to := b.1) (m := m) h hs
  rw [e2]
  unfold moveF
  split
  · show ((0 + cellsL (cellsC TItem) (mvT a b ids m).1.2 : Nat) : Int) ≤ _; omega
  · show ((0 + cellsL (cellsC TItem) b.2 : Nat) : Int) ≤ _; omega
theorem ne_self3CCB {α β : Type} {x : α} {y : β} {z : Bool} (h : pick2 (pick2 (!(eqC x x)) true (!(eqC y y))) true (z != z) = true) : False := by rw [eqC_self, eqC_self] at h; simp [pick2] at h
end Fw
namespace Fw
open Go
theorem orNe3CCB {α β : Type} {x : α} {y : β} {z : Bool} {K : Int} (hk : 0 ≤ K) (h : pick2 (pick2 (pick2 (decide (K < 0)) true (!(eqC x x))) true (!(eqC y y))) true (z != z) = true) : False := by
  rw [decide_eq_false (by omega : ¬ K < 0), eqC_self, eqC_self] at h; simp [pick2] at h
end Fw
