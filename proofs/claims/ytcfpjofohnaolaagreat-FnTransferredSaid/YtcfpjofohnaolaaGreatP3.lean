/- Plain laws of putting something into its place in a list, and of taking something out. Conditions: none. -/
import Derived.Test.YtcfpjofohnaolaaGreatP2
namespace Fw
open Go
def tkInv {α : Type} (p : α → Bool) (l : List α) (i : Int) : Prop := 0 ≤ i ∧ i ≤ l.length ∧ ∀ y ∈ l.take i.toNat, p y = true
section
variable {α : Type} {p : α → Bool} {l : List α} {i : Int} {d x : α}
theorem tkStart : tkInv p l 0 := ⟨by omega, by omega, by simp⟩
theorem tkRange (h : tkInv p l i) (hl : i < (l.length : Int)) : inRange i l.length := ⟨h.1, hl⟩
theorem tkStep (h : tkInv p l i) (hs : l.length ≤ 4000000) (g : pick2 (decide (i < (l.length : Int))) (p (l.getD i.toNat d)) false = true) :
   tkInv p l (IntKind.i64.wrap (i + 1)) ∧ ((l.length : Int) - IntKind.i64.wrap (i + 1)).toNat < ((l.length : Int) - i).toNat := by
 obtain ⟨h1, h2, h3⟩ := h
 have g1 := of_decide_eq_true (andT g).1
 have g2 := (andT g).2
 rw [w64 (by omega) (by omega)]
 refine ⟨⟨by omega, by omega, fun y hy => ?_⟩, by omega⟩
 have e : (i + 1).toNat = i.toNat + 1 := by omega
 rw [e, List.take_succ_eq_append_getElem (by omega)] at hy
 rcases List.mem_append.1 hy with hy | hy
 · exact h3 y hy
 · rw [List.mem_singleton.1 hy]
   rw [List.getD_eq_getElem?_getD, List.getElem?_eq_getElem (by omega)] at g2
   exact g2
theorem tkEnd (h : tkInv p l i) (g : pick2 (decide (i < (l.length : Int))) (p (l.getD i.toNat d)) false = false) : i.toNat = (l.takeWhile p).length := by
 obtain ⟨h1, h2, h3⟩ := h
 have e : l.takeWhile p = l.take i.toNat := by
   have e1 : l = l.take i.toNat ++ l.drop i.toNat := (List.take_append_drop _ _).symm
   rw [e1, List.takeWhile_append_of_pos h3]
   have e2 : (l.drop i.toNat).takeWhile p = [] := by
     by_cases hl : i.toNat < l.length
     · rw [List.drop_eq_getElem_cons hl, List.takeWhile_cons_of_neg]
       have hd : decide (i < (l.length : Int)) = true := decide_eq_true (by omega)
       rw [hd] at g
       have g : p (l.getD i.toNat d) = false := g
       rw [List.getD_eq_getElem?_getD, List.getElem?_eq_getElem hl] at g
       simp only [Option.getD_some] at g
       rw [g]; simp
     · rw [List.drop_eq_nil_of_le (by omega)]; rfl
   rw [e2, List.append_nil, ← e1]
 rw [e, List.length_take]; omega
def insP (p : α → Bool) (x : α) (l : List α) : List α := l.takeWhile p ++ x :: l.dropWhile p
theorem tw_take : l.take (l.takeWhile p).length = l.takeWhile p := by
 have e := List.takeWhile_append_dropWhile (p := p) (l := l)
 have : (l.takeWhile p ++ l.dropWhile p).take (l.takeWhile p).length = l.takeWhile p := List.take_left
 rwa [e] at this
theorem tw_drop : l.drop (l.takeWhile p).length = l.dropWhile p := by
 have e := List.takeWhile_append_dropWhile (p := p) (l := l)
 have : (l.takeWhile p ++ l.dropWhile p).drop (l.takeWhile p).length = l.dropWhile p := List.drop_left
 rwa [e] at this
theorem insP_len : (insP p x l).length = l.length + 1 := by
 have e := congrArg List.length (List.takeWhile_append_dropWhile (p := p) (l := l))
 rw [List.length_append] at e
 unfold insP; rw [List.length_append, List.length_cons]; omega
theorem insP_eq {m k : Nat} (hm : m = (l.takeWhile p).length) (hk : k = (l.takeWhile p).length) : l.take m ++ ([] ++ [x]) ++ l.drop k = insP p x l := by
 subst hm; subst hk
 rw [tw_take, tw_drop]; simp [insP]
theorem insP_mem {y : α} (h : y ∈ insP p x l) : y = x ∨ y ∈ l := by
 unfold insP at h
 rcases List.mem_append.1 h with h | h
 · exact .inr (List.takeWhile_subset p h)
 · rcases List.mem_cons.1 h with h | h
   · exact .inl h
   · exact .inr ((List.dropWhile_suffix p).subset h)
theorem sub0_len (h : tkInv p l i) : (subL l 0 i).length = i.toNat := by
 unfold subL; rw [List.length_drop, List.length_take]; have := h.2.1; have := h.1; simp; omega
theorem insConds2 {Q : Prop} (h : tkInv p l i) (hs : l.length ≤ 4000000) (hQ : Q) :
   conj [(0 : Int) ≤ 0, (0 : Int) ≤ i, i ≤ (l.length : Int), (subL l 0 i).length ≤ maxApp, Q, (subL l 0 i).length + 0 + 1 ≤ maxApp, 0 ≤ i, i ≤ (l.length : Int), (l.length : Int) ≤ (l.length : Int), (subL l 0 i).length ≤ i.toNat, (subL l 0 i).length + (0 + 1) + (l.length - i.toNat) ≤ maxApp] := by
 have e := sub0_len h
 obtain ⟨h1, h2, _⟩ := h
 rw [e]
 unfold maxApp
 refine ⟨Int.le_refl _, h1, h2, by omega, hQ, by omega, h1, h2, Int.le_refl _, Nat.le_refl _, ?_⟩
 show i.toNat + (0 + 1) + (l.length - i.toNat) ≤ 4294967296
 omega
end
def insI (x : Item) (l : List Item) : List Item := insP (fun y => decide (y.1 < x.1)) x l
def spF (x : Item) (acc : List Item × Bool) (y : Item) : List Item × Bool := if acc.2 = false ∧ x.1 < y.1 then (acc.1 ++ [x] ++ [y], true) else (acc.1 ++ [y], acc.2)
theorem sp_done (x : Item) : ∀ (l acc : List Item), l.foldl (spF x) (acc, true) = (acc ++ l, true)
 | [], acc => by simp
 | y :: l, acc => by
   show l.foldl (spF x) (spF x (acc, true) y) = _
   have : spF x (acc, true) y = (acc ++ [y], true) := by simp [spF]
   rw [this, sp_done x l]; simp
theorem sp_run (x : Item) : ∀ (l acc : List Item), (∀ y ∈ l, y.1 ≠ x.1) →
   ((l.foldl (spF x) (acc, false)).2 = true ∧ (l.foldl (spF x) (acc, false)).1 = acc ++ insI x l) ∨ ((l.foldl (spF x) (acc, false)).2 = false ∧ (l.foldl (spF x) (acc, false)).1 ++ [x] = acc ++ insI x l)
 | [], acc, _ => .inr ⟨rfl, by simp [insI, insP]⟩
 | y :: l, acc, h => by
   show ((l.foldl (spF x) (spF x (acc, false) y)).2 = true ∧ _) ∨ ((l.foldl (spF x) (spF x (acc, false) y)).2 = false ∧ _)
   by_cases hc : x.1 < y.1
   · have e : spF x (acc, false) y = (acc ++ [x] ++ [y], true) := by simp [spF, hc]
     left
     rw [List.foldl_cons, e, sp_done]
     refine ⟨rfl, ?_⟩
     have : ¬ y.1 < x.1 := by omega
     simp [insI, insP, this]
   · have e : spF x (acc, false) y = (acc ++ [y], false) := by simp [spF, hc]
     have hlt : y.1 < x.1 := by have := h y (by simp); omega
     have hi : insI x (y :: l) = y :: insI x l := by simp [insI, insP, hlt]
     rw [List.foldl_cons, e, hi]
     rcases sp_run x l (acc ++ [y]) (fun z hz => h z (by simp [hz])) with ⟨h1, h2⟩ | ⟨h1, h2⟩
     · exact .inl ⟨h1, by rw [h2]; simp⟩
     · exact .inr ⟨h1, by rw [h2]; simp⟩
theorem sp_len (x : Item) : ∀ (l : List Item) (acc : List Item × Bool), (l.foldl (spF x) acc).1.length ≤ acc.1.length + l.length + (if acc.2 = true then 0 else 1)
 | [], acc => by simp
 | y :: l, acc => by
   have ih := sp_len x l (spF x acc y)
   show (l.foldl (spF x) (spF x acc y)).1.length ≤ _
   obtain ⟨al, ab⟩ := acc
   cases ab with
   | true =>
     have e : spF x (al, true) y = (al ++ [y], true) := by simp [spF]
     rw [e] at ih ⊢
     simp at ih ⊢; omega
   | false =>
     by_cases hc : x.1 < y.1
     · have e : spF x (al, false) y = (al ++ [x] ++ [y], true) := by simp [spF, hc]
       rw [e] at ih ⊢
       simp at ih ⊢; omega
     · have e : spF x (al, false) y = (al ++ [y], false) := by simp [spF, hc]
       rw [e] at ih ⊢
       simp at ih ⊢; omega
theorem findI_none {α : Type} {p : α → Bool} {l : List α} (h : ¬ findI p l ≥ 0) : ∀ y ∈ l, p y = false := by
 unfold findI at h
 split at h
 · rename_i k hk; exact (h (by omega)).elim
 · rename_i hk; rw [List.findIdx?_eq_none_iff] at hk; exact hk
noncomputable def addItemF (a : Archive) (x : Item) : Archive × Bool :=
 if (archF a = true ∧ ¬ itAt a x.1 ≥ 0) ∧ archF (a.1, insI x a.2) = true then ((a.1, insI x a.2), true) else (a, false)
theorem aiGo {a : Archive} {x : Item} (h : pick2 (decide (itAt a x.1 ≥ 0)) true (!(archF a)) = false) : archF a = true ∧ ¬ itAt a x.1 ≥ 0 := by
 have := orF h
 exact ⟨notF this.2, of_decide_eq_false this.1⟩
theorem aiGoS {a : Archive} {x : Item} (h : pick2 (!(archF a)) true (decide (itAt a x.1 ≥ 0)) = false) : archF a = true ∧ ¬ itAt a x.1 ≥ 0 := by
 have := orF h
 exact ⟨notF this.1, of_decide_eq_false this.2⟩
theorem ai0 {a : Archive} {x : Item} (h : pick2 (decide (itAt a x.1 ≥ 0)) true (!(archF a)) = true) : addItemF a x = (a, false) := by
 unfold addItemF
 rw [if_neg]
 rintro ⟨⟨h1, h2⟩, _⟩
 rw [decide_eq_false h2, h1] at h; cases h
theorem ai0s {a : Archive} {x : Item} (h : pick2 (!(archF a)) true (decide (itAt a x.1 ≥ 0)) = true) : addItemF a x = (a, false) := by
 unfold addItemF
 rw [if_neg]
 rintro ⟨⟨h1, h2⟩, _⟩
 rw [decide_eq_false h2, h1] at h; cases h
theorem ai1 {a : Archive} {x : Item} (h : (!(archF (a.1, insI x a.2))) = true) : addItemF a x = (a, false) := by
 unfold addItemF
 rw [if_neg]
 rintro ⟨_, h3⟩
 rw [h3] at h; cases h
theorem ai2 {a : Archive} {x : Item} (g : archF a = true ∧ ¬ itAt a x.1 ≥ 0) (h : (!(archF (a.1, insI x a.2))) = false) : addItemF a x = ((a.1, insI x a.2), true) := by
 unfold addItemF
 rw [if_pos ⟨g, notF h⟩]
def aiInv (a : Archive) (x : Item) (o : Archive) (b : Bool) (i : Int) : Prop := o.1 = a.1 ∧ foInv (spF x) ([], false) a.2 (o.2, b) i
theorem aiStart {a : Archive} {x : Item} : aiInv a x (a.1, []) false 0 := ⟨rfl, foStart⟩
theorem aiLen {a o : Archive} {x : Item} {b : Bool} {i : Int} (h : aiInv a x o b i) (_ : i ≤ (a.2.length : Int)) (hs : a.2.length ≤ 1048576) : o.2.length ≤ 1048577 := by
 have e : o.2 = ((a.2.take i.toNat).foldl (spF x) ([], false)).1 := congrArg Prod.fst h.2.2
 have := sp_len x (a.2.take i.toNat) ([], false)
 rw [e]
 simp only [List.length_take, List.length_nil] at this
 have h2 : (if (false : Bool) = true then 0 else 1) = 1 := rfl
 rw [h2] at this
 omega
theorem aiNo {a o o' : Archive} {x : Item} {b b' : Bool} {i : Int} (h : aiInv a x o b i) (hl : i < (a.2.length : Int)) (hb : a.2.length ≤ bigLen) (g : pick2 (!b) (decide (x.1 < (a.2.getD i.toNat (dflt TItem)).1)) false = false)
   (e : o' = (o.1, o.2 ++ [a.2.getD i.toNat (dflt TItem)])) (eb : b' = b) :
   aiInv a x o' b' (IntKind.i64.wrap (i + 1)) ∧ ((a.2.length : Int) - IntKind.i64.wrap (i + 1)).toNat < ((a.2.length : Int) - i).toNat := by
 have s := foStep (d := dflt TItem) h.2 hl hb
 have e2 : spF x (o.2, b) (a.2.getD i.toNat (dflt TItem)) = (o.2 ++ [a.2.getD i.toNat (dflt TItem)], b) := by
   unfold spF
   rw [if_neg]
   rintro ⟨h1, h2⟩
   have h1 : b = false := h1
   rw [h1, decide_eq_true h2] at g; cases g
 subst e; subst eb
 rw [e2] at s
 exact ⟨⟨h.1, s.1⟩, s.2⟩
theorem aiYes {a o o' : Archive} {x : Item} {b b' : Bool} {i : Int} (h : aiInv a x o b i) (hl : i < (a.2.length : Int)) (hb : a.2.length ≤ bigLen) (g : pick2 (!b) (decide (x.1 < (a.2.getD i.toNat (dflt TItem)).1)) false = true)
   (e : o' = (o.1, o.2 ++ [x] ++ [a.2.getD i.toNat (dflt TItem)])) (eb : b' = true) :
   aiInv a x o' b' (IntKind.i64.wrap (i + 1)) ∧ ((a.2.length : Int) - IntKind.i64.wrap (i + 1)).toNat < ((a.2.length : Int) - i).toNat := by
 have s := foStep (d := dflt TItem) h.2 hl hb
 have e2 : spF x (o.2, b) (a.2.getD i.toNat (dflt TItem)) = (o.2 ++ [x] ++ [a.2.getD i.toNat (dflt TItem)], true) := by
   unfold spF
   rw [if_pos ⟨by have := (andT g).1; simpa using this, of_decide_eq_true (andT g).2⟩]
 subst e; subst eb
 rw [e2] at s
 exact ⟨⟨h.1, s.1⟩, s.2⟩
theorem aiEnd {a o : Archive} {x : Item} {b : Bool} {i : Int} (h : aiInv a x o b i) (hl : ¬ i < (a.2.length : Int)) (g : archF a = true ∧ ¬ itAt a x.1 ≥ 0) :
   (b = true → o = (a.1, insI x a.2)) ∧ (b = false → (o.1, o.2 ++ [x]) = (a.1, insI x a.2)) := by
 have e := foEnd h.2 hl
 have hne : ∀ y ∈ a.2, y.1 ≠ x.1 := fun y hy he => by
   have := findI_none g.2 y hy
   simp [he] at this
 have r := sp_run x a.2 [] hne
 rw [← e] at r
 simp only [List.nil_append] at r
 rcases r with ⟨r1, r2⟩ | ⟨r1, r2⟩
 · have r1 : b = true := r1
   exact ⟨fun _ => Prod.ext h.1 r2, fun hb => by rw [r1] at hb; exact absurd hb (by decide)⟩
 · have r1 : b = false := r1
   exact ⟨fun hb => by rw [r1] at hb; exact absurd hb (by decide), fun _ => Prod.ext h.1 r2⟩
noncomputable def dropItemF (a : Archive) (n : Int) : Archive × Bool :=
 if itAt a n < 0 then (a, false) else ((a.1, a.2.take (itAt a n).toNat ++ a.2.drop ((itAt a n).toNat + 1)), true)
theorem di0 {a : Archive} {n : Int} (h : itAt a n < 0) : dropItemF a n = (a, false) := by unfold dropItemF; rw [if_pos h]
theorem di1 {a : Archive} {n : Int} (h : ¬ itAt a n < 0) : dropItemF a n = ((a.1, a.2.take (itAt a n).toNat ++ a.2.drop ((itAt a n).toNat + 1)), true) := by unfold dropItemF; rw [if_neg h]
theorem itLt {a : Archive} {n : Int} (h : ¬ itAt a n < 0) : itAt a n < (a.2.length : Int) := (findRange h).2
theorem diSub {a : Archive} {n : Int} (h : ¬ itAt a n < 0) : (subL a.2 0 (itAt a n)).length = (itAt a n).toNat := by
 have := itLt h
 unfold subL; rw [List.length_drop, List.length_take]; simp; omega
theorem diW {a : Archive} {n : Int} (h : ¬ itAt a n < 0) (hb : a.2.length ≤ bigLen) : (IntKind.i64.wrap (itAt a n + 1)).toNat = (itAt a n).toNat + 1 ∧ IntKind.i64.wrap (itAt a n + 1) = itAt a n + 1 := by
 have := itLt h
 have e : IntKind.i64.wrap (itAt a n + 1) = itAt a n + 1 := w64 (by omega) (by unfold bigLen at hb; omega)
 exact ⟨by rw [e]; omega, e⟩
theorem diConds {a : Archive} {n : Int} (h : ¬ itAt a n < 0) (hs : a.2.length ≤ 1048576) (hb : a.2.length ≤ bigLen) :
   conj [(0 : Int) ≤ 0, (0 : Int) ≤ itAt a n, itAt a n ≤ (a.2.length : Int), 0 ≤ IntKind.i64.wrap (itAt a n + 1), IntKind.i64.wrap (itAt a n + 1) ≤ (a.2.length : Int), (a.2.length : Int) ≤ (a.2.length : Int),
     (subL a.2 0 (itAt a n)).length ≤ (IntKind.i64.wrap (itAt a n + 1)).toNat, (subL a.2 0 (itAt a n)).length + (a.2.length - (IntKind.i64.wrap (itAt a n + 1)).toNat) ≤ maxApp] := by
 have h1 := itLt h
 obtain ⟨h2, h3⟩ := diW h hb
 rw [diSub h, h2, h3]
 unfold maxApp
 refine ⟨Int.le_refl _, by omega, by omega, by omega, by omega, Int.le_refl _, by omega, ?_⟩
 show (itAt a n).toNat + (a.2.length - ((itAt a n).toNat + 1)) ≤ 4294967296
 omega
theorem di1i {a : Archive} {n : Int} (h : ¬ itAt a n < 0) (hb : a.2.length ≤ bigLen) : dropItemF a n = ((a.1, a.2.take (subL a.2 0 (itAt a n)).length ++ a.2.drop (IntKind.i64.wrap (itAt a n + 1)).toNat), true) := by
 rw [diSub h, (diW h hb).1]; exact di1 h
theorem upLe {α : Type} {a : List α} {i : Int} (h : upInv a i) : i ≤ (a.length : Int) := by obtain ⟨k, hk, rfl⟩ := h; omega
theorem aiApp {α : Type} {l : List α} (h : l.length ≤ 1048577) : l.length + 1 ≤ maxApp := by unfold maxApp; omega
theorem aiApp2 {α : Type} {x : α} {l : List α} (h : l.length ≤ 1048577) : (l ++ [x]).length + 1 ≤ maxApp := by unfold maxApp; simp; omega
end Fw
namespace Fw
open Go
end Fw
namespace Fw
open Go
abbrev Red := Int × List Int × List Bool × List (List UInt8) × List Int × List (List Int)
end Fw
namespace Fw
open Go
abbrev TArch : Ty := .pair TI (.slice TItem)
abbrev TParcel : Ty := .pair TI (.pair TI (.pair (.slice TItem) TI))
theorem archLen {a : Archive} (h : archF a = true) : a.2.length ≤ 8 := by
 have := (boolC_iff.1 h).2.2; omega
theorem addSm {a : Archive} {x : Item} (ha : Sm big20 TArch a) (hx : Sm big20 TItem x) : Sm big20 TArch (addItemF a x).1 := by
 unfold addItemF
 split
 · rename_i h
   refine ⟨ha.1, ?_, fun y hy => ?_⟩
   · have := archLen h.2
     show (insI x a.2).length ≤ big20
     have : (insI x a.2).length ≤ 8 := this
     unfold big20; omega
   · rcases insP_mem hy with rfl | hy
     · exact hx
     · exact ha.2.2 y hy
 · exact ha
theorem dropSm {a : Archive} {n : Int} (ha : Sm big20 TArch a) : Sm big20 TArch (dropItemF a n).1 := by
 unfold dropItemF
 split
 · exact ha
 · refine ⟨ha.1, ?_, fun y hy => ?_⟩
   · have h := ha.2.1
     show (a.2.take (itAt a n).toNat ++ a.2.drop ((itAt a n).toNat + 1)).length ≤ big20
     rw [List.length_append, List.length_take, List.length_drop]
     omega
   · rcases List.mem_append.1 hy with hy | hy
     · exact ha.2.2 y (List.mem_of_mem_take hy)
     · exact ha.2.2 y (List.mem_of_mem_drop hy)
noncomputable def acStep (acc : Archive × Bool) (x : Item) : Archive × Bool := if acc.2 = true then addItemF acc.1 x else acc
def acOk (a : Archive) (p : Parcel) (c : Bool) : Bool := pick2 c (p.2.1 == a.1) false
noncomputable def acRun (a : Archive) (p : Parcel) (m : Int) : Archive × Bool := p.2.2.1.foldl acStep (a, acOk a p (checkParcelF p m))
noncomputable def acceptF (a : Archive) (p : Parcel) (m : Int) : Archive × Bool := if (acRun a p m).2 = true then ((acRun a p m).1, true) else (a, false)
theorem st_stuck {α β : Type} {f : α × Bool → β → α × Bool} (hf : ∀ a x, f (a, false) x = (a, false)) : ∀ (l : List β) (a : α), l.foldl f (a, false) = (a, false)
 | [], _ => rfl
 | x :: l, a => by rw [List.foldl_cons, hf, st_stuck hf l a]
theorem ac_stuck (a : Archive) (x : Item) : acStep (a, false) x = (a, false) := rfl
theorem ac0 {a : Archive} {p : Parcel} {m : Int} (h : pick2 (!(checkParcelF p m)) true (p.2.1 != a.1) = true) : acceptF a p m = (a, false) := by
 have : acOk a p (checkParcelF p m) = false := by
   unfold acOk
   cases hc : checkParcelF p m with
   | false => rfl
   | true =>
     rw [hc] at h
     have h : (p.2.1 != a.1) = true := h
     show (p.2.1 == a.1) = false
     simpa using h
 unfold acceptF acRun
 rw [this, st_stuck ac_stuck]; rfl
theorem acGo {a : Archive} {p : Parcel} {m : Int} (h : pick2 (!(checkParcelF p m)) true (p.2.1 != a.1) = false) : acOk a p (checkParcelF p m) = true := by
 have := orF h
 unfold acOk
 rw [notF this.1]
 show (p.2.1 == a.1) = true
 simpa using this.2
def acInv (a : Archive) (p : Parcel) (m : Int) (o : Archive) (b : Bool) (i : Int) : Prop := foInv acStep (a, acOk a p (checkParcelF p m)) p.2.2.1 (o, b) i ∧ Sm big20 TArch o
theorem acStart {a : Archive} {p : Parcel} {m : Int} {b : Bool} (ha : Sm big20 TArch a) (hb : b = acOk a p (checkParcelF p m)) : acInv a p m a b 0 := by subst hb; exact ⟨foStart, ha⟩
theorem acNext {a o o' : Archive} {p : Parcel} {m i : Int} {b b' : Bool} (h : acInv a p m o b i) (hb1 : b = true) (hl : i < (p.2.2.1.length : Int)) (hb : p.2.2.1.length ≤ bigLen) (hx : Sm big20 TItem (p.2.2.1.getD i.toNat (dflt TItem)))
   (e1 : o' = (addItemF o (p.2.2.1.getD i.toNat (dflt TItem))).1) (e2 : b' = (addItemF o (p.2.2.1.getD i.toNat (dflt TItem))).2) :
   acInv a p m o' b' (IntKind.i64.wrap (i + 1)) ∧ ((p.2.2.1.length : Int) - IntKind.i64.wrap (i + 1)).toNat < ((p.2.2.1.length : Int) - i).toNat := by
 subst hb1
 have s := foStep (d := dflt TItem) h.1 hl hb
 have e : acStep (o, true) (p.2.2.1.getD i.toNat (dflt TItem)) = (o', b') := by rw [e1, e2]; rfl
 rw [e] at s
 exact ⟨⟨s.1, by rw [e1]; exact addSm h.2 hx⟩, s.2⟩
theorem acFail {a o : Archive} {p : Parcel} {m i : Int} (h : acInv a p m o true i) (hl : i < (p.2.2.1.length : Int)) (g : (!(addItemF o (p.2.2.1.getD i.toNat (dflt TItem))).2) = true) : acceptF a p m = (a, false) := by
 have hb : (addItemF o (p.2.2.1.getD i.toNat (dflt TItem))).2 = false := by simpa using g
 obtain ⟨k, hk, rfl⟩ := h.1.1
 have e0 : ((k : Int)).toNat = k := by omega
 rw [e0] at hb
 have e1 : p.2.2.1.take (k + 1) = p.2.2.1.take k ++ [p.2.2.1.getD k (dflt TItem)] := take_succD (by omega) _
 have e2 : p.2.2.1 = p.2.2.1.take (k + 1) ++ p.2.2.1.drop (k + 1) := (List.take_append_drop _ _).symm
 have e3 : (acRun a p m).2 = false := by
   have q : (o, true) = (p.2.2.1.take k).foldl acStep (a, acOk a p (checkParcelF p m)) := by have := h.1.2; rwa [e0] at this
   unfold acRun
   rw [e2, List.foldl_append, e1, List.foldl_append, ← q]
   show ((p.2.2.1.drop (k + 1)).foldl acStep (acStep (o, true) (p.2.2.1.getD k (dflt TItem)))).2 = false
   have q2 : acStep (o, true) (p.2.2.1.getD k (dflt TItem)) = ((addItemF o (p.2.2.1.getD k (dflt TItem))).1, false) := by
     show addItemF o _ = _
     exact Prod.ext rfl hb
   rw [q2, st_stuck ac_stuck]
 unfold acceptF
 rw [if_neg (by rw [e3]; simp)]
theorem acDone {a o : Archive} {p : Parcel} {m i : Int} (h : acInv a p m o true i) (hl : ¬ i < (p.2.2.1.length : Int)) : acceptF a p m = (o, true) := by
 have e : (o, true) = acRun a p m := foEnd h.1 hl
 unfold acceptF
 rw [← e]; rfl
noncomputable def dpStep (acc : Archive × Bool) (n : Int) : Archive × Bool := if acc.2 = true then dropItemF acc.1 n else acc
theorem dp_stuck (a : Archive) (x : Int) : dpStep (a, false) x = (a, false) := rfl
noncomputable def mvP (a b : Archive) (ids : List Int) (m : Int) : Parcel × Bool := makeParcelF a b.1 ids m
noncomputable def mvT (a b : Archive) (ids : List Int) (m : Int) : Archive × Bool := acceptF b (mvP a b ids m).1 m
noncomputable def mvR (a b : Archive) (ids : List Int) (m : Int) : Archive × Bool := ids.foldl dpStep (a, (mvT a b ids m).2)
noncomputable def moveF (a b : Archive) (ids : List Int) (m : Int) : Archive × Archive × Bool :=
 if (mvP a b ids m).2 = true ∧ (mvR a b ids m).2 = true then ((mvR a b ids m).1, (mvT a b ids m).1, true) else (a, b, false)
theorem mkSm {a : Archive} {to m : Int} {ids : List Int} (ha : Sm big20 TArch a) (hs : ids.length ≤ 1048576) : Sm big20 TParcel (makeParcelF a to ids m).1 := by
 unfold makeParcelF
 split
 · exact ⟨trivial, trivial, ⟨Nat.zero_le _, fun x hx => by simp at hx⟩, trivial⟩
 · rename_i h
   have h1 : ids.any (mpBad a) = false := by cases hq : ids.any (mpBad a) with | false => rfl | true => exact (h (.inl hq)).elim
   refine ⟨trivial, trivial, ⟨?_, fun x hx => ?_⟩, trivial⟩
   · show (ids.map (itGet a)).length ≤ big20
     rw [List.length_map]; unfold big20; omega
   · obtain ⟨n, hn, rfl⟩ := List.mem_map.1 hx
     have hb := List.any_eq_false.1 h1 n hn
     exact ha.2.2 _ (itMem (fun e => hb (decide_eq_true e)) (Nat.le_trans ha.2.1 (by unfold bigLen big20; omega)))
def mvInv (a b : Archive) (ids : List Int) (m : Int) (o : Archive) (ok : Bool) (i : Int) : Prop := foInv dpStep (a, (mvT a b ids m).2) ids (o, ok) i ∧ Sm big20 TArch o
theorem mvStart {a b : Archive} {ids : List Int} {m : Int} {ok : Bool} (ha : Sm big20 TArch a) (hb : ok = (mvT a b ids m).2) : mvInv a b ids m a ok 0 := by subst hb; exact ⟨foStart, ha⟩
theorem mvNext {a b o o' : Archive} {ids : List Int} {m i : Int} {ok ok' : Bool} (h : mvInv a b ids m o ok i) (hk : ok = true) (hl : i < (ids.length : Int)) (hb : ids.length ≤ bigLen)
   (e1 : o' = (dropItemF o (ids.getD i.toNat (dflt TI))).1) (e2 : ok' = (dropItemF o (ids.getD i.toNat (dflt TI))).2) :
   mvInv a b ids m o' ok' (IntKind.i64.wrap (i + 1)) ∧ ((ids.length : Int) - IntKind.i64.wrap (i + 1)).toNat < ((ids.length : Int) - i).toNat := by
 subst hk
 have s := foStep (d := dflt TI) h.1 hl hb
 have e : dpStep (o, true) (ids.getD i.toNat (dflt TI)) = (o', ok') := by rw [e1, e2]; rfl
 rw [e] at s
 exact ⟨⟨s.1, by rw [e1]; exact dropSm h.2⟩, s.2⟩
theorem mvFail {a b o : Archive} {ids : List Int} {m i : Int} (h : mvInv a b ids m o true i) (hl : i < (ids.length : Int)) (g : (!(dropItemF o (ids.getD i.toNat (dflt TI))).2) = true) : moveF a b ids m = (a, b, false) := by
 have hb : (dropItemF o (ids.getD i.toNat (dflt TI))).2 = false := by simpa using g
 obtain ⟨k, hk, rfl⟩ := h.1.1
 have e0 : ((k : Int)).toNat = k := by omega
 rw [e0] at hb
 have e1 : ids.take (k + 1) = ids.take k ++ [ids.getD k (dflt TI)] := take_succD (by omega) _
 have e2 : ids = ids.take (k + 1) ++ ids.drop (k + 1) := (List.take_append_drop _ _).symm
 have e3 : (mvR a b ids m).2 = false := by
   have q : (o, true) = (ids.take k).foldl dpStep (a, (mvT a b ids m).2) := by have := h.1.2; rwa [e0] at this
   have q3 : mvR a b ids m = (ids.take (k + 1) ++ ids.drop (k + 1)).foldl dpStep (a, (mvT a b ids m).2) := by rw [List.take_append_drop]; rfl
   rw [q3, List.foldl_append, e1, List.foldl_append, ← q]
   show ((ids.drop (k + 1)).foldl dpStep (dpStep (o, true) (ids.getD k (dflt TI)))).2 = false
   have q2 : dpStep (o, true) (ids.getD k (dflt TI)) = ((dropItemF o (ids.getD k (dflt TI))).1, false) := by
     show dropItemF o _ = _
     exact Prod.ext rfl hb
   rw [q2, st_stuck dp_stuck]
 unfold moveF
 rw [if_neg (by rw [e3]; simp)]
theorem mvBad {a b : Archive} {ids : List Int} {m : Int} (h : pick2 (!(mvP a b ids m).2) true (!(mvT a b ids m).2) = true) : moveF a b ids m = (a, b, false) := by
 unfold moveF
 rw [if_neg]
 rintro ⟨h1, h2⟩
 rw [h1] at h
 have h : (!(mvT a b ids m).2) = true := h
 have h3 : (mvT a b ids m).2 = false := by simpa using h
 have : mvR a b ids m = (a, false) := by unfold mvR; rw [h3, st_stuck dp_stuck]
 rw [this] at h2; cases h2
theorem mvGo {a b : Archive} {ids : List Int} {m : Int} (h : pick2 (!(mvP a b ids m).2) true (!(mvT a b ids m).2) = false) : (mvP a b ids m).2 = true ∧ true = (mvT a b ids m).2 := ⟨notF (orF h).1, (notF (orF h).2).symm⟩
theorem mvDone {a b o : Archive} {ids : List Int} {m i : Int} (h : mvInv a b ids m o true i) (hl : ¬ i < (ids.length : Int)) (hp : (mvP a b ids m).2 = true) : moveF a b ids m = (o, (mvT a b ids m).1, true) := by
 have e : (o, true) = mvR a b ids m := foEnd h.1 hl
 unfold moveF
 rw [← e, if_pos ⟨hp, rfl⟩]
end Fw
namespace Fw
open Go
end Fw
namespace Fw
open Go
theorem upF_half (m : Int) : ∀ l : List Int, (upF m l).length = (l.length + 1) / 2
 | [] => rfl
 | [a] => by simp [upF]
 | a :: b :: r => by
   have := upF_half m r
   simp only [upF, List.length_cons, this]
   omega
abbrev Step1 := Int × Bool
def stepF (l : List Int) (i : Int) : List Step1 := if i.tmod 2 = 1 then [(l.getD (i - 1).toNat (dflt TI), true)] else if i + 1 < (l.length : Int) then [(l.getD (i + 1).toNat (dflt TI), false)] else []
noncomputable def pathL (m : Int) (l : List Int) (i : Int) : List Step1 := if _h : 2 ≤ l.length then stepF l i ++ pathL m (upF m l) (i.tdiv 2) else []
termination_by l.length
decreasing_by exact (upF_len m l).2.1 _h
noncomputable def pathF (m : Int) (l : List Int) (i : Int) : List Step1 := if 0 ≤ i ∧ i < (l.length : Int) ∧ l.length ≤ 16 then pathL m l i else []
def ptInv (m : Int) (l0 : List Int) (i0 : Int) (l : List Int) (i : Int) (out : List Step1) : Prop := out ++ pathL m l i = pathL m l0 i0 ∧ 0 ≤ i ∧ i < (l.length : Int) ∧ l.length ≤ 16 ∧ out.length + l.length ≤ 16
theorem ptBadI {l : List Int} {i : Int} (hb : l.length ≤ bigLen) (h : (!(inRangeF i 0 (IntKind.i64.wrap ((l.length : Int) - 1)))) = true) : ¬ (0 ≤ i ∧ i < (l.length : Int)) := by
 rintro ⟨h1, h2⟩
 have e : IntKind.i64.wrap ((l.length : Int) - 1) = (l.length : Int) - 1 := w64 (by omega) (by unfold bigLen at hb; omega)
 rw [e] at h
 have : inRangeF i 0 ((l.length : Int) - 1) = true := by
   unfold inRangeF pick2
   rw [decide_eq_true h1, decide_eq_true (show i ≤ (l.length : Int) - 1 by omega)]; rfl
 rw [this] at h; cases h
theorem ptGoodI {l : List Int} {i : Int} (hb : l.length ≤ bigLen) (h : (!(inRangeF i 0 (IntKind.i64.wrap ((l.length : Int) - 1)))) = false) : 0 ≤ i ∧ i < (l.length : Int) := by
 have e : IntKind.i64.wrap ((l.length : Int) - 1) = (l.length : Int) - 1 := w64 (by omega) (by unfold bigLen at hb; omega)
 rw [e] at h
 have := rg h
 omega
theorem pt0s {m i : Int} {l : List Int} (hb : l.length ≤ bigLen) (h : pick2 (decide ((l.length : Int) > 16)) true (!(inRangeF i 0 (IntKind.i64.wrap ((l.length : Int) - 1)))) = true) : ([] : List Step1) = pathF m l i := by
 unfold pathF
 rw [if_neg]
 rintro ⟨h1, h2, h3⟩
 rw [decide_eq_false (by omega)] at h
 exact ptBadI hb h ⟨h1, h2⟩
theorem ptGos {i : Int} {l : List Int} (hb : l.length ≤ bigLen) (h : pick2 (decide ((l.length : Int) > 16)) true (!(inRangeF i 0 (IntKind.i64.wrap ((l.length : Int) - 1)))) = false) : 0 ≤ i ∧ i < (l.length : Int) ∧ l.length ≤ 16 := by
 have h1 := ptGoodI hb (orF h).2
 have h2 := of_decide_eq_false (orF h).1
 exact ⟨h1.1, h1.2, by omega⟩
theorem ptStart {m i : Int} {l : List Int} (h : 0 ≤ i ∧ i < (l.length : Int) ∧ l.length ≤ 16) : ptInv m l i l i [] := ⟨rfl, h.1, h.2.1, h.2.2, by simpa using h.2.2⟩
theorem ptNext {m i0 i : Int} {l0 l : List Int} {out out' : List Step1} (h : ptInv m l0 i0 l i out) (g : (l.length : Int) > 1) (e : out' = out ++ stepF l i) (hs : (stepF l i).length ≤ 1) :
   ptInv m l0 i0 (upF m l) (IntKind.i64.wrap (i.tdiv 2)) out' ∧ (upF m l).length < l.length := by
 obtain ⟨h1, h2, h3, h4, h5⟩ := h
 have hh := upF_half m l
 have h2l : 2 ≤ l.length := by omega
 have ed : i.tdiv 2 = i / 2 := Int.tdiv_eq_ediv_of_nonneg h2
 have e0 : IntKind.i64.wrap (i.tdiv 2) = i.tdiv 2 := w64 (by omega) (by omega)
 refine ⟨⟨?_, ?_, ?_, by omega, ?_⟩, by omega⟩
 · rw [e0, e, List.append_assoc, ← h1]
   congr 1
   conv => rhs; rw [pathL, dif_pos h2l]
 · rw [e0]; omega
 · rw [e0, hh]; omega
 · rw [e, List.length_append]; omega
theorem ptOdd {l : List Int} {i : Int} (h : 0 ≤ i) (h3 : i < (l.length : Int)) (h16 : l.length ≤ 16) (g : (i.tmod 2 == 1) = true) : stepF l i = [(l.getD (IntKind.i64.wrap (i - 1)).toNat (dflt TI), true)] ∧ inRange (IntKind.i64.wrap (i - 1)) l.length := by
 have g : i.tmod 2 = 1 := by simpa using g
 have e : IntKind.i64.wrap (i - 1) = i - 1 := w64 (by omega) (by omega)
 have h1 : 1 ≤ i := by
   by_cases q : i < 1
   · have : i = 0 := by omega
     subst this; simp at g
   · omega
 rw [e]
 refine ⟨by unfold stepF; rw [if_pos g], by omega, by omega⟩
theorem ptEven {l : List Int} {i : Int} (h : 0 ≤ i) (h3 : i < (l.length : Int)) (h16 : l.length ≤ 16) (g : (i.tmod 2 == 1) = false) (g2 : IntKind.i64.wrap (i + 1) < (l.length : Int)) : stepF l i = [(l.getD (IntKind.i64.wrap (i + 1)).toNat (dflt TI), false)] ∧ inRange (IntKind.i64.wrap (i + 1)) l.length := by
 have g : ¬ i.tmod 2 = 1 := by simpa using g
 have e : IntKind.i64.wrap (i + 1) = i + 1 := w64 (by omega) (by omega)
 rw [e] at g2 ⊢
 refine ⟨by unfold stepF; rw [if_neg g, if_pos g2], by omega, g2⟩
theorem ptLast {l : List Int} {i : Int} (h : 0 ≤ i) (h3 : i < (l.length : Int)) (h16 : l.length ≤ 16) (g : (i.tmod 2 == 1) = false) (g2 : ¬ IntKind.i64.wrap (i + 1) < (l.length : Int)) : stepF l i = [] := by
 have g : ¬ i.tmod 2 = 1 := by simpa using g
 have e : IntKind.i64.wrap (i + 1) = i + 1 := w64 (by omega) (by omega)
 rw [e] at g2
 unfold stepF; rw [if_neg g, if_neg g2]
theorem ptA {m i0 i : Int} {l0 l : List Int} {out : List Step1} (h : ptInv m l0 i0 l i out) (g : (l.length : Int) > 1) (g2 : (i.tmod 2 == 1) = true) :
   ptInv m l0 i0 (upF m l) (IntKind.i64.wrap (i.tdiv 2)) (out ++ [(l.getD (IntKind.i64.wrap (i - 1)).toNat (dflt TI), true)]) ∧ (upF m l).length < l.length := by
 have e := (ptOdd h.2.1 h.2.2.1 h.2.2.2.1 g2).1
 exact ptNext h g (by rw [e]) (by rw [e]; simp)
theorem ptB {m i0 i : Int} {l0 l : List Int} {out : List Step1} (h : ptInv m l0 i0 l i out) (g : (l.length : Int) > 1) (g2 : (i.tmod 2 == 1) = false) (g3 : IntKind.i64.wrap (i + 1) < (l.length : Int)) :
   ptInv m l0 i0 (upF m l) (IntKind.i64.wrap (i.tdiv 2)) (out ++ [(l.getD (IntKind.i64.wrap (i + 1)).toNat (dflt TI), false)]) ∧ (upF m l).length < l.length := by
 have e := (ptEven h.2.1 h.2.2.1 h.2.2.2.1 g2 g3).1
 exact ptNext h g (by rw [e]) (by rw [e]; simp)
theorem ptC {m i0 i : Int} {l0 l : List Int} {out : List Step1} (h : ptInv m l0 i0 l i out) (g : (l.length : Int) > 1) (g2 : (i.tmod 2 == 1) = false) (g3 : ¬ IntKind.i64.wrap (i + 1) < (l.length : Int)) :
   ptInv m l0 i0 (upF m l) (IntKind.i64.wrap (i.tdiv 2)) out ∧ (upF m l).length < l.length := by
 have e := ptLast h.2.1 h.2.2.1 h.2.2.2.1 g2 g3
 exact ptNext h g (by rw [e, List.append_nil]) (by rw [e]; simp)
theorem ptLen {m i0 i : Int} {l0 l : List Int} {out : List Step1} (h : ptInv m l0 i0 l i out) : out.length + 1 ≤ maxApp := by
 have := h.2.2.2.2; unfold maxApp; omega
theorem ptSm {m i0 i : Int} {l0 l : List Int} {out : List Step1} (h : ptInv m l0 i0 l i out) : l.length ≤ 1048576 := by have := h.2.2.2.1; omega
theorem ptEnd {m i0 i : Int} {l0 l : List Int} {out : List Step1} (h : ptInv m l0 i0 l i out) (g : ¬ (l.length : Int) > 1) (g0 : 0 ≤ i0 ∧ i0 < (l0.length : Int) ∧ l0.length ≤ 16) : out = pathF m l0 i0 := by
 have e := h.1
 rw [pathL, dif_neg (by omega), List.append_nil] at e
 unfold pathF
 rw [if_pos g0, e]
theorem stepF_len (l : List Int) (i : Int) : (stepF l i).length ≤ 1 := by
 unfold stepF
 split
 · exact Nat.le_refl _
 · split
   · exact Nat.le_refl _
   · exact Nat.zero_le _
theorem pathL_len (m : Int) : ∀ (n : Nat) (l : List Int) (i : Int), l.length ≤ n → (pathL m l i).length ≤ n
 | 0, l, i, h => by rw [pathL, dif_neg (by omega)]; exact Nat.le_refl _
 | n + 1, l, i, h => by
   rw [pathL]
   split
   · rename_i h2
     have := pathL_len m n (upF m l) (i.tdiv 2) (by have := (upF_len m l).2.1 h2; omega)
     have := stepF_len l i
     rw [List.length_append]; omega
   · exact Nat.zero_le _
noncomputable def addRenF (s : Strand) (r : Renewal) : Strand × Bool := if strandF (s.1, s.2 ++ [r]) = true then ((s.1, s.2 ++ [r]), true) else (s, false)
theorem ar0 {s : Strand} {r : Renewal} (h : (!(strandF (s.1, s.2 ++ [r]))) = true) : addRenF s r = (s, false) := by
 unfold addRenF; rw [if_neg (by intro e; rw [e] at h; cases h)]
theorem ar1 {s : Strand} {r : Renewal} (h : (!(strandF (s.1, s.2 ++ [r]))) = false) : addRenF s r = ((s.1, s.2 ++ [r]), true) := by
 unfold addRenF; rw [if_pos (by simpa using h)]
theorem arLen {l : List Renewal} (h : l.length ≤ big20) : l.length + 1 ≤ maxApp := by unfold big20 at h; unfold maxApp; omega
end Fw
namespace Fw
open Go
section
variable {con : Stamp → Stamp → Bool} {st : List Stamp}
end
end Fw
namespace Fw
open Go
abbrev Span := Int × Int
end Fw
namespace Fw
open Go
abbrev Evidence := List Strand × List (List Stamp)
end Fw
namespace Fw
open Go
open Classical in
def pieces (l : List Strand) : Nat := cellsL (fun s => s.1.length) l
end Fw
namespace Fw
open Go
section
variable {α : Type} {p : α → Bool} {l : List α} {i : Int} {d x : α}
end
def stampPieceF (key : Int) (s : Stamp) : Piece := (key, stampIntsF s, s.2.2.2.2)
end Fw
namespace Fw
open Go
theorem foStepE {α β : Type} {f : β → α → β} {z : β} {a : List α} {acc acc' : β} {d : α} {i : Int} (h : foInv f z a acc i) (hl : i < a.length) (hb : a.length ≤ bigLen) (e : acc' = f acc (a.getD i.toNat d)) :
   foInv f z a acc' (IntKind.i64.wrap (i + 1)) ∧ (a.length - (IntKind.i64.wrap (i + 1))).toNat < (a.length - i).toNat := by
 rw [e]; exact foStep h hl hb
end Fw
namespace Fw
open Go
end Fw
namespace Fw
open Go
end Fw
namespace Fw
open Go
end Fw
namespace Fw
open Go
end Fw
namespace Fw
open Go
theorem notT' {a : Bool} (h : (!a) = true) : a = false := by simpa using h
end Fw
namespace Fw
open Go
section
variable {α : Type} {g : α → Bool} {f : α → Int} {d : α} {l : List α} {i m : Int}
end
def validKeyF (n : Int) : Bool := inRangeF n 1 2147483646
def isSigF (x : Sig) : Bool :=
 pick2 (pick2 (pick2 (pick2 (pick2 (pick2 (pick2 (inRangeF x.1 1 99) (inRangeF x.2.1 1 999) false) (inRangeF x.2.2.1 0 99) false) (inRangeF x.2.2.2.2.2.1 0 99) false) (inRangeF x.2.2.2.2.1 1 3) false)
   (inRangeF x.2.2.2.1 0 1000000000000) false) (inRangeF x.2.2.2.2.2.2.1 0 1000000000000) false) (inRangeF x.2.2.2.2.2.2.2.1 0 1000000000000) false
def isMandF (x : Mandate) : Bool := pick2 (pick2 (pick2 (inRangeF x.1 1 99) (inRangeF x.2.1 0 99) false) (inRangeF x.2.2.2.2.1 1 99) false) (isSpanF (x.2.2.1, x.2.2.2.1)) false
def mandIntsF (x : Mandate) : List Int := [105, x.1, x.2.1, x.2.2.1, x.2.2.2.1, x.2.2.2.2.1]
section
variable {f : Frame} {own : Int} {x : Sig}
end
section
variable {f : Frame} {e : Evidence} {docs : List (List Int)} {own : Int} {x : Sig} {us : List Piece} {c : Cert} {s : Span} {b : Int}
end
end Fw
namespace Fw
open Go
end Fw
namespace Fw
open Go
section
variable {α : Type} {p : α → Bool} {l : List α} {b b' : Bool} {k : Int} {d : α}
end
section
variable {α : Type} {q : α → α → Bool} {acc z l : List α} {s : α} {b : Bool}
end
end Fw
namespace Fw
open Go
section
variable {r : Red} {d : Doc} {i : Int}
end
section
variable {m : Int} {r : Red} {acc : List Int} {i a : Int}
end
section
variable {m : Int} {r : Red}
end
end Fw
namespace Fw
open Go
section
variable {f : Frame} {a b : Evidence} {d : Doc} {x : Sig}
end
end Fw
namespace Fw
open Go
section
variable {a b : List Stamp} {i : Int}
end
end Fw
namespace Fw
open Go
abbrev TCur : Ty := .pair (.slice (.int .u8)) (.pair (.int .i64) (.int .i64))
abbrev Cur := El TCur
def curOk (c : Cur) : Prop := (0 : Int) ≤ c.2.1 ∧ List.length c.1 ≤ bigLen
def shr64 (x : Int) (n : Nat) : Int := x.fdiv (2 ^ n)
def and64 (x y : Int) : Int := IntKind.i64.wrap (BitVec.ofInt IntKind.i64.bits x &&& BitVec.ofInt IntKind.i64.bits y).toNat
def xor64 (x y : Int) : Int := IntKind.i64.wrap (BitVec.ofInt IntKind.i64.bits x ^^^ BitVec.ofInt IntKind.i64.bits y).toNat
def curH (c : Cur) : Int := IntKind.i64.wrap (IntKind.i64.wrap (c.2.2 * 6364136223846793005) + 1442695040888963407)
def byteX (h : Int) : Int := and64 (xor64 (shr64 h 33) (shr64 h 47)) 255
def byteRaw (c : Cur) : Int × Cur :=
 cond (decide (c.2.1 < (List.length c.1 : Int)))
   (and64 (IntKind.i64.wrap (byteX (curH c) + IntKind.i64.wrap (c.1.getD c.2.1.toNat (0 : Int)))) 255, (c.1, IntKind.i64.wrap (c.2.1 + 1), curH c))
   (byteX (curH c), (c.1, c.2.1, curH c))
theorem byteEx : ∃ f : Cur → Int × Cur, ∀ c, f c = byteRaw c := ⟨byteRaw, fun _ => rfl⟩
noncomputable def byteF (c : Cur) : Int × Cur := Classical.choose byteEx c
theorem byte_eq (c : Cur) : byteF c = byteRaw c := Classical.choose_spec byteEx c
theorem and64_lt {x : Int} : 0 ≤ and64 x 255 ∧ and64 x 255 < 256 := by
 show 0 ≤ IntKind.i64.wrap (BitVec.ofInt 64 x &&& BitVec.ofInt 64 255).toNat ∧ IntKind.i64.wrap (BitVec.ofInt 64 x &&& BitVec.ofInt 64 255).toNat < 256
 have h : (BitVec.ofInt 64 x &&& BitVec.ofInt 64 255).toNat ≤ 255 := by
   rw [BitVec.toNat_and]
   exact Nat.and_le_right
 have e : IntKind.i64.wrap (((BitVec.ofInt 64 x &&& BitVec.ofInt 64 255).toNat : Nat) : Int) = (((BitVec.ofInt 64 x &&& BitVec.ofInt 64 255).toNat : Nat) : Int) := by
   exact w64 (by omega) (by omega)
 rw [e]; omega
theorem byte_lt (c : Cur) : 0 ≤ (byteF c).1 ∧ (byteF c).1 < 256 := by
 rw [byte_eq]
 unfold byteRaw
 cases decide (c.2.1 < (List.length c.1 : Int)) <;> exact and64_lt
theorem byte_ok {c : Cur} (h : curOk c) : curOk (byteF c).2 := by
 rw [byte_eq]
 obtain ⟨b, (i : Int), (hh : Int)⟩ := c
 obtain ⟨h0, hb⟩ := h
 have h0 : (0 : Int) ≤ i := h0
 have hb : List.length b ≤ bigLen := hb
 cases hd : decide (i < (List.length b : Int)) with
 | true =>
   have h2 := of_decide_eq_true hd
   have e : (byteRaw (b, i, hh)).2 = (b, IntKind.i64.wrap (i + 1), curH (b, i, hh)) := by
     have hd' : decide ((b, i, hh).2.1 < (List.length (b, i, hh).1 : Int)) = true := hd
     unfold byteRaw; rw [hd']; rfl
   rw [e]
   refine ⟨?_, hb⟩
   show (0 : Int) ≤ IntKind.i64.wrap (i + 1)
   unfold bigLen at hb
   rw [w64 (by omega) (by omega)]; omega
 | false =>
   have e : (byteRaw (b, i, hh)).2 = (b, i, curH (b, i, hh)) := by
     have hd' : decide ((b, i, hh).2.1 < (List.length (b, i, hh).1 : Int)) = false := hd
     unfold byteRaw; rw [hd']; rfl
   rw [e]
   exact ⟨h0, hb⟩
theorem tmod_lt {x n : Int} (hx : 0 ≤ x) (hn : 0 < n) : 0 ≤ x.tmod n ∧ x.tmod n < n := by
 rw [Int.tmod_eq_emod_of_nonneg hx]
 exact ⟨Int.emod_nonneg _ (by omega), Int.emod_lt_of_pos _ hn⟩
def bel3 (x y z n : Int) : Int := (IntKind.i64.wrap (IntKind.i64.wrap (IntKind.i64.wrap (x * 65536) + IntKind.i64.wrap (y * 256)) + z)).tmod n
noncomputable def belowRaw (c : Cur) (n : Int) : Int × Cur :=
 cond (decide (n ≤ 0)) (0, c) (cond (decide (n ≤ 256)) ((byteF c).1.tmod n, (byteF c).2)
   (bel3 (byteF c).1 (byteF (byteF c).2).1 (byteF (byteF (byteF c).2).2).1 n, (byteF (byteF (byteF c).2).2).2))
theorem belowEx : ∃ f : Cur → Int → Int × Cur, ∀ c n, f c n = belowRaw c n := ⟨belowRaw, fun _ _ => rfl⟩
noncomputable def belowF (c : Cur) (n : Int) : Int × Cur := Classical.choose belowEx c n
theorem bel_eq (c : Cur) (n : Int) : belowF c n = belowRaw c n := Classical.choose_spec belowEx c n
theorem below_lt {c : Cur} {n : Int} (hn : 0 < n) : 0 ≤ (belowF c n).1 ∧ (belowF c n).1 < n := by
 have h0 : decide (n ≤ 0) = false := decide_eq_false (by omega)
 rw [bel_eq]
 unfold belowRaw
 rw [h0]
 have hx := byte_lt c
 have hy := byte_lt (byteF c).2
 have hz := byte_lt (byteF (byteF c).2).2
 cases decide (n ≤ 256) with
 | true => exact tmod_lt hx.1 hn
 | false =>
   show 0 ≤ bel3 _ _ _ n ∧ bel3 _ _ _ n < n
   unfold bel3
   generalize (byteF c).1 = x at *
   generalize (byteF (byteF c).2).1 = y at *
   generalize (byteF (byteF (byteF c).2).2).1 = z at *
   rw [w64 (x := x * 65536) (by omega) (by omega), w64 (x := y * 256) (by omega) (by omega), w64 (x := x * 65536 + y * 256) (by omega) (by omega), w64 (by omega) (by omega)]
   exact tmod_lt (by omega) hn
theorem below_ok {c : Cur} {n : Int} (h : curOk c) : curOk (belowF c n).2 := by
 rw [bel_eq]
 unfold belowRaw
 cases decide (n ≤ 0) with
 | true => exact h
 | false => cases decide (n ≤ 256) with
   | true => exact byte_ok h
   | false => exact byte_ok (byte_ok (byte_ok h))
noncomputable def onceF (c : Cur) (n : Int) : Bool × Cur := ((belowF c n).1 == 0, (belowF c n).2)
noncomputable def intF (c : Cur) (l : List Int) : Int × Cur := (l.getD (belowF c l.length).1.toNat 0, (belowF c l.length).2)
theorem int_range {c : Cur} {n : Nat} (hn : 0 < n) : inRange (belowF c n).1 n := by
 have := below_lt (c := c) (n := (n : Int)) (by omega)
 exact this
theorem int_ok {c : Cur} {l : List Int} (h : curOk c) : curOk (intF c l).2 := below_ok h
def curNewG (h : Int) (b : Int) : Int := and64 (IntKind.i64.wrap (IntKind.i64.wrap (IntKind.i64.wrap (h * 137) + IntKind.i64.wrap b) + 11)) 1073741823
noncomputable def n4k : Nat := Classical.choose (⟨4000, rfl⟩ : ∃ n : Nat, n = 4000)
theorem n4k_eq : n4k = 4000 := Classical.choose_spec (⟨4000, rfl⟩ : ∃ n : Nat, n = 4000)
noncomputable def curNewF (code : List Int) : Cur := (code, 0, (code.take n4k).foldl curNewG (IntKind.i64.wrap (193017 + (code.length : Int))))
end Fw
namespace Fw
open Go
theorem cT {α : Type} {b : Bool} {x y : α} (h : b = true) : cond b x y = x := by subst h; rfl
theorem cF {α : Type} {b : Bool} {x y : α} (h : b = false) : cond b x y = y := by subst h; rfl
theorem newCur_ok {code : List Int} (h : List.length code ≤ bigLen) : curOk (curNewF code) := ⟨Int.le_refl 0, h⟩
end Fw
namespace Fw
open Go
theorem cnLt {code : List Int} {i : Int} (h : pick2 (decide (i < (code.length : Int))) (decide (i < 4000)) false = true) : i < ((code.take n4k).length : Int) := by
 obtain ⟨h1, h2⟩ : i < (code.length : Int) ∧ i < 4000 := by
   revert h
   unfold pick2
   cases h1 : decide (i < (code.length : Int)) with
   | true => intro h2; exact ⟨of_decide_eq_true h1, of_decide_eq_true h2⟩
   | false => intro h2; cases h2
 rw [List.length_take, n4k_eq]; omega
theorem cnGe {code : List Int} {i : Int} (h : pick2 (decide (i < (code.length : Int))) (decide (i < 4000)) false = false) : ¬ i < ((code.take n4k).length : Int) := by
 intro hl
 rw [List.length_take, n4k_eq] at hl
 have h1 : decide (i < (code.length : Int)) = true := decide_eq_true (by omega)
 have h2 : decide (i < 4000) = true := decide_eq_true (by omega)
 rw [h1, h2] at h; cases h
theorem cnRange {z : Int} {code : List Int} {h i : Int} (hI : foInv curNewG z (code.take n4k) h i) (hl : i < ((code.take n4k).length : Int)) : inRange i code.length := by
 have := foRange hI hl
 obtain ⟨h1, h2⟩ := this
 rw [List.length_take] at h2
 exact ⟨h1, by omega⟩
theorem cnElem {z : Int} {code : List Int} {h i : Int} (hI : foInv curNewG z (code.take n4k) h i) (hl : i < ((code.take n4k).length : Int)) :
   curNewG h (code.getD i.toNat 0) = curNewG h ((code.take n4k).getD i.toNat 0) := by
 obtain ⟨h1, h2⟩ := foRange hI hl
 have hl2 : i.toNat < (code.take n4k).length := by omega
 congr 1
 rw [List.getD_eq_getElem?_getD, List.getD_eq_getElem?_getD, List.getElem?_take_of_lt (by rw [List.length_take] at hl2; omega)]
theorem cnEnd {code : List Int} {h i : Int} (hI : foInv curNewG (IntKind.i64.wrap (193017 + (code.length : Int))) (code.take n4k) h i) (hl : ¬ i < ((code.take n4k).length : Int)) :
   ((code, (0 : Int), h) : Cur) = curNewF code := by
 have := foEnd hI hl
 unfold curNewF
 rw [this]
theorem cnBig (code : List Int) : (code.take n4k).length ≤ bigLen := by
 rw [List.length_take, n4k_eq]; unfold bigLen; omega
end Fw
namespace Fw
open Go
end Fw
namespace Fw
open Go
def keysT : List Key := [(1, 90, 1, 0, 501), (2, 90, 3, 40, 502), (11, 1, 1, 0, 511), (12, 1, 2, 20, 512), (13, 2, 3, 40, 513), (21, 50, 1, 0, 521),
 (31, 81, 1, 0, 531), (32, 82, 2, 20, 532), (33, 83, 3, 40, 533), (34, 84, 4, 60, 534)]
def authsT : List Authority := [(1, 31, 1), (2, 32, 2), (3, 33, 1), (4, 34, 0)]
def isStatusF (x : Status) : Bool := pick2 (pick2 (pick2 (inRangeF x.1 1 999) (isTimeF x.2.1) false) (inRangeF x.2.2.1 (-1) (IntKind.i64.wrap (x.2.1 + 1))) false) (inRangeF x.2.2.2.1 1 99) false
def statusIntsF (x : Status) : List Int := [102, x.1, x.2.1, x.2.2.1, x.2.2.2.1]
def makeStatusF (keys : List Key) (x : Status) : Status × Bool :=
 cond (pick2 (!(isStatusF x)) true (decide (keyI keys x.2.2.2.1 < 0))) ((0, 0, 0, 0, 0), false) ((x.1, x.2.1, x.2.2.1, x.2.2.2.1, markWithF (keyAt keys x.2.2.2.1) (statusIntsF x)), true)
def makeMandF (keys : List Key) (x : Mandate) : Mandate × Bool :=
 cond (pick2 (!(isMandF x)) true (decide (keyI keys x.2.2.2.2.1 < 0))) ((0, 0, 0, 0, 0, 0), false) ((x.1, x.2.1, x.2.2.1, x.2.2.2.1, x.2.2.2.2.1, markWithF (keyAt keys x.2.2.2.2.1) (mandIntsF x)), true)
def signDigestF (keys : List Key) (x : Sig) : Sig × Bool :=
 cond (pick2 (!(isSigF x)) true (decide (keyI keys x.1 < 0))) ((0, 0, 0, 0, 0, 0, 0, 0, 0), false)
   ((x.1, x.2.1, x.2.2.1, x.2.2.2.1, x.2.2.2.2.1, x.2.2.2.2.2.1, x.2.2.2.2.2.2.1, x.2.2.2.2.2.2.2.1, markWithF (keyAt keys x.1) (sigIntsF x)), true)
def issueCertF (keys : List Key) (x : Cert) : Cert × Bool :=
 cond (pick2 (pick2 (!(isCertF x)) true (decide (keyI keys x.2.2.2.2.2.1 < 0))) true (decide (keyI keys x.2.1 < 0))) ((0, 0, 0, 0, 0, 0, 0), false)
   ((x.1, x.2.1, x.2.2.1, x.2.2.2.1, x.2.2.2.2.1, x.2.2.2.2.2.1, markWithF (keyAt keys x.2.2.2.2.2.1) (certIntsF x)), true)
noncomputable def signDocF (keys : List Key) (key serial method : Int) (d : Doc) (commit : Int) : Sig × Bool :=
 signDigestF keys (key, serial, method, docDigF method d, commit, 0, 0, 0, 0)
def certPieceF (x : Cert) : Piece := (x.2.2.2.2.2.1, certIntsF x, x.2.2.2.2.2.2)
def statusPieceF (x : Status) : Piece := (x.2.2.2.1, statusIntsF x, x.2.2.2.2)
def mandPieceF (x : Mandate) : Piece := (x.2.2.2.2.1, mandIntsF x, x.2.2.2.2.2)
def certsT : List Cert := [(issueCertF keysT (1, 11, 1, 0, 60, 1, 0)).1, (issueCertF keysT (2, 12, 1, 20, 100, 1, 0)).1, (issueCertF keysT (3, 13, 2, 40, 150, 2, 0)).1]
theorem orT {a b : Bool} (h : pick2 a true b = false) : a = false ∧ b = false := by cases a <;> cases b <;> first | exact ⟨rfl, rfl⟩ | cases h
theorem sgRange {α : Type} {b : Bool} {l : List α} {p : α → Bool} (h : pick2 b true (decide (findI p l < 0)) = false) : inRange (findI p l) l.length :=
 findRange (of_decide_eq_false (orT h).2)
theorem icRange {α : Type} {b e : Bool} {l : List α} {p : α → Bool} (h : pick2 (pick2 b true (decide (findI p l < 0))) true e = false) : inRange (findI p l) l.length := sgRange (orT h).1
def saltF (seed title : Int) (k : Nat) : Int := max 1 (keyedF seed [title, (k : Int)])
def saltsF (seed title : Int) (n : Nat) : List Int := (List.range n).map (saltF seed title)
theorem salts_succ (seed title : Int) (n : Nat) : saltsF seed title (n + 1) = saltsF seed title n ++ [saltF seed title n] := by
 unfold saltsF; rw [List.range_succ, List.map_append]; rfl
noncomputable def makeDocF (title : Int) (parts : List (List UInt8)) (seed : Int) : Doc × Bool :=
 cond (pick2 (!(docF (title, parts, saltsF seed title parts.length))) true (!(validKeyF seed))) ((0, [], []), false) ((title, parts, saltsF seed title parts.length), true)
def mdInv (title : Int) (parts : List (List UInt8)) (seed : Int) (d : Doc) (i : Int) : Prop := ∃ k : Nat, k ≤ parts.length ∧ i = k ∧ d = (title, parts, saltsF seed title k)
section
variable {title seed i : Int} {parts : List (List UInt8)} {d : Doc}
theorem mdStart : mdInv title parts seed (title, parts, []) 0 := ⟨0, Nat.zero_le _, rfl, rfl⟩
theorem mdLen (h : mdInv title parts seed d i) (hs : parts.length ≤ big20) : List.length d.2.2 + 1 ≤ maxApp := by
 obtain ⟨k, h1, _, rfl⟩ := h
 show (saltsF seed title k).length + 1 ≤ maxApp
 unfold saltsF maxApp; unfold big20 at hs
 rw [List.length_map, List.length_range]; omega
theorem mdStep (h : mdInv title parts seed d i) (hl : i < (parts.length : Int)) (hs : parts.length ≤ big20) {d' : Doc} (e : d' = (d.1, d.2.1, d.2.2 ++ [max 1 (keyedF seed [title, i])])) :
   mdInv title parts seed d' (IntKind.i64.wrap (i + 1)) ∧ ((parts.length : Int) - IntKind.i64.wrap (i + 1)).toNat < ((parts.length : Int) - i).toNat := by
 obtain ⟨k, h1, rfl, rfl⟩ := h
 unfold big20 at hs
 rw [w64 (by omega) (by omega)]
 exact ⟨⟨k + 1, by omega, rfl, by rw [e, salts_succ]; rfl⟩, by omega⟩
theorem mdEnd (h : mdInv title parts seed d i) (hl : ¬ i < (parts.length : Int)) : d = (title, parts, saltsF seed title parts.length) := by
 obtain ⟨k, h1, rfl, rfl⟩ := h
 have : k = parts.length := by omega
 rw [this]
theorem md0 (h : mdInv title parts seed d i) (hl : ¬ i < (parts.length : Int)) (g : pick2 (!(docF d)) true (!(validKeyF seed)) = true) : makeDocF title parts seed = ((0, [], []), false) := by
 rw [mdEnd h hl] at g; exact cT g
theorem md1 (h : mdInv title parts seed d i) (hl : ¬ i < (parts.length : Int)) (g : pick2 (!(docF d)) true (!(validKeyF seed)) = false) : makeDocF title parts seed = (d, true) := by
 rw [mdEnd h hl] at *; exact cF g
end
def itF {σ : Type} (S : σ → σ) : Nat → σ → σ
 | 0, s => s
 | k + 1, s => S (itF S k s)
def dnInv {σ : Type} (S : σ → σ) (s0 : σ) (n : Int) (s : σ) (i : Int) : Prop := ∃ k : Nat, s = itF S k s0 ∧ i = n - k ∧ (k = 0 ∨ (k : Int) ≤ n) ∧ 0 ≤ n ∧ n ≤ 1000000
section
variable {σ : Type} {S : σ → σ} {s0 s : σ} {n i : Int}
theorem dnStart (h : 0 ≤ n ∧ n ≤ 1000000) : dnInv S s0 n s0 n := ⟨0, rfl, by omega, .inl rfl, h.1, h.2⟩
theorem dnStep (h : dnInv S s0 n s i) (hl : i > 0) : dnInv S s0 n (S s) (IntKind.i64.wrap (i - 1)) ∧ (IntKind.i64.wrap (i - 1)).toNat < i.toNat := by
 obtain ⟨k, rfl, rfl, h1, h2, h3⟩ := h
 rw [w64 (by omega) (by omega)]
 exact ⟨⟨k + 1, rfl, by omega, .inr (by omega), h2, h3⟩, by omega⟩
theorem dnEnd (h : dnInv S s0 n s i) (hl : ¬ i > 0) : s = itF S n.toNat s0 := by
 obtain ⟨k, rfl, rfl, h1, h2, h3⟩ := h
 have : k = n.toNat := by omega
 rw [this]
theorem dnAll (P : σ → Nat → Prop) (h0 : P s0 0) (hS : ∀ s k, P s k → P (S s) (k + 1)) : ∀ k, P (itF S k s0) k
 | 0 => h0
 | k + 1 => hS _ _ (dnAll P h0 hS k)
theorem dnP (P : σ → Nat → Prop) (h0 : P s0 0) (hS : ∀ s k, P s k → P (S s) (k + 1)) (h : dnInv S s0 n s i) : ∃ k : Nat, (k : Int) ≤ n ∧ P s k := by
 obtain ⟨k, rfl, rfl, h1, h2, h3⟩ := h
 exact ⟨k, by omega, dnAll P h0 hS k⟩
end
noncomputable def strF (c : Cur) (l : List (List UInt8)) : List UInt8 × Cur := (l.getD (belowF c l.length).1.toNat [], (belowF c l.length).2)
def textsT : List (List UInt8) := [[], [97], [98], [97, 98], [121, 101, 115], [110, 111], [111, 110, 101, 32, 104, 117, 110, 100, 114, 101, 100]]
noncomputable def wordF (c : Cur) : List UInt8 × Cur := strF c textsT
theorem str_mem {c : Cur} {l : List (List UInt8)} (hl : 0 < l.length) : (strF c l).1 ∈ l := by
 have := below_lt (c := c) (n := (l.length : Int)) (by omega)
 show l.getD (belowF c l.length).1.toNat [] ∈ l
 rw [List.getD_eq_getElem?_getD, List.getElem?_eq_getElem (by omega)]
 exact List.getElem_mem _
theorem text_len (c : Cur) : (wordF c).1.length ≤ 11 := by
 have h := str_mem (c := c) (l := textsT) (by decide)
 have key : ∀ s ∈ textsT, s.length ≤ 11 := by decide
 exact key _ h
theorem text_ok {c : Cur} (h : curOk c) : curOk (wordF c).2 := below_ok h
noncomputable def partS (s : Cur × List (List UInt8)) : Cur × List (List UInt8) := ((wordF s.1).2, s.2 ++ [(wordF s.1).1])
noncomputable def partsD (c : Cur) : Cur × List (List UInt8) := itF partS (IntKind.i64.wrap (1 + (belowF c 3).1)).toNat ((belowF c 3).2, [])
noncomputable def docD (c : Cur) : Doc × Cur := ((makeDocF (belowF (partsD c).1 5).1 (partsD c).2 11).1, (belowF (partsD c).1 5).2)
def partP (s : Cur × List (List UInt8)) (k : Nat) : Prop := curOk s.1 ∧ s.2.length = k ∧ ∀ x ∈ s.2, x.length ≤ 11
theorem partS_P (s : Cur × List (List UInt8)) (k : Nat) (h : partP s k) : partP (partS s) (k + 1) := by
 obtain ⟨h1, h2, h3⟩ := h
 refine ⟨text_ok h1, by show (s.2 ++ [_]).length = _; rw [List.length_append, h2]; rfl, fun x hx => ?_⟩
 rcases List.mem_append.1 hx with hx | hx
 · exact h3 x hx
 · rw [List.mem_singleton.1 hx]; exact text_len _
theorem bel3n (c : Cur) : 0 ≤ IntKind.i64.wrap (1 + (belowF c 3).1) ∧ IntKind.i64.wrap (1 + (belowF c 3).1) ≤ 1000000 ∧ 1 ≤ (IntKind.i64.wrap (1 + (belowF c 3).1)).toNat ∧ (IntKind.i64.wrap (1 + (belowF c 3).1)).toNat ≤ 3 := by
 have h := below_lt (c := c) (n := 3) (by decide)
 generalize (belowF c 3).1 = x at *
 rw [w64 (by omega) (by omega)]; omega
theorem parts_P {c : Cur} (h : curOk c) : partP (partsD c) (IntKind.i64.wrap (1 + (belowF c 3).1)).toNat :=
 dnAll partP ⟨below_ok h, rfl, by simp⟩ partS_P _
theorem docD_ok {c : Cur} (h : curOk c) : curOk (docD c).2 := below_ok (parts_P h).1
theorem tmod_up {x n : Int} (hn : 0 < n) : x.tmod n < n := Int.tmod_lt_of_pos x hn
theorem hstep_lt (h v : Int) : hstep h v < 2147483647 := by unfold hstep; exact tmod_up (by decide)
theorem hash_lt (l : List Int) (h : l ≠ []) : hashF l < 2147483647 := by
 unfold hashF
 obtain ⟨a, b, rfl⟩ : ∃ a b, l = a ++ [b] := ⟨l.dropLast, l.getLast h, (List.dropLast_concat_getLast h).symm⟩
 rw [List.foldl_append]; exact hstep_lt _ _
theorem keyed_lt (k : Int) (l : List Int) : keyedF k l < 2147483647 := hash_lt _ (by simp)
theorem modF_range (v : Int) : 0 ≤ modF v 2147483647 ∧ modF v 2147483647 < 2147483647 := by
 have e : modF v 2147483647 = (IntKind.i64.wrap (v.tmod 2147483647 + 2147483647)).tmod 2147483647 := if_pos (by decide)
 rw [e]
 have h1 := Int.tmod_lt_of_pos v (show (0 : Int) < 2147483647 by decide)
 have h2 : -2147483647 < v.tmod 2147483647 := by
   have := Int.tmod_lt_of_pos (-v) (show (0 : Int) < 2147483647 by decide)
   rw [Int.neg_tmod] at this; omega
 rw [w64 (by omega) (by omega)]
 exact tmod_lt (by omega) (by decide)
theorem hstep_range {h v : Int} (h0 : 0 ≤ h) (h1 : h < 2147483647) : 0 ≤ hstep h v := by
 unfold hstep
 have hm := modF_range v
 generalize modF v 2147483647 = m at *
 rw [w64 (x := h * 1000003) (by omega) (by omega), w64 (x := h * 1000003 + m) (by omega) (by omega), w64 (by omega) (by omega)]
 exact (tmod_lt (by omega) (by decide)).1
theorem hash_range (l : List Int) : 0 ≤ hashF l ∧ hashF l < 2147483647 := by
 unfold hashF
 have key : ∀ (l : List Int) (h : Int), 0 ≤ h → h < 2147483647 → 0 ≤ l.foldl hstep h ∧ l.foldl hstep h < 2147483647 := by
   intro l
   induction l with
   | nil => intro h h0 h1; exact ⟨h0, h1⟩
   | cons a l ih => intro h h0 h1; exact ih _ (hstep_range h0 h1) (hstep_lt _ _)
 exact key l 11 (by decide) (by decide)
theorem inR_iff {a b c : Int} : inRangeF a b c = true ↔ b ≤ a ∧ a ≤ c := by
 unfold inRangeF pick2
 by_cases h1 : b ≤ a <;> by_cases h2 : a ≤ c <;> simp_all
theorem docD_doc {c : Cur} (h : curOk c) : docF (docD c).1 = true := by
 have hp := parts_P h
 obtain ⟨h1, h2, h3⟩ := hp
 have hn := bel3n c
 have ht := below_lt (c := (partsD c).1) (n := 5) (by decide)
 have hd : docF ((belowF (partsD c).1 5).1, (partsD c).2, saltsF 11 (belowF (partsD c).1 5).1 (partsD c).2.length) = true := by
   refine boolC_iff.2 ⟨inR_iff.2 ⟨ht.1, ?_⟩, inR_iff.2 ⟨?_, ?_⟩, ?_, fun k hk => ?_, fun k hk => ?_⟩
   · have := ht.2; show (belowF (partsD c).1 5).1 ≤ 999; omega
   · show (1 : Int) ≤ ((partsD c).2.length : Int); omega
   · show ((partsD c).2.length : Int) ≤ 6; omega
   · show (saltsF 11 _ (partsD c).2.length).length = (partsD c).2.length
     unfold saltsF; rw [List.length_map, List.length_range]
   · have hk : k < (partsD c).2.length := hk
     have := h3 (List.getD (partsD c).2 k (dflt .str)) (by rw [List.getD_eq_getElem?_getD, List.getElem?_eq_getElem hk]; exact List.getElem_mem _)
     show ((List.getD (partsD c).2 k (dflt .str)).length : Int) ≤ 40
     omega
   · have hk : k < (saltsF 11 (belowF (partsD c).1 5).1 (partsD c).2.length).length := hk
     have hm : List.getD (saltsF 11 (belowF (partsD c).1 5).1 (partsD c).2.length) k (dflt (.int .i64)) ∈ saltsF 11 (belowF (partsD c).1 5).1 (partsD c).2.length := by
       rw [List.getD_eq_getElem?_getD, List.getElem?_eq_getElem hk]; exact List.getElem_mem _
     obtain ⟨j, _, hj⟩ := List.mem_map.1 hm
     show inRangeF (List.getD (saltsF 11 _ _) k (dflt (.int .i64))) 1 1000000000000 = true
     rw [← hj]
     have := keyed_lt 11 [(belowF (partsD c).1 5).1, (j : Int)]
     refine inR_iff.2 ⟨?_, ?_⟩ <;> (unfold saltF; omega)
 have e : (docD c).1 = ((belowF (partsD c).1 5).1, (partsD c).2, saltsF 11 (belowF (partsD c).1 5).1 (partsD c).2.length) := by
   show (makeDocF _ _ 11).1 = _
   unfold makeDocF
   rw [hd]; rfl
 rw [e]; exact hd
theorem docD_leaf {c c2 : Cur} {acc : List (List UInt8)} (hE : (c2, acc) = itF partS (IntKind.i64.wrap (1 + (belowF c 3).1)).toNat ((belowF c 3).2, [])) :
   docD c = ((makeDocF (belowF c2 5).1 acc 11).1, (belowF c2 5).2) := by
 unfold docD partsD
 rw [← hE]
theorem dnApp {α : Type} {l : List α} {k : Nat} {n : Int} (h : l.length = k) (hk : (k : Int) ≤ n) (hn : n ≤ 1000000) : l.length + 1 ≤ maxApp := by
 unfold maxApp; omega
theorem dnBig {α : Type} {l : List α} {k : Nat} {n : Int} (h : l.length = k) (hk : (k : Int) ≤ n) (hn : n ≤ 1000000) : l.length ≤ big20 := by
 unfold big20; omega
end Fw
namespace Fw
open Go
section
variable {n B : Nat} {X : List Nat} {w0 : World} {M0 M : Mem} {ω : Own} {ρ : Env} {tmps tmps' : Array Value} {w w' : World} {P : Program} {C : Ctx}
end
section
variable {G : Cfg} {ρ : Env} {K : Exit → Env → Prop}
theorem CtxOk.pinned {P : Program} {C : Ctx} (h : CtxOk P C) (F : List Nat) : CtxOk P { C with pins := F } := ⟨h.eq, h.ty, h.flds, h.fnM, h.fnT, h.fnK, h.fnP⟩
end
end Fw
namespace Fw
open Go
section
variable {G : Cfg} {ρ : Env} {K : Exit → Env → Prop}
theorem Vc.frz {c : Code} (j : Nat) {a' : A} (h : froz (ρ.get j).a = some a') (hK : Vc G c (ρ.puts [⟨j, true, a'⟩]) K) : Vc G c ρ K := by
 intro a w hd ⟨⟨M, ω, S⟩, hpn⟩
 have hj : j < G.C.n := by
   rcases Nat.lt_or_ge j G.C.n with h' | h'
   · exact h'
   · rw [S.high j h'] at h; cases h
 exact hK a w hd ⟨⟨_, _, (freeze_ok S hj h).1⟩, hpn⟩
end
end Fw
namespace Fw
open Go
theorem belN {c : Cur} {n : Int} (hn : 0 < n) (hs : n ≤ 1000000) : 0 ≤ (belowF c n).1 ∧ (belowF c n).1 ≤ 1000000 := by
 have := below_lt (c := c) hn; omega
noncomputable def stampD (c : Cur) : Stamp × Cur :=
 ((makeStampF keysT authsT (IntKind.i64.wrap (1 + (belowF c 4).1), (belowF (belowF c 4).2 9).1, (belowF (belowF (belowF c 4).2 9).2 60).1, (belowF (belowF (belowF (belowF c 4).2 9).2 60).2 99).1, 0)).1,
   (belowF (belowF (belowF (belowF c 4).2 9).2 60).2 99).2)
noncomputable def dst1 (c : Cur) : Int × Cur := belowF c 60
noncomputable def dst2 (c : Cur) : Int × Cur := belowF (dst1 c).2 3
noncomputable def dst3 (c : Cur) : Int × Cur := belowF (dst2 c).2 2
noncomputable def dst4 (c : Cur) : Bool × Cur := onceF (dst3 c).2 3
noncomputable def dst5 (c : Cur) : Int × Cur := belowF (dst4 c).2 (IntKind.i64.wrap ((dst1 c).1 + 2))
noncomputable def statD (c : Cur) : Status × Cur :=
 cond (dst4 c).1 ((makeStatusF keysT (IntKind.i64.wrap (1 + (dst2 c).1), (dst1 c).1, (dst5 c).1, IntKind.i64.wrap (1 + (dst3 c).1), 0)).1, (dst5 c).2)
   ((makeStatusF keysT (IntKind.i64.wrap (1 + (dst2 c).1), (dst1 c).1, -1, IntKind.i64.wrap (1 + (dst3 c).1), 0)).1, (dst4 c).2)
noncomputable def mandD (c : Cur) : Mandate × Cur :=
 ((makeMandF keysT (50, IntKind.i64.wrap (1 + (belowF (belowF c 40).2 2).1), (belowF c 40).1, IntKind.i64.wrap ((belowF c 40).1 + (belowF (belowF (belowF c 40).2 2).2 30).1), 21, 0)).1, (belowF (belowF (belowF c 40).2 2).2 30).2)
noncomputable def gn1 (c : Cur) : Int × Cur := belowF (docD c).2 3
noncomputable def gn2 (c : Cur) : Int × Cur := belowF (gn1 c).2 3
noncomputable def signD (c : Cur) : (Sig × Doc) × Cur :=
 (((signDocF keysT (IntKind.i64.wrap (11 + (gn1 c).1)) (IntKind.i64.wrap (1 + (gn1 c).1)) (IntKind.i64.wrap (1 + (gn1 c).1)) (docD c).1 (IntKind.i64.wrap (1 + (gn2 c).1))).1, (docD c).1), (gn2 c).2)
theorem once_ok {c : Cur} {n : Int} (h : curOk c) : curOk (onceF c n).2 := below_ok h
theorem stampD_ok {c : Cur} (h : curOk c) : curOk (stampD c).2 := below_ok (below_ok (below_ok (below_ok h)))
theorem dst4_ok {c : Cur} (h : curOk c) : curOk (dst4 c).2 := below_ok (below_ok (below_ok (below_ok h)))
theorem statD_ok {c : Cur} (h : curOk c) : curOk (statD c).2 := by
 unfold statD
 cases (dst4 c).1 with
 | true => exact below_ok (dst4_ok h)
 | false => exact dst4_ok h
theorem mandD_ok {c : Cur} (h : curOk c) : curOk (mandD c).2 := below_ok (below_ok (below_ok h))
theorem signD_ok {c : Cur} (h : curOk c) : curOk (signD c).2 := below_ok (below_ok (docD_ok h))
theorem gn1_lt (c : Cur) : 0 ≤ (gn1 c).1 ∧ (gn1 c).1 < 3 := below_lt (by decide)
theorem docDig_range {m : Int} {d : Doc} (h : docF d = true) : 0 ≤ docDigF m d ∧ docDigF m d ≤ 1000000000000 := by
 unfold docDigF
 rw [if_pos h, digest_eq]
 have := hash_range ([7, m] ++ ([d.1] ++ (List.range d.2.1.length).flatMap (docG m d)))
 omega
theorem andTT {a b : Bool} (h1 : a = true) (h2 : b = true) : pick2 a b false = true := by subst h1; subst h2; rfl
theorem signDoc_ok {n k : Int} {d : Doc} (hd : docF d = true) (hn : 0 ≤ n ∧ n < 3) (hk : 0 ≤ k ∧ k < 3) :
   (signDocF keysT (IntKind.i64.wrap (11 + n)) (IntKind.i64.wrap (1 + n)) (IntKind.i64.wrap (1 + n)) d (IntKind.i64.wrap (1 + k))).1.2.1 = 1 + n := by
 rw [w64 (x := 11 + n) (by omega) (by omega), w64 (x := 1 + n) (by omega) (by omega), w64 (x := 1 + k) (by omega) (by omega)]
 have hg := docDig_range (m := 1 + n) hd
 have hs : isSigF (11 + n, 1 + n, 1 + n, docDigF (1 + n) d, 1 + k, 0, 0, 0, 0) = true := by
   unfold isSigF
   refine andTT (andTT (andTT (andTT (andTT (andTT (andTT ?_ ?_) ?_) ?_) ?_) ?_) ?_) ?_ <;> refine inR_iff.2 ⟨?_, ?_⟩ <;> first | exact hg.1 | exact hg.2 | (show (0 : Int) ≤ _; decide) | (show (_ : Int) ≤ _; simp only []; omega)
 have hf : ¬ keyI keysT (11 + n) < 0 := by
   have h3 : n = 0 ∨ n = 1 ∨ n = 2 := by omega
   rcases h3 with rfl | rfl | rfl <;> decide
 unfold signDocF signDigestF
 rw [cF (by rw [hs]; exact decide_eq_false hf)]
theorem signD_serial {c : Cur} (h : curOk c) : (signD c).1.1.2.1 = 1 + (gn1 c).1 :=
 signDoc_ok (docD_doc h) (gn1_lt c) (below_lt (by decide))
theorem signD_idx {c : Cur} (h : curOk c) : inRange (IntKind.i64.wrap ((signD c).1.1.2.1 - 1)) (List.length certsT) := by
 rw [signD_serial h]
 have := gn1_lt c
 rw [w64 (by omega) (by omega)]
 show inRange _ 3
 exact ⟨by omega, by omega⟩
def certAt (n : Int) : Cert := certsT.getD n.toNat (dflt (.pair TI (.pair TI (.pair TI (.pair TI (.pair TI (.pair TI TI)))))))
noncomputable def pieceD (c : Cur) : Piece × Cur :=
 cond ((belowF c 5).1 == 0) (certPieceF (certAt (belowF (belowF c 5).2 3).1), (belowF (belowF c 5).2 3).2)
   (cond ((belowF c 5).1 == 1) (statusPieceF (statD (belowF c 5).2).1, (statD (belowF c 5).2).2)
     (cond ((belowF c 5).1 == 2) (stampPieceF (stampKeyF authsT (stampD (belowF c 5).2).1) (stampD (belowF c 5).2).1, (stampD (belowF c 5).2).2)
       (cond ((belowF c 5).1 == 3) (signPieceF (signD (belowF c 5).2).1.1, (signD (belowF c 5).2).2)
         (mandPieceF (mandD (belowF c 5).2).1, (mandD (belowF c 5).2).2))))
theorem pieceD_ok {c : Cur} (h : curOk c) : curOk (pieceD c).2 := by
 have hb := below_ok (n := 5) h
 unfold pieceD
 cases (belowF c 5).1 == 0 with
 | true => exact below_ok hb
 | false => cases (belowF c 5).1 == 1 with
   | true => exact statD_ok hb
   | false => cases (belowF c 5).1 == 2 with
     | true => exact stampD_ok hb
     | false => cases (belowF c 5).1 == 3 with
       | true => exact signD_ok hb
       | false => exact mandD_ok hb
theorem pcSm {k m : Int} {l : List Int} (h : l.length ≤ 9) : Sm big20 TPiece (k, l, m) := ⟨trivial, ⟨Nat.le_trans h (by decide), fun _ _ => trivial⟩, trivial⟩
theorem signPiece_sm (x : Sig) : Sm big20 TPiece (signPieceF x) := pcSm (Nat.le_of_ble_eq_true rfl)
theorem certPiece_sm (x : Cert) : Sm big20 TPiece (certPieceF x) := pcSm (Nat.le_of_ble_eq_true rfl)
theorem statPiece_sm (x : Status) : Sm big20 TPiece (statusPieceF x) := pcSm (Nat.le_of_ble_eq_true rfl)
theorem stampPiece_sm (k : Int) (x : Stamp) : Sm big20 TPiece (stampPieceF k x) := pcSm (Nat.le_of_ble_eq_true rfl)
theorem mandPiece_sm (x : Mandate) : Sm big20 TPiece (mandPieceF x) := pcSm (Nat.le_of_ble_eq_true rfl)
theorem pieceD_sm (c : Cur) : Sm big20 TPiece (pieceD c).1 := by
 unfold pieceD
 cases (belowF c 5).1 == 0 with
 | true => exact certPiece_sm _
 | false => cases (belowF c 5).1 == 1 with
   | true => exact statPiece_sm _
   | false => cases (belowF c 5).1 == 2 with
     | true => exact stampPiece_sm _ _
     | false => cases (belowF c 5).1 == 3 with
       | true => exact signPiece_sm _
       | false => exact mandPiece_sm _
theorem addPiece_sm {s : Strand} {p : Piece} (hs : Sm big20 TStrand s) (hp : Sm big20 TPiece p) : Sm big20 TStrand (addPieceF s p).1 := by
 unfold addPieceF
 split
 · rename_i h
   have h1 := (boolC_iff.1 h).1
   have h2 := (inR_iff.1 h1).2
   refine ⟨⟨?_, fun x hx => ?_⟩, hs.2⟩
   · show (s.1 ++ [p]).length ≤ big20
     have h2 : (((s.1 ++ [p]).length : Nat) : Int) ≤ 12 := h2
     unfold big20; omega
   · rcases List.mem_append.1 hx with hx | hx
     · exact hs.1.2 x hx
     · rw [List.mem_singleton.1 hx]; exact hp
 · exact hs
theorem addRen_sm {s : Strand} {r : Renewal} (hs : Sm big20 TStrand s) (hr : Sm big20 TRen r) : Sm big20 TStrand (addRenF s r).1 := by
 unfold addRenF
 split
 · rename_i h
   have h1 := (boolC_iff.1 h).2.1
   refine ⟨hs.1, ⟨?_, fun x hx => ?_⟩⟩
   · show (s.2 ++ [r]).length ≤ big20
     have h1 : (((s.2 ++ [r]).length : Nat) : Int) ≤ 8 := h1
     unfold big20; omega
   · rcases List.mem_append.1 hx with hx | hx
     · exact hs.2.2 x hx
     · rw [List.mem_singleton.1 hx]; exact hr
 · exact hs
noncomputable def sg1 (c : Cur) : (Sig × Doc) × Cur := signD c
noncomputable def sgCert (c : Cur) : Cert := certAt (IntKind.i64.wrap ((sg1 c).1.1.2.1 - 1))
noncomputable def sgS (c : Cur) : Strand := ([signPieceF (sg1 c).1.1, certPieceF (sgCert c)], [])
noncomputable def sg2 (c : Cur) : Int × Cur := intF (sg1 c).2 [10, 30, 60, 90]
noncomputable def sgA (c : Cur) : Status := (makeStatusF keysT ((sg1 c).1.1.2.1, (sg2 c).1, -1, (sgCert c).2.2.2.2.2.1, 0)).1
noncomputable def sg3 (c : Cur) : Bool × Cur := onceF (sg2 c).2 4
noncomputable def sg4 (c : Cur) : Bool × Cur := onceF (sg3 c).2 4
noncomputable def sgT (c : Cur) (s : Strand) : (Strand × Doc × Sig) × Cur :=
 cond (sg4 c).1 (((addPieceF s (pieceD (sg4 c).2).1).1, (sg1 c).1.2, (sg1 c).1.1), (pieceD (sg4 c).2).2) ((s, (sg1 c).1.2, (sg1 c).1.1), (sg4 c).2)
noncomputable def signedRaw (c : Cur) : (Strand × Doc × Sig) × Cur := cond (!(sg3 c).1) (sgT c (addPieceF (sgS c) (statusPieceF (sgA c))).1) (sgT c (sgS c))
theorem signedEx : ∃ f : Cur → (Strand × Doc × Sig) × Cur, ∀ c, f c = signedRaw c := ⟨signedRaw, fun _ => rfl⟩
noncomputable def signedD (c : Cur) : (Strand × Doc × Sig) × Cur := Classical.choose signedEx c
theorem signed_eq (c : Cur) : signedD c = signedRaw c := Classical.choose_spec signedEx c
theorem sg2_ok {c : Cur} (h : curOk c) : curOk (sg2 c).2 := int_ok (signD_ok h)
theorem sg3_ok {c : Cur} (h : curOk c) : curOk (sg3 c).2 := once_ok (sg2_ok h)
theorem sg4_ok {c : Cur} (h : curOk c) : curOk (sg4 c).2 := once_ok (sg3_ok h)
theorem sgS_sm (c : Cur) : Sm big20 TStrand (sgS c) := by
 refine ⟨⟨Nat.le_of_ble_eq_true rfl, fun x hx => ?_⟩, ⟨Nat.zero_le _, fun x hx => by simp [sgS] at hx⟩⟩
 have hx : x ∈ [signPieceF (sg1 c).1.1, certPieceF (sgCert c)] := hx
 rcases List.mem_cons.1 hx with rfl | hx
 · exact signPiece_sm _
 · rw [List.mem_singleton.1 hx]; exact certPiece_sm _
theorem sgS2_sm (c : Cur) : Sm big20 TStrand (addPieceF (sgS c) (statusPieceF (sgA c))).1 := addPiece_sm (sgS_sm c) (statPiece_sm _)
def sgP (x : (Strand × Doc × Sig) × Cur) : Prop := Sm big20 TStrand x.1.1 ∧ curOk x.2
theorem sgT_P {c : Cur} {s : Strand} (h : curOk c) (hs : Sm big20 TStrand s) : sgP (sgT c s) := by
 unfold sgT
 cases (sg4 c).1 with
 | true => exact ⟨addPiece_sm hs (pieceD_sm _), pieceD_ok (sg4_ok h)⟩
 | false => exact ⟨hs, sg4_ok h⟩
theorem signed_P {c : Cur} (h : curOk c) : sgP (signedD c) := by
 rw [signed_eq]
 unfold signedRaw
 cases (sg3 c).1 with
 | true => exact sgT_P h (sgS_sm c)
 | false => exact sgT_P h (sgS2_sm c)
noncomputable def leafS (s : Cur × List Int) : Cur × List Int := ((belowF s.1 99).2, s.2 ++ [(belowF s.1 99).1])
noncomputable def leavesC (c : Cur) (most : Int) : Cur × List Int := itF leafS (belowF c most).1.toNat ((belowF c most).2, [])
noncomputable def leavesD (c : Cur) (most : Int) : List Int × Cur := ((leavesC c most).2, (leavesC c most).1)
def leafP (s : Cur × List Int) (k : Nat) : Prop := curOk s.1 ∧ s.2.length = k
theorem leafS_P (s : Cur × List Int) (k : Nat) (h : leafP s k) : leafP (leafS s) (k + 1) :=
 ⟨below_ok h.1, by show (s.2 ++ [_]).length = _; rw [List.length_append, h.2]; rfl⟩
theorem leaves_P {c : Cur} {most : Int} (h : curOk c) : leafP (leavesC c most) (belowF c most).1.toNat := dnAll leafP ⟨below_ok h, rfl⟩ leafS_P _
theorem leaves_ok {c : Cur} {most : Int} (h : curOk c) : curOk (leavesD c most).2 := (leaves_P h).1
theorem leaves_len {c : Cur} {most : Int} (h : curOk c) (hm : 0 < most ∧ most ≤ 1000) : (leavesD c most).1.length ≤ 1000 := by
 have h1 : (leavesC c most).2.length = _ := (leaves_P (most := most) h).2
 have := below_lt (c := c) hm.1
 show (leavesC c most).2.length ≤ 1000
 rw [h1]; omega
theorem leaves_leaf {c c2 : Cur} {acc : List Int} {most : Int} (hE : (c2, acc) = itF leafS (belowF c most).1.toNat ((belowF c most).2, [])) : leavesD c most = (acc, c2) := by
 unfold leavesD leavesC
 rw [← hE]
def rmList (others : List Int) (leaf : Int) : List Int := ([] ++ others) ++ [leaf]
noncomputable def rmBase (m leaf : Int) (others : List Int) (count : Int) (acc : List Stamp) : Renewal :=
 (count, m, treeF m (rmList others leaf), pathF m (rmList others leaf) (IntKind.i64.wrap (((rmList others leaf).length : Int) - 1)), acc)
noncomputable def rmG (keys : List Key) (l : List Authority) (m leaf : Int) (others : List Int) (seq t : Int) (id : Int) : Stamp × Bool := makeStampF keys l (id, seq, t, treeF m (rmList others leaf), 0)
noncomputable def renMakeF (keys : List Key) (l : List Authority) (m leaf : Int) (others : List Int) (count : Int) (ids : List Int) (seq t : Int) : Renewal :=
 rmBase m leaf others count (pickF (rmG keys l m leaf others seq t) ids)
theorem pathF_len16 (m : Int) (l : List Int) (i : Int) : (pathF m l i).length ≤ 16 := by
 unfold pathF
 split
 · rename_i h; exact pathL_len m 16 l i h.2.2
 · exact Nat.zero_le _
theorem renMake_sm {keys : List Key} {l : List Authority} {m leaf : Int} {others : List Int} {count : Int} {ids : List Int} {seq t : Int} (h : ids.length ≤ 1000) : Sm big20 TRen (renMakeF keys l m leaf others count ids seq t) := by
 refine ⟨trivial, trivial, trivial, ⟨Nat.le_trans (pathF_len16 _ _ _) (by decide), fun _ _ => ⟨trivial, trivial⟩⟩, ⟨?_, fun _ _ => ⟨trivial, trivial, trivial, trivial, trivial⟩⟩⟩
 exact Nat.le_trans (pick_len _ _) (Nat.le_trans h (by decide))
def renQ (s : Strand) (m : Int) : Renewal := ((s.1.length : Int), m, 0, [], [])
theorem renQ_sm (s : Strand) (m : Int) : Sm big20 TRen (renQ s m) := ⟨trivial, trivial, trivial, ⟨Nat.zero_le _, fun _ h => by simp [renQ] at h⟩, ⟨Nat.zero_le _, fun _ h => by simp [renQ] at h⟩⟩
noncomputable def longF (s : Strand) (m : Int) : Strand × Bool := addRenF s (renQ s m)
noncomputable def leafR (s : Strand) (d : Doc) (m : Int) : Int := leafAtF (longF s m).1 (docDigsF (longF s m).1 d) (IntKind.i64.wrap (((longF s m).1.2.length : Int) - 1))
noncomputable def renNew (c : Cur) (s : Strand) (d : Doc) (m t : Int) (ids : List Int) : Renewal :=
 renMakeF keysT authsT m (leafR s d m) (leavesD c 4).1 (s.1.length : Int) ids (belowF (leavesD c 4).2 9).1 t
noncomputable def renTail (c : Cur) (s : Strand) (d : Doc) (m t : Int) (ids : List Int) : Strand × Cur := ((addRenF s (renNew c s d m t ids)).1, (belowF (leavesD c 4).2 9).2)
noncomputable def renewRaw (c : Cur) (s : Strand) (d : Doc) (m t : Int) : Strand × Cur :=
 cond (!(longF s m).2) (s, c) (cond (onceF c 3).1 (renTail (onceF c 3).2 s d m t [1, 3, 4]) (renTail (onceF c 3).2 s d m t [1, 2, 3, 4]))
theorem renewEx : ∃ f : Cur → Strand → Doc → Int → Int → Strand × Cur, ∀ c s d m t, f c s d m t = renewRaw c s d m t := ⟨renewRaw, fun _ _ _ _ _ => rfl⟩
noncomputable def renewD (c : Cur) (s : Strand) (d : Doc) (m t : Int) : Strand × Cur := Classical.choose renewEx c s d m t
theorem renew_eq (c : Cur) (s : Strand) (d : Doc) (m t : Int) : renewD c s d m t = renewRaw c s d m t := Classical.choose_spec renewEx c s d m t
theorem long_sm {s : Strand} {m : Int} (h : Sm big20 TStrand s) : Sm big20 TStrand (longF s m).1 := addRen_sm h (renQ_sm s m)
theorem long_len {s : Strand} {m : Int} (h : Sm big20 TStrand s) : List.length (longF s m).1.2 ≤ 2000000 := Nat.le_trans (long_sm h).2.1 (by decide)
theorem renNew_sm {c : Cur} {s : Strand} {d : Doc} {m t : Int} {ids : List Int} (h : ids.length ≤ 1000) : Sm big20 TRen (renNew c s d m t ids) := renMake_sm h
def rnP (x : Strand × Cur) : Prop := Sm big20 TStrand x.1 ∧ curOk x.2
theorem renTail_P {c : Cur} {s : Strand} {d : Doc} {m t : Int} {ids : List Int} (hc : curOk c) (hs : Sm big20 TStrand s) (hi : ids.length ≤ 1000) : rnP (renTail c s d m t ids) :=
 ⟨addRen_sm hs (renNew_sm hi), below_ok (leaves_ok hc)⟩
theorem renew_P {c : Cur} {s : Strand} {d : Doc} {m t : Int} (hc : curOk c) (hs : Sm big20 TStrand s) : rnP (renewD c s d m t) := by
 rw [renew_eq]
 unfold renewRaw
 cases (longF s m).2 with
 | false => exact ⟨hs, hc⟩
 | true => cases (onceF c 3).1 with
   | true => exact renTail_P (once_ok hc) hs (Nat.le_of_ble_eq_true rfl)
   | false => exact renTail_P (once_ok hc) hs (Nat.le_of_ble_eq_true rfl)
noncomputable def drawS (d : Doc) (z : Cur × Strand × Int) : Cur × Strand × Int :=
 ((intF (renewD (belowF z.1 4).2 z.2.1 d (IntKind.i64.wrap (1 + (belowF z.1 4).1)) z.2.2).2 [10, 20, 40]).2, (renewD (belowF z.1 4).2 z.2.1 d (IntKind.i64.wrap (1 + (belowF z.1 4).1)) z.2.2).1,
   IntKind.i64.wrap (z.2.2 + (intF (renewD (belowF z.1 4).2 z.2.1 d (IntKind.i64.wrap (1 + (belowF z.1 4).1)) z.2.2).2 [10, 20, 40]).1))
noncomputable def dr1 (c : Cur) : Int × Cur := intF (signedD c).2 [10, 25, 30]
noncomputable def dr2 (c : Cur) : Int × Cur := belowF (dr1 c).2 4
noncomputable def drZ (c : Cur) : Cur × Strand × Int := itF (drawS (signedD c).1.2.1) (dr2 c).1.toNat ((dr2 c).2, (signedD c).1.1, (dr1 c).1)
noncomputable def strandD (c : Cur) : (Strand × Doc × Sig) × Cur := (((drZ c).2.1, (signedD c).1.2.1, (signedD c).1.2.2), (drZ c).1)
def drP (z : Cur × Strand × Int) (_ : Nat) : Prop := curOk z.1 ∧ Sm big20 TStrand z.2.1
theorem drawS_P (d : Doc) (z : Cur × Strand × Int) (k : Nat) (h : drP z k) : drP (drawS d z) (k + 1) :=
 have hr := renew_P (c := (belowF z.1 4).2) (d := d) (m := IntKind.i64.wrap (1 + (belowF z.1 4).1)) (t := z.2.2) (below_ok h.1) h.2
 ⟨int_ok hr.2, hr.1⟩
theorem dr2_ok {c : Cur} (h : curOk c) : curOk (dr2 c).2 := below_ok (int_ok (signed_P h).2)
theorem dr2_n (c : Cur) : 0 ≤ (dr2 c).1 ∧ (dr2 c).1 ≤ 1000000 := belN (by decide) (by decide)
theorem drZ_P {c : Cur} (h : curOk c) : drP (drZ c) (dr2 c).1.toNat := dnAll drP ⟨dr2_ok h, (signed_P h).1⟩ (drawS_P _) _
theorem strandD_ok {c : Cur} (h : curOk c) : curOk (strandD c).2 := (drZ_P h).1
theorem strandD_sm {c : Cur} (h : curOk c) : Sm big20 TStrand (strandD c).1.1 := (drZ_P h).2
theorem strandD_leaf {c c2 : Cur} {s : Strand} {t : Int} (hE : (c2, s, t) = itF (drawS (signedD c).1.2.1) (dr2 c).1.toNat ((dr2 c).2, (signedD c).1.1, (dr1 c).1)) :
   strandD c = ((s, (signedD c).1.2.1, (signedD c).1.2.2), c2) := by
 unfold strandD drZ
 rw [← hE]
theorem certIdx (c : Cur) : inRange (belowF c 3).1 (List.length certsT) := int_range (n := 3) (by decide)
theorem rmApp {others : List Int} (h : others.length ≤ 1000) : 0 + others.length ≤ maxApp ∧ ([] ++ others).length + 1 ≤ maxApp := by
 unfold maxApp; simp only [List.nil_append]; omega
end Fw
namespace Fw
open Go
theorem itemAt_get {a : Archive} {k : Nat} (h : k < a.2.length) : itemAt a k = a.2[k] := by
 unfold itemAt
 rw [List.getD_eq_getElem?_getD, List.getElem?_eq_getElem h]; rfl
def idLt (x y : Item) : Prop := x.1 < y.1
theorem good_lt {a : Archive} (h : ∀ k, k < List.length a.2 → goodP a k) : ∀ (k : Nat), k < a.2.length → ∀ j, j < k → (itemAt a j).1 < (itemAt a k).1
 | 0, _, j, hj => by omega
 | k + 1, hk, j, hj => by
   have h1 := (h (k + 1) hk).2 (by omega)
   rw [Nat.add_sub_cancel] at h1
   by_cases e : j = k
   · rw [e]; exact h1
   · have := good_lt h k (by omega) j (by omega)
     omega
theorem arch_mk {a : Archive} : archF a = true ↔ (∀ x ∈ a.2, itemF x = true) ∧ a.2.Pairwise idLt ∧ inRangeF a.1 0 99 = true ∧ (List.length a.2 : Int) ≤ 8 := by
 unfold archF
 rw [boolC_iff]
 constructor
 · rintro ⟨h1, h2, h3⟩
   refine ⟨fun x hx => ?_, List.pairwise_iff_getElem.2 fun i j hi hj hij => ?_, h2, h3⟩
   · obtain ⟨k, hk, rfl⟩ := List.getElem_of_mem hx
     have := (h1 k hk).1
     rwa [itemAt_get hk] at this
   · have := good_lt h1 j hj i hij
     rw [itemAt_get hi, itemAt_get hj] at this
     exact this
 · rintro ⟨h1, h2, h3, h4⟩
   refine ⟨fun k hk => ⟨?_, fun h0 => ?_⟩, h3, h4⟩
   · rw [itemAt_get hk]; exact h1 _ (List.getElem_mem _)
   · rw [itemAt_get hk, itemAt_get (show k - 1 < a.2.length by have : k < a.2.length := hk; omega)]
     exact List.pairwise_iff_getElem.1 h2 (k - 1) k (by have : k < a.2.length := hk; omega) hk (by omega)
theorem pw_uniq : ∀ {l : List Item}, l.Pairwise idLt → ∀ x ∈ l, ∀ y ∈ l, x.1 = y.1 → x = y
 | [], _, x, hx, _, _, _ => by simp at hx
 | z :: l, h, x, hx, y, hy, e => by
   obtain ⟨h1, h2⟩ := List.pairwise_cons.1 h
   rcases List.mem_cons.1 hx with ex | hx'
   · rcases List.mem_cons.1 hy with ey | hy'
     · rw [ex, ey]
     · have h3 : z.1 < y.1 := h1 y hy'
       rw [ex] at e; omega
   · rcases List.mem_cons.1 hy with ey | hy'
     · have h3 : z.1 < x.1 := h1 x hx'
       rw [ey] at e; omega
     · exact pw_uniq h2 x hx' y hy' e
theorem pw_del : ∀ (l : List Item) (k : Nat) (hk : k < l.length), l.Pairwise idLt → ∀ y ∈ l.take k ++ l.drop (k + 1), y.1 ≠ l[k].1
 | x :: l, 0, _, h, y, hy => by
   have hy : y ∈ l := by simpa using hy
   have : x.1 < y.1 := (List.pairwise_cons.1 h).1 y hy
   show y.1 ≠ x.1
   omega
 | x :: l, k + 1, hk, h, y, hy => by
   have hk' : k < l.length := by simpa using hk
   obtain ⟨h1, h2⟩ := List.pairwise_cons.1 h
   show y.1 ≠ l[k].1
   have hy : y = x ∨ y ∈ l.take k ++ l.drop (k + 1) := by
     have hy : y ∈ x :: (l.take k ++ l.drop (k + 1)) := hy
     exact List.mem_cons.1 hy
   rcases hy with rfl | hy
   · have : y.1 < l[k].1 := h1 _ (List.getElem_mem _)
     omega
   · exact pw_del l k hk' h2 y hy
theorem del_sub {α : Type} : ∀ (l : List α) (k : Nat), (l.take k ++ l.drop (k + 1)).Sublist l
 | [], k => by simp
 | x :: l, 0 => List.Sublist.cons x (List.Sublist.refl l)
 | x :: l, k + 1 => List.Sublist.cons_cons x (del_sub l k)
theorem arch_sub {a x : Archive} (h : archF a = true) (hs : x.2.Sublist a.2) (h1 : x.1 = a.1) : archF x = true := by
 obtain ⟨k1, k2, k3, k4⟩ := arch_mk.1 h
 have := hs.length_le
 exact arch_mk.2 ⟨fun y hy => k1 y (hs.subset hy), k2.sublist hs, by rw [h1]; exact k3, by omega⟩
theorem itAt_neg {a : Archive} {n : Int} (h : ∀ y ∈ a.2, y.1 ≠ n) : itAt a n < 0 := by
 unfold itAt findI
 split
 · rename_i k hk
   obtain ⟨h1, h2, _⟩ := List.findIdx?_eq_some_iff_getElem.1 hk
   exfalso
   have : a.2[k].1 = n := by simpa using h2
   exact h _ (List.getElem_mem _) this
 · decide
theorem itGet_ok {a : Archive} {n : Int} (h : ¬ itAt a n < 0) : itGet a n ∈ a.2 ∧ (itGet a n).1 = n := by
 cases hk : a.2.findIdx? (fun (x : Item) => x.1 == n) with
 | none =>
   exfalso
   apply h
   unfold itAt findI
   rw [hk]; decide
 | some k =>
   have e : itAt a n = (k : Int) := by unfold itAt findI; rw [hk]
   obtain ⟨h1, h2, _⟩ := List.findIdx?_eq_some_iff_getElem.1 hk
   unfold itGet
   rw [e]
   have e2 : ((k : Int)).toNat = k := by omega
   rw [e2, List.getD_eq_getElem?_getD, List.getElem?_eq_getElem h1]
   exact ⟨List.getElem_mem _, by simpa using h2⟩
theorem drop_ok {a x : Archive} {n : Int} (h : dropItemF a n = (x, true)) : ¬ itAt a n < 0 ∧ x = (a.1, a.2.take (itAt a n).toNat ++ a.2.drop ((itAt a n).toNat + 1)) := by
 unfold dropItemF at h
 split at h
 · have := congrArg Prod.snd h; cases this
 · rename_i hn
   exact ⟨hn, (congrArg Prod.fst h).symm⟩
theorem drops : ∀ (l : List Int) (a x : Archive), l.foldl dpStep (a, true) = (x, true) →
   x.2.length + l.length = a.2.length ∧ x.2.Sublist a.2 ∧ x.1 = a.1 ∧ (archF a = true → ∀ n ∈ l, ∀ y ∈ x.2, y.1 ≠ n)
 | [], a, x, h => by
   have e : a = x := congrArg Prod.fst h
   subst e
   exact ⟨rfl, List.Sublist.refl _, rfl, fun _ n hn => by simp at hn⟩
 | n :: l, a, x, h => by
   rw [List.foldl_cons] at h
   have e1 : dpStep (a, true) n = dropItemF a n := if_pos rfl
   rw [e1] at h
   cases hd : dropItemF a n with
   | mk a' b =>
     rw [hd] at h
     cases b with
     | false =>
       rw [st_stuck dp_stuck] at h
       have := congrArg Prod.snd h; cases this
     | true =>
       obtain ⟨hn, rfl⟩ := drop_ok hd
       obtain ⟨k1, k2, k3, k4⟩ := drops l _ x h
       have hlt := itLt hn
       have hk : (itAt a n).toNat < a.2.length := by omega
       have hlen : (a.2.take (itAt a n).toNat ++ a.2.drop ((itAt a n).toNat + 1)).length = a.2.length - 1 := by
         rw [List.length_append, List.length_take, List.length_drop]; omega
       have k1 : x.2.length + l.length = (a.2.take (itAt a n).toNat ++ a.2.drop ((itAt a n).toNat + 1)).length := k1
       refine ⟨by rw [hlen] at k1; show x.2.length + (l.length + 1) = a.2.length; omega, k2.trans (del_sub _ _), k3, fun ha m hm y hy => ?_⟩
       rcases List.mem_cons.1 hm with rfl | hm
       · have hy' := k2.subset hy
         have hp := (arch_mk.1 ha).2.1
         have := pw_del a.2 (itAt a m).toNat hk hp y hy'
         have e2 := (itGet_ok hn).2
         unfold itGet at e2
         rw [List.getD_eq_getElem?_getD, List.getElem?_eq_getElem hk] at e2
         have e2 : a.2[(itAt a m).toNat].1 = m := e2
         rwa [e2] at this
       · exact k4 (arch_sub ha (del_sub _ _) rfl) m hm y hy
theorem add_ok {a y : Archive} {x : Item} (h : addItemF a x = (y, true)) : archF y = true ∧ y = (a.1, insI x a.2) := by
 unfold addItemF at h
 split at h
 · rename_i hc
   have e : (a.1, insI x a.2) = y := congrArg Prod.fst h
   subst e
   exact ⟨hc.2, rfl⟩
 · have := congrArg Prod.snd h; cases this
theorem insP_self {α : Type} (p : α → Bool) (x : α) (l : List α) : x ∈ insP p x l := by unfold insP; simp
theorem insP_old {α : Type} (p : α → Bool) (x : α) {l : List α} {y : α} (h : y ∈ l) : y ∈ insP p x l := by
 have e := List.takeWhile_append_dropWhile (p := p) (l := l)
 rw [← e] at h
 unfold insP
 rcases List.mem_append.1 h with h | h
 · exact List.mem_append.2 (.inl h)
 · exact List.mem_append.2 (.inr (List.mem_cons_of_mem _ h))
theorem adds : ∀ (l : List Item) (b y : Archive), l.foldl acStep (b, true) = (y, true) →
   y.2.length = b.2.length + l.length ∧ (l ≠ [] → archF y = true) ∧ (∀ z ∈ l, z ∈ y.2) ∧ (∀ z ∈ b.2, z ∈ y.2)
 | [], b, y, h => by
   have e : b = y := congrArg Prod.fst h
   subst e
   exact ⟨rfl, fun h => (h rfl).elim, fun z hz => by simp at hz, fun z hz => hz⟩
 | x :: l, b, y, h => by
   rw [List.foldl_cons] at h
   have e1 : acStep (b, true) x = addItemF b x := if_pos rfl
   rw [e1] at h
   cases hd : addItemF b x with
   | mk b' t =>
     rw [hd] at h
     cases t with
     | false =>
       rw [st_stuck ac_stuck] at h
       have := congrArg Prod.snd h; cases this
     | true =>
       obtain ⟨ha, rfl⟩ := add_ok hd
       obtain ⟨k1, k2, k3, k4⟩ := adds l _ y h
       have hlen : (insI x b.2).length = b.2.length + 1 := insP_len
       have k1 : y.2.length = (insI x b.2).length + l.length := k1
       refine ⟨by rw [hlen] at k1; show y.2.length = b.2.length + (l.length + 1); omega, fun _ => ?_, fun z hz => ?_, fun z hz => k4 z (insP_old _ _ hz)⟩
       · by_cases hl : l = []
         · subst hl
           have e : ((b.1, insI x b.2) : Archive) = y := congrArg Prod.fst h
           rw [← e]; exact ha
         · exact k2 hl
       · rcases List.mem_cons.1 hz with rfl | hz
         · exact k4 _ (insP_self _ _ _)
         · exact k3 z hz
theorem mvFacts {a b : Archive} {ids : List Int} {m : Int} (h : (moveF a b ids m).2.2 = true) :
   (moveF a b ids m).1.2.length + (moveF a b ids m).2.1.2.length = a.2.length + b.2.length ∧ (moveF a b ids m).1.2.Sublist a.2 ∧ (moveF a b ids m).1.1 = a.1 ∧
   (archF a = true → ∀ n ∈ ids, ∀ z ∈ (moveF a b ids m).1.2, z.1 ≠ n) ∧ archF (moveF a b ids m).2.1 = true ∧ (∀ n ∈ ids, ¬ itAt a n < 0 ∧ itGet a n ∈ (moveF a b ids m).2.1.2) := by
 by_cases hc : (mvP a b ids m).2 = true ∧ (mvR a b ids m).2 = true
 · have e : moveF a b ids m = ((mvR a b ids m).1, (mvT a b ids m).1, true) := if_pos hc
   rw [e]
   obtain ⟨h1, h2⟩ := hc
   -- the parcel
   have hp : ¬ (ids.any (mpBad a) = true ∨ ids = []) ∧ mvP a b ids m = ((a.1, b.1, ids.map (itGet a), digItemsF m (ids.map (itGet a))), true) := by
     unfold mvP makeParcelF at h1 ⊢
     split at h1
     · cases h1
     · rename_i hn
       exact ⟨hn, by rw [if_neg hn]⟩
   obtain ⟨hn, hp⟩ := hp
   -- the transfer
   have hT : (mvT a b ids m).2 = true := by
     cases ht : (mvT a b ids m).2 with
     | true => rfl
     | false =>
       unfold mvR at h2
       rw [ht, st_stuck dp_stuck] at h2
       cases h2
   have hA : (acRun b (mvP a b ids m).1 m).2 = true ∧ (mvT a b ids m).1 = (acRun b (mvP a b ids m).1 m).1 := by
     unfold mvT acceptF at hT ⊢
     split at hT
     · rename_i hr; exact ⟨hr, by rw [if_pos hr]⟩
     · cases hT
   have hO : acOk b (mvP a b ids m).1 (checkParcelF (mvP a b ids m).1 m) = true := by
     cases ho : acOk b (mvP a b ids m).1 (checkParcelF (mvP a b ids m).1 m) with
     | true => rfl
     | false =>
       have := hA.1
       unfold acRun at this
       rw [ho, st_stuck ac_stuck] at this
       cases this
   have hrun : (ids.map (itGet a)).foldl acStep (b, true) = ((mvT a b ids m).1, true) := by
     have e1 : acRun b (mvP a b ids m).1 m = (ids.map (itGet a)).foldl acStep (b, true) := by
       unfold acRun
       rw [hO, hp]
     rw [← e1, hA.2]
     exact Prod.ext rfl hA.1
   have hdr : ids.foldl dpStep (a, true) = ((mvR a b ids m).1, true) := by
     have e1 : mvR a b ids m = ids.foldl dpStep (a, true) := by unfold mvR; rw [hT]
     rw [← e1]
     exact Prod.ext rfl h2
   obtain ⟨d1, d2, d3, d4⟩ := drops _ _ _ hdr
   obtain ⟨a1, a2, a3, a4⟩ := adds _ _ _ hrun
   rw [List.length_map] at a1
   refine ⟨by show (mvR a b ids m).1.2.length + (mvT a b ids m).1.2.length = _; omega, d2, d3, d4, a2 fun e => hn (.inr (List.map_eq_nil_iff.1 e)), fun n hm => ⟨fun hneg => hn (.inl ?_), a3 _ (List.mem_map.2 ⟨n, hm, rfl⟩)⟩⟩
   exact List.any_eq_true.2 ⟨n, hm, decide_eq_true hneg⟩
 · have e : moveF a b ids m = (a, b, false) := if_neg hc
   rw [e] at h; cases h
theorem mvFail2 {a b : Archive} {ids : List Int} {m : Int} (h : (moveF a b ids m).2.2 = false) : moveF a b ids m = (a, b, false) := by
 by_cases hc : (mvP a b ids m).2 = true ∧ (mvR a b ids m).2 = true
 · have e : moveF a b ids m = ((mvR a b ids m).1, (mvT a b ids m).1, true) := if_pos hc
   rw [e] at h; cases h
 · exact if_neg hc
theorem mvItem {a b : Archive} {ids : List Int} {m n : Int} (h : (moveF a b ids m).2.2 = true) (ha : archF a = true) (hn : n ∈ ids) :
   itAt (moveF a b ids m).1 n < 0 ∧ ¬ itAt (moveF a b ids m).2.1 n < 0 ∧ ¬ itAt a n < 0 ∧ itGet (moveF a b ids m).2.1 n = itGet a n := by
 obtain ⟨_, _, _, h4, h5, h6⟩ := mvFacts h
 obtain ⟨k1, k2⟩ := h6 n hn
 have k3 := itGet_ok k1
 have k4 : ¬ itAt (moveF a b ids m).2.1 n < 0 := by
   intro hneg
   have : ∀ y ∈ (moveF a b ids m).2.1.2, y.1 ≠ n := by
     intro y hy e
     unfold itAt findI at hneg
     split at hneg
     · omega
     · rename_i hnone
       have := List.findIdx?_eq_none_iff.1 hnone y hy
       rw [e] at this; simp at this
   exact this _ k2 k3.2
 have k5 := itGet_ok k4
 exact ⟨itAt_neg (h4 ha n hn), k4, k1, pw_uniq (arch_mk.1 h5).2.1 _ k5.1 _ k2 (k5.2.trans k3.2.symm)⟩
theorem ef_false {α : Type} (bad : α → Bool) : ∀ (l : List α), efF bad (fun (b : Bool) _ => b) false l false = false
 | [] => rfl
 | x :: l => by
   unfold efF
   split
   · rfl
   · exact ef_false bad l
theorem cp_dig {p : Parcel} {m : Int} (h : checkParcelF p m = true) : p.2.2.2 = digItemsF m p.2.2.1 := by
 unfold checkParcelF at h
 cases hc : pick2 (inRangeF (p.2.2.1.length : Int) 1 8) (p.2.2.2 == digItemsF m p.2.2.1) false with
 | false => rw [hc, ef_false] at h; cases h
 | true => exact beqI2 (andT hc).2
theorem wrap_ne {x : Int} : IntKind.i64.wrap (x + 1) ≠ x := by
 rw [IntKind.wrap_i64]; omega
theorem cp_two {p : Parcel} {m : Int} : pick2 (!(checkParcelF p m)) true (!(checkParcelF (p.1, p.2.1, p.2.2.1, IntKind.i64.wrap (p.2.2.2 + 1)) m)) = true := by
 cases h1 : checkParcelF p m with
 | false => rfl
 | true =>
   cases h2 : checkParcelF (p.1, p.2.1, p.2.2.1, IntKind.i64.wrap (p.2.2.2 + 1)) m with
   | false => rfl
   | true =>
     exfalso
     have e1 := cp_dig h1
     have e2 : IntKind.i64.wrap (p.2.2.2 + 1) = digItemsF m p.2.2.1 := cp_dig h2
     exact wrap_ne (e2.trans e1.symm)
end Fw
namespace Fw
open Go
noncomputable def it1 (c : Cur) : Int × Cur := belowF (strandD c).2 9
noncomputable def it2 (c : Cur) : Int × Cur := intF (it1 c).2 [50, 100, 10000]
noncomputable def itemRaw (c : Cur) : Item × Cur := ((IntKind.i64.wrap (1 + (it1 c).1), (it2 c).1, (strandD c).1.2.1, (strandD c).1.2.2, (strandD c).1.1), (it2 c).2)
theorem itemEx : ∃ f : Cur → Item × Cur, ∀ c, f c = itemRaw c := ⟨itemRaw, fun _ => rfl⟩
noncomputable def itemD (c : Cur) : Item × Cur := Classical.choose itemEx c
theorem item_eq (c : Cur) : itemD c = itemRaw c := Classical.choose_spec itemEx c
theorem itemD_ok {c : Cur} (h : curOk c) : curOk (itemD c).2 := by
 rw [item_eq]; exact int_ok (below_ok (strandD_ok h))
theorem signed_doc (c : Cur) : (signedD c).1.2.1 = (docD c).1 := by
 rw [signed_eq]
 unfold signedRaw
 have key : ∀ s, (sgT c s).1.2.1 = (docD c).1 := by
   intro s
   unfold sgT
   cases (sg4 c).1 <;> rfl
 cases (sg3 c).1 <;> exact key _
theorem docD_sm {c : Cur} (h : curOk c) : Sm big20 TDoc (docD c).1 := by
 have hd := docD_doc h
 have h1 := boolC_iff.1 hd
 have h2 := (inR_iff.1 h1.2.1).2
 have h3 := h1.2.2.1
 refine ⟨trivial, ⟨?_, fun _ _ => trivial⟩, ⟨?_, fun _ _ => trivial⟩⟩
 · show List.length (docD c).1.2.1 ≤ big20
   unfold big20; omega
 · show List.length (docD c).1.2.2 ≤ big20
   unfold big20; omega
theorem itemD_sm {c : Cur} (h : curOk c) : Sm big20 TItem (itemD c).1 := by
 rw [item_eq]
 refine ⟨trivial, trivial, ?_, ⟨trivial, trivial, trivial, trivial, trivial, trivial, trivial, trivial, trivial⟩, strandD_sm h⟩
 show Sm big20 TDoc (signedD c).1.2.1
 rw [signed_doc]; exact docD_sm h
noncomputable def archS (z : Cur × Archive) : Cur × Archive := ((itemD z.1).2, (addItemF z.2 (itemD z.1).1).1)
noncomputable def rc1 (c : Cur) : Int × Cur := belowF c 3
noncomputable def rc2 (c : Cur) : Int × Cur := belowF (rc1 c).2 4
noncomputable def archZ (c : Cur) : Cur × Archive := itF archS (rc2 c).1.toNat ((rc2 c).2, ((rc1 c).1, []))
theorem archEx : ∃ f : Cur → Archive × Cur, ∀ c, f c = ((archZ c).2, (archZ c).1) := ⟨fun c => ((archZ c).2, (archZ c).1), fun _ => rfl⟩
noncomputable def archD (c : Cur) : Archive × Cur := Classical.choose archEx c
theorem archD_eq (c : Cur) : archD c = ((archZ c).2, (archZ c).1) := Classical.choose_spec archEx c
def rcP (z : Cur × Archive) (_ : Nat) : Prop := curOk z.1 ∧ archF z.2 = true ∧ Sm big20 TArch z.2
theorem addItem_sm {a : Archive} {x : Item} (ha : Sm big20 TArch a) (hx : Sm big20 TItem x) : Sm big20 TArch (addItemF a x).1 := by
 unfold addItemF
 split
 · rename_i h
   have h1 := (arch_mk.1 h.2).2.2.2
   refine ⟨trivial, ⟨?_, fun y hy => ?_⟩⟩
   · show (insI x a.2).length ≤ big20
     have h1 : (((insI x a.2).length : Nat) : Int) ≤ 8 := h1
     unfold big20; omega
   · rcases insP_mem hy with rfl | hy
     · exact hx
     · exact ha.2.2 y hy
 · exact ha
theorem addItem_arch {a : Archive} {x : Item} (ha : archF a = true) : archF (addItemF a x).1 = true := by
 unfold addItemF
 split
 · rename_i h; exact h.2
 · exact ha
theorem archS_P (z : Cur × Archive) (k : Nat) (h : rcP z k) : rcP (archS z) (k + 1) :=
 ⟨itemD_ok h.1, addItem_arch h.2.1, addItem_sm h.2.2 (itemD_sm h.1)⟩
theorem rc2_ok {c : Cur} (h : curOk c) : curOk (rc2 c).2 := below_ok (below_ok h)
theorem rc2_n (c : Cur) : 0 ≤ (rc2 c).1 ∧ (rc2 c).1 ≤ 1000000 := belN (by decide) (by decide)
theorem rc0_P {c : Cur} (h : curOk c) : rcP ((rc2 c).2, ((rc1 c).1, [])) 0 := by
 refine ⟨rc2_ok h, arch_mk.2 ⟨fun x hx => by simp at hx, List.Pairwise.nil, inR_iff.2 ?_, by show ((0 : Nat) : Int) ≤ 8; decide⟩, ⟨trivial, ⟨Nat.zero_le _, fun x hx => by simp at hx⟩⟩⟩
 have := below_lt (c := c) (n := 3) (by decide)
 show 0 ≤ (belowF c 3).1 ∧ (belowF c 3).1 ≤ 99
 omega
theorem archZ_P {c : Cur} (h : curOk c) : rcP (archZ c) (rc2 c).1.toNat := dnAll rcP (rc0_P h) archS_P _
theorem archD_ok {c : Cur} (h : curOk c) : curOk (archD c).2 := by rw [archD_eq]; exact (archZ_P h).1
theorem archD_arch {c : Cur} (h : curOk c) : archF (archD c).1 = true := by rw [archD_eq]; exact (archZ_P h).2.1
theorem archD_sm {c : Cur} (h : curOk c) : Sm big20 TArch (archD c).1 := by rw [archD_eq]; exact (archZ_P h).2.2
theorem archD_leaf {c c2 : Cur} {a : Archive} (hE : (c2, a) = itF archS (rc2 c).1.toNat ((rc2 c).2, ((rc1 c).1, []))) : archD c = (a, c2) := by
 rw [archD_eq]
 unfold archZ
 rw [← hE]
noncomputable def idS (z : Cur × List Int) (x : Item) : Cur × List Int := cond (onceF z.1 2).1 ((onceF z.1 2).2, z.2 ++ [x.1]) ((onceF z.1 2).2, z.2)
noncomputable def idZ (c : Cur) (a : Archive) : Cur × List Int := a.2.foldl idS (c, [])
noncomputable def idsRaw (c : Cur) (a : Archive) : List Int × Cur :=
 cond (onceF (idZ c a).1 8).1 ((idZ c a).2 ++ [(belowF (onceF (idZ c a).1 8).2 11).1], (belowF (onceF (idZ c a).1 8).2 11).2) ((idZ c a).2, (onceF (idZ c a).1 8).2)
theorem idsEx : ∃ f : Cur → Archive → List Int × Cur, ∀ c a, f c a = idsRaw c a := ⟨idsRaw, fun _ _ => rfl⟩
noncomputable def idsD (c : Cur) (a : Archive) : List Int × Cur := Classical.choose idsEx c a
theorem ids_eq (c : Cur) (a : Archive) : idsD c a = idsRaw c a := Classical.choose_spec idsEx c a
theorem idS_P : ∀ (l : List Item) (z : Cur × List Int), curOk z.1 → curOk (l.foldl idS z).1 ∧ (l.foldl idS z).2.length ≤ z.2.length + l.length
 | [], z, h => ⟨h, Nat.le_refl _⟩
 | x :: l, z, h => by
   rw [List.foldl_cons]
   have hc : curOk (idS z x).1 ∧ (idS z x).2.length ≤ z.2.length + 1 := by
     unfold idS
     cases (onceF z.1 2).1 with
     | true => exact ⟨once_ok h, by show (z.2 ++ [x.1]).length ≤ _; rw [List.length_append]; exact Nat.le_refl _⟩
     | false => exact ⟨once_ok h, by show z.2.length ≤ _; omega⟩
   have := idS_P l _ hc.1
   exact ⟨this.1, by have h2 := this.2; have h3 := hc.2; show _ ≤ z.2.length + (l.length + 1); omega⟩
theorem idInv_P {c : Cur} {a : Archive} {z : Cur × List Int} {i : Int} (hc : curOk c) (h : foInv idS (c, []) a.2 z i) (ha : a.2.length ≤ big20) : curOk z.1 ∧ z.2.length + 1 ≤ maxApp := by
 obtain ⟨_, rfl⟩ := h
 have := idS_P (a.2.take i.toNat) (c, []) hc
 have h2 := this.2
 rw [List.length_take] at h2
 have h2 : (List.foldl idS (c, []) (a.2.take i.toNat)).2.length ≤ 0 + min i.toNat a.2.length := h2
 refine ⟨this.1, ?_⟩
 unfold maxApp; unfold big20 at ha; omega
theorem idZ_P {c : Cur} {a : Archive} (hc : curOk c) : curOk (idZ c a).1 ∧ (idZ c a).2.length ≤ a.2.length := by
 have := idS_P a.2 (c, []) hc
 have h2 : (idZ c a).2.length ≤ 0 + a.2.length := this.2
 exact ⟨this.1, by omega⟩
theorem ids_ok {c : Cur} {a : Archive} (hc : curOk c) : curOk (idsD c a).2 := by
 rw [ids_eq]
 unfold idsRaw
 cases (onceF (idZ c a).1 8).1 with
 | true => exact below_ok (once_ok (idZ_P hc).1)
 | false => exact once_ok (idZ_P hc).1
theorem idYes {c : Cur} {l : List Int} {x : Item} (h : (onceF c 2).1 = true) : ((onceF c 2).2, l ++ [x.1]) = idS (c, l) x := (cT h).symm
theorem idNo {c : Cur} {l : List Int} {x : Item} (h : (onceF c 2).1 = false) : ((onceF c 2).2, l) = idS (c, l) x := (cF h).symm
theorem ids1 {c c2 : Cur} {a : Archive} {l : List Int} (hE : (c2, l) = a.2.foldl idS (c, [])) (h : (onceF c2 8).1 = true) : idsD c a = (l ++ [(belowF (onceF c2 8).2 11).1], (belowF (onceF c2 8).2 11).2) := by
 rw [ids_eq]
 unfold idsRaw idZ
 rw [← hE]
 exact cT h
theorem ids0 {c c2 : Cur} {a : Archive} {l : List Int} (hE : (c2, l) = a.2.foldl idS (c, [])) (h : (onceF c2 8).1 = false) : idsD c a = (l, (onceF c2 8).2) := by
 rw [ids_eq]
 unfold idsRaw idZ
 rw [← hE]
 exact cF h
noncomputable def mp0 (code : List Int) : Archive × Cur := archD (curNewF code)
noncomputable def mp1 (code : List Int) : Int × Cur := belowF (mp0 code).2 3
noncomputable def mp2 (code : List Int) : List Int × Cur := idsD (mp1 code).2 (mp0 code).1
noncomputable def mp3 (code : List Int) : Int × Cur := belowF (mp2 code).2 5
noncomputable def parcelD (code : List Int) : Archive × Int × List Int × Int := ((mp0 code).1, (mp1 code).1, (mp2 code).1, (mp3 code).1)
noncomputable def mv0 (code : List Int) : Archive × Cur := archD (curNewF code)
noncomputable def moveD (code : List Int) : Archive × Archive × List Int × Int :=
 cond (onceF (mv0 code).2 2).1 ((parcelD code).1, ((mv0 code).1.1, []), (parcelD code).2.2.1, (parcelD code).2.2.2) ((parcelD code).1, (mv0 code).1, (parcelD code).2.2.1, (parcelD code).2.2.2)
noncomputable def cpP (code : List Int) : Parcel := (makeParcelF (parcelD code).1 (parcelD code).2.1 (parcelD code).2.2.1 (parcelD code).2.2.2).1
noncomputable def cp1 (code : List Int) : Int × Cur := belowF (curNewF code) 6
def keepUp (p : Parcel) : Parcel := (p.1, p.2.1, p.2.2.1.set 0 (((p.2.2.1.getD 0 (dflt TItem)).1, IntKind.i64.wrap ((p.2.2.1.getD 0 (dflt TItem)).2.1 + 1), (p.2.2.1.getD 0 (dflt TItem)).2.2) : Item), p.2.2.2)
noncomputable def checkD (code : List Int) : Parcel × Int :=
 cond ((cp1 code).1 == 0) (((cpP code).1, (cpP code).2.1, (cpP code).2.2.1, IntKind.i64.wrap ((cpP code).2.2.2 + 1)), (parcelD code).2.2.2)
   (cond ((cp1 code).1 == 1) (cpP code, IntKind.i64.wrap ((parcelD code).2.2.2 + 1))
     (cond ((cp1 code).1 == 2) (cond (decide (((cpP code).2.2.1.length : Int) > 0)) (keepUp (cpP code), (parcelD code).2.2.2) (cpP code, (parcelD code).2.2.2))
       (cpP code, (parcelD code).2.2.2)))
theorem mp_ok {code : List Int} (h : code.length ≤ bigLen) : curOk (mp0 code).2 ∧ curOk (mp1 code).2 ∧ curOk (mp2 code).2 :=
 ⟨archD_ok (newCur_ok h), below_ok (archD_ok (newCur_ok h)), ids_ok (below_ok (archD_ok (newCur_ok h)))⟩
theorem mp_sm {code : List Int} (h : code.length ≤ bigLen) : Sm big20 TArch (parcelD code).1 ∧ archF (parcelD code).1 = true ∧ (parcelD code).2.2.1.length ≤ 1048576 := by
 have h1 := archD_sm (newCur_ok h)
 have h2 := archD_arch (newCur_ok h)
 refine ⟨h1, h2, ?_⟩
 have h3 := archLen h2
 have h4 : (mp0 code).1.2.length ≤ 8 := h3
 show (idsD (mp1 code).2 (mp0 code).1).1.length ≤ _
 rw [ids_eq]
 unfold idsRaw
 have h5 := (idZ_P (c := (mp1 code).2) (a := (mp0 code).1) (mp_ok h).2.1).2
 cases (onceF (idZ (mp1 code).2 (mp0 code).1).1 8).1 with
 | true => show ((idZ (mp1 code).2 (mp0 code).1).2 ++ [_]).length ≤ _; rw [List.length_append]; show (idZ (mp1 code).2 (mp0 code).1).2.length + 1 ≤ _; omega
 | false => show (idZ (mp1 code).2 (mp0 code).1).2.length ≤ _; omega
theorem mv_sm {code : List Int} (h : code.length ≤ bigLen) : Sm big20 TArch (moveD code).1 ∧ Sm big20 TArch (moveD code).2.1 ∧ archF (moveD code).1 = true ∧ (moveD code).2.2.1.length ≤ 1048576 := by
 have h1 := mp_sm h
 have h2 := archD_sm (newCur_ok h)
 unfold moveD
 cases (onceF (mv0 code).2 2).1 with
 | true => exact ⟨h1.1, ⟨trivial, ⟨Nat.zero_le _, fun x hx => by simp at hx⟩⟩, h1.2.1, h1.2.2⟩
 | false => exact ⟨h1.1, h2, h1.2.1, h1.2.2⟩
theorem cp_sm {code : List Int} (h : code.length ≤ bigLen) : Sm big20 TParcel (cpP code) := mkSm (mp_sm h).1 (mp_sm h).2.2
theorem check_sm {code : List Int} (h : code.length ≤ bigLen) : Sm big20 TParcel (checkD code).1 := by
 have hp := cp_sm h
 have hk : Sm big20 TParcel (keepUp (cpP code)) := by
   refine ⟨trivial, trivial, ⟨?_, fun x hx => ?_⟩, trivial⟩
   · show (List.set _ _ _).length ≤ big20
     rw [List.length_set]; exact hp.2.2.1.1
   · rcases List.mem_or_eq_of_mem_set hx with hx | rfl
     · exact hp.2.2.1.2 x hx
     · by_cases hl : 0 < (cpP code).2.2.1.length
       · have hm : (cpP code).2.2.1.getD 0 (dflt TItem) ∈ (cpP code).2.2.1 := by
           rw [List.getD_eq_getElem?_getD, List.getElem?_eq_getElem hl]; exact List.getElem_mem _
         have := hp.2.2.1.2 _ hm
         exact ⟨trivial, trivial, this.2.2⟩
       · have e : (cpP code).2.2.1 = [] := List.length_eq_zero_iff.1 (by omega)
         have hx : _ ∈ (cpP code).2.2.1.set 0 _ := hx
         rw [e] at hx; simp at hx
 unfold checkD
 cases (cp1 code).1 == 0 with
 | true => exact ⟨trivial, trivial, hp.2.2.1, trivial⟩
 | false => cases (cp1 code).1 == 1 with
   | true => exact hp
   | false => cases (cp1 code).1 == 2 with
     | true => cases decide (((cpP code).2.2.1.length : Int) > 0) with
       | true => exact hk
       | false => exact hp
     | false => exact hp
end Fw
namespace Fw
open Go
section
variable {a b : Archive} {ids : List Int} {m : Int}
theorem tfFail (h : (moveF a b ids m).2.2 = false) : true = pick2 (eqC a (moveF a b ids m).1) (eqC b (moveF a b ids m).2.1) false := by
 rw [mvFail2 h]
 show true = pick2 (eqC a a) (eqC b b) false
 rw [eqC_self, eqC_self]; rfl
theorem tfBad2 (h : (moveF a b ids m).2.2 = true)
   (g : pick2 (pick2 (IntKind.i64.wrap (((moveF a b ids m).1.2.length : Int) + ((moveF a b ids m).2.1.2.length : Int)) != IntKind.i64.wrap ((a.2.length : Int) + (b.2.length : Int))) true
     (pick2 (archF a) (!(archF (moveF a b ids m).1)) false)) true (!(archF (moveF a b ids m).2.1)) = true) : False := by
 obtain ⟨h1, h2, h3, h4, h5, h6⟩ := mvFacts h
 have e : (((moveF a b ids m).1.2.length : Int) + ((moveF a b ids m).2.1.2.length : Int)) = ((a.2.length : Int) + (b.2.length : Int)) := by omega
 rw [e, h5] at g
 cases ha : archF a with
 | false => rw [ha] at g; simp [pick2] at g
 | true =>
   rw [ha, arch_sub ha h2 h3] at g; simp [pick2] at g
theorem tfIdx (h : (moveF a b ids m).2.2 = true) (ha : archF a = true) {i : Int} (hI : upInv ids i) (hl : i < (ids.length : Int)) :
   inRange (itAt (moveF a b ids m).2.1 (ids.getD i.toNat (dflt TI))) (List.length (moveF a b ids m).2.1.2) ∧ inRange (itAt a (ids.getD i.toNat (dflt TI))) (List.length a.2) ∧
   itAt (moveF a b ids m).1 (ids.getD i.toNat (dflt TI)) < 0 ∧ ¬ itAt (moveF a b ids m).2.1 (ids.getD i.toNat (dflt TI)) < 0 ∧
   itGet (moveF a b ids m).2.1 (ids.getD i.toNat (dflt TI)) = itGet a (ids.getD i.toNat (dflt TI)) ∧ itGet a (ids.getD i.toNat (dflt TI)) ∈ a.2 := by
 obtain ⟨k1, k2, k3, k4⟩ := mvItem h ha (upElem (d := dflt TI) hI hl)
 exact ⟨findRange k2, findRange k3, k1, k2, k4, (itGet_ok k3).1⟩
theorem tfSm (h : (moveF a b ids m).2.2 = true) (ha : archF a = true) (hs : Sm big20 TArch a) {i : Int} (hI : upInv ids i) (hl : i < (ids.length : Int)) :
   Sm big20 TItem (itGet (moveF a b ids m).2.1 (ids.getD i.toNat (dflt TI))) ∧ Sm big20 TItem (itGet a (ids.getD i.toNat (dflt TI))) := by
 obtain ⟨_, _, _, _, k5, k6⟩ := tfIdx h ha hI hl
 rw [k5]
 exact ⟨hs.2.2 _ k6, hs.2.2 _ k6⟩
theorem tfBad3 (h : (moveF a b ids m).2.2 = true) (ha : archF a = true) {i : Int} (hI : upInv ids i) (hl : i < (ids.length : Int))
   (g : pick2 (pick2 (decide (itAt (moveF a b ids m).1 (ids.getD i.toNat (dflt TI)) ≥ 0)) true (decide (itAt (moveF a b ids m).2.1 (ids.getD i.toNat (dflt TI)) < 0))) true
     (itemDigF m (itGet (moveF a b ids m).2.1 (ids.getD i.toNat (dflt TI))) != itemDigF m (itGet a (ids.getD i.toNat (dflt TI)))) = true) : False := by
 obtain ⟨_, _, k3, k4, k5, _⟩ := tfIdx h ha hI hl
 rw [k5, decide_eq_false (show ¬ itAt (moveF a b ids m).1 (ids.getD i.toNat (dflt TI)) ≥ 0 by omega), decide_eq_false k4] at g
 simp [pick2] at g
end
end Fw
