/- Plain laws of numbers kept in order; the methods of an item. Conditions: none. -/
import Derived.Test.YtnbpojalpdldnaaLawsR
namespace Fw
open Go
def ltB (x y : Int) : Bool := decide (y < x)
def insK (l : List Int) (x : Int) : Nat := (l.takeWhile (ltB x)).length
def insPut (l : List Int) (x : Int) : List Int := l.take (insK l x) ++ [x] ++ l.drop (insK l x)
def insF (l : List Int) (x : Int) : List Int := if insK l x < l.length ∧ l.getD (insK l x) (dflt TI) = x then l else insPut l x
def insS (l : List Int) (x : Int) : List Int := if x ∈ l then l else insPut l x
/-- counted so far -/
def ikInv (l : List Int) (x i : Int) : Prop := 0 ≤ i ∧ i ≤ l.length ∧ ∀ y ∈ l.take i.toNat, ltB x y = true
theorem ikStart {l : List Int} {x : Int} : ikInv l x 0 := ⟨by omega, by omega, by simp⟩
theorem ikRange {l : List Int} {x i : Int} (h : ikInv l x i) (hl : i < (l.length : Int)) : inRange i l.length := ⟨h.1, hl⟩
theorem ikStep {l : List Int} {x i : Int} (h : ikInv l x i) (hs : l.length ≤ 2000000) (g : pick2 (decide (i < (l.length : Int))) (decide (l.getD i.toNat (dflt TI) < x)) false = true) :
    ikInv l x (IntKind.i64.wrap (i + 1)) ∧ ((l.length : Int) - IntKind.i64.wrap (i + 1)).toNat < ((l.length : Int) - i).toNat := by
  obtain ⟨h1, h2, h3⟩ := h
  have g1 := of_decide_eq_true (andT g).1
  have g2 := of_decide_eq_true (andT g).2
  rw [w64 (by omega) (by omega)]
  refine ⟨⟨by omega, by omega, fun y hy => ?_⟩, by omega⟩
  rw [show (i + 1).toNat = i.toNat + 1 by omega, take_succD (by omega) (dflt TI)] at hy
  rcases List.mem_append.1 hy with hy | hy
  · exact h3 y hy
  · rw [List.mem_singleton.1 hy]; exact decide_eq_true g2
theorem ikEnd {l : List Int} {x i : Int} (h : ikInv l x i) (g : pick2 (decide (i < (l.length : Int))) (decide (l.getD i.toNat (dflt TI) < x)) false = false) : i.toNat = insK l x := by
  obtain ⟨h1, h2, h3⟩ := h
  have e : l.takeWhile (ltB x) = l.take i.toNat := by
    have e1 : l = l.take i.toNat ++ l.drop i.toNat := (List.take_append_drop _ _).symm
    rw [e1, List.takeWhile_append_of_pos h3]
    have e2 : (l.drop i.toNat).takeWhile (ltB x) = [] := by
      by_cases hl : i.toNat < l.length
      · rw [List.drop_eq_getElem_cons hl]
        have g' : ltB x l[i.toNat] = false := by
          have : l.getD i.toNat (dflt TI) = l[i.toNat] := by rw [List.getD_eq_getElem?_getD, List.getElem?_eq_getElem hl]; rfl
          rw [this] at g
          rw [decide_eq_true (by omega : i < (l.length : Int))] at g
          exact g
        rw [List.takeWhile_cons, g']; rfl
      · rw [List.drop_eq_nil_of_le (by omega)]; rfl
    rw [e2, List.append_nil, ← e1]
  unfold insK
  rw [e, List.length_take]; omega
theorem insYes {l : List Int} {x i : Int} (h : ikInv l x i) (e : i.toNat = insK l x) (g : pick2 (decide (i < (l.length : Int))) (l.getD i.toNat (dflt TI) == x) false = true) : l = insF l x := by
  have g1 := of_decide_eq_true (andT g).1
  have g2 := beq_iff_eq.1 (andT g).2
  unfold insF
  rw [← e, if_pos ⟨by have := h.1; omega, g2⟩]
theorem insNo {l : List Int} {x i : Int} (h : ikInv l x i) (e : i.toNat = insK l x) (g : pick2 (decide (i < (l.length : Int))) (l.getD i.toNat (dflt TI) == x) false = false) :
    (subL l 0 i ++ [x]) ++ subL l i (l.length : Int) = insF l x := by
  unfold insF
  rw [if_neg]
  · unfold insPut subL
    rw [← e]
    simp
  · rintro ⟨g1, g2⟩
    rw [← e] at g1 g2
    have h1 := h.1
    rw [g2, decide_eq_true (by omega : i < (l.length : Int))] at g
    simp [pick2] at g
theorem insPut_len (l : List Int) (x : Int) : (insPut l x).length = l.length + 1 := by
  unfold insPut; simp only [List.length_append, List.length_take, List.length_drop, List.length_singleton]; omega
theorem insF_len (l : List Int) (x : Int) : (insF l x).length ≤ l.length + 1 := by
  unfold insF; split
  · omega
  · rw [insPut_len]; omega
/-! in order -/
def Asc (l : List Int) : Prop := l.Pairwise (· < ·)
theorem asc_tw {l : List Int} (h : Asc l) (x : Int) : ∀ y ∈ l.drop (insK l x), x ≤ y := by
  induction l with
  | nil => intro y hy; simp at hy
  | cons a r ih =>
    intro y hy
    obtain ⟨h1, h2⟩ := List.pairwise_cons.1 h
    unfold insK at hy
    rw [List.takeWhile_cons] at hy
    split at hy
    · exact ih h2 y (by unfold insK; simpa using hy)
    · rename_i hn
      have ha : x ≤ a := by
        have : ¬ a < x := fun e => hn (decide_eq_true e)
        omega
      rcases List.mem_cons.1 (by simpa using hy) with rfl | hm
      · exact ha
      · have := h1 y hm; omega
theorem tw_all {p : Int → Bool} : ∀ (l : List Int), ∀ y ∈ l.takeWhile p, p y = true
  | [], y, h => by simp at h
  | a :: r, y, h => by
    rw [List.takeWhile_cons] at h
    split at h
    · rename_i ha
      rcases List.mem_cons.1 h with rfl | h
      · exact ha
      · exact tw_all r y h
    · simp at h
theorem tw_lt (l : List Int) (x : Int) : ∀ y ∈ l.take (insK l x), y < x := by
  intro y hy
  have e : l.take (insK l x) = l.takeWhile (ltB x) := by
    unfold insK
    have := List.takeWhile_append_dropWhile (p := ltB x) (l := l)
    calc l.take (l.takeWhile (ltB x)).length = (l.takeWhile (ltB x) ++ l.dropWhile (ltB x)).take (l.takeWhile (ltB x)).length := by rw [this]
      _ = l.takeWhile (ltB x) := List.take_left
  rw [e] at hy
  exact of_decide_eq_true (tw_all l y hy)
theorem insSF {l : List Int} (h : Asc l) (x : Int) : insS l x = insF l x := by
  have hlt := tw_lt l x
  have hge := asc_tw h x
  unfold insS insF
  by_cases hm : x ∈ l
  · rw [if_pos hm]
    have hd : x ∈ l.drop (insK l x) := by
      have : x ∈ l.take (insK l x) ++ l.drop (insK l x) := by rw [List.take_append_drop]; exact hm
      rcases List.mem_append.1 this with h' | h'
      · have := hlt x h'; omega
      · exact h'
    have hk : insK l x < l.length := by
      rcases Nat.lt_or_ge (insK l x) l.length with h' | h'
      · exact h'
      · rw [List.drop_eq_nil_of_le h'] at hd; simp at hd
    have key : l.getD (insK l x) (dflt TI) = x := by
      have hx : l.getD (insK l x) (dflt TI) = l[insK l x] := by rw [List.getD_eq_getElem?_getD, List.getElem?_eq_getElem hk]; rfl
      rw [hx]
      rw [List.drop_eq_getElem_cons hk] at hd hge
      have h1 := hge (l[insK l x]) List.mem_cons_self
      rcases List.mem_cons.1 hd with h' | h'
      · exact h'.symm
      · have hp : Asc (l.drop (insK l x)) := h.sublist (List.drop_sublist _ _)
        rw [List.drop_eq_getElem_cons hk] at hp
        have := (List.pairwise_cons.1 hp).1 x h'
        omega
    rw [if_pos ⟨hk, key⟩]
  · rw [if_neg hm, if_neg]
    rintro ⟨h1, h2⟩
    apply hm
    rw [List.getD_eq_getElem?_getD, List.getElem?_eq_getElem h1] at h2
    have h2 : l[insK l x] = x := h2
    rw [← h2]; exact List.getElem_mem _
theorem insS_asc {l : List Int} (h : Asc l) (x : Int) : Asc (insS l x) := by
  have hlt := tw_lt l x
  have hge := asc_tw h x
  unfold insS
  split
  · exact h
  · rename_i hm
    unfold insPut
    have hsplit := List.take_append_drop (insK l x) l
    have h' : Asc (l.take (insK l x) ++ l.drop (insK l x)) := by rw [hsplit]; exact h
    obtain ⟨p1, p2, p3⟩ := List.pairwise_append.1 h'
    rw [List.append_assoc]
    refine List.pairwise_append.2 ⟨p1, List.pairwise_cons.2 ⟨fun y hy => ?_, p2⟩, fun a ha b hb => ?_⟩
    · have := hge y hy
      have hne : y ≠ x := fun e => hm (by rw [← e]; exact List.mem_of_mem_drop hy)
      omega
    · rcases List.mem_cons.1 hb with rfl | hb
      · exact hlt a ha
      · exact p3 a ha b hb
theorem insS_fold : ∀ (xs l : List Int), Asc l → xs.foldl insS l = xs.foldl insF l
  | [], _, _ => rfl
  | x :: r, l, h => by
    show r.foldl insS (insS l x) = r.foldl insF (insF l x)
    rw [insS_fold r (insS l x) (insS_asc h x), insSF h x]
def methodsF (x : Item) : List Int := x.2.2.2.2.2.foldl (fun l r => insF l r.2.1) [x.2.2.2.1.2.2.1]
theorem methodsS (x : Item) : (x.2.2.2.1.2.2.1 :: x.2.2.2.2.2.map (fun r => r.2.1)).foldl insS [] = methodsF x := by
  rw [insS_fold _ [] List.Pairwise.nil]
  show (x.2.2.2.2.2.map (fun r => r.2.1)).foldl insF (insF [] x.2.2.2.1.2.2.1) = _
  rw [List.foldl_map]
  rfl
end Fw
namespace Fw
open Go
theorem insConds {l : List Int} {x i : Int} (h : ikInv l x i) (hs : l.length ≤ 2000000) :
    (0 : Int) ≤ 0 ∧ 0 ≤ i ∧ i ≤ (l.length : Int) ∧ (subL l 0 i).length ≤ 4000000 ∧ (subL l 0 i).length + 1 ≤ maxApp ∧ 0 ≤ i ∧ i ≤ (l.length : Int) ∧ (l.length : Int) ≤ (l.length : Int) ∧ (subL l 0 i ++ [x]).length + (subL l i (l.length : Int)).length ≤ maxApp := by
  obtain ⟨h1, h2, _⟩ := h
  have e1 : (subL l 0 i).length ≤ 2000000 := by unfold subL; rw [List.length_drop, List.length_take]; omega
  have e2 : (subL l i (l.length : Int)).length ≤ 2000000 := by unfold subL; rw [List.length_drop, List.length_take]; omega
  refine ⟨Int.le_refl _, h1, h2, by omega, by unfold maxApp; omega, h1, h2, Int.le_refl _, ?_⟩
  rw [List.length_append, List.length_singleton]; unfold maxApp; omega
def moInv (x : Item) (acc : List Int) (i : Int) : Prop := foInv (fun l (r : Renewal) => insF l r.2.1) [x.2.2.2.1.2.2.1] x.2.2.2.2.2 acc i ∧ (acc.length : Int) ≤ i + 1
theorem moStart {x : Item} : moInv x [x.2.2.2.1.2.2.1] 0 := ⟨foStart, by simp⟩
theorem moRange {x : Item} {acc : List Int} {i : Int} (h : moInv x acc i) (hl : i < (x.2.2.2.2.2.length : Int)) : inRange i x.2.2.2.2.2.length := foRange h.1 hl
theorem moLen {x : Item} {acc : List Int} {i : Int} (h : moInv x acc i) (hs : x.2.2.2.2.2.length ≤ 1048576) (hl : i < (x.2.2.2.2.2.length : Int)) : acc.length ≤ 2000000 := by
  have := h.2; omega
theorem moStep {x : Item} {acc : List Int} {i : Int} (h : moInv x acc i) (hl : i < (x.2.2.2.2.2.length : Int)) (hb : x.2.2.2.2.2.length ≤ bigLen) :
    moInv x (insF acc (x.2.2.2.2.2.getD i.toNat (dflt TRen)).2.1) (IntKind.i64.wrap (i + 1)) ∧ ((x.2.2.2.2.2.length : Int) - IntKind.i64.wrap (i + 1)).toNat < ((x.2.2.2.2.2.length : Int) - i).toNat := by
  have e := foStep (d := dflt TRen) h.1 hl hb
  refine ⟨⟨e.1, ?_⟩, e.2⟩
  have h1 := insF_len acc (x.2.2.2.2.2.getD i.toNat (dflt TRen)).2.1
  have h2 := h.2
  have h3 : 0 ≤ i := (foRange h.1 hl).1
  unfold bigLen at hb
  rw [w64 (by omega) (by omega)]; omega
theorem moEnd {x : Item} {acc : List Int} {i : Int} (h : moInv x acc i) (hl : ¬ i < (x.2.2.2.2.2.length : Int)) : acc = methodsF x := foEnd h.1 hl
theorem foldIns_len : ∀ (r : List Renewal) (l : List Int), (r.foldl (fun l (r : Renewal) => insF l r.2.1) l).length ≤ l.length + r.length
  | [], l => by simp
  | a :: r, l => by
    have h1 := foldIns_len r (insF l a.2.1)
    have h2 := insF_len l a.2.1
    simp only [List.foldl_cons, List.length_cons]
    omega
theorem methodsBig {x : Item} (h : Sm big20 TItem x) : (methodsF x).length ≤ 1000000000000 := by
  have h1 := foldIns_len x.2.2.2.2.2 [x.2.2.2.1.2.2.1]
  have h2 : x.2.2.2.2.2.length ≤ 1048576 := h.2.2.2.2.2.1
  unfold methodsF
  simp only [List.length_singleton] at h1
  omega
end Fw
namespace Fw
open Go
def hasNF (l : List Int) (x : Int) : Bool := decide (x ∈ l)
theorem getD_memN {l : List Int} {k : Nat} (h : k < l.length) : l.getD k (dflt TI) ∈ l := by
  rw [List.getD_eq_getElem?_getD, List.getElem?_eq_getElem h]; exact List.getElem_mem _
theorem hasNYes {l : List Int} {x i : Int} (h : fInv (fun y => y == x) l i) (hl : i < l.length) (g : (l.getD i.toNat (dflt TI) == x) = true) : true = hasNF l x := by
  have h0 := (fRange h hl).1
  have e := beq_iff_eq.1 g
  unfold hasNF
  rw [decide_eq_true]
  rw [← e]; exact getD_memN (by omega)
theorem hasNNo {l : List Int} {x i : Int} (h : fInv (fun y => y == x) l i) (hl : ¬ i < l.length) : false = hasNF l x := by
  have e := fEnd h hl
  unfold findI at e
  unfold hasNF
  symm
  rw [decide_eq_false_iff_not]
  intro hm
  cases hf : l.findIdx? (fun y => y == x) with
  | some k => rw [hf] at e; simp at e
  | none =>
    have := List.findIdx?_eq_none_iff.1 hf x hm
    simp at this
def mlInv (x : Item) (l : List Int) (i : Int) : Prop := upInv x.2.2.2.2.2 i ∧ l = x.2.2.2.1.2.2.1 :: (x.2.2.2.2.2.take i.toNat).map (fun r => r.2.1)
theorem mlStart {x : Item} : mlInv x [x.2.2.2.1.2.2.1] 0 := ⟨upStart, by simp⟩
theorem mlStep {x : Item} {l : List Int} {i : Int} (h : mlInv x l i) (hl : i < (x.2.2.2.2.2.length : Int)) (hb : x.2.2.2.2.2.length ≤ bigLen) :
    mlInv x (l ++ [(x.2.2.2.2.2.getD i.toNat (dflt TRen)).2.1]) (IntKind.i64.wrap (i + 1)) ∧ ((x.2.2.2.2.2.length : Int) - IntKind.i64.wrap (i + 1)).toNat < ((x.2.2.2.2.2.length : Int) - i).toNat := by
  obtain ⟨u1, u2, u3⟩ := upStep h.1 hl hb
  obtain ⟨k, hk, e1⟩ := h.1
  refine ⟨⟨u1, ?_⟩, u3⟩
  have e2 : (IntKind.i64.wrap (i + 1)).toNat = i.toNat + 1 := by rw [u2]; omega
  rw [e2, take_succD (by omega) (dflt TRen), List.map_append, h.2]; rfl
theorem mlLen {x : Item} {l : List Int} {i : Int} (h : mlInv x l i) (hs : x.2.2.2.2.2.length ≤ 1048576) : l.length ≤ 1048577 := by
  rw [h.2, List.length_cons, List.length_map, List.length_take]; omega
theorem mlApp {x : Item} {l : List Int} {i : Int} (h : mlInv x l i) (hs : x.2.2.2.2.2.length ≤ 1048576) : l.length + 1 ≤ maxApp := by
  have := mlLen h hs; unfold maxApp; omega
theorem mlEnd {x : Item} {l : List Int} {i : Int} (h : mlInv x l i) (hl : ¬ i < (x.2.2.2.2.2.length : Int)) : l.foldl insS [] = methodsF x := by
  obtain ⟨k, hk, e1⟩ := h.1
  rw [h.2, List.take_of_length_le (by omega)]; exact methodsS x
def msInv (l out : List Int) (i : Int) : Prop := foInv insS [] l out i ∧ (out.length : Int) ≤ i
theorem msStart {l : List Int} : msInv l [] 0 := ⟨foStart, by simp⟩
theorem insS_len (l : List Int) (x : Int) : (insS l x).length ≤ l.length + 1 := by
  unfold insS; split
  · omega
  · rw [insPut_len]; omega
theorem msStep {l out out' : List Int} {i : Int} (h : msInv l out i) (hl : i < (l.length : Int)) (hb : l.length ≤ 1048577) (e : out' = insS out (l.getD i.toNat (dflt TI))) :
    msInv l out' (IntKind.i64.wrap (i + 1)) ∧ ((l.length : Int) - IntKind.i64.wrap (i + 1)).toNat < ((l.length : Int) - i).toNat := by
  have q := foStep (d := dflt TI) h.1 hl (by unfold bigLen; omega)
  refine ⟨⟨by rw [e]; exact q.1, ?_⟩, q.2⟩
  have h1 := insS_len out (l.getD i.toNat (dflt TI))
  have h2 := h.2
  have h3 : 0 ≤ i := (foRange h.1 hl).1
  rw [e, w64 (by omega) (by omega)]; omega
theorem msHas {out : List Int} {x : Int} (g : hasNF out x = true) : out = insS out x := by unfold insS; rw [if_pos (of_decide_eq_true g)]
theorem msNew {out : List Int} {x k : Int} (g : hasNF out x = false) (h : ikInv out x k) (t : pick2 (decide (k < (out.length : Int))) (decide (out.getD k.toNat (dflt TI) < x)) false = false) :
    (([] ++ subL out 0 k) ++ [x]) ++ subL out k (out.length : Int) = insS out x := by
  have hk := ikEnd h t
  unfold insS
  rw [if_neg (of_decide_eq_false g)]
  unfold insPut subL
  rw [← hk]
  simp
theorem msOut {l out : List Int} {i : Int} (h : msInv l out i) (hl : i < (l.length : Int)) (hb : l.length ≤ 1048577) : out.length ≤ 2000000 := by have := h.2; omega
theorem msConds {l out : List Int} {x k i : Int} (h : ikInv out x k) (hs : out.length ≤ 2000000) (hr : inRange i l.length) :
    (0 : Int) ≤ 0 ∧ 0 ≤ k ∧ k ≤ (out.length : Int) ∧ 0 + (subL out 0 k).length ≤ maxApp ∧ inRange i l.length ∧ ([] ++ subL out 0 k).length + 1 ≤ maxApp ∧ 0 ≤ k ∧ k ≤ (out.length : Int) ∧ (out.length : Int) ≤ (out.length : Int) ∧
      (([] ++ subL out 0 k) ++ [x]).length + (subL out k (out.length : Int)).length ≤ maxApp := by
  obtain ⟨a1, a2, a3, a4, a5, a6, a7, a8, a9⟩ := insConds h hs
  refine ⟨a1, a2, a3, by omega, hr, by rw [List.nil_append]; exact a5, a6, a7, a8, by rw [List.nil_append]; exact a9⟩
end Fw
