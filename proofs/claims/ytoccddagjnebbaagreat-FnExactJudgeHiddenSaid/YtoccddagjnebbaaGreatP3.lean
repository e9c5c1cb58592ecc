/- Plain laws of renewals being right, of links that hold, and of the bounds that evidence gives. Conditions: none. -/
import Derived.Test.YtoccddagjnebbaaGreatP2
set_option linter.unusedSimpArgs false
set_option linter.unusedVariables false
namespace Fw
open Go
def breakF (l : List Method) (n : Int) : Int := if methI l n < 0 then 0 else (methAt l n).2.2.2
theorem brk0 {l : List Method} {n : Int} (h : methI l n < 0) : (0 : Int) = breakF l n := by unfold breakF; rw [if_pos h]
theorem brk1 {l : List Method} {n : Int} (h : ¬ methI l n < 0) : (methAt l n).2.2.2 = breakF l n := by unfold breakF; rw [if_neg h]
noncomputable def flStep (m x : Int) (s : Step1) : Int := if s.2 = true then pairDF m s.1 x else pairDF m x s.1
theorem flL {m x : Int} {s : Step1} (h : s.2 = true) : flStep m x s = pairDF m s.1 x := if_pos h
theorem flR {m x : Int} {s : Step1} (h : s.2 = false) : flStep m x s = pairDF m x s.1 := if_neg (by rw [h]; decide)
noncomputable def followF (m leaf : Int) (path : List Step1) : Int := path.foldl (flStep m) leaf
def stmAt (r : Renewal) (k : Nat) : Stamp := List.getD r.2.2.2.2 k (dflt TStamp)
def riseP (l : List Stamp) (k : Nat) : Prop := 0 < k → (List.getD l (k - 1) (dflt TStamp)).1 < (List.getD l k (dflt TStamp)).1
noncomputable def riseF (l : List Stamp) : Bool := boolC (∀ k, k < l.length → riseP l k)
def crPre (r : Renewal) (leaf : Int) : Prop := (List.length r.2.2.2.1 : Int) ≤ 4 ∧ followF r.2.1 leaf r.2.2.2.1 = r.2.2.1 ∧ 1 ≤ (List.length r.2.2.2.2 : Int) ∧ (List.length r.2.2.2.2 : Int) ≤ 6
def crG (keys : List Key) (l : List Authority) (r : Renewal) (k : Nat) : Prop := (stmAt r k).2.2.2.1 = r.2.2.1 ∧ checkStampF keys l (stmAt r k) = true
def crP (keys : List Key) (l : List Authority) (r : Renewal) (leaf : Int) : Prop :=
 crPre r leaf ∧ (∀ k, k < List.length r.2.2.2.2 → riseP r.2.2.2.2 k) ∧ ∀ k, k < List.length r.2.2.2.2 → crG keys l r k
noncomputable def checkRenF (keys : List Key) (l : List Authority) (r : Renewal) (leaf : Int) : Bool := boolC (crP keys l r leaf)
theorem riseBad {l : List Stamp} {i : Int} (h0 : 1 ≤ i) (hl : i < l.length) (hb : l.length ≤ bigLen)
   (he : decide ((List.getD l (IntKind.i64.wrap (i - 1)).toNat (dflt TStamp)).1 ≥ (List.getD l i.toNat (dflt TStamp)).1) = true) : ¬ riseP l i.toNat := by
 intro hp
 unfold bigLen at hb
 rw [w64 (by omega) (by omega), show (i - 1).toNat = i.toNat - 1 by omega] at he
 have := hp (by omega)
 have := of_decide_eq_true he
 omega
theorem riseGood {l : List Stamp} {i : Int} (h0 : 1 ≤ i) (hl : i < l.length) (hb : l.length ≤ bigLen)
   (he : decide ((List.getD l (IntKind.i64.wrap (i - 1)).toNat (dflt TStamp)).1 ≥ (List.getD l i.toNat (dflt TStamp)).1) = false) : riseP l i.toNat := by
 intro _
 unfold bigLen at hb
 rw [w64 (by omega) (by omega), show (i - 1).toNat = i.toNat - 1 by omega] at he
 have := of_decide_eq_false he
 omega
def riInv (l : List Stamp) (i : Int) : Prop := 1 ≤ i ∧ (i ≤ l.length ∨ i = 1) ∧ ∀ k, k < i.toNat → riseP l k
theorem riStart {l : List Stamp} : riInv l 1 := ⟨Int.le_refl _, .inr rfl, fun k hk h0 => by
 have : (1 : Int).toNat = 1 := rfl
 omega⟩
theorem riRange {l : List Stamp} {i : Int} (h : riInv l i) (hl : i < l.length) : inRange i l.length := ⟨by have := h.1; omega, hl⟩
theorem riPrev {l : List Stamp} {i : Int} (h : riInv l i) (hl : i < l.length) (hb : l.length ≤ bigLen) : inRange (IntKind.i64.wrap (i - 1)) l.length := prevIdx (riRange h hl) (by have := h.1; omega) hb
theorem riStep {l : List Stamp} {i : Int} (h : riInv l i) (hl : i < l.length) (hb : l.length ≤ bigLen) (hP : riseP l i.toNat) :
   riInv l (IntKind.i64.wrap (i + 1)) ∧ ((l.length : Int) - (IntKind.i64.wrap (i + 1))).toNat < ((l.length : Int) - i).toNat := by
 obtain ⟨h1, h2, h3⟩ := h
 have ew : IntKind.i64.wrap (i + 1) = i + 1 := w64 (by omega) (by unfold bigLen at hb; omega)
 rw [ew]
 refine ⟨⟨by omega, .inl (by omega), fun k hk => ?_⟩, by omega⟩
 by_cases hk2 : k < i.toNat
 · exact h3 k hk2
 · have : k = i.toNat := by omega
   rw [this]; exact hP
theorem riEnd {l : List Stamp} {i : Int} (h : riInv l i) (hl : ¬ i < l.length) : true = riseF l := boolC_yes fun k hk => h.2.2 k (by omega)
theorem riBad {l : List Stamp} {i : Int} (h : riInv l i) (hl : i < l.length) (hn : ¬ riseP l i.toNat) : false = riseF l := boolC_no fun e => hn (e _ (by have := h.1; omega))
theorem crPreI {r : Renewal} {leaf : Int} {b : Bool} (hb : b = riseF r.2.2.2.2) :
   pick2 (pick2 (pick2 (decide ((List.length r.2.2.2.1 : Int) > 4)) true (followF r.2.1 leaf r.2.2.2.1 != r.2.2.1)) true (!(inRangeF (List.length r.2.2.2.2 : Int) 1 6))) true (!b) = false ↔
   (crPre r leaf ∧ ∀ k, k < List.length r.2.2.2.2 → riseP r.2.2.2.2 k) := by
 subst hb
 unfold crPre riseF inRangeF
 simp only [pick2_or, pick2_and, Bool.or_eq_false_iff, decide_eq_false_iff_not, Bool.not_eq_false', bne_eq_false_iff_eq, boolC_iff, Bool.and_eq_true, decide_eq_true_eq]
 constructor
 · rintro ⟨⟨⟨h1, h2⟩, h3, h4⟩, h5⟩
   exact ⟨⟨by omega, h2, h3, h4⟩, h5⟩
 · rintro ⟨⟨h1, h2, h3, h4⟩, h5⟩
   exact ⟨⟨⟨by omega, h2⟩, h3, h4⟩, h5⟩
theorem crPreS {r : Renewal} {leaf : Int} :
   pick2 (pick2 (decide ((List.length r.2.2.2.1 : Int) > 4)) true (followF r.2.1 leaf r.2.2.2.1 != r.2.2.1)) true (!(inRangeF (List.length r.2.2.2.2 : Int) 1 6)) = false ↔ crPre r leaf := by
 unfold crPre inRangeF
 simp only [pick2_or, pick2_and, Bool.or_eq_false_iff, decide_eq_false_iff_not, Bool.not_eq_false', bne_eq_false_iff_eq, Bool.and_eq_true, decide_eq_true_eq]
 constructor
 · rintro ⟨⟨h1, h2⟩, h3, h4⟩
   exact ⟨by omega, h2, h3, h4⟩
 · rintro ⟨h1, h2, h3, h4⟩
   exact ⟨⟨by omega, h2⟩, h3, h4⟩
def crS (keys : List Key) (l : List Authority) (r : Renewal) (k : Nat) : Prop := riseP r.2.2.2.2 k ∧ crG keys l r k
def crTestS (keys : List Key) (l : List Authority) (r : Renewal) (i : Int) : Bool :=
 pick2 (pick2 ((stmAt r i.toNat).2.2.2.1 != r.2.2.1) true (pick2 (decide (i > 0)) (decide ((stmAt r (IntKind.i64.wrap (i - 1)).toNat).1 ≥ (stmAt r i.toNat).1)) false)) true (!(checkStampF keys l (stmAt r i.toNat)))
theorem crTest_iff {keys : List Key} {l : List Authority} {r : Renewal} {i : Int} (h0 : 0 ≤ i) (hl : i < r.2.2.2.2.length) (hb : r.2.2.2.2.length ≤ bigLen) : crTestS keys l r i = false ↔ crS keys l r i.toNat := by
 unfold crTestS crS crG
 simp only [pick2_or, pick2_and, Bool.or_eq_false_iff, Bool.not_eq_false', bne_eq_false_iff_eq, Bool.and_eq_false_iff, decide_eq_false_iff_not]
 have key : (¬ i > 0 ∨ ¬ (stmAt r (IntKind.i64.wrap (i - 1)).toNat).1 ≥ (stmAt r i.toNat).1) ↔ riseP r.2.2.2.2 i.toNat := by
   unfold riseP
   show _ ↔ (0 < i.toNat → (stmAt r (i.toNat - 1)).1 < (stmAt r i.toNat).1)
   unfold bigLen at hb
   rw [w64 (by omega) (by omega), show (i - 1).toNat = i.toNat - 1 by omega]
   constructor
   · rintro (h | h) hh
     · omega
     · omega
   · intro h
     by_cases hi : i > 0
     · right; have := h (by omega); omega
     · left; exact hi
 rw [key]
 constructor
 · rintro ⟨⟨h1, h2⟩, h3⟩; exact ⟨h2, h1, h3⟩
 · rintro ⟨h2, h1, h3⟩; exact ⟨⟨h1, h2⟩, h3⟩
def crTestI (keys : List Key) (l : List Authority) (r : Renewal) (i : Int) : Bool := pick2 ((stmAt r i.toNat).2.2.2.1 != r.2.2.1) true (!(checkStampF keys l (stmAt r i.toNat)))
theorem crTestI_iff {keys : List Key} {l : List Authority} {r : Renewal} {i : Int} : crTestI keys l r i = false ↔ crG keys l r i.toNat := by
 unfold crTestI crG
 simp only [pick2_or, Bool.or_eq_false_iff, Bool.not_eq_false', bne_eq_false_iff_eq]
theorem cr0I {keys : List Key} {l : List Authority} {r : Renewal} {leaf : Int}
   (h : pick2 (pick2 (pick2 (decide ((List.length r.2.2.2.1 : Int) > 4)) true (followF r.2.1 leaf r.2.2.2.1 != r.2.2.1)) true (!(inRangeF (List.length r.2.2.2.2 : Int) 1 6))) true (!(riseF r.2.2.2.2)) = true) : false = checkRenF keys l r leaf :=
 boolC_no fun e => by rw [(crPreI rfl).2 ⟨e.1, e.2.1⟩] at h; cases h
theorem cr0S {keys : List Key} {l : List Authority} {r : Renewal} {leaf : Int}
   (h : pick2 (pick2 (decide ((List.length r.2.2.2.1 : Int) > 4)) true (followF r.2.1 leaf r.2.2.2.1 != r.2.2.1)) true (!(inRangeF (List.length r.2.2.2.2 : Int) 1 6)) = true) : false = checkRenF keys l r leaf :=
 boolC_no fun e => by rw [crPreS.2 e.1] at h; cases h
theorem crBadI {keys : List Key} {l : List Authority} {r : Renewal} {leaf i : Int} {P : Nat → Prop} (h : kInv P r.2.2.2.2 i) (hl : i < r.2.2.2.2.length) (ht : crTestI keys l r i = true) : false = checkRenF keys l r leaf :=
 boolC_no fun e => by rw [crTestI_iff.2 (e.2.2 _ (kLt h hl))] at ht; cases ht
theorem crBadS {keys : List Key} {l : List Authority} {r : Renewal} {leaf i : Int} {P : Nat → Prop} (h : kInv P r.2.2.2.2 i) (hl : i < r.2.2.2.2.length) (hb : r.2.2.2.2.length ≤ bigLen) (ht : crTestS keys l r i = true) : false = checkRenF keys l r leaf :=
 boolC_no fun e => by
   have h0 : 0 ≤ i := by obtain ⟨k, _, e⟩ := h.1; omega
   rw [(crTest_iff h0 hl hb).2 ⟨e.2.1 _ (kLt h hl), e.2.2 _ (kLt h hl)⟩] at ht; cases ht
theorem crEndI {keys : List Key} {l : List Authority} {r : Renewal} {leaf i : Int} (hp : crPre r leaf ∧ ∀ k, k < List.length r.2.2.2.2 → riseP r.2.2.2.2 k) (h : kInv (crG keys l r) r.2.2.2.2 i) (hl : ¬ i < r.2.2.2.2.length) : true = checkRenF keys l r leaf :=
 boolC_yes ⟨hp.1, hp.2, kEnd h hl⟩
theorem crEndS {keys : List Key} {l : List Authority} {r : Renewal} {leaf i : Int} (hp : crPre r leaf) (h : kInv (crS keys l r) r.2.2.2.2 i) (hl : ¬ i < r.2.2.2.2.length) : true = checkRenF keys l r leaf :=
 boolC_yes ⟨hp, fun k hk => (kEnd h hl k hk).1, fun k hk => (kEnd h hl k hk).2⟩
theorem crGoodS {keys : List Key} {l : List Authority} {r : Renewal} {i : Int} {P : Nat → Prop} (h : kInv P r.2.2.2.2 i) (hl : i < r.2.2.2.2.length) (hb : r.2.2.2.2.length ≤ bigLen) (ht : crTestS keys l r i = false) : crS keys l r i.toNat := by
 have h0 : 0 ≤ i := by obtain ⟨k, _, e⟩ := h.1; omega
 exact (crTest_iff h0 hl hb).1 ht
def rsP (l : List Authority) (s : Stamp) : Prop := (stampSpanF l s).2 = true
noncomputable def rsF (l : List Authority) (st : List Stamp) (liars : Int) : Span × Bool :=
 if boolC (∀ s ∈ st, rsP l s) = true then agreedF (st.map fun s => (stampSpanF l s).1) liars else ((0, 0), false)
def rsInv (l : List Authority) (st : List Stamp) (acc : List Span) (i : Int) : Prop := upInv st i ∧ acc = (st.take i.toNat).map (fun s => (stampSpanF l s).1) ∧ ∀ s ∈ st.take i.toNat, rsP l s
theorem rsStart {l : List Authority} {st : List Stamp} : rsInv l st [] 0 := ⟨upStart, by simp, fun s hs => by simp at hs⟩
theorem rsRange {l : List Authority} {st : List Stamp} {acc : List Span} {i : Int} (h : rsInv l st acc i) (hl : i < st.length) : inRange i st.length := upRange h.1 hl
theorem rsLen {l : List Authority} {st : List Stamp} {acc : List Span} {i : Int} (h : rsInv l st acc i) : acc.length ≤ st.length := by
 rw [h.2.1, List.length_map, List.length_take]; omega
theorem rsStep {l : List Authority} {st : List Stamp} {acc : List Span} {d : Stamp} {i : Int} (h : rsInv l st acc i) (hl : i < st.length) (hb : st.length ≤ bigLen) (hP : rsP l (st.getD i.toNat d)) :
   rsInv l st (acc ++ [(stampSpanF l (st.getD i.toNat d)).1]) (IntKind.i64.wrap (i + 1)) ∧ (st.length - (IntKind.i64.wrap (i + 1))).toNat < (st.length - i).toNat := by
 obtain ⟨h1, h2, h3⟩ := h
 obtain ⟨u1, u2, u3⟩ := upStep h1 hl hb
 refine ⟨⟨u1, ?_, ?_⟩, u3⟩ <;> rw [u2, take_snoc (d := d) h1 hl]
 · rw [h2, List.map_append]; rfl
 · intro s hs
   rcases List.mem_append.1 hs with hs | hs
   · exact h3 s hs
   · rw [List.mem_singleton.1 hs]; exact hP
theorem rsEnd {l : List Authority} {st : List Stamp} {acc : List Span} {i liars : Int} (h : rsInv l st acc i) (hl : ¬ i < st.length) : agreedF acc liars = rsF l st liars := by
 obtain ⟨h1, h2, h3⟩ := h
 rw [up_end h1 hl, List.take_length] at h2 h3
 unfold rsF
 rw [if_pos (boolC_iff.2 h3), h2]
theorem rsBad {l : List Authority} {st : List Stamp} {acc : List Span} {d : Stamp} {i liars : Int} (h : rsInv l st acc i) (hl : i < st.length) (hP : ¬ rsP l (st.getD i.toNat d)) : ((0, 0), false) = rsF l st liars := by
 unfold rsF
 rw [if_neg]
 intro e
 exact hP (boolC_iff.1 e _ (getD_mem (upRange h.1 hl) d))
def rbBad (keys : List Key) (l : List Authority) (s : Stamp) : Bool := decide (keyI keys (stampKeyF l s) < 0)
def rbG (keys : List Key) (l : List Authority) (ms : List Method) (m : Int) (s : Stamp) : Int := min m (breakF ms (keyAt keys (stampKeyF l s)).2.2.1)
def rbF (keys : List Key) (l : List Authority) (ms : List Method) (r : Renewal) : Int := efF (rbBad keys l) (rbG keys l ms) 0 r.2.2.2.2 (breakF ms r.2.1)
noncomputable def spanOfF (f : Frame) (r : Renewal) : Span × Bool := rsF f.2.1 r.2.2.2.2 f.2.2.2.1
noncomputable def linkF (f : Frame) (s : Strand) (k : Int) : Bool :=
 if inRangeF k 0 (IntKind.i64.wrap ((s.2.length : Int) - 1)) = true then
   if k = IntKind.i64.wrap ((s.2.length : Int) - 1) then decide (f.2.2.2.2 < rbF f.1 f.2.1 f.2.2.1 (chAt s k))
   else pick2 (spanOfF f (chAt s (IntKind.i64.wrap (k + 1)))).2 (decide ((spanOfF f (chAt s (IntKind.i64.wrap (k + 1)))).1.2 < rbF f.1 f.2.1 f.2.2.1 (chAt s k))) false
 else false
theorem lk0 {f : Frame} {s : Strand} {k : Int} (h : (!(inRangeF k 0 (IntKind.i64.wrap ((s.2.length : Int) - 1)))) = true) : false = linkF f s k := by
 unfold linkF; rw [if_neg]; intro e; rw [e] at h; cases h
theorem lk1 {f : Frame} {s : Strand} {k : Int} (h : (!(inRangeF k 0 (IntKind.i64.wrap ((s.2.length : Int) - 1)))) = false) (g : (k == IntKind.i64.wrap ((s.2.length : Int) - 1)) = true) :
   decide (f.2.2.2.2 < rbF f.1 f.2.1 f.2.2.1 (chAt s k)) = linkF f s k := by
 unfold linkF; rw [if_pos (notF h), if_pos (beqI2 g)]
theorem lk2 {f : Frame} {s : Strand} {k : Int} (h : (!(inRangeF k 0 (IntKind.i64.wrap ((s.2.length : Int) - 1)))) = false) (g : (k == IntKind.i64.wrap ((s.2.length : Int) - 1)) = false) :
   pick2 (spanOfF f (chAt s (IntKind.i64.wrap (k + 1)))).2 (decide ((spanOfF f (chAt s (IntKind.i64.wrap (k + 1)))).1.2 < rbF f.1 f.2.1 f.2.2.1 (chAt s k))) false = linkF f s k := by
 unfold linkF; rw [if_pos (notF h), if_neg (bneI' g)]
theorem lkNext {k : Int} {n : Nat} (h : (!(inRangeF k 0 (IntKind.i64.wrap ((n : Int) - 1)))) = false) (g : (k == IntKind.i64.wrap ((n : Int) - 1)) = false) (hb : n ≤ bigLen) : inRange (IntKind.i64.wrap (k + 1)) n := by
 have h1 := laIdx h hb
 have h2 := bneI' g
 obtain ⟨a1, a2⟩ := h1
 unfold bigLen at hb
 rw [w64 (by omega) (by omega)] at h2
 rw [w64 (by omega) (by omega)]
 exact ⟨by omega, by omega⟩
noncomputable def keptF (f : Frame) (s : Strand) (docs : List Int) (k : Int) : Bool :=
 pick2 (pick2 (spanOfF f (chAt s k)).2 (linkF f s k) false) (checkRenF f.1 f.2.1 (chAt s k) (leafAtF s docs k)) false
theorem keptI {f : Frame} {s : Strand} {docs : List Int} {k : Int} :
   pick2 (pick2 (!(spanOfF f (chAt s k)).2) true (!(checkRenF f.1 f.2.1 (chAt s k) (leafAtF s docs k)))) true (!(linkF f s k)) = !(keptF f s docs k) := by
 unfold keptF
 cases (spanOfF f (chAt s k)).2 <;> cases checkRenF f.1 f.2.1 (chAt s k) (leafAtF s docs k) <;> cases linkF f s k <;> rfl
noncomputable def fkGo (f : Frame) (s : Strand) (docs : List Int) : Nat → Nat
 | 0 => 0
 | j + 1 => if keptF f s docs (j : Int) = true then fkGo f s docs j else j + 1
noncomputable def firstKeptF (f : Frame) (s : Strand) (docs : List Int) : Int := (fkGo f s docs s.2.length : Nat)
def fkInv (f : Frame) (s : Strand) (docs : List Int) (j : Int) : Prop := ∃ k : Nat, k ≤ s.2.length ∧ j = k ∧ fkGo f s docs s.2.length = fkGo f s docs k
theorem fkStart {f : Frame} {s : Strand} {docs : List Int} : fkInv f s docs (s.2.length : Int) := ⟨s.2.length, Nat.le_refl _, rfl, rfl⟩
theorem fkPrev {f : Frame} {s : Strand} {docs : List Int} {j : Int} (h : fkInv f s docs j) (g : j > 0) (hb : s.2.length ≤ bigLen) : IntKind.i64.wrap (j - 1) = j - 1 ∧ inRange (j - 1) s.2.length := by
 obtain ⟨k, h1, rfl, h2⟩ := h
 unfold bigLen at hb
 exact ⟨w64 (by omega) (by omega), by omega, by omega⟩
theorem fkIdx {f : Frame} {s : Strand} {docs : List Int} {j : Int} (h : fkInv f s docs j) (g : j > 0) (hb : s.2.length ≤ bigLen) : inRange (IntKind.i64.wrap (j - 1)) s.2.length := by
 have := fkPrev h g hb
 rw [this.1]; exact this.2
theorem fkStep {f : Frame} {s : Strand} {docs : List Int} {j : Int} (h : fkInv f s docs j) (g : j > 0) (hb : s.2.length ≤ bigLen) (hk : keptF f s docs (IntKind.i64.wrap (j - 1)) = true) :
   fkInv f s docs (IntKind.i64.wrap (j - 1)) ∧ (IntKind.i64.wrap (j - 1)).toNat < j.toNat := by
 have hp := fkPrev h g hb
 rw [hp.1] at hk ⊢
 obtain ⟨k, h1, rfl, h2⟩ := h
 obtain ⟨n, rfl⟩ : ∃ n, k = n + 1 := ⟨k - 1, by omega⟩
 have e : ((n + 1 : Nat) : Int) - 1 = (n : Int) := by omega
 rw [e] at hk ⊢
 refine ⟨⟨n, by omega, rfl, ?_⟩, by omega⟩
 rw [h2, fkGo, if_pos hk]
theorem fkStop {f : Frame} {s : Strand} {docs : List Int} {j : Int} (h : fkInv f s docs j) (g : j > 0) (hb : s.2.length ≤ bigLen) (hk : keptF f s docs (IntKind.i64.wrap (j - 1)) = false) : j = firstKeptF f s docs := by
 have hp := fkPrev h g hb
 rw [hp.1] at hk
 obtain ⟨k, h1, rfl, h2⟩ := h
 obtain ⟨n, rfl⟩ : ∃ n, k = n + 1 := ⟨k - 1, by omega⟩
 have e : ((n + 1 : Nat) : Int) - 1 = (n : Int) := by omega
 rw [e] at hk
 unfold firstKeptF
 rw [h2, fkGo, if_neg (by rw [hk]; decide)]
theorem fkZero {f : Frame} {s : Strand} {docs : List Int} {j : Int} (h : fkInv f s docs j) (g : ¬ j > 0) : j = firstKeptF f s docs := by
 obtain ⟨k, h1, rfl, h2⟩ := h
 have : k = 0 := by omega
 subst this
 unfold firstKeptF
 rw [h2]; rfl
theorem fkGo_le (f : Frame) (s : Strand) (docs : List Int) : ∀ n, fkGo f s docs n ≤ n
 | 0 => Nat.le_refl _
 | n + 1 => by
   rw [fkGo]
   split
   · exact Nat.le_trans (fkGo_le f s docs n) (by omega)
   · exact Nat.le_refl _
noncomputable def boG (f : Frame) (p : Int) (t : Int) (r : Renewal) : Int := if r.1 > p then min t (spanOfF f r).1.2 else t
theorem boY {f : Frame} {p t : Int} {r : Renewal} (h : decide (r.1 > p) = true) : boG f p t r = min t (spanOfF f r).1.2 := if_pos (of_decide_eq_true h)
theorem boN {f : Frame} {p t : Int} {r : Renewal} (h : decide (r.1 > p) = false) : boG f p t r = t := if_neg (of_decide_eq_false h)
noncomputable def boundOfF (f : Frame) (s : Strand) (docs : List Int) (p : Int) : Int := (s.2.drop (firstKeptF f s docs).toNat).foldl (boG f p) f.2.2.2.2
def boInv (f : Frame) (s : Strand) (docs : List Int) (p : Int) (t j : Int) : Prop := upInv s.2 j ∧ boundOfF f s docs p = (s.2.drop j.toNat).foldl (boG f p) t
theorem boStart {f : Frame} {s : Strand} {docs : List Int} {p : Int} : boInv f s docs p f.2.2.2.2 (firstKeptF f s docs) := ⟨⟨_, fkGo_le f s docs _, rfl⟩, rfl⟩
theorem boRange {f : Frame} {s : Strand} {docs : List Int} {p t j : Int} (h : boInv f s docs p t j) (hl : j < s.2.length) : inRange j s.2.length := upRange h.1 hl
theorem boStep {f : Frame} {s : Strand} {docs : List Int} {p t t' j : Int} (h : boInv f s docs p t j) (hl : j < s.2.length) (hb : s.2.length ≤ bigLen) (e : t' = boG f p t (chAt s j)) :
   boInv f s docs p t' (IntKind.i64.wrap (j + 1)) ∧ (s.2.length - (IntKind.i64.wrap (j + 1))).toNat < (s.2.length - j).toNat := by
 obtain ⟨u1, u2, u3⟩ := upStep h.1 hl hb
 obtain ⟨⟨k, hk, rfl⟩, h2⟩ := h
 refine ⟨⟨u1, ?_⟩, u3⟩
 have hk' : k < s.2.length := by omega
 have e2 : (IntKind.i64.wrap ((k : Int) + 1)).toNat = k + 1 := by rw [u2]; omega
 have e3 : ((k : Int)).toNat = k := by omega
 rw [e2, h2, e3, List.drop_eq_getElem_cons hk', List.foldl_cons, e]
 have : chAt s (k : Int) = s.2[k] := by unfold chAt; rw [e3, List.getD_eq_getElem?_getD, List.getElem?_eq_getElem hk']; rfl
 rw [this]
theorem boEnd {f : Frame} {s : Strand} {docs : List Int} {p t j : Int} (h : boInv f s docs p t j) (hl : ¬ j < s.2.length) : t = boundOfF f s docs p := by
 obtain ⟨k, hk, e1⟩ := h.1
 rw [h.2, List.drop_eq_nil_of_le (by omega)]; rfl
noncomputable def pieceBoundF (f : Frame) (s : Strand) (docs : List Int) (p : Piece) : Int := if findPieceF s p < 0 then f.2.2.2.2 else boundOfF f s docs (findPieceF s p)
theorem pb0 {f : Frame} {s : Strand} {docs : List Int} {p : Piece} (h : findPieceF s p < 0) : f.2.2.2.2 = pieceBoundF f s docs p := by unfold pieceBoundF; rw [if_pos h]
theorem pb1 {f : Frame} {s : Strand} {docs : List Int} {p : Piece} (h : ¬ findPieceF s p < 0) : boundOfF f s docs (findPieceF s p) = pieceBoundF f s docs p := by unfold pieceBoundF; rw [if_neg h]
abbrev Evidence := List Strand × List (List Stamp)
noncomputable def ebG (f : Frame) (p : Piece) (t : Int) (x : Strand × List Int) : Int := min t (pieceBoundF f x.1 x.2 p)
noncomputable def evBoundF (f : Frame) (e : Evidence) (docs : List (List Int)) (p : Piece) : Int := (e.1.zip docs).foldl (ebG f p) f.2.2.2.2
def ebInv (f : Frame) (e : Evidence) (docs : List (List Int)) (p : Piece) (t i : Int) : Prop := upInv e.1 i ∧ t = ((e.1.zip docs).take i.toNat).foldl (ebG f p) f.2.2.2.2
theorem ebStart {f : Frame} {e : Evidence} {docs : List (List Int)} {p : Piece} : ebInv f e docs p f.2.2.2.2 0 := ⟨upStart, by simp⟩
theorem ebRange {f : Frame} {e : Evidence} {docs : List (List Int)} {p : Piece} {t i : Int} (h : ebInv f e docs p t i) (hl : i < e.1.length) : inRange i e.1.length := upRange h.1 hl
theorem ebRangeD {f : Frame} {e : Evidence} {docs : List (List Int)} {p : Piece} {t i : Int} (h : ebInv f e docs p t i) (hl : i < docs.length) : inRange i docs.length := by
 obtain ⟨k, hk, e1⟩ := h.1
 exact ⟨by omega, hl⟩
theorem ebYes {f : Frame} {e : Evidence} {docs : List (List Int)} {p : Piece} {t i : Int} (d1 : Strand) (d2 : List Int) (h : ebInv f e docs p t i) (hl : i < e.1.length) (h2 : i < docs.length) (hb : e.1.length ≤ bigLen) {t' : Int}
   (et : t' = min t (pieceBoundF f (e.1.getD i.toNat d1) (docs.getD i.toNat d2) p)) :
   ebInv f e docs p t' (IntKind.i64.wrap (i + 1)) ∧ (e.1.length - (IntKind.i64.wrap (i + 1))).toNat < (e.1.length - i).toNat := by
 obtain ⟨u1, u2, u3⟩ := upStep h.1 hl hb
 obtain ⟨⟨k, hk, rfl⟩, h3⟩ := h
 refine ⟨⟨u1, ?_⟩, u3⟩
 have e2 : (IntKind.i64.wrap ((k : Int) + 1)).toNat = k + 1 := by rw [u2]; omega
 have e3 : ((k : Int)).toNat = k := by omega
 rw [e3] at et h3
 have g1 : k < e.1.length := by omega
 have g2 : k < docs.length := by omega
 have g3 : k < (e.1.zip docs).length := by rw [List.length_zip]; omega
 rw [e2, take_succD g3 (d1, d2), List.foldl_append, ← h3, et]
 show _ = ebG f p t ((e.1.zip docs).getD k (d1, d2))
 unfold ebG
 rw [List.getD_eq_getElem?_getD (l := e.1.zip docs), List.getElem?_eq_getElem g3, List.getElem_zip, List.getD_eq_getElem?_getD, List.getElem?_eq_getElem g1, List.getD_eq_getElem?_getD, List.getElem?_eq_getElem g2]
 rfl
theorem ebNo {f : Frame} {e : Evidence} {docs : List (List Int)} {p : Piece} {t i : Int} (h : ebInv f e docs p t i) (hl : i < e.1.length) (h2 : ¬ i < docs.length) (hb : e.1.length ≤ bigLen) :
   ebInv f e docs p t (IntKind.i64.wrap (i + 1)) ∧ (e.1.length - (IntKind.i64.wrap (i + 1))).toNat < (e.1.length - i).toNat := by
 obtain ⟨u1, u2, u3⟩ := upStep h.1 hl hb
 obtain ⟨⟨k, hk, rfl⟩, h3⟩ := h
 refine ⟨⟨u1, ?_⟩, u3⟩
 have e2 : (IntKind.i64.wrap ((k : Int) + 1)).toNat = k + 1 := by rw [u2]; omega
 rw [e2, h3, List.take_of_length_le (by rw [List.length_zip]; omega), List.take_of_length_le (by rw [List.length_zip]; omega)]
theorem ebEnd {f : Frame} {e : Evidence} {docs : List (List Int)} {p : Piece} {t i : Int} (h : ebInv f e docs p t i) (hl : ¬ (i < e.1.length ∧ i < docs.length)) : t = evBoundF f e docs p := by
 obtain ⟨⟨k, hk, rfl⟩, h3⟩ := h
 rw [h3, List.take_of_length_le (by rw [List.length_zip]; omega)]; rfl
end Fw
namespace Fw
open Go
def ltL : List Int → List Int → Bool
 | [], [] => false
 | [], _ :: _ => true
 | _ :: _, [] => false
 | x :: xs, y :: ys => if x = y then ltL xs ys else decide (x < y)
theorem ltL_irr : ∀ a, ltL a a = false
 | [] => rfl
 | x :: xs => by rw [ltL, if_pos rfl]; exact ltL_irr xs
theorem ltL_tri : ∀ a b, ltL a b = false → a ≠ b → ltL b a = true
 | [], [], _, h => (h rfl).elim
 | [], _ :: _, h, _ => by cases h
 | _ :: _, [], _, _ => rfl
 | x :: xs, y :: ys, h, hn => by
   rw [ltL] at h ⊢
   by_cases e : x = y
   · subst e
     rw [if_pos rfl] at h ⊢
     exact ltL_tri xs ys h fun e2 => hn (by rw [e2])
   · rw [if_neg e] at h
     rw [if_neg (Ne.symm e)]
     have := of_decide_eq_false h
     exact decide_eq_true (by omega)
theorem ltL_trans : ∀ a b c, ltL a b = true → ltL b c = true → ltL a c = true
 | [], [], _, h, _ => by cases h
 | [], _ :: _, [], _, h => by cases h
 | [], _ :: _, _ :: _, _, _ => rfl
 | _ :: _, [], _, h, _ => by cases h
 | _ :: _, _ :: _, [], _, h => by cases h
 | x :: xs, y :: ys, z :: zs, h1, h2 => by
   rw [ltL] at h1 h2 ⊢
   by_cases e1 : x = y
   · subst e1
     rw [if_pos rfl] at h1
     by_cases e2 : x = z
     · rw [if_pos e2] at h2 ⊢
       exact ltL_trans xs ys zs h1 h2
     · rw [if_neg e2] at h2 ⊢
       exact h2
   · rw [if_neg e1] at h1
     have g1 := of_decide_eq_true h1
     by_cases e2 : y = z
     · subst e2
       rw [if_neg e1]; exact h1
     · rw [if_neg e2] at h2
       have g2 := of_decide_eq_true h2
       rw [if_neg (by omega)]
       exact decide_eq_true (by omega)
def pbF (a b : Piece) : Bool := if a.2.1 = b.2.1 then (if a.1 = b.1 then decide (a.2.2 < b.2.2) else decide (a.1 < b.1)) else ltL a.2.1 b.2.1
theorem pb_irr (a : Piece) : pbF a a = false := by unfold pbF; rw [if_pos rfl, if_pos rfl]; exact decide_eq_false (by omega)
theorem pb_tri {a b : Piece} (h : pbF a b = false) (hn : a ≠ b) : pbF b a = true := by
 unfold pbF at h ⊢
 by_cases e1 : a.2.1 = b.2.1
 · rw [if_pos e1] at h
   rw [if_pos e1.symm]
   by_cases e2 : a.1 = b.1
   · rw [if_pos e2] at h
     rw [if_pos e2.symm]
     have g := of_decide_eq_false h
     by_cases e3 : a.2.2 = b.2.2
     · exact (hn (Prod.ext e2 (Prod.ext e1 e3))).elim
     · exact decide_eq_true (by omega)
   · rw [if_neg e2] at h
     rw [if_neg (Ne.symm e2)]
     have g := of_decide_eq_false h
     exact decide_eq_true (by omega)
 · rw [if_neg e1] at h
   rw [if_neg (Ne.symm e1)]
   exact ltL_tri _ _ h e1
theorem pb_trans {a b c : Piece} (h1 : pbF a b = true) (h2 : pbF b c = true) : pbF a c = true := by
 unfold pbF at h1 h2 ⊢
 by_cases e1 : a.2.1 = b.2.1
 · rw [if_pos e1] at h1
   by_cases e2 : b.2.1 = c.2.1
   · rw [if_pos e2] at h2
     rw [if_pos (e1.trans e2)]
     by_cases f1 : a.1 = b.1
     · rw [if_pos f1] at h1
       by_cases f2 : b.1 = c.1
       · rw [if_pos f2] at h2
         rw [if_pos (f1.trans f2)]
         have := of_decide_eq_true h1
         have := of_decide_eq_true h2
         exact decide_eq_true (by omega)
       · rw [if_neg f2] at h2
         have := of_decide_eq_true h2
         rw [if_neg (by omega)]
         exact decide_eq_true (by omega)
     · rw [if_neg f1] at h1
       have := of_decide_eq_true h1
       by_cases f2 : b.1 = c.1
       · rw [if_neg (by omega)]
         exact decide_eq_true (by omega)
       · rw [if_neg f2] at h2
         have := of_decide_eq_true h2
         rw [if_neg (by omega)]
         exact decide_eq_true (by omega)
   · rw [if_neg e2] at h2
     rw [e1, if_neg e2]
     exact h2
 · rw [if_neg e1] at h1
   by_cases e2 : b.2.1 = c.2.1
   · rw [← e2, if_neg e1]; exact h1
   · rw [if_neg e2] at h2
     have h3 := ltL_trans _ _ _ h1 h2
     by_cases e3 : a.2.1 = c.2.1
     · rw [e3, ltL_irr] at h3; cases h3
     · rw [if_neg e3]; exact h3
def pbInv (a b : Piece) (i : Int) : Prop := 0 ≤ i ∧ i ≤ a.2.1.length ∧ i ≤ b.2.1.length ∧ a.2.1.take i.toNat = b.2.1.take i.toNat ∧ ltL a.2.1 b.2.1 = ltL (a.2.1.drop i.toNat) (b.2.1.drop i.toNat)
theorem pbStart {a b : Piece} : pbInv a b 0 := ⟨by omega, by omega, by omega, by simp, rfl⟩
theorem pbRangeA {a b : Piece} {i : Int} (h : pbInv a b i) (hl : i < a.2.1.length) : inRange i a.2.1.length := ⟨h.1, hl⟩
theorem pbRangeB {a b : Piece} {i : Int} (h : pbInv a b i) (hl : i < b.2.1.length) : inRange i b.2.1.length := ⟨h.1, hl⟩
theorem dropD {l : List Int} {i : Int} (h0 : 0 ≤ i) (hl : i < (l.length : Int)) : l.drop i.toNat = l.getD i.toNat (dflt TI) :: l.drop (i.toNat + 1) := by
 have h : i.toNat < l.length := by omega
 rw [List.drop_eq_getElem_cons h, List.getD_eq_getElem?_getD, List.getElem?_eq_getElem h]; rfl
theorem pbStep {a b : Piece} {i : Int} (h : pbInv a b i) (hl : i < a.2.1.length) (hm : i < b.2.1.length) (hb : a.2.1.length ≤ bigLen) (e : a.2.1.getD i.toNat (dflt TI) = b.2.1.getD i.toNat (dflt TI)) :
   pbInv a b (IntKind.i64.wrap (i + 1)) ∧ ((a.2.1.length : Int) - IntKind.i64.wrap (i + 1)).toNat < ((a.2.1.length : Int) - i).toNat := by
 obtain ⟨h0, h1, h2, h3, h4⟩ := h
 rw [w64 (by omega) (by unfold bigLen at hb; omega)]
 have e1 : (i + 1).toNat = i.toNat + 1 := by omega
 refine ⟨⟨by omega, by omega, by omega, ?_, ?_⟩, by omega⟩
 · rw [e1, take_succD (by omega) (dflt TI), take_succD (by omega) (dflt TI), h3, e]
 · rw [h4, dropD h0 hl, dropD h0 hm, e1, ltL, if_pos e]
theorem pbHit {a b : Piece} {i : Int} (h : pbInv a b i) (hl : i < a.2.1.length) (hm : i < b.2.1.length) (e : a.2.1.getD i.toNat (dflt TI) ≠ b.2.1.getD i.toNat (dflt TI)) :
   decide (a.2.1.getD i.toNat (dflt TI) < b.2.1.getD i.toNat (dflt TI)) = pbF a b := by
 obtain ⟨h0, h1, h2, h3, h4⟩ := h
 unfold pbF
 rw [if_neg (fun he => e (by rw [he])), h4, dropD h0 hl, dropD h0 hm, ltL, if_neg e]
theorem pbLen {a b : Piece} {i : Int} (h : pbInv a b i) (hl : ¬ (i < a.2.1.length ∧ i < b.2.1.length)) (e : ((a.2.1.length : Int) != (b.2.1.length : Int)) = true) :
   decide ((a.2.1.length : Int) < (b.2.1.length : Int)) = pbF a b := by
 obtain ⟨h0, h1, h2, h3, h4⟩ := h
 have en := bneT e
 unfold pbF
 rw [if_neg (fun he => en (by rw [he])), h4]
 by_cases g : (a.2.1.length : Int) < b.2.1.length
 · rw [decide_eq_true g, List.drop_eq_nil_of_le (by omega), dropD h0 (by omega)]; rfl
 · rw [decide_eq_false g, List.drop_eq_nil_of_le (as := b.2.1) (by omega), dropD h0 (by omega)]; rfl
theorem pbSame {a b : Piece} {i : Int} (h : pbInv a b i) (hl : ¬ (i < a.2.1.length ∧ i < b.2.1.length)) (e : ((a.2.1.length : Int) != (b.2.1.length : Int)) = false) : a.2.1 = b.2.1 := by
 obtain ⟨h0, h1, h2, h3, h4⟩ := h
 have en := bneI e
 rw [List.take_of_length_le (by omega), List.take_of_length_le (by omega)] at h3
 exact h3
theorem pbKey {a b : Piece} {i : Int} (h : pbInv a b i) (hl : ¬ (i < a.2.1.length ∧ i < b.2.1.length)) (e : ((a.2.1.length : Int) != (b.2.1.length : Int)) = false) (g : (a.1 != b.1) = true) : decide (a.1 < b.1) = pbF a b := by
 unfold pbF; rw [if_pos (pbSame h hl e), if_neg (bneT g)]
theorem pbMark {a b : Piece} {i : Int} (h : pbInv a b i) (hl : ¬ (i < a.2.1.length ∧ i < b.2.1.length)) (e : ((a.2.1.length : Int) != (b.2.1.length : Int)) = false) (g : (a.1 != b.1) = false) : decide (a.2.2 < b.2.2) = pbF a b := by
 unfold pbF; rw [if_pos (pbSame h hl e), if_pos (bneI g)]
def AscP (l : List Piece) : Prop := l.Pairwise (fun a b => pbF a b = true)
def putP (p : Piece) (l : List Piece) : List Piece := insP (fun y => pbF y p) p l
open Classical in
noncomputable def usPut (p : Piece) (l : List Piece) : List Piece := if p ∈ l then l else putP p l
theorem twP {p : Piece} {l : List Piece} : ∀ y ∈ l.takeWhile (fun y => pbF y p), pbF y p = true := by
 induction l with
 | nil => intro y hy; simp at hy
 | cons a r ih =>
   intro y hy
   rw [List.takeWhile_cons] at hy
   cases h : pbF a p with
   | true =>
     rw [h] at hy
     rcases List.mem_cons.1 hy with e | e
     · rw [e]; exact h
     · exact ih y e
   | false => rw [h] at hy; simp at hy
theorem dwP {p : Piece} : ∀ {l : List Piece}, AscP l → p ∉ l → ∀ y ∈ l.dropWhile (fun y => pbF y p), pbF p y = true
 | [], _, _, y, hy => by simp at hy
 | a :: r, h, hn, y, hy => by
   obtain ⟨h1, h2⟩ := List.pairwise_cons.1 h
   rw [List.dropWhile_cons] at hy
   cases hc : pbF a p with
   | true =>
     rw [hc] at hy
     exact dwP h2 (fun e => hn (List.mem_cons_of_mem _ e)) y hy
   | false =>
     rw [hc] at hy
     have ha : pbF p a = true := pb_tri hc fun e => hn (by rw [e]; exact List.mem_cons_self)
     rcases List.mem_cons.1 hy with e | e
     · rw [e]; exact ha
     · exact pb_trans ha (h1 y e)
theorem ascPut {p : Piece} {l : List Piece} (h : AscP l) (hn : p ∉ l) : AscP (putP p l) := by
 have e := List.takeWhile_append_dropWhile (p := fun y => pbF y p) (l := l)
 have h' := h
 rw [← e] at h'
 obtain ⟨a1, a2, a3⟩ := List.pairwise_append.1 h'
 unfold putP insP
 refine List.pairwise_append.2 ⟨a1, List.pairwise_cons.2 ⟨dwP h hn, a2⟩, fun x hx y hy => ?_⟩
 rcases List.mem_cons.1 hy with e2 | e2
 · rw [e2]; exact twP x hx
 · exact a3 x hx y e2
theorem ascUs {p : Piece} {l : List Piece} (h : AscP l) : AscP (usPut p l) := by
 unfold usPut
 split
 · exact h
 · rename_i hn; exact ascPut h hn
theorem atP {p : Piece} : ∀ {l : List Piece}, AscP l → p ∈ l → (l.takeWhile (fun y => pbF y p)).length < l.length ∧ l.getD (l.takeWhile (fun y => pbF y p)).length (dflt TPiece) = p
 | [], _, h => by cases h
 | a :: r, h, hm => by
   obtain ⟨h1, h2⟩ := List.pairwise_cons.1 h
   rcases List.mem_cons.1 hm with e | e
   · subst e
     rw [List.takeWhile_cons, pb_irr]
     exact ⟨by simp, rfl⟩
   · rw [List.takeWhile_cons, h1 p e]
     obtain ⟨g1, g2⟩ := atP h2 e
     refine ⟨?_, ?_⟩
     · show (a :: r.takeWhile _).length < _
       simp only [List.length_cons]
       omega
     · show List.getD (a :: r) (a :: r.takeWhile _).length _ = p
       rw [List.length_cons]
       exact g2
theorem putYes {p : Piece} {l : List Piece} {k : Int} (h0 : 0 ≤ k) (g : pick2 (decide (k < (l.length : Int))) (eqC (l.getD k.toNat (dflt TPiece)) p) false = true) : l = usPut p l := by
 have g1 := of_decide_eq_true (andT g).1
 have g2 := eqC_iff.1 (andT g).2
 unfold usPut
 rw [if_pos]
 rw [← g2]
 exact getD_mem ⟨h0, g1⟩ _
theorem putNo {p : Piece} {l : List Piece} {k : Int} (ha : AscP l) (hk : k.toNat = (l.takeWhile (fun y => pbF y p)).length) (h0 : 0 ≤ k) (g : pick2 (decide (k < (l.length : Int))) (eqC (l.getD k.toNat (dflt TPiece)) p) false = false) : usPut p l = putP p l := by
 unfold usPut
 rw [if_neg]
 intro hm
 obtain ⟨g1, g2⟩ := atP ha hm
 rw [← hk] at g1 g2
 rw [decide_eq_true (show k < (l.length : Int) by omega), eqC_iff.2 g2] at g
 cases g
theorem putHas {p : Piece} {l : List Piece} (h : hasF l p = true) : usPut p l = l := by
 obtain ⟨x, hx, e⟩ := boolC_iff.1 h
 unfold usPut
 rw [if_pos (by rw [← e]; exact hx)]
theorem putHasNo {p : Piece} {l : List Piece} (h : hasF l p = false) : usPut p l = putP p l := by
 unfold usPut
 rw [if_neg]
 intro hm
 have : hasF l p = true := boolC_iff.2 ⟨p, hm, rfl⟩
 rw [this] at h; cases h
theorem usPut_len (p : Piece) (l : List Piece) : (usPut p l).length ≤ l.length + 1 := by
 unfold usPut
 split
 · omega
 · have : (putP p l).length = l.length + 1 := insP_len
   omega
def pstBad (p : Piece) : Bool := kindF p != 103
def pieceStampF (p : Piece) : Stamp × Bool := if pstBad p = true then ((0, 0, 0, 0, 0), false) else ((nth p 1, nth p 2, nth p 3, nth p 4, p.2.2), true)
theorem pst0 {p : Piece} (h : pstBad p = true) : pieceStampF p = ((0, 0, 0, 0, 0), false) := by unfold pieceStampF; rw [if_pos h]
theorem pst1 {p : Piece} (h : pstBad p = false) : pieceStampF p = ((nth p 1, nth p 2, nth p 3, nth p 4, p.2.2), true) := by unfold pieceStampF; rw [if_neg (by rw [h]; decide)]
theorem pstN {p : Piece} (h : (kindF p != 103) = false) : List.length p.2.1 = 5 := kindK h (by decide) rfl
def psgBad (p : Piece) : Bool := pick2 (kindF p != 104) true (nth p 1 != p.1)
def pieceSignF (p : Piece) : Sig × Bool := if psgBad p = true then ((0, 0, 0, 0, 0, 0, 0, 0, 0), false) else ((nth p 1, nth p 2, nth p 3, nth p 4, nth p 5, nth p 6, nth p 7, nth p 8, p.2.2), true)
theorem psg0 {p : Piece} (h : psgBad p = true) : pieceSignF p = ((0, 0, 0, 0, 0, 0, 0, 0, 0), false) := by unfold pieceSignF; rw [if_pos h]
theorem psg1 {p : Piece} (h : psgBad p = false) : pieceSignF p = ((nth p 1, nth p 2, nth p 3, nth p 4, nth p 5, nth p 6, nth p 7, nth p 8, p.2.2), true) := by unfold pieceSignF; rw [if_neg (by rw [h]; decide)]
theorem psgN {p : Piece} (h : (kindF p != 104) = false) : List.length p.2.1 = 9 := kindK h (by decide) rfl
def shapeF (p : Piece) : Bool := pick2 (pick2 (pick2 (pick2 (pieceCertF p).2 true (pieceStatF p).2) true (pieceStampF p).2) true (pieceSignF p).2) true (pieceMandF p).2
theorem certK {p : Piece} (h : kindF p ≠ 101) : (pieceCertF p).2 = false := by
 rw [pc0]; show pcBad p = true
 unfold pcBad; rw [bne_iff_ne.2 h]; rfl
theorem statK {p : Piece} (h : kindF p ≠ 102) : (pieceStatF p).2 = false := by
 rw [ps0]; show psBad p = true
 unfold psBad; rw [bne_iff_ne.2 h]; rfl
theorem stampK {p : Piece} (h : kindF p ≠ 103) : (pieceStampF p).2 = false := by
 rw [pst0]; show pstBad p = true
 unfold pstBad; exact bne_iff_ne.2 h
theorem signK {p : Piece} (h : kindF p ≠ 104) : (pieceSignF p).2 = false := by
 rw [psg0]; show psgBad p = true
 unfold psgBad; rw [bne_iff_ne.2 h]; rfl
theorem mandK {p : Piece} (h : kindF p ≠ 105) : (pieceMandF p).2 = false := by
 rw [pm0]; show pmBad p = true
 unfold pmBad; rw [bne_iff_ne.2 h]; rfl
theorem sh101 {p : Piece} (h : kindF p = 101) : shapeF p = (pieceCertF p).2 := by
 unfold shapeF; rw [statK (by omega), stampK (by omega), signK (by omega), mandK (by omega)]; cases (pieceCertF p).2 <;> rfl
theorem sh102 {p : Piece} (h : kindF p = 102) : shapeF p = (pieceStatF p).2 := by
 unfold shapeF; rw [certK (by omega), stampK (by omega), signK (by omega), mandK (by omega)]; cases (pieceStatF p).2 <;> rfl
theorem sh103 {p : Piece} (h : kindF p = 103) : shapeF p = (pieceStampF p).2 := by
 unfold shapeF; rw [certK (by omega), statK (by omega), signK (by omega), mandK (by omega)]; cases (pieceStampF p).2 <;> rfl
theorem sh104 {p : Piece} (h : kindF p = 104) : shapeF p = (pieceSignF p).2 := by
 unfold shapeF; rw [certK (by omega), statK (by omega), stampK (by omega), mandK (by omega)]; cases (pieceSignF p).2 <;> rfl
theorem sh105 {p : Piece} (h : kindF p = 105) : shapeF p = (pieceMandF p).2 := by
 unfold shapeF; rw [certK (by omega), statK (by omega), stampK (by omega), signK (by omega)]; cases (pieceMandF p).2 <;> rfl
theorem shNo {p : Piece} (h1 : kindF p ≠ 101) (h2 : kindF p ≠ 102) (h3 : kindF p ≠ 103) (h4 : kindF p ≠ 104) (h5 : kindF p ≠ 105) : shapeF p = false := by
 unfold shapeF; rw [certK h1, statK h2, stampK h3, signK h4, mandK h5]; rfl
theorem shapeSmall {p : Piece} (h : shapeF p = true) : smallL p.2.1 := by
 have k : ∀ (k : Int) (n : Nat), kindF p = k → k ≠ 0 → List.getD [7, 5, 5, 9, 6] (IntKind.i64.wrap (k - 101)).toNat (dflt TI) = (n : Int) → n ≤ 9 → smallL p.2.1 := by
   intro k n hk h0 ht hn
   exact smallLit (kindK (bne_eq_false_iff_eq.2 hk) h0 ht) (by omega)
 by_cases h1 : kindF p = 101
 · exact k 101 7 h1 (by decide) rfl (by decide)
 by_cases h2 : kindF p = 102
 · exact k 102 5 h2 (by decide) rfl (by decide)
 by_cases h3 : kindF p = 103
 · exact k 103 5 h3 (by decide) rfl (by decide)
 by_cases h4 : kindF p = 104
 · exact k 104 9 h4 (by decide) rfl (by decide)
 by_cases h5 : kindF p = 105
 · exact k 105 6 h5 (by decide) rfl (by decide)
 rw [shNo h1 h2 h3 h4 h5] at h; cases h
def checkPieceF (keys : List Key) (p : Piece) : Bool := pick2 (shapeF p) (checkMarkF keys p.1 p.2.1 p.2.2) false
theorem checkPieceKey {keys : List Key} {p : Piece} (h : checkPieceF keys p = true) : ¬ keyI keys p.1 < 0 := by
 have h1 := (andT h).2
 unfold checkMarkF at h1
 have := of_decide_eq_true (andT h1).1
 omega
def brkKeyF (f : Frame) (n : Int) : Int := if keyI f.1 n < 0 then 0 else breakF f.2.2.1 (keyAt f.1 n).2.2.1
theorem bk0 {f : Frame} {n : Int} (h : keyI f.1 n < 0) : (0 : Int) = brkKeyF f n := by unfold brkKeyF; rw [if_pos h]
theorem bk1 {f : Frame} {n : Int} (h : ¬ keyI f.1 n < 0) : breakF f.2.2.1 (keyAt f.1 n).2.2.1 = brkKeyF f n := by unfold brkKeyF; rw [if_neg h]
noncomputable def usableF (f : Frame) (e : Evidence) (docs : List (List Int)) (p : Piece) : Bool := pick2 (checkPieceF f.1 p) (decide (evBoundF f e docs p < brkKeyF f p.1)) false
theorem usS {f : Frame} {e : Evidence} {docs : List (List Int)} {p : Piece} :
   pick2 (pick2 (decide (keyI f.1 p.1 ≥ 0)) (checkPieceF f.1 p) false) (decide (evBoundF f e docs p < breakF f.2.2.1 (keyAt f.1 p.1).2.2.1)) false = usableF f e docs p := by
 unfold usableF
 cases hc : checkPieceF f.1 p with
 | false => cases decide (keyI f.1 p.1 ≥ 0) <;> rfl
 | true =>
   have hk := checkPieceKey hc
   rw [decide_eq_true (show keyI f.1 p.1 ≥ 0 by omega), ← bk1 hk]
   rfl
noncomputable def usG (f : Frame) (e : Evidence) (docs : List (List Int)) (out : List Piece) (p : Piece) : List Piece := if usableF f e docs p = true then usPut p out else out
theorem usSkip {f : Frame} {e : Evidence} {docs : List (List Int)} {out : List Piece} {p : Piece}
   (h : pick2 (pick2 (hasF out p) true (!(checkPieceF f.1 p))) true (decide (evBoundF f e docs p ≥ brkKeyF f p.1)) = true) : out = usG f e docs out p := by
 unfold usG
 split
 · rename_i hu
   rw [putHas]
   have h1 := (andT hu).1
   have h2 := of_decide_eq_true (andT hu).2
   rw [h1, decide_eq_false (by omega : ¬ evBoundF f e docs p ≥ brkKeyF f p.1)] at h
   cases hh : hasF out p with
   | true => rfl
   | false => rw [hh] at h; cases h
 · rfl
theorem usTake {f : Frame} {e : Evidence} {docs : List (List Int)} {out : List Piece} {p : Piece}
   (h : pick2 (pick2 (hasF out p) true (!(checkPieceF f.1 p))) true (decide (evBoundF f e docs p ≥ brkKeyF f p.1)) = false) : putP p out = usG f e docs out p := by
 have h1 := orF h
 have h2 := orF h1.1
 have h3 := of_decide_eq_false h1.2
 have hu : usableF f e docs p = true := yesAnd (notF h2.2) (decide_eq_true (by omega))
 unfold usG
 rw [if_pos hu, putHasNo h2.1]
theorem usYes {f : Frame} {e : Evidence} {docs : List (List Int)} {out : List Piece} {p : Piece} (h : usableF f e docs p = true) : usPut p out = usG f e docs out p := by unfold usG; rw [if_pos h]
theorem usNo {f : Frame} {e : Evidence} {docs : List (List Int)} {out : List Piece} {p : Piece} (h : usableF f e docs p = false) : out = usG f e docs out p := by unfold usG; rw [if_neg (by rw [h]; decide)]
def strG {β : Type} (g : β → Piece → β) (out : β) (s : Strand) : β := s.1.foldl g out
noncomputable def usablePiecesF (f : Frame) (e : Evidence) (docs : List (List Int)) : List Piece := e.1.foldl (strG (usG f e docs)) []
theorem ascG {f : Frame} {e : Evidence} {docs : List (List Int)} : ∀ {l : List Piece} {out : List Piece}, AscP out → AscP (l.foldl (usG f e docs) out)
 | [], _, h => h
 | p :: r, out, h => by
   rw [List.foldl_cons]
   refine ascG ?_
   unfold usG
   split
   · exact ascUs h
   · exact h
theorem ascS {f : Frame} {e : Evidence} {docs : List (List Int)} : ∀ {l : List Strand} {out : List Piece}, AscP out → AscP (l.foldl (strG (usG f e docs)) out)
 | [], _, h => h
 | s :: r, out, h => by rw [List.foldl_cons]; exact ascS (ascG h)
theorem lenG {f : Frame} {e : Evidence} {docs : List (List Int)} : ∀ {l : List Piece} {out : List Piece}, (l.foldl (usG f e docs) out).length ≤ out.length + l.length
 | [], _ => by simp
 | p :: r, out => by
   rw [List.foldl_cons, List.length_cons]
   have h1 := lenG (f := f) (e := e) (docs := docs) (l := r) (out := usG f e docs out p)
   have h2 : (usG f e docs out p).length ≤ out.length + 1 := by
     unfold usG
     split
     · exact usPut_len _ _
     · omega
   omega
def pieces (l : List Strand) : Nat := cellsL (fun s => s.1.length) l
theorem lenS {f : Frame} {e : Evidence} {docs : List (List Int)} : ∀ {l : List Strand} {out : List Piece}, (l.foldl (strG (usG f e docs)) out).length ≤ out.length + pieces l
 | [], _ => by simp [pieces, cellsL]
 | s :: r, out => by
   rw [List.foldl_cons]
   have h1 := lenS (f := f) (e := e) (docs := docs) (l := r) (out := strG (usG f e docs) out s)
   have h2 : (strG (usG f e docs) out s).length ≤ out.length + s.1.length := lenG
   have h3 : pieces (s :: r) = s.1.length + pieces r := rfl
   omega
theorem piecesCells : ∀ l : List Strand, pieces l ≤ cellsC (.slice (.pair (.slice TPiece) (.slice TRen))) l
 | [] => Nat.zero_le _
 | s :: r => by
   have h1 := piecesCells r
   have h2 : pieces (s :: r) = s.1.length + pieces r := rfl
   have h3 : cellsC (.slice (.pair (.slice TPiece) (.slice TRen))) (s :: r) = (cellsC (.slice TPiece) s.1 + cellsC (.slice TRen) s.2) + cellsC (.slice (.pair (.slice TPiece) (.slice TRen))) r := rfl
   have h4 : ∀ m : List Piece, m.length ≤ cellsC (.slice TPiece) m := by
     intro m
     induction m with
     | nil => exact Nat.zero_le _
     | cons p t ih =>
       have : cellsC (.slice TPiece) (p :: t) = (1 + (cellsL (cellsC TI) p.2.1 + 1)) + cellsC (.slice TPiece) t := rfl
       rw [List.length_cons, this]; omega
   have := h4 s.1
   omega
end Fw
namespace Fw
open Go
def uoInv (f : Frame) (e : Evidence) (docs : List (List Int)) (out : List Piece) (i : Int) : Prop := foInv (strG (usG f e docs)) [] e.1 out i
def uiInv (f : Frame) (e : Evidence) (docs : List (List Int)) (i : Int) (out : List Piece) (k : Int) : Prop :=
 foInv (usG f e docs) ((e.1.take i.toNat).foldl (strG (usG f e docs)) []) (e.1.getD i.toNat (dflt (.pair (.slice TPiece) (.slice TRen)))).1 out k
theorem uoStart {f : Frame} {e : Evidence} {docs : List (List Int)} : uoInv f e docs [] 0 := foStart
theorem uoRange {f : Frame} {e : Evidence} {docs : List (List Int)} {out : List Piece} {i : Int} (h : uoInv f e docs out i) (hl : i < e.1.length) : inRange i e.1.length := foRange h hl
theorem uiStart {f : Frame} {e : Evidence} {docs : List (List Int)} {out : List Piece} {i : Int} (h : uoInv f e docs out i) : uiInv f e docs i out 0 := by
 unfold uiInv
 rw [← h.2]
 exact foStart
theorem uiRange {f : Frame} {e : Evidence} {docs : List (List Int)} {out : List Piece} {i k : Int} (h : uiInv f e docs i out k) (hl : k < (e.1.getD i.toNat (dflt (.pair (.slice TPiece) (.slice TRen)))).1.length) :
   inRange k (e.1.getD i.toNat (dflt (.pair (.slice TPiece) (.slice TRen)))).1.length := foRange h hl
theorem uiAsc {f : Frame} {e : Evidence} {docs : List (List Int)} {out : List Piece} {i k : Int} (h : uiInv f e docs i out k) : AscP out := by
 rw [h.2]
 exact ascG (ascS List.Pairwise.nil)
theorem pieces_app (a b : List Strand) : pieces (a ++ b) = pieces a + pieces b := cellsL_append _ a b
theorem uiLen {f : Frame} {e : Evidence} {docs : List (List Int)} {out : List Piece} {i k : Int} (ho : inRange i e.1.length) (h : uiInv f e docs i out k)
   (hc : ((cellsC (.slice (.pair (.slice TPiece) (.slice TRen))) e.1 : Nat) : Int) ≤ 2000000000) : out.length ≤ 2000000000 := by
 have h0 := piecesCells e.1
 obtain ⟨o1, o2⟩ := ho
 have hi : i.toNat < e.1.length := by omega
 have h1 : out.length ≤ ((e.1.take i.toNat).foldl (strG (usG f e docs)) []).length + ((e.1.getD i.toNat (dflt (.pair (.slice TPiece) (.slice TRen)))).1.take k.toNat).length := by
   rw [h.2]; exact lenG
 have h2 : ((e.1.take i.toNat).foldl (strG (usG f e docs)) []).length ≤ ([] : List Piece).length + pieces (e.1.take i.toNat) := lenS
 have h3 : pieces e.1 = pieces (e.1.take (i.toNat + 1)) + pieces (e.1.drop (i.toNat + 1)) := by rw [← pieces_app, List.take_append_drop]
 have h4 : pieces (e.1.take (i.toNat + 1)) = pieces (e.1.take i.toNat) + (e.1.getD i.toNat (dflt (.pair (.slice TPiece) (.slice TRen)))).1.length := by
   rw [take_succD hi (dflt (.pair (.slice TPiece) (.slice TRen))), pieces_app]
   rfl
 rw [List.length_take] at h1
 simp only [List.length_nil] at h2
 omega
theorem uiStep {f : Frame} {e : Evidence} {docs : List (List Int)} {out out' : List Piece} {i k : Int} (h : uiInv f e docs i out k) (hl : k < (e.1.getD i.toNat (dflt (.pair (.slice TPiece) (.slice TRen)))).1.length)
   (hb : (e.1.getD i.toNat (dflt (.pair (.slice TPiece) (.slice TRen)))).1.length ≤ bigLen) (g : out' = usG f e docs out ((e.1.getD i.toNat (dflt (.pair (.slice TPiece) (.slice TRen)))).1.getD k.toNat (dflt TPiece))) :
   uiInv f e docs i out' (IntKind.i64.wrap (k + 1)) ∧ (((e.1.getD i.toNat (dflt (.pair (.slice TPiece) (.slice TRen)))).1.length : Int) - IntKind.i64.wrap (k + 1)).toNat < (((e.1.getD i.toNat (dflt (.pair (.slice TPiece) (.slice TRen)))).1.length : Int) - k).toNat := by
 rw [g]
 exact foStep (d := dflt TPiece) h hl hb
theorem uoStep {f : Frame} {e : Evidence} {docs : List (List Int)} {out0 out : List Piece} {i k : Int} (h : uoInv f e docs out0 i) (hl : i < e.1.length) (hb : e.1.length ≤ bigLen)
   (hi : uiInv f e docs i out k) (hk : ¬ k < (e.1.getD i.toNat (dflt (.pair (.slice TPiece) (.slice TRen)))).1.length) :
   uoInv f e docs out (IntKind.i64.wrap (i + 1)) ∧ (e.1.length - (IntKind.i64.wrap (i + 1))).toNat < (e.1.length - i).toNat := by
 have e1 := foEnd hi hk
 have s := foStep (d := dflt (.pair (.slice TPiece) (.slice TRen))) h hl hb
 refine ⟨?_, s.2⟩
 have e2 : out = strG (usG f e docs) out0 (e.1.getD i.toNat (dflt (.pair (.slice TPiece) (.slice TRen)))) := by
   rw [e1, h.2]; rfl
 rw [e2]
 exact s.1
theorem uoEnd {f : Frame} {e : Evidence} {docs : List (List Int)} {out : List Piece} {i : Int} (h : uoInv f e docs out i) (hl : ¬ i < e.1.length) : out = usablePiecesF f e docs := foEnd h hl
theorem usStrand {e : Evidence} (hs : Sm big20 (.slice (.pair (.slice TPiece) (.slice TRen))) e.1) {i : Int} (hi : inRange i e.1.length) :
   Sm big20 (.slice TPiece) (e.1.getD i.toNat (dflt (.pair (.slice TPiece) (.slice TRen)))).1 ∧ ∀ r ∈ (e.1.getD i.toNat (dflt (.pair (.slice TPiece) (.slice TRen)))).2, Sm big20 TRen r := by
 have := hs.2 _ (getD_mem hi (dflt (.pair (.slice TPiece) (.slice TRen))))
 exact ⟨this.1, this.2.2⟩
theorem usPieceLen {f : Frame} {e : Evidence} {docs : List (List Int)} (hc : ((cellsC (.slice (.pair (.slice TPiece) (.slice TRen))) e.1 : Nat) : Int) ≤ 2000000000) : (usablePiecesF f e docs).length ≤ 2000000000 := by
 have h0 := piecesCells e.1
 have h1 : (usablePiecesF f e docs).length ≤ ([] : List Piece).length + pieces e.1 := lenS
 simp only [List.length_nil] at h1
 omega
section
variable {α : Type} {p : α → Bool} {l : List α} {i : Int} {d x : α}
theorem tkStepW (h : tkInv p l i) (hs : l.length ≤ 2000000000) (g : pick2 (decide (i < (l.length : Int))) (p (l.getD i.toNat d)) false = true) :
   tkInv p l (IntKind.i64.wrap (i + 1)) ∧ ((l.length : Int) - IntKind.i64.wrap (i + 1)).toNat < ((l.length : Int) - i).toNat := by
 obtain ⟨h1, h2, h3⟩ := h
 have g1 := of_decide_eq_true (andT g).1
 have g2 := (andT g).2
 rw [w64 (by omega) (by omega)]
 refine ⟨⟨by omega, by omega, fun y hy => ?_⟩, by omega⟩
 rw [show (i + 1).toNat = i.toNat + 1 by omega, take_succD (by omega) d] at hy
 rcases List.mem_append.1 hy with hy | hy
 · exact h3 y hy
 · rw [List.mem_singleton.1 hy]; exact g2
end
def mkG (l : List Stamp) (k : Nat) : List Int := [(l.getD k (dflt TStamp)).2.2.2.2]
def stampPieceF (key : Int) (s : Stamp) : Piece := (key, stampIntsF s, s.2.2.2.2)
def afHas (f : Frame) (s : Stamp) : Piece := stampPieceF (stampKeyF f.2.1 s) s
noncomputable def afP (f : Frame) (us : List Piece) (s : Stamp) : Bool := hasF us (afHas f s)
noncomputable def bornF (f : Frame) (x : Sig) : Int := if keyI f.1 x.1 < 0 then 0 else (keyAt f.1 x.1).2.2.2.1
end Fw
namespace Fw
open Go
theorem foStepE {α β : Type} {f : β → α → β} {z : β} {a : List α} {acc acc' : β} {d : α} {i : Int} (h : foInv f z a acc i) (hl : i < a.length) (hb : a.length ≤ bigLen) (e : acc' = f acc (a.getD i.toNat d)) :
   foInv f z a acc' (IntKind.i64.wrap (i + 1)) ∧ (a.length - (IntKind.i64.wrap (i + 1))).toNat < (a.length - i).toNat := by
 rw [e]; exact foStep h hl hb
theorem fkEndS {f : Frame} {s : Strand} {docs : List Int} {j : Int} (h : fkInv f s docs j) (hb : s.2.length ≤ bigLen)
   (g : pick2 (decide (j > 0)) (keptF f s docs (IntKind.i64.wrap (j - 1))) false = false) : j = firstKeptF f s docs := by
 by_cases h0 : j > 0
 · rw [decide_eq_true h0] at g
   exact fkStop h h0 hb g
 · exact fkZero h h0
end Fw
namespace Fw
open Go
def lsS (n : Int) (a : Int) (x : Status) : Int := if x.1 = n ∧ 0 ≤ x.2.2.1 ∧ (a < 0 ∨ x.2.2.1 < a) then x.2.2.1 else a
def msS (n : Int) (a : Int) (x : Status) : Int := if x.1 = n ∧ 0 ≤ x.2.2.1 then max a x.2.2.1 else a
def gsS (n : Int) (a : Int) (x : Status) : Int := if x.1 = n ∧ x.2.2.1 < 0 then max a x.2.1 else a
def leastF (l : List Status) (n : Int) : Int := l.foldl (lsS n) (-1)
def mostF (l : List Status) (n : Int) : Int := l.foldl (msS n) (-1)
def goodF (l : List Status) (n : Int) : Int := l.foldl (gsS n) (-1)
theorem lsN1 {n a : Int} {x : Status} (h : (x.1 != n) = true) : a = lsS n a x := by unfold lsS; rw [if_neg (fun q => bneT h q.1)]
theorem msN1 {n a : Int} {x : Status} (h : (x.1 != n) = true) : a = msS n a x := by unfold msS; rw [if_neg (fun q => bneT h q.1)]
theorem gsN1 {n a : Int} {x : Status} (h : (x.1 != n) = true) : a = gsS n a x := by unfold gsS; rw [if_neg (fun q => bneT h q.1)]
theorem lsN2 {n a : Int} {x : Status} (h : x.2.2.1 < 0) : a = lsS n a x := by unfold lsS; rw [if_neg (fun q => by omega)]
theorem msN2 {n a : Int} {x : Status} (h : x.2.2.1 < 0) : a = msS n a x := by unfold msS; rw [if_neg (fun q => by omega)]
theorem gsY {n a : Int} {x : Status} (h1 : (x.1 != n) = false) (h : x.2.2.1 < 0) : max a x.2.1 = gsS n a x := by unfold gsS; rw [if_pos ⟨bneI h1, h⟩]
theorem gsN2 {n a : Int} {x : Status} (h : ¬ x.2.2.1 < 0) : a = gsS n a x := by unfold gsS; rw [if_neg (fun q => h q.2)]
theorem msY {n a : Int} {x : Status} (h1 : (x.1 != n) = false) (h : ¬ x.2.2.1 < 0) : max a x.2.2.1 = msS n a x := by unfold msS; rw [if_pos ⟨bneI h1, by omega⟩]
theorem lsY {n a : Int} {x : Status} (h1 : (x.1 != n) = false) (h : ¬ x.2.2.1 < 0) (g : pick2 (decide (a < 0)) true (decide (x.2.2.1 < a)) = true) : x.2.2.1 = lsS n a x := by
 unfold lsS
 rw [if_pos]
 refine ⟨bneI h1, by omega, ?_⟩
 rw [pick2_or, Bool.or_eq_true, decide_eq_true_eq, decide_eq_true_eq] at g
 exact g
theorem lsN3 {n a : Int} {x : Status} (g : pick2 (decide (a < 0)) true (decide (x.2.2.1 < a)) = false) : a = lsS n a x := by
 unfold lsS
 rw [if_neg]
 rintro ⟨_, _, h⟩
 have g1 := of_decide_eq_false (orF g).1
 have g2 := of_decide_eq_false (orF g).2
 rcases h with h | h
 · exact g1 h
 · exact g2 h
def goodUntilF (l : List Status) (n : Int) : Int := if leastF l n ≥ 0 then IntKind.i64.wrap (leastF l n - 1) else goodF l n
def badFromF (l : List Status) (n : Int) : Int := if mostF l n < 0 then 10001 else max (mostF l n) (IntKind.i64.wrap (goodF l n + 1))
theorem gu1 {l : List Status} {n : Int} (h : leastF l n ≥ 0) : IntKind.i64.wrap (leastF l n - 1) = goodUntilF l n := by unfold goodUntilF; rw [if_pos h]
theorem gu0 {l : List Status} {n : Int} (h : ¬ leastF l n ≥ 0) : goodF l n = goodUntilF l n := by unfold goodUntilF; rw [if_neg h]
theorem bf0 {l : List Status} {n : Int} (h : mostF l n < 0) : (10001 : Int) = badFromF l n := by unfold badFromF; rw [if_pos h]
theorem bf1 {l : List Status} {n : Int} (h : ¬ mostF l n < 0) : max (mostF l n) (IntKind.i64.wrap (goodF l n + 1)) = badFromF l n := by unfold badFromF; rw [if_neg h]
def l23S (f : Frame) (us : List Piece) (l : List Stamp) (k : Nat) : Prop := riseP l k ∧ afP f us (l.getD k (dflt TStamp)) = true ∧ rsP f.2.1 (l.getD k (dflt TStamp))
def l23Inv (f : Frame) (us : List Piece) (l : List Stamp) (acc : List Span) (i : Int) : Prop := rsInv f.2.1 l acc i ∧ ∀ k, k < i.toNat → l23S f us l k
theorem l23Start {f : Frame} {us : List Piece} {l : List Stamp} : l23Inv f us l [] 0 := ⟨rsStart, fun k hk => by simp at hk⟩
theorem l23Step {f : Frame} {us : List Piece} {l : List Stamp} {acc : List Span} {i : Int} (h : l23Inv f us l acc i) (hl : i < l.length) (hb : l.length ≤ bigLen) (hP : l23S f us l i.toNat) :
   l23Inv f us l (acc ++ [(stampSpanF f.2.1 (l.getD i.toNat (dflt TStamp))).1]) (IntKind.i64.wrap (i + 1)) ∧ (l.length - (IntKind.i64.wrap (i + 1))).toNat < (l.length - i).toNat := by
 have s := rsStep (d := dflt TStamp) h.1 hl hb hP.2.2
 obtain ⟨u1, u2, u3⟩ := upStep h.1.1 hl hb
 refine ⟨⟨s.1, fun k hk => ?_⟩, s.2⟩
 obtain ⟨n, hn, e⟩ := h.1.1
 rw [u2] at hk
 by_cases hk2 : k < i.toNat
 · exact h.2 k hk2
 · have : k = i.toNat := by omega
   rw [this]; exact hP
noncomputable def l23Bad (f : Frame) (us : List Piece) (l : List Stamp) (i : Int) : Bool :=
 pick2 (pick2 (!(stampSpanF f.2.1 (l.getD i.toNat (dflt TStamp))).2) true (pick2 (decide (i > 0)) (decide ((l.getD (IntKind.i64.wrap (i - 1)).toNat (dflt TStamp)).1 ≥ (l.getD i.toNat (dflt TStamp)).1)) false)) true (!(afP f us (l.getD i.toNat (dflt TStamp))))
theorem l23_iff {f : Frame} {us : List Piece} {l : List Stamp} {i : Int} (h0 : 0 ≤ i) (hl : i < l.length) (hb : l.length ≤ bigLen) : l23Bad f us l i = false ↔ l23S f us l i.toNat := by
 unfold l23Bad l23S rsP
 simp only [pick2_or, pick2_and, Bool.or_eq_false_iff, Bool.not_eq_false', Bool.and_eq_false_iff, decide_eq_false_iff_not]
 have key : (¬ i > 0 ∨ ¬ (l.getD (IntKind.i64.wrap (i - 1)).toNat (dflt TStamp)).1 ≥ (l.getD i.toNat (dflt TStamp)).1) ↔ riseP l i.toNat := by
   unfold riseP
   unfold bigLen at hb
   rw [w64 (by omega) (by omega), show (i - 1).toNat = i.toNat - 1 by omega]
   constructor
   · rintro (h | h) hh
     · omega
     · omega
   · intro h
     by_cases hi : i > 0
     · right; have := h (by omega); omega
     · left; exact hi
 rw [key]
 constructor
 · rintro ⟨⟨h1, h2⟩, h3⟩; exact ⟨h2, h3, h1⟩
 · rintro ⟨h2, h3, h1⟩; exact ⟨⟨h1, h2⟩, h3⟩
noncomputable def l23F (f : Frame) (us : List Piece) (l : List Stamp) : Int × Bool :=
 if boolC (∀ k, k < l.length → l23S f us l k) = true then ((rsF f.2.1 l f.2.2.2.1).1.1, (rsF f.2.1 l f.2.2.2.1).2) else (0, false)
theorem l23Stop {f : Frame} {us : List Piece} {l : List Stamp} {acc : List Span} {i : Int} (h : l23Inv f us l acc i) (hl : i < l.length) (hb : l.length ≤ bigLen) (g : l23Bad f us l i = true) : (0, false) = l23F f us l := by
 have h0 : 0 ≤ i := by obtain ⟨n, hn, e⟩ := h.1.1; omega
 unfold l23F
 rw [if_neg]
 intro e
 have := boolC_iff.1 e i.toNat (by omega)
 rw [(l23_iff h0 hl hb).2 this] at g
 cases g
theorem l23End {f : Frame} {us : List Piece} {l : List Stamp} {acc : List Span} {i : Int} (h : l23Inv f us l acc i) (hl : ¬ i < l.length) : ((agreedF acc f.2.2.2.1).1.1, (agreedF acc f.2.2.2.1).2) = l23F f us l := by
 unfold l23F
 obtain ⟨n, hn, e⟩ := h.1.1
 rw [if_pos (boolC_iff.2 fun k hk => h.2 k (by omega)), ← rsEnd h.1 hl]
theorem l23_ok {f : Frame} {us : List Piece} {l : List Stamp} : ((l23F f us l).2 = true ↔ ((∀ k, k < l.length → riseP l k) ∧ (∀ s ∈ l, afP f us s = true) ∧ (rsF f.2.1 l f.2.2.2.1).2 = true)) ∧ ((l23F f us l).2 = true → (l23F f us l).1 = (rsF f.2.1 l f.2.2.2.1).1.1) := by
 have all : ∀ P : Stamp → Prop, (∀ k, k < l.length → P (l.getD k (dflt TStamp))) ↔ ∀ s ∈ l, P s := by
   intro P
   constructor
   · intro h s hs
     obtain ⟨k, hk, e⟩ := List.getElem_of_mem hs
     have := h k hk
     rw [List.getD_eq_getElem?_getD, List.getElem?_eq_getElem hk] at this
     rw [← e]; exact this
   · intro h k hk
     have : l.getD k (dflt TStamp) ∈ l := by
       rw [List.getD_eq_getElem?_getD, List.getElem?_eq_getElem hk]; exact List.getElem_mem hk
     exact h _ this
 unfold l23F
 by_cases h : ∀ k, k < l.length → l23S f us l k
 · rw [if_pos (boolC_iff.2 h)]
   refine ⟨⟨fun e => ⟨fun k hk => (h k hk).1, (all _).1 fun k hk => (h k hk).2.1, e⟩, fun e => e.2.2⟩, fun _ => rfl⟩
 · rw [if_neg (fun e => h (boolC_iff.1 e))]
   refine ⟨⟨fun e => (by cases e), fun e => (h fun k hk => ?_).elim⟩, fun e => (by cases e)⟩
   refine ⟨e.1 k hk, (all (fun s => afP f us s = true)).2 e.2.1 k hk, ?_⟩
   have e3 := e.2.2
   unfold rsF at e3
   split at e3
   · rename_i hc
     exact (all (rsP f.2.1)).2 (boolC_iff.1 hc) k hk
   · cases e3
end Fw
namespace Fw
open Go
theorem insConds2W {α : Type} {p : α → Bool} {l : List α} {i : Int} {Q : Prop} (h : tkInv p l i) (hs : l.length ≤ 2000000000) (hQ : Q) :
   conj [(0 : Int) ≤ 0, (0 : Int) ≤ i, i ≤ (l.length : Int), (subL l 0 i).length ≤ maxApp, Q, (subL l 0 i).length + 0 + 1 ≤ maxApp, 0 ≤ i, i ≤ (l.length : Int), (l.length : Int) ≤ (l.length : Int), (subL l 0 i).length ≤ i.toNat, (subL l 0 i).length + (0 + 1) + (l.length - i.toNat) ≤ maxApp] := by
 have e := sub0_len h
 obtain ⟨h1, h2, _⟩ := h
 rw [e]
 unfold maxApp
 refine ⟨Int.le_refl _, h1, h2, by omega, hQ, by omega, h1, h2, Int.le_refl _, Nat.le_refl _, ?_⟩
 show i.toNat + (0 + 1) + (l.length - i.toNat) ≤ 4294967296
 omega
theorem evdCells {e : Evidence} (h : ((cellsC (.pair (.slice (.pair (.slice TPiece) (.slice TRen))) (.slice (.slice TStamp))) e : Nat) : Int) ≤ 2000000000) : ((cellsC (.slice (.pair (.slice TPiece) (.slice TRen))) e.1 : Nat) : Int) ≤ 2000000000 := by
 have : cellsC (.pair (.slice (.pair (.slice TPiece) (.slice TRen))) (.slice (.slice TStamp))) e = cellsC (.slice (.pair (.slice TPiece) (.slice TRen))) e.1 + cellsC (.slice (.slice TStamp)) e.2 := rfl
 omega
theorem putEq {p : Piece} {l : List Piece} {i : Int} (h : tkInv (fun y => pbF y p) l i) (hk : i.toNat = (l.takeWhile (fun y => pbF y p)).length) :
   l.take (subL l 0 i).length ++ ([] ++ [p]) ++ l.drop i.toNat = putP p l := insP_eq (by rw [sub0_len h]; exact hk) hk
end Fw
namespace Fw
open Go
noncomputable def adF (d : Doc) (s : Strand) : List Int × Bool := (docDigsF s d, true)
noncomputable def allDigsF (e : Evidence) (d : Doc) : List (List Int) := pickF (adF d) e.1
noncomputable def stampsDgF (m : Int) (l : List Stamp) : Int := if (l.length : Int) = 0 then 0 else max 1 (digestF m ([] ++ (List.range l.length).flatMap (mkG l)))
theorem sd0 {m : Int} {l : List Stamp} (h : (l.length : Int) = 0) : (0 : Int) = stampsDgF m l := by unfold stampsDgF; rw [if_pos h]
theorem sd1 {m : Int} {l : List Stamp} (h : ¬ (l.length : Int) = 0) : max 1 (digestF m ([] ++ (List.range l.length).flatMap (mkG l))) = stampsDgF m l := by unfold stampsDgF; rw [if_neg h]
theorem pkLenW {α β : Type} {f : α → β × Bool} {L : List α} {acc : List β} {i : Int} (h : pkInv f L acc i) (hs : L.length ≤ 2000000000) : acc.length + 1 ≤ maxApp := by
 have := pick_len f (L.take i.toNat)
 rw [← h.2, List.length_take] at this
 unfold maxApp; omega
noncomputable def frG (f : Frame) (us : List Piece) (x : Sig) (t : Int) (l : List Stamp) : Int :=
 if x.2.2.2.2.2.2.2.1 ≠ 0 ∧ stampsDgF x.2.2.1 l = x.2.2.2.2.2.2.2.1 ∧ (l23F f us l).2 = true then max t (l23F f us l).1 else t
noncomputable def freshG (f : Frame) (e : Evidence) (us : List Piece) (x : Sig) : Int := e.2.foldl (frG f us x) (bornF f x)
theorem frZero {f : Frame} {us : List Piece} {x : Sig} (h : x.2.2.2.2.2.2.2.1 = 0) : ∀ (l : List (List Stamp)) (t : Int), l.foldl (frG f us x) t = t
 | [], _ => rfl
 | a :: r, t => by
   have : frG f us x t a = t := by unfold frG; rw [if_neg (fun hh => hh.1 h)]
   rw [List.foldl_cons, this]
   exact frZero h r t
theorem born1 {f : Frame} {x : Sig} (h : keyI f.1 x.1 ≥ 0) : (keyAt f.1 x.1).2.2.2.1 = bornF f x := by unfold bornF; rw [if_neg (by omega)]
theorem born0 {f : Frame} {x : Sig} (h : ¬ keyI f.1 x.1 ≥ 0) : (0 : Int) = bornF f x := by unfold bornF; rw [if_pos (by omega)]
theorem frStart {f : Frame} {e : Evidence} {us : List Piece} {x : Sig} {t : Int} (h : t = bornF f x) : foInv (frG f us x) (bornF f x) e.2 t 0 := by rw [h]; exact foStart
theorem frEnd {f : Frame} {e : Evidence} {us : List Piece} {x : Sig} {t i : Int} (h : foInv (frG f us x) (bornF f x) e.2 t i)
   (g : pick2 (decide (i < (e.2.length : Int))) (x.2.2.2.2.2.2.2.1 != 0) false = false) : t = freshG f e us x := by
 by_cases hl : i < (e.2.length : Int)
 · rw [decide_eq_true hl] at g
   have g2 : (x.2.2.2.2.2.2.2.1 != 0) = false := g
   have hz := bneI g2
   rw [h.2, frZero hz]
   unfold freshG
   rw [frZero hz]
 · exact foEnd h hl
theorem frNo1 {f : Frame} {us : List Piece} {x : Sig} {t : Int} {l : List Stamp} (h : (stampsDgF x.2.2.1 l != x.2.2.2.2.2.2.2.1) = true) : t = frG f us x t l := by
 unfold frG; rw [if_neg (fun hh => bneT h hh.2.1)]
theorem frNo2 {f : Frame} {us : List Piece} {x : Sig} {t : Int} {l : List Stamp} (h : (l23F f us l).2 = false) : t = frG f us x t l := by
 unfold frG; rw [if_neg (fun hh => by rw [hh.2.2] at h; cases h)]
theorem frYes {f : Frame} {us : List Piece} {x : Sig} {t : Int} {l : List Stamp} (h0 : (x.2.2.2.2.2.2.2.1 != 0) = true) (h1 : (stampsDgF x.2.2.1 l != x.2.2.2.2.2.2.2.1) = false) (h : (l23F f us l).2 = true) :
   max t (l23F f us l).1 = frG f us x t l := by
 unfold frG; rw [if_pos ⟨bneT h0, bneI h1, h⟩]
theorem frSkip {f : Frame} {us : List Piece} {x : Sig} {t : Int} {l : List Stamp} (h : pick2 (pick2 (x.2.2.2.2.2.2.2.1 == 0) true (!(riseF l))) true (stampsDgF x.2.2.1 l != x.2.2.2.2.2.2.2.1) = true) : t = frG f us x t l := by
 unfold frG
 rw [if_neg]
 rintro ⟨h0, h1, h2⟩
 have h3 := (l23_ok.1.1 h2).1
 have h4 : riseF l = true := boolC_iff.2 h3
 rw [h4, h1, beq_eq_false_iff_ne.2 h0] at h
 simp [pick2] at h
def hbInv (f : Frame) (us : List Piece) (l : List Stamp) (b : Bool) (k : Int) : Prop := upInv l k ∧ b = boolC (∀ s ∈ l.take k.toNat, afP f us s = true)
theorem hbStart {f : Frame} {us : List Piece} {l : List Stamp} : hbInv f us l true 0 := ⟨upStart, boolC_yes fun s hs => by simp at hs⟩
theorem hbRange {f : Frame} {us : List Piece} {l : List Stamp} {b : Bool} {k : Int} (h : hbInv f us l b k) (hl : k < l.length) : inRange k l.length := upRange h.1 hl
theorem hbStep {f : Frame} {us : List Piece} {l : List Stamp} {b b' : Bool} {k : Int} (h : hbInv f us l b k) (hl : k < l.length) (hb : l.length ≤ bigLen) (e : b' = pick2 b (afP f us (l.getD k.toNat (dflt TStamp))) false) :
   hbInv f us l b' (IntKind.i64.wrap (k + 1)) ∧ (l.length - (IntKind.i64.wrap (k + 1))).toNat < (l.length - k).toNat := by
 obtain ⟨u1, u2, u3⟩ := upStep h.1 hl hb
 refine ⟨⟨u1, ?_⟩, u3⟩
 rw [u2, take_snoc (d := dflt TStamp) h.1 hl]
 refine boolC_by (fun hb' => ?_) (fun hall => ?_)
 · rw [e] at hb'
   obtain ⟨q1, q2⟩ := andT hb'
   have q3 := boolC_iff.1 (h.2.symm.trans q1)
   intro s hs
   rcases List.mem_append.1 hs with hs | hs
   · exact q3 s hs
   · rw [List.mem_singleton.1 hs]; exact q2
 · rw [e]
   refine yesAnd ?_ (hall _ (List.mem_append.2 (.inr (List.mem_singleton.2 rfl))))
   rw [h.2]
   exact boolC_iff.2 fun s hs => hall s (List.mem_append.2 (.inl hs))
theorem hbEnd {f : Frame} {us : List Piece} {l : List Stamp} {b : Bool} {k : Int} (h : hbInv f us l b k) (hl : ¬ k < l.length) : b = true ↔ ∀ s ∈ l, afP f us s = true := by
 obtain ⟨h1, h2⟩ := h
 rw [up_end h1 hl, List.take_length] at h2
 rw [h2]
 exact boolC_iff
theorem frMax {f : Frame} {us : List Piece} {x : Sig} {t : Int} {l : List Stamp} {b : Bool} (g : pick2 (pick2 (x.2.2.2.2.2.2.2.1 == 0) true (!(riseF l))) true (stampsDgF x.2.2.1 l != x.2.2.2.2.2.2.2.1) = false)
   (hb : b = true ↔ ∀ s ∈ l, afP f us s = true) (h : pick2 b (rsF f.2.1 l f.2.2.2.1).2 false = true) : max t (rsF f.2.1 l f.2.2.2.1).1.1 = frG f us x t l := by
 obtain ⟨g1, g2⟩ := orF g
 obtain ⟨g3, g4⟩ := orF g1
 obtain ⟨q1, q2⟩ := andT h
 have hk : (l23F f us l).2 = true := l23_ok.1.2 ⟨boolC_iff.1 (notF g4), hb.1 q1, q2⟩
 have hv := l23_ok.2 hk
 unfold frG
 rw [if_pos ⟨bneI' g3, bneI g2, hk⟩, hv]
theorem frKeep {f : Frame} {us : List Piece} {x : Sig} {t : Int} {l : List Stamp} {b : Bool} (hb : b = true ↔ ∀ s ∈ l, afP f us s = true) (h : pick2 b (rsF f.2.1 l f.2.2.2.1).2 false = false) : t = frG f us x t l := by
 unfold frG
 rw [if_neg]
 rintro ⟨_, _, h2⟩
 obtain ⟨_, h4, h5⟩ := l23_ok.1.1 h2
 rw [hb.2 h4, h5] at h
 cases h
end Fw
namespace Fw
open Go
theorem fo2 {α β γ : Type} {f : β → α → β} {g : γ → α → γ} {z : β} {w : γ} {a : List α} {x x' : β} {y y' : γ} {d : α} {i : Int} (h : foInv f z a x i ∧ foInv g w a y i) (hl : i < a.length) (hb : a.length ≤ bigLen)
   (e1 : x' = f x (a.getD i.toNat d)) (e2 : y' = g y (a.getD i.toNat d)) : (foInv f z a x' (IntKind.i64.wrap (i + 1)) ∧ foInv g w a y' (IntKind.i64.wrap (i + 1))) ∧ (a.length - (IntKind.i64.wrap (i + 1))).toNat < (a.length - i).toNat := by
 have s1 := foStepE (d := d) h.1 hl hb e1
 have s2 := foStepE (d := d) h.2 hl hb e2
 exact ⟨⟨s1.1, s2.1⟩, s1.2⟩
theorem fo3 {α β γ δ : Type} {f : β → α → β} {g : γ → α → γ} {k : δ → α → δ} {z : β} {w : γ} {v : δ} {a : List α} {x x' : β} {y y' : γ} {u u' : δ} {d : α} {i : Int} (h : foInv f z a x i ∧ foInv g w a y i ∧ foInv k v a u i) (hl : i < a.length) (hb : a.length ≤ bigLen)
   (e1 : x' = f x (a.getD i.toNat d)) (e2 : y' = g y (a.getD i.toNat d)) (e3 : u' = k u (a.getD i.toNat d)) :
   (foInv f z a x' (IntKind.i64.wrap (i + 1)) ∧ foInv g w a y' (IntKind.i64.wrap (i + 1)) ∧ foInv k v a u' (IntKind.i64.wrap (i + 1))) ∧ (a.length - (IntKind.i64.wrap (i + 1))).toNat < (a.length - i).toNat := by
 have s1 := foStepE (d := d) h.1 hl hb e1
 have s2 := foStepE (d := d) h.2.1 hl hb e2
 have s3 := foStepE (d := d) h.2.2 hl hb e3
 exact ⟨⟨s1.1, s2.1, s3.1⟩, s1.2⟩
theorem guA {l : List Status} {n a : Int} (e : a = leastF l n) (h : decide (a ≥ 0) = true) : IntKind.i64.wrap (a - 1) = goodUntilF l n := by subst e; exact gu1 (of_decide_eq_true h)
theorem guB {l : List Status} {n a c : Int} (e : a = leastF l n) (e2 : c = goodF l n) (h : decide (a ≥ 0) = false) : c = goodUntilF l n := by subst e; subst e2; exact gu0 (of_decide_eq_false h)
theorem bfA {l : List Status} {n m : Int} (e : m = mostF l n) (h : decide (m < 0) = true) : (10001 : Int) = badFromF l n := by subst e; exact bf0 (of_decide_eq_true h)
theorem bfB {l : List Status} {n m c : Int} (e : m = mostF l n) (e2 : c = goodF l n) (h : decide (m < 0) = false) : max m (IntKind.i64.wrap (c + 1)) = badFromF l n := by subst e; subst e2; exact bf1 (of_decide_eq_false h)
end Fw
namespace Fw
open Go
def jApart (x s : Span) : Bool := pick2 (decide (IntKind.i64.wrap (x.2 + 1) < s.1)) true (decide (IntKind.i64.wrap (s.2 + 1) < x.1))
def jG (q : List Span × Span) (x : Span) : List Span × Span := if jApart x q.2 = true then (q.1 ++ [x], q.2) else (q.1, (min q.2.1 x.1, max q.2.2 x.2))
theorem jY {n : List Span} {s x : Span} (h : jApart x s = true) : (n ++ [x], s) = jG (n, s) x := (if_pos h).symm
theorem jN {n : List Span} {s x : Span} (h : jApart x s = false) : (n, (min s.1 x.1, max s.2 x.2)) = jG (n, s) x := (if_neg (by rw [h]; decide)).symm
theorem jLen : ∀ (l : List Span) (q : List Span × Span), (l.foldl jG q).1.length ≤ q.1.length + l.length
 | [], _ => by simp
 | x :: r, q => by
   rw [List.foldl_cons, List.length_cons]
   have h1 := jLen r (jG q x)
   have h2 : (jG q x).1.length ≤ q.1.length + 1 := by
     unfold jG
     split
     · simp
     · simp
   omega
theorem jLenI {l : List Span} {s : Span} {q : List Span × Span} {i : Int} (h : foInv jG ([], s) l q i) (hs : l.length ≤ 2000000000) : q.1.length ≤ 2000000000 := by
 have h1 := jLen (l.take i.toNat) ([], s)
 rw [← h.2, List.length_take] at h1
 have : ([] : List Span).length = 0 := rfl
 simp only [] at h1
 omega
def jP (s : Span) (y : Span) : Bool := decide (y.1 < s.1)
def jEndF (q : List Span × Span) : List Span := insP (jP q.2) q.2 q.1
def jPut (out : List Span) (s : Span) : List Span := jEndF (out.foldl jG ([], s))
theorem jPut_len (out : List Span) (s : Span) : (jPut out s).length ≤ out.length + 1 := by
 have h := jLen out ([], s)
 unfold jPut jEndF
 rw [insP_len]
 simp only [List.length_nil] at h
 omega
theorem jDone {out n : List Span} {s s0 : Span} {i k : Int} (h : foInv jG ([], s0) out (n, s) i) (hl : ¬ i < out.length) (hk : tkInv (jP s) n k) (he : k.toNat = (n.takeWhile (jP s)).length) :
   [] ++ subL n 0 k ++ [s] ++ subL n k (n.length : Int) = jPut out s0 := by
 have e := foEnd h hl
 unfold jPut
 rw [← e]
 have e1 : subL n 0 k = n.take (subL n 0 k).length := by
   rw [sub0_len hk]
   unfold subL
   simp
 have e2 : subL n k (n.length : Int) = n.drop k.toNat := by
   unfold subL
   simp
 have e3 := insP_eq (p := jP s) (x := s) (l := n) (m := (subL n 0 k).length) (k := k.toNat) (by rw [sub0_len hk]; exact he) he
 rw [← e1, ← e2] at e3
 have e4 : [] ++ subL n 0 k ++ [s] ++ subL n k (n.length : Int) = subL n 0 k ++ ([] ++ [s]) ++ subL n k (n.length : Int) := by simp
 rw [e4]
 exact e3
theorem jConds {s : Span} {l : List Span} {i : Int} (h : tkInv (jP s) l i) (hs : l.length ≤ 2000000000) :
   conj [(0 : Int) ≤ 0, (0 : Int) ≤ i, i ≤ (l.length : Int), ([] : List Span).length + (subL l 0 i).length ≤ maxApp, ([] ++ subL l 0 i).length + [s].length ≤ maxApp, 0 ≤ i, i ≤ (l.length : Int), (l.length : Int) ≤ (l.length : Int),
     ([] ++ subL l 0 i ++ [s]).length + (subL l i (l.length : Int)).length ≤ maxApp] := by
 have e := sub0_len h
 have e2 : (subL l i (l.length : Int)).length ≤ l.length := by unfold subL; rw [List.length_drop, List.length_take]; omega
 obtain ⟨h1, h2, _⟩ := h
 unfold maxApp
 simp only [List.nil_append, List.length_append, List.length_nil, List.length_singleton, e]
 refine ⟨Int.le_refl _, h1, h2, by omega, by omega, h1, h2, Int.le_refl _, ?_⟩
 show i.toNat + 1 + (subL l i (l.length : Int)).length ≤ 4294967296
 omega
theorem one1 {α : Type} {x : α} : List.length [x] ≤ 1000 := by simp
theorem notT' {a : Bool} (h : (!a) = true) : a = false := by simpa using h
def joinG (out : List Span) (s : Span) : List Span := if isSpanF s = true then jPut out s else out
theorem joinY {out : List Span} {s : Span} (h : isSpanF s = true) : jPut out s = joinG out s := (if_pos h).symm
theorem joinN {out : List Span} {s : Span} (h : isSpanF s = false) : out = joinG out s := (if_neg (by rw [h]; decide)).symm
def joinF (l : List Span) : List Span := l.foldl joinG []
theorem joinLenG : ∀ (l : List Span) (acc : List Span), (l.foldl joinG acc).length ≤ acc.length + l.length
 | [], _ => by simp
 | x :: r, acc => by
   rw [List.foldl_cons, List.length_cons]
   have h1 := joinLenG r (joinG acc x)
   have h2 : (joinG acc x).length ≤ acc.length + 1 := by
     unfold joinG
     split
     · exact jPut_len _ _
     · omega
   omega
theorem joinLen (l : List Span) : (joinF l).length ≤ l.length := by
 have h := joinLenG l []
 simp only [List.length_nil, Nat.zero_add] at h
 exact h
theorem joinLenI {l acc : List Span} {i : Int} (h : foInv joinG [] l acc i) (hs : l.length ≤ 2000000000) : acc.length ≤ 2000000000 := by
 have h1 := joinLenG (l.take i.toNat) []
 rw [← h.2, List.length_take] at h1
 simp only [List.length_nil] at h1
 omega
def meetF (a b : Span) : Span × Bool := if pick2 (pick2 (!(isSpanF a)) true (!(isSpanF b))) true (!(isSpanF (max a.1 b.1, min a.2 b.2))) = true then ((0, 0), false) else ((max a.1 b.1, min a.2 b.2), true)
theorem meI0 {a b : Span} (h : pick2 (pick2 (!(isSpanF a)) true (!(isSpanF b))) true (!(isSpanF (max a.1 b.1, min a.2 b.2))) = true) : meetF a b = ((0, 0), false) := if_pos h
theorem meI1 {a b : Span} (h : pick2 (pick2 (!(isSpanF a)) true (!(isSpanF b))) true (!(isSpanF (max a.1 b.1, min a.2 b.2))) = false) : meetF a b = ((max a.1 b.1, min a.2 b.2), true) := if_neg (by rw [h]; decide)
theorem meS0 {a b : Span} (h : pick2 (!(isSpanF a)) true (!(isSpanF b)) = true) : meetF a b = ((0, 0), false) := if_pos (by rw [h]; rfl)
theorem meS1 {a b : Span} (h : pick2 (!(isSpanF a)) true (!(isSpanF b)) = false) : meetF a b = makeSpanF (max a.1 b.1) (min a.2 b.2) := by
 have h1 := (isSpan_iff a).1 (notF (orF h).1)
 have h2 := (isSpan_iff b).1 (notF (orF h).2)
 have e1 : max 0 (max a.1 b.1) = max a.1 b.1 := by omega
 have e2 : min 10000 (min a.2 b.2) = min a.2 b.2 := by omega
 unfold meetF makeSpanF
 rw [h, e1, e2]
 have h3 := isSpan_iff (max a.1 b.1, min a.2 b.2)
 by_cases hg : max a.1 b.1 > min a.2 b.2
 · rw [if_pos hg, if_pos]
   cases he : isSpanF (max a.1 b.1, min a.2 b.2) with
   | false => rfl
   | true =>
     have := h3.1 he
     simp only [] at this
     omega
 · rw [if_neg hg, if_neg]
   rw [h3.2 ⟨by simp only []; omega, by simp only []; omega, by simp only []; omega⟩]
   decide
def meG (x : Span) (acc : List Span) (y : Span) : List Span := if (meetF x y).2 = true then acc ++ [(meetF x y).1] else acc
theorem meY {x y : Span} {acc : List Span} (h : (meetF x y).2 = true) : acc ++ [(meetF x y).1] = meG x acc y := (if_pos h).symm
theorem meN {x y : Span} {acc : List Span} (h : (meetF x y).2 = false) : acc = meG x acc y := (if_neg (by rw [h]; decide)).symm
def meR (b acc : List Span) (x : Span) : List Span := b.foldl (meG x) acc
theorem meLen (x : Span) : ∀ (b acc : List Span), (b.foldl (meG x) acc).length ≤ acc.length + b.length
 | [], _ => by simp
 | y :: r, acc => by
   rw [List.foldl_cons, List.length_cons]
   have h1 := meLen x r (meG x acc y)
   have h2 : (meG x acc y).length ≤ acc.length + 1 := by
     unfold meG
     split
     · simp
     · omega
   omega
theorem meLenR (b : List Span) : ∀ (a acc : List Span), (a.foldl (meR b) acc).length ≤ acc.length + a.length * b.length
 | [], _ => by simp
 | x :: r, acc => by
   rw [List.foldl_cons, List.length_cons, Nat.succ_mul]
   have h1 := meLenR b r (meR b acc x)
   have h2 : (meR b acc x).length ≤ acc.length + b.length := meLen x b acc
   omega
theorem meLenI {a b acc : List Span} {i : Int} (h : foInv (meR b) [] a acc i) (ha : a.length ≤ 1000) (hb : b.length ≤ 1000) : acc.length ≤ 1000000 := by
 have h1 := meLenR b (a.take i.toNat) []
 rw [← h.2, List.length_take] at h1
 have h2 : min i.toNat a.length * b.length ≤ 1000 * 1000 := Nat.mul_le_mul (by omega) hb
 simp only [List.length_nil] at h1
 omega
theorem meLenJ {b acc acc2 : List Span} {x : Span} {k : Int} (h : foInv (meG x) acc b acc2 k) (ha : acc.length ≤ 1000000) (hb : b.length ≤ 1000) : acc2.length ≤ 2000000 := by
 have h1 := meLen x (b.take k.toNat) acc
 rw [← h.2, List.length_take] at h1
 omega
theorem meApp {l : List Span} (h : l.length ≤ 2000000) : l.length + 1 ≤ maxApp := by unfold maxApp; omega
def meetAllF (a b : List Span) : List Span := joinF (a.foldl (meR b) [])
noncomputable def coversF (l : List Span) (s : Span) : Bool := boolC (∃ x ∈ joinF l, isInsideF s x = true)
theorem cvHit {l a : List Span} {s d : Span} {i : Int} (e : a = joinF l) (h : fInv (fun x => isInsideF s x) a i) (hl : i < a.length) (he : isInsideF s (a.getD i.toNat d) = true) : true = coversF l s := by
 subst e
 exact boolC_yes ⟨_, getD_mem (upRange h.1 hl) d, he⟩
theorem cvEnd {l a : List Span} {s : Span} {i : Int} (e : a = joinF l) (h : fInv (fun x => isInsideF s x) a i) (hl : ¬ i < a.length) : false = coversF l s := by
 subst e
 refine boolC_no ?_
 rintro ⟨x, hx, hp⟩
 have h2 := h.2
 rw [up_end h.1 hl, List.take_length] at h2
 have e : isInsideF s x = false := h2 x hx
 rw [e] at hp
 cases hp
def goodSpansF (x : Cert) (l : List Status) : List Span := meetAllF [certSpanF x] [(0, goodUntilF l x.1)]
theorem meetBad {c : Span} {u : Int} (h : ¬ (0 ≤ u ∧ u ≤ 10000)) : meetAllF [c] [(0, u)] = [] := by
 have e : isSpanF (0, u) = false := by
   cases he : isSpanF (0, u) with
   | false => rfl
   | true =>
     have := (isSpan_iff (0, u)).1 he
     simp only [] at this
     omega
 have e2 : meetF c (0, u) = ((0, 0), false) := meS0 (by rw [e, pick2_or]; simp)
 show joinF (meG c [] (0, u)) = []
 have : meG c [] (0, u) = [] := by unfold meG; rw [e2]; rfl
 rw [this]; rfl
theorem mkOk {u : Int} : (makeSpanF 0 u).2 = true ↔ 0 ≤ u := by
 unfold makeSpanF
 constructor
 · intro h
   by_cases hc : max 0 0 > min 10000 u
   · rw [if_pos hc] at h; cases h
   · omega
 · intro h
   rw [if_neg (by omega)]
theorem gsNone {x : Cert} {l : List Status} (h : pick2 (!(makeSpanF 0 (goodUntilF l x.1)).2) true (decide (goodUntilF l x.1 > 10000)) = true) : [] = goodSpansF x l := by
 refine (meetBad ?_).symm
 rintro ⟨h1, h2⟩
 rw [mkOk.2 h1, decide_eq_false (by omega)] at h
 cases h
theorem gsSome {x : Cert} {l : List Status} (h : pick2 (!(makeSpanF 0 (goodUntilF l x.1)).2) true (decide (goodUntilF l x.1 > 10000)) = false) : meetAllF [certSpanF x] [(makeSpanF 0 (goodUntilF l x.1)).1] = goodSpansF x l := by
 have h1 := mkOk.1 (notF (orF h).1)
 have h2 := of_decide_eq_false (orF h).2
 have e : (makeSpanF 0 (goodUntilF l x.1)).1 = (0, goodUntilF l x.1) := by
   unfold makeSpanF
   rw [if_neg (by omega)]
   show (max 0 0, min 10000 (goodUntilF l x.1)) = (0, goodUntilF l x.1)
   rw [Int.min_eq_right (by omega)]; rfl
 rw [e]; rfl
def bPut (l : List Span) (a b : Int) : List Span := if (makeSpanF a b).2 = true then l ++ [(makeSpanF a b).1] else l
theorem bpY {l : List Span} {a b : Int} (h : (makeSpanF a b).2 = true) : l ++ [(makeSpanF a b).1] = bPut l a b := (if_pos h).symm
theorem bpN {l : List Span} {a b : Int} (h : (makeSpanF a b).2 = false) : l = bPut l a b := (if_neg (by rw [h]; decide)).symm
theorem bPut_len (l : List Span) (a b : Int) : (bPut l a b).length ≤ l.length + 1 := by
 unfold bPut
 split
 · simp
 · omega
theorem bp1 {a b : Int} : (bPut [] a b).length ≤ 1000 := by have := bPut_len [] a b; simp only [List.length_nil] at this; omega
theorem bp2 {a b c d : Int} : (bPut (bPut [] a b) c d).length ≤ 1000 := by have := bPut_len [] a b; have := bPut_len (bPut [] a b) c d; simp only [List.length_nil] at *; omega
theorem bp3 {a b c d e f : Int} : (bPut (bPut (bPut [] a b) c d) e f).length ≤ 1000 := by have := bPut_len [] a b; have := bPut_len (bPut [] a b) c d; have := bPut_len (bPut (bPut [] a b) c d) e f; simp only [List.length_nil] at *; omega
def badA (x : Cert) : List Span := if decide (x.2.2.2.1 > 0) = true then bPut [] 0 (IntKind.i64.wrap (x.2.2.2.1 - 1)) else []
def badB (x : Cert) : List Span := if decide (x.2.2.2.2.1 < 10000) = true then bPut (badA x) (IntKind.i64.wrap (x.2.2.2.2.1 + 1)) 10000 else badA x
def badSpansF (x : Cert) (l : List Status) : List Span := joinF (bPut (badB x) (badFromF l x.1) 10000)
theorem bdYY {x : Cert} {l : List Status} (h : decide (x.2.2.2.1 > 0) = true) (g : decide (x.2.2.2.2.1 < 10000) = true) :
   joinF (bPut (bPut (bPut [] 0 (IntKind.i64.wrap (x.2.2.2.1 - 1))) (IntKind.i64.wrap (x.2.2.2.2.1 + 1)) 10000) (badFromF l x.1) 10000) = badSpansF x l := by unfold badSpansF badB badA; rw [if_pos h, if_pos g]
theorem bdYN {x : Cert} {l : List Status} (h : decide (x.2.2.2.1 > 0) = true) (g : decide (x.2.2.2.2.1 < 10000) = false) :
   joinF (bPut (bPut [] 0 (IntKind.i64.wrap (x.2.2.2.1 - 1))) (badFromF l x.1) 10000) = badSpansF x l := by unfold badSpansF badB badA; rw [if_pos h, if_neg (show ¬ decide (x.2.2.2.2.1 < 10000) = true by rw [g]; decide)]
theorem bdNY {x : Cert} {l : List Status} (h : decide (x.2.2.2.1 > 0) = false) (g : decide (x.2.2.2.2.1 < 10000) = true) :
   joinF (bPut (bPut [] (IntKind.i64.wrap (x.2.2.2.2.1 + 1)) 10000) (badFromF l x.1) 10000) = badSpansF x l := by unfold badSpansF badB badA; rw [if_neg (show ¬ decide (x.2.2.2.1 > 0) = true by rw [h]; decide), if_pos g]
theorem bdNN {x : Cert} {l : List Status} (h : decide (x.2.2.2.1 > 0) = false) (g : decide (x.2.2.2.2.1 < 10000) = false) :
   joinF (bPut [] (badFromF l x.1) 10000) = badSpansF x l := by unfold badSpansF badB badA; rw [if_neg (show ¬ decide (x.2.2.2.1 > 0) = true by rw [h]; decide), if_neg (show ¬ decide (x.2.2.2.2.1 < 10000) = true by rw [g]; decide)]
theorem goodLen (x : Cert) (l : List Status) : (goodSpansF x l).length ≤ 1000 := by
 refine Nat.le_trans (joinLen _) ?_
 have := meLenR [(0, goodUntilF l x.1)] [certSpanF x] []
 simp only [List.length_nil, List.length_cons] at this
 omega
theorem badLen (x : Cert) (l : List Status) : (badSpansF x l).length ≤ 1000 := by
 refine Nat.le_trans (joinLen _) ?_
 unfold badB badA
 split <;> split
 · exact bp3
 · exact bp2
 · exact bp2
 · exact bp1
end Fw
namespace Fw
open Go
def areG {α : Type} (g : α → Bool) (f : α → Int) (d : α) (l : List α) (k : Nat) : Prop := g (l.getD k d) = true ∧ (0 < k → f (l.getD (k - 1) d) < f (l.getD k d))
noncomputable def areF {α : Type} (g : α → Bool) (f : α → Int) (d : α) (m : Int) (l : List α) : Bool := boolC ((∀ k, k < l.length → areG g f d l k) ∧ (l.length : Int) ≤ m)
def areT {α : Type} (g : α → Bool) (f : α → Int) (d : α) (l : List α) (i : Int) : Bool :=
 pick2 (!(g (l.getD i.toNat d))) true (pick2 (decide (i > 0)) (decide (f (l.getD (IntKind.i64.wrap (i - 1)).toNat d) ≥ f (l.getD i.toNat d))) false)
section
variable {α : Type} {g : α → Bool} {f : α → Int} {d : α} {l : List α} {i m : Int}
theorem areT_iff (h0 : 0 ≤ i) (hl : i < l.length) (hb : l.length ≤ bigLen) : areT g f d l i = false ↔ areG g f d l i.toNat := by
 unfold areT areG
 simp only [pick2_or, pick2_and, Bool.or_eq_false_iff, Bool.not_eq_false', Bool.and_eq_false_iff, decide_eq_false_iff_not]
 unfold bigLen at hb
 rw [w64 (by omega) (by omega), show (i - 1).toNat = i.toNat - 1 by omega]
 constructor
 · rintro ⟨h1, h2⟩
   refine ⟨h1, fun h => ?_⟩
   rcases h2 with h2 | h2
   · omega
   · omega
 · rintro ⟨h1, h2⟩
   refine ⟨h1, ?_⟩
   by_cases hi : i > 0
   · right; have := h2 (by omega); omega
   · left; exact hi
theorem areStep (h : kInv (areG g f d l) l i) (hl : i < l.length) (hb : l.length ≤ bigLen) (ht : areT g f d l i = false) :
   kInv (areG g f d l) l (IntKind.i64.wrap (i + 1)) ∧ (l.length - (IntKind.i64.wrap (i + 1))).toNat < (l.length - i).toNat :=
 kStep h hl hb ((areT_iff (by obtain ⟨k, _, e⟩ := h.1; omega) hl hb).1 ht)
theorem areBad (h : kInv (areG g f d l) l i) (hl : i < l.length) (hb : l.length ≤ bigLen) (ht : areT g f d l i = true) : false = areF g f d m l :=
 boolC_no fun e => by rw [(areT_iff (by obtain ⟨k, _, e⟩ := h.1; omega) hl hb).2 (e.1 _ (kLt h hl))] at ht; cases ht
theorem areEnd (h : kInv (areG g f d l) l i) (hl : ¬ i < l.length) : decide ((l.length : Int) ≤ m) = areF g f d m l :=
 boolC_by (fun h2 => ⟨kEnd h hl, of_decide_eq_true h2⟩) (fun h2 => decide_eq_true h2.2)
end
abbrev TKey : Ty := .pair TI (.pair TI (.pair TI (.pair TI TI)))
abbrev TAuth : Ty := .pair TI (.pair TI TI)
def validKeyF (n : Int) : Bool := inRangeF n 1 2147483646
def isKeyF (k : Key) : Bool := pick2 (pick2 (pick2 (pick2 (inRangeF k.1 1 99) (inRangeF k.2.1 0 99) false) (inRangeF k.2.2.1 0 99) false) (isTimeF k.2.2.2.1) false) (validKeyF k.2.2.2.2) false
def isMethodF (m : Method) : Bool :=
 pick2 (pick2 (pick2 (pick2 (pick2 (inRangeF m.1 0 99) (isTimeF m.2.1) false) (inRangeF m.2.2.1 1 10001) false) (inRangeF m.2.2.2 1 10001) false) (decide (m.2.1 < m.2.2.1)) false) (decide (m.2.1 < m.2.2.2)) false
def isAuthF (a : Authority) : Bool := pick2 (pick2 (inRangeF a.1 0 99) (inRangeF a.2.1 1 99) false) (inRangeF a.2.2 0 100) false
theorem nor3 (a b c d : Bool) : pick2 (pick2 (pick2 (!a) true (!b)) true (!c)) true d = pick2 (!(pick2 (pick2 a b false) c false)) true d := by
 cases a <;> cases b <;> cases c <;> rfl
noncomputable def areKeysF (l : List Key) : Bool := areF isKeyF (fun k => k.1) (dflt TKey) 12 l
noncomputable def areMethodsF (l : List Method) : Bool := areF isMethodF (fun k => k.1) (dflt TMethod) 8 l
noncomputable def areAuthsF (l : List Authority) : Bool := areF isAuthF (fun k => k.1) (dflt TAuth) 6 l
noncomputable def isFrameF (f : Frame) : Bool := pick2 (pick2 (pick2 (pick2 (areKeysF f.1) (areAuthsF f.2.1) false) (areMethodsF f.2.2.1) false) (inRangeF f.2.2.2.1 0 6) false) (isTimeF f.2.2.2.2) false
def isSigF (x : Sig) : Bool :=
 pick2 (pick2 (pick2 (pick2 (pick2 (pick2 (pick2 (inRangeF x.1 1 99) (inRangeF x.2.1 1 999) false) (inRangeF x.2.2.1 0 99) false) (inRangeF x.2.2.2.2.2.1 0 99) false) (inRangeF x.2.2.2.2.1 1 3) false)
   (inRangeF x.2.2.2.1 0 1000000000000) false) (inRangeF x.2.2.2.2.2.2.1 0 1000000000000) false) (inRangeF x.2.2.2.2.2.2.2.1 0 1000000000000) false
def checkSigF (keys : List Key) (x : Sig) : Bool := pick2 (isSigF x) (checkMarkF keys x.1 (sigIntsF x) x.2.2.2.2.2.2.2.2) false
def isMandF (x : Mandate) : Bool := pick2 (pick2 (pick2 (inRangeF x.1 1 99) (inRangeF x.2.1 0 99) false) (inRangeF x.2.2.2.2.1 1 99) false) (isSpanF (x.2.2.1, x.2.2.2.1)) false
def mandIntsF (x : Mandate) : List Int := [105, x.1, x.2.1, x.2.2.1, x.2.2.2.1, x.2.2.2.2.1]
def checkMandF (keys : List Key) (x : Mandate) : Bool := pick2 (pick2 (isMandF x) (ownerF keys x.2.2.2.2.1 == x.1) false) (checkMarkF keys x.2.2.2.2.1 (mandIntsF x) x.2.2.2.2.2) false
def mdF (keys : List Key) (org person : Int) (x : Mandate) : Span × Bool := ((x.2.2.1, x.2.2.2.1), pick2 (pick2 (x.1 == org) (x.2.1 == person) false) (checkMandF keys x) false)
def mandSpansF (keys : List Key) (l : List Mandate) (org person : Int) : List Span := joinF (pickF (mdF keys org person) l)
theorem mandOrg {keys : List Key} {x : Mandate} (h : checkMandF keys x = true) : 1 ≤ x.1 := by
 have h1 := (andT (andT (andT (andT (andT (andT h).1).1).1).1).1).1
 exact of_decide_eq_true h1
theorem pick_none {α β : Type} {f : α → β × Bool} : ∀ (l : List α), (∀ x ∈ l, (f x).2 = false) → pickF f l = []
 | [], _ => rfl
 | x :: r, h => by
   have h1 := h x (by simp)
   have h2 := pick_none r (fun y hy => h y (by simp [hy]))
   unfold pickF at *
   rw [List.filterMap_cons, h1]
   simpa using h2
noncomputable def maySignF (keys : List Key) (l : List Mandate) (org person : Int) (s : Span) : Bool := if org = 0 then isSpanF s else coversF (mandSpansF keys l org person) s
theorem mayS {keys : List Key} {l : List Mandate} {org person : Int} {s : Span} (h : (org == 0) = true) : isSpanF s = maySignF keys l org person s := by
 have := beqI2 h
 unfold maySignF; rw [if_pos this]
theorem mayN {keys : List Key} {l : List Mandate} {org person : Int} {s : Span} (h : (org == 0) = false) : coversF (mandSpansF keys l org person) s = maySignF keys l org person s := by
 have := bneI' h
 unfold maySignF; rw [if_neg this]
theorem covNil {s : Span} : coversF [] s = false := (boolC_no (by rintro ⟨x, hx, _⟩; exact absurd hx (by simp [joinF]))).symm
theorem mandNone {keys : List Key} {l : List Mandate} {person : Int} : mandSpansF keys l 0 person = [] := by
 have : pickF (mdF keys 0 person) l = [] := by
   refine pick_none l fun x _ => ?_
   cases he : (mdF keys 0 person x).2 with
   | false => rfl
   | true =>
     have h1 := andT he
     have h2 := beqI2 (andT h1.1).1
     have h3 := mandOrg h1.2
     omega
 unfold mandSpansF
 rw [this]; rfl
theorem mayI {keys : List Key} {l : List Mandate} {org person : Int} {s : Span} : pick2 (pick2 (org == 0) (isSpanF s) false) true (coversF (mandSpansF keys l org person) s) = maySignF keys l org person s := by
 cases he : (org == 0) with
 | true =>
   rw [← mayS (keys := keys) (l := l) (person := person) (s := s) he]
   have := beqI2 he
   subst this
   rw [mandNone, covNil, pick2_or, pick2_and]; simp
 | false =>
   rw [← mayN (keys := keys) (l := l) (person := person) (s := s) he, pick2_or, pick2_and]; simp
theorem mandLen {l : List Mandate} (keys : List Key) (org person : Int) (h : l.length ≤ 2000000000) : (pickF (mdF keys org person) l).length ≤ 2000000000 := Nat.le_trans (pick_len _ _) h
abbrev Verdict := Int × Int × Span
noncomputable def formF (f : Frame) (own : Int) (x : Sig) : Verdict :=
 if (!(isFrameF f)) = true then (3, 1, (0, 0)) else if (!(isSigF x)) = true then (2, 1, (0, 0)) else if decide (own < 0) = true then (3, 2, (0, 0)) else if (own != x.2.2.2.1) = true then (2, 2, (0, 0))
 else if decide (keyI f.1 x.1 < 0) = true then (3, 3, (0, 0)) else if (!(checkSigF f.1 x)) = true then (2, 4, (0, 0)) else (0, 0, (0, 0))
section
variable {f : Frame} {own : Int} {x : Sig}
theorem fo1 (h : (!(isFrameF f)) = true) : (3, 1, (0, 0)) = formF f own x := by unfold formF; rw [if_pos h]
theorem fo2' (h : (!(isFrameF f)) = false) (h2 : (!(isSigF x)) = true) : (2, 1, (0, 0)) = formF f own x := by unfold formF; rw [if_neg (by rw [h]; decide), if_pos h2]
theorem fo3' (h : (!(isFrameF f)) = false) (h2 : (!(isSigF x)) = false) (h3 : decide (own < 0) = true) : (3, 2, (0, 0)) = formF f own x := by unfold formF; rw [if_neg (by rw [h]; decide), if_neg (by rw [h2]; decide), if_pos h3]
theorem fo4 (h : (!(isFrameF f)) = false) (h2 : (!(isSigF x)) = false) (h3 : decide (own < 0) = false) (h4 : (own != x.2.2.2.1) = true) : (2, 2, (0, 0)) = formF f own x := by
 unfold formF; rw [if_neg (by rw [h]; decide), if_neg (by rw [h2]; decide), if_neg (by rw [h3]; decide), if_pos h4]
theorem fo5 (h : (!(isFrameF f)) = false) (h2 : (!(isSigF x)) = false) (h3 : decide (own < 0) = false) (h4 : (own != x.2.2.2.1) = false) (h5 : decide (keyI f.1 x.1 < 0) = true) : (3, 3, (0, 0)) = formF f own x := by
 unfold formF; rw [if_neg (by rw [h]; decide), if_neg (by rw [h2]; decide), if_neg (by rw [h3]; decide), if_neg (by rw [h4]; decide), if_pos h5]
theorem fo6 (h : (!(isFrameF f)) = false) (h2 : (!(isSigF x)) = false) (h3 : decide (own < 0) = false) (h4 : (own != x.2.2.2.1) = false) (h5 : decide (keyI f.1 x.1 < 0) = false) (h6 : (!(checkSigF f.1 x)) = true) : (2, 4, (0, 0)) = formF f own x := by
 unfold formF; rw [if_neg (by rw [h]; decide), if_neg (by rw [h2]; decide), if_neg (by rw [h3]; decide), if_neg (by rw [h4]; decide), if_neg (by rw [h5]; decide), if_pos h6]
theorem fo7 (h : (!(isFrameF f)) = false) (h2 : (!(isSigF x)) = false) (h3 : decide (own < 0) = false) (h4 : (own != x.2.2.2.1) = false) (h5 : decide (keyI f.1 x.1 < 0) = false) (h6 : (!(checkSigF f.1 x)) = false) : (0, 0, (0, 0)) = formF f own x := by
 unfold formF; rw [if_neg (by rw [h]; decide), if_neg (by rw [h2]; decide), if_neg (by rw [h3]; decide), if_neg (by rw [h4]; decide), if_neg (by rw [h5]; decide), if_neg (by rw [h6]; decide)]
theorem foKey (h : (formF f own x).1 = 0) : ¬ keyI f.1 x.1 < 0 := by
 intro hk
 unfold formF at h
 split at h
 · cases h
 split at h
 · cases h
 split at h
 · cases h
 split at h
 · cases h
 split at h
 · cases h
 · rename_i hn
   exact hn (decide_eq_true hk)
end
noncomputable def endF (f : Frame) (us : List Piece) (x : Sig) (c : Cert) (s : Span) : Verdict :=
 if coversF (badSpansF c (statusesF us c)) s = true then (2, 8, s) else if (!(coversF (goodSpansF c (statusesF us c)) s)) = true then (3, 7, s)
 else if (!(maySignF f.1 (mandatesF us) x.2.2.2.2.2.1 c.2.2.1 s)) = true then (3, 9, s) else (1, 0, s)
noncomputable def certJ (f : Frame) (e : Evidence) (us : List Piece) (x : Sig) (b : Int) : Verdict :=
 if (!(certForF f.1 us x).2) = true then (3, 6, (0, 0)) else if decide (freshG f e us x > b) = true then (3, 7, (0, 0)) else endF f us x (certForF f.1 us x).1 (freshG f e us x, b)
noncomputable def boundJ (f : Frame) (e : Evidence) (docs : List (List Int)) (x : Sig) (b : Int) : Verdict :=
 if pick2 (decide (b ≥ brkKeyF f x.1)) true (decide (b ≥ breakF f.2.2.1 x.2.2.1)) = true then (3, 5, (0, 0)) else certJ f e (usablePiecesF f e docs) x b
noncomputable def judgeF (f : Frame) (e : Evidence) (docs : List (List Int)) (own : Int) (x : Sig) : Verdict :=
 if ((formF f own x).1 != 0) = true then formF f own x else boundJ f e docs x (evBoundF f e docs (signPieceF x))
section
variable {f : Frame} {e : Evidence} {docs : List (List Int)} {own : Int} {x : Sig} {us : List Piece} {c : Cert} {s : Span} {b : Int}
theorem enA (h : coversF (badSpansF c (statusesF us c)) s = true) : (2, 8, s) = endF f us x c s := by unfold endF; rw [if_pos h]
theorem enB (h : coversF (badSpansF c (statusesF us c)) s = false) (g : (!(coversF (goodSpansF c (statusesF us c)) s)) = true) : (3, 7, s) = endF f us x c s := by unfold endF; rw [if_neg (by rw [h]; decide), if_pos g]
theorem enC (h : coversF (badSpansF c (statusesF us c)) s = false) (g : (!(coversF (goodSpansF c (statusesF us c)) s)) = false) (k : (!(maySignF f.1 (mandatesF us) x.2.2.2.2.2.1 c.2.2.1 s)) = true) : (3, 9, s) = endF f us x c s := by
 unfold endF; rw [if_neg (by rw [h]; decide), if_neg (by rw [g]; decide), if_pos k]
theorem enD (h : coversF (badSpansF c (statusesF us c)) s = false) (g : (!(coversF (goodSpansF c (statusesF us c)) s)) = false) (k : (!(maySignF f.1 (mandatesF us) x.2.2.2.2.2.1 c.2.2.1 s)) = false) : (1, 0, s) = endF f us x c s := by
 unfold endF; rw [if_neg (by rw [h]; decide), if_neg (by rw [g]; decide), if_neg (by rw [k]; decide)]
theorem ceA (h : (!(certForF f.1 us x).2) = true) : (3, 6, (0, 0)) = certJ f e us x b := by unfold certJ; rw [if_pos h]
theorem ceB (h : (!(certForF f.1 us x).2) = false) (g : decide (freshG f e us x > b) = true) : (3, 7, (0, 0)) = certJ f e us x b := by unfold certJ; rw [if_neg (by rw [h]; decide), if_pos g]
theorem ceC (h : (!(certForF f.1 us x).2) = false) (g : decide (freshG f e us x > b) = false) : endF f us x (certForF f.1 us x).1 (freshG f e us x, b) = certJ f e us x b := by
 unfold certJ; rw [if_neg (by rw [h]; decide), if_neg (by rw [g]; decide)]
theorem boA (h : pick2 (decide (b ≥ brkKeyF f x.1)) true (decide (b ≥ breakF f.2.2.1 x.2.2.1)) = true) : (3, 5, (0, 0)) = boundJ f e docs x b := by unfold boundJ; rw [if_pos h]
theorem boB (h : pick2 (decide (b ≥ brkKeyF f x.1)) true (decide (b ≥ breakF f.2.2.1 x.2.2.1)) = false) : certJ f e (usablePiecesF f e docs) x b = boundJ f e docs x b := by unfold boundJ; rw [if_neg (by rw [h]; decide)]
theorem juA (h : ((formF f own x).1 != 0) = true) : formF f own x = judgeF f e docs own x := by unfold judgeF; rw [if_pos h]
theorem juB (h : formF f own x = (0, 0, (0, 0))) : boundJ f e docs x (evBoundF f e docs (signPieceF x)) = judgeF f e docs own x := by unfold judgeF; rw [h]; rfl
theorem juC (h : ((formF f own x).1 != 0) = false) : boundJ f e docs x (evBoundF f e docs (signPieceF x)) = judgeF f e docs own x := by unfold judgeF; rw [if_neg (by rw [h]; decide)]
theorem juD {v : Verdict} (h : v = formF f own x) (h2 : v.1 ≠ 0) : v = judgeF f e docs own x := by
 rw [h] at h2 ⊢
 exact juA (bne_iff_ne.2 h2)
end
theorem mandW {l : List Piece} (h : l.length ≤ 2000000000) : (mandatesF l).length ≤ 2000000000 := Nat.le_trans (pick_len _ _) h
end Fw
namespace Fw
open Go
noncomputable def judgeDocF (f : Frame) (e : Evidence) (d : Doc) (x : Sig) : Verdict := judgeF f e (allDigsF e d) (docDigF x.2.2.1 d) x
theorem jApp {l : List Span} (h : l.length ≤ 2000000000) : l.length + 1 ≤ maxApp := by unfold maxApp; omega
theorem bpApp {l : List Span} (h : l.length ≤ 1000) : l.length + 1 ≤ maxApp := by unfold maxApp; omega
theorem meBig {a b acc : List Span} (h1 : a.length ≤ 1000) (h2 : b.length ≤ 1000) (e : acc = a.foldl (meR b) []) : acc.length ≤ 2000000000 := by
 have h3 := meLenR b a []
 rw [← e] at h3
 have h4 : a.length * b.length ≤ 1000 * 1000 := Nat.mul_le_mul h1 h2
 simp only [List.length_nil] at h3
 omega
theorem pkBigW {α β : Type} {f : α → β × Bool} {L : List α} {acc : List β} (h : L.length ≤ 2000000000) (e : acc = pickF f L) : acc.length ≤ 2000000000 := by
 rw [e]; exact Nat.le_trans (pick_len _ _) h
theorem mandSpLen {keys : List Key} {l : List Mandate} {org person : Int} (h : l.length ≤ 2000000000) : (mandSpansF keys l org person).length ≤ 2000000000 := Nat.le_trans (joinLen _) (mandLen keys org person h)
end Fw
namespace Fw
open Go
section
variable {α : Type} {p : α → Bool} {l : List α} {b b' : Bool} {k : Int} {d : α}
end
section
variable {α : Type} {q : α → α → Bool} {acc z l : List α} {s : α} {b : Bool}
end
abbrev TEv : Ty := .pair (.slice (.pair (.slice TPiece) (.slice TRen))) (.slice (.slice TStamp))
end Fw
namespace Fw
open Go
def rdS (r : Red) (k : Nat) : Bool := r.2.2.1.getD k (dflt .bool)
def rdPt (r : Red) (k : Nat) : List UInt8 := r.2.2.2.1.getD k (dflt .str)
def rdSl (r : Red) (k : Nat) : Int := r.2.2.2.2.1.getD k (dflt TI)
def rdDg (r : Red) (k : Nat) : List Int := r.2.2.2.2.2.getD k (dflt (.slice TI))
def shP (r : Red) (n : Nat) : List (List UInt8) := ((List.range n).filter (rdS r)).map (rdPt r)
def shL (r : Red) (n : Nat) : List Int := ((List.range n).filter (rdS r)).map (rdSl r)
def shDoc (r : Red) (n : Nat) : Doc := (r.1, shP r n, shL r n)
theorem shY {r : Red} {n : Nat} (h : rdS r n = true) : shDoc r (n + 1) = (r.1, shP r n ++ [rdPt r n], shL r n ++ [rdSl r n]) := by
 unfold shDoc shP shL
 rw [List.range_succ, List.filter_append]
 simp [h]
theorem shN {r : Red} {n : Nat} (h : rdS r n = false) : shDoc r (n + 1) = shDoc r n := by
 unfold shDoc shP shL
 rw [List.range_succ, List.filter_append]
 simp [h]
theorem shP_len (r : Red) (n : Nat) : (shP r n).length ≤ n := by
 unfold shP
 rw [List.length_map]
 exact Nat.le_trans (List.length_filter_le _ _) (by simp)
theorem shL_len (r : Red) (n : Nat) : (shL r n).length ≤ n := by
 unfold shL
 rw [List.length_map]
 exact Nat.le_trans (List.length_filter_le _ _) (by simp)
theorem shP_mem {r : Red} {n k : Nat} (hk : k < n) (h : rdS r k = true) : rdPt r k ∈ shP r n := by
 unfold shP
 exact List.mem_map.2 ⟨k, List.mem_filter.2 ⟨List.mem_range.2 hk, h⟩, rfl⟩
def rowP (r : Red) (k : Nat) : Prop := if rdS r k = true then ((rdDg r k).length : Int) = 0 else ((rdDg r k).length : Int) = (List.length r.2.1 : Int) ∧ rdPt r k = [] ∧ rdSl r k = 0
def rdBad0 (r : Red) : Bool :=
 pick2 (pick2 (pick2 (!(inRangeF (List.length r.2.2.1 : Int) 1 6)) true ((List.length r.2.2.2.1 : Int) != (List.length r.2.2.1 : Int))) true ((List.length r.2.2.2.2.1 : Int) != (List.length r.2.2.1 : Int))) true
   ((List.length r.2.2.2.2.2 : Int) != (List.length r.2.2.1 : Int))
noncomputable def rdEndC (r : Red) (d : Doc) : Bool := pick2 (docF d) true (pick2 ((List.length d.2.1 : Int) == 0) (inRangeF r.1 0 999) false)
noncomputable def isRedF (r : Red) : Bool := boolC (rdBad0 r = false ∧ (∀ k, k < List.length r.2.2.1 → rowP r k) ∧ rdEndC r (shDoc r (List.length r.2.2.1)) = true)
theorem rdLens {r : Red} (h : rdBad0 r = false) : List.length r.2.2.1 ≤ 6 ∧ List.length r.2.2.2.1 = List.length r.2.2.1 ∧ List.length r.2.2.2.2.1 = List.length r.2.2.1 ∧ List.length r.2.2.2.2.2 = List.length r.2.2.1 := by
 obtain ⟨h1, h4⟩ := orF h
 obtain ⟨h1, h3⟩ := orF h1
 obtain ⟨h1, h2⟩ := orF h1
 have h0 := in_yes h1
 have h2 := bneI h2
 have h3 := bneI h3
 have h4 := bneI h4
 omega
def rowT (r : Red) (k : Nat) : Bool :=
 pick2 (pick2 (rdS r k) (((rdDg r k).length : Int) != 0) false) true (pick2 (!(rdS r k)) (pick2 (pick2 (((rdDg r k).length : Int) != (List.length r.2.1 : Int)) true (rdPt r k != [])) true (rdSl r k != 0)) false)
theorem rowT_iff {r : Red} {k : Nat} : rowT r k = false ↔ rowP r k := by
 unfold rowT rowP
 cases hs : rdS r k with
 | true => simp [pick2]
 | false =>
   simp only [pick2_or, pick2_and, Bool.false_and, Bool.false_or, Bool.not_false, Bool.true_and, Bool.or_eq_false_iff, bne_eq_false_iff_eq, Bool.false_eq_true, if_false]
   constructor
   · rintro ⟨⟨h1, h2⟩, h3⟩; exact ⟨h1, h2, h3⟩
   · rintro ⟨h1, h2, h3⟩; exact ⟨⟨h1, h2⟩, h3⟩
theorem rowY {r : Red} {k : Nat} (hs : rdS r k = true) : decide (((rdDg r k).length : Int) > 0) = false ↔ rowP r k := by
 unfold rowP
 rw [if_pos hs, decide_eq_false_iff_not]
 omega
theorem rowN {r : Red} {k : Nat} (hs : rdS r k = false) : pick2 (pick2 (rdPt r k != []) true (rdSl r k != 0)) true (((rdDg r k).length : Int) != (List.length r.2.1 : Int)) = false ↔ rowP r k := by
 unfold rowP
 rw [if_neg (by rw [hs]; decide)]
 simp only [pick2_or, Bool.or_eq_false_iff, bne_eq_false_iff_eq]
 constructor
 · rintro ⟨⟨h1, h2⟩, h3⟩; exact ⟨h3, h1, h2⟩
 · rintro ⟨h1, h2, h3⟩; exact ⟨⟨h2, h3⟩, h1⟩
section
variable {r : Red} {d : Doc} {i : Int}
def irInv (r : Red) (d : Doc) (i : Int) : Prop := kInv (rowP r) r.2.2.1 i ∧ d = shDoc r i.toNat
theorem irStart : irInv r (r.1, [], []) 0 := ⟨kStart, rfl⟩
theorem irRange (h : irInv r d i) (hl : i < (List.length r.2.2.1 : Int)) : inRange i (List.length r.2.2.1) := upRange h.1.1 hl
theorem irSucc (h : irInv r d i) (hl : i < (List.length r.2.2.1 : Int)) (hb : List.length r.2.2.1 ≤ bigLen) : (IntKind.i64.wrap (i + 1)).toNat = i.toNat + 1 := by
 obtain ⟨k, hk, e⟩ := h.1.1
 unfold bigLen at hb
 rw [w64 (by omega) (by omega)]; omega
theorem irY (h : irInv r d i) (hl : i < (List.length r.2.2.1 : Int)) (hb : List.length r.2.2.1 ≤ bigLen) (hs : rdS r i.toNat = true) (hr : rowP r i.toNat) :
   irInv r (d.1, d.2.1 ++ [rdPt r i.toNat], d.2.2 ++ [rdSl r i.toNat]) (IntKind.i64.wrap (i + 1)) ∧ ((List.length r.2.2.1 : Int) - (IntKind.i64.wrap (i + 1))).toNat < ((List.length r.2.2.1 : Int) - i).toNat := by
 have st := kStep h.1 hl hb hr
 refine ⟨⟨st.1, ?_⟩, st.2⟩
 rw [irSucc h hl hb, shY hs, h.2]
 rfl
theorem irN (h : irInv r d i) (hl : i < (List.length r.2.2.1 : Int)) (hb : List.length r.2.2.1 ≤ bigLen) (hs : rdS r i.toNat = false) (hr : rowP r i.toNat) :
   irInv r d (IntKind.i64.wrap (i + 1)) ∧ ((List.length r.2.2.1 : Int) - (IntKind.i64.wrap (i + 1))).toNat < ((List.length r.2.2.1 : Int) - i).toNat := by
 have st := kStep h.1 hl hb hr
 refine ⟨⟨st.1, ?_⟩, st.2⟩
 rw [irSucc h hl hb, shN hs, h.2]
theorem irLen (h : irInv r d i) (hl : i < (List.length r.2.2.1 : Int)) (h6 : List.length r.2.2.1 ≤ 6) : List.length d.2.1 + 1 ≤ maxApp ∧ List.length d.2.2 + 1 ≤ maxApp := by
 have h1 := shP_len r i.toNat
 have h2 := shL_len r i.toNat
 have e1 : d.2.1 = shP r i.toNat := by rw [h.2]; rfl
 have e2 : d.2.2 = shL r i.toNat := by rw [h.2]; rfl
 rw [e1, e2]
 unfold maxApp
 omega
theorem irBad (h : irInv r d i) (hl : i < (List.length r.2.2.1 : Int)) (hn : ¬ rowP r i.toNat) : false = isRedF r := boolC_no fun e => hn (e.2.1 _ (kLt h.1 hl))
theorem irBad0 (h : rdBad0 r = true) : false = isRedF r := boolC_no fun e => by rw [e.1] at h; cases h
theorem irEnd (g : rdBad0 r = false) (h : irInv r d i) (hl : ¬ i < (List.length r.2.2.1 : Int)) : pick2 (docF d) true (pick2 ((List.length d.2.1 : Int) == 0) (inRangeF r.1 0 999) false) = isRedF r := by
 have e : d = shDoc r (List.length r.2.2.1) := by rw [h.2, up_end h.1.1 hl]
 refine boolC_by (fun h2 => ⟨g, kEnd h.1 hl, ?_⟩) (fun h2 => ?_)
 · rw [← e]; exact h2
 · have := h2.2.2
   rw [← e] at this; exact this
end
theorem isRed_iff {r : Red} : isRedF r = true ↔ (rdBad0 r = false ∧ (∀ k, k < List.length r.2.2.1 → rowP r k) ∧ rdEndC r (shDoc r (List.length r.2.2.1)) = true) := boolC_iff
theorem red40 {r : Red} (h : isRedF r = true) {k : Nat} (hk : k < List.length r.2.2.1) (hs : rdS r k = true) : List.length (rdPt r k) ≤ 40 := by
 obtain ⟨_, _, h3⟩ := isRed_iff.1 h
 have hm := shP_mem hk hs
 unfold rdEndC at h3
 rw [pick2_or, Bool.or_eq_true] at h3
 rcases h3 with h3 | h3
 · have h4 := (boolC_iff.1 h3).2.2.2.1
   obtain ⟨j, hj, e⟩ := List.getElem_of_mem hm
   have h5 := h4 j hj
   have e2 : List.getD (shDoc r (List.length r.2.2.1)).2.1 j (dflt .str) = rdPt r k := by
     show List.getD (shP r (List.length r.2.2.1)) j (dflt .str) = _
     rw [List.getD_eq_getElem?_getD, List.getElem?_eq_getElem hj, e]; rfl
   rw [e2] at h5
   omega
 · have h4 := beqI2 (andT h3).1
   have h5 : List.length (shP r (List.length r.2.2.1)) = 0 := by
     have : ((List.length (shP r (List.length r.2.2.1)) : Nat) : Int) = 0 := h4
     omega
   rw [List.length_eq_zero_iff.1 h5] at hm
   simp at hm
def redIdx (m : Int) (r : Red) : Nat := (r.2.1.takeWhile (fun x => x != m)).length
noncomputable def rgAt (m : Int) (r : Red) (k : Nat) : Int := if rdS r k = true then partF m (rdPt r k) (rdSl r k) else (rdDg r k).getD (redIdx m r) (dflt TI)
def allSh (r : Red) : Prop := ∀ k, k < List.length r.2.2.1 → rdS r k = true
noncomputable def redDigF (m : Int) (r : Red) : Int :=
 if boolC (isRedF r = true ∧ (redIdx m r = r.2.1.length → allSh r)) = true then digestF m ([r.1] ++ (List.range (List.length r.2.2.1)).map (rgAt m r)) else -1
section
variable {m : Int} {r : Red} {acc : List Int} {i a : Int}
def rgInv (m : Int) (r : Red) (acc : List Int) (i : Int) : Prop := upInv r.2.2.1 i ∧ acc = [r.1] ++ (List.range i.toNat).map (rgAt m r) ∧ (redIdx m r = r.2.1.length → ∀ k, k < i.toNat → rdS r k = true)
theorem rgStart : rgInv m r [r.1] 0 := ⟨upStart, by simp, fun _ k hk => by simp at hk⟩
theorem rgRange (h : rgInv m r acc i) (hl : i < (List.length r.2.2.1 : Int)) : inRange i (List.length r.2.2.1) := upRange h.1 hl
theorem rgLen (h : rgInv m r acc i) (hl : i < (List.length r.2.2.1 : Int)) (h6 : List.length r.2.2.1 ≤ 6) : acc.length + 1 ≤ maxApp := by
 rw [h.2.1]
 unfold maxApp
 simp
 omega
theorem rgSmall (h : rgInv m r acc i) (h6 : List.length r.2.2.1 ≤ 6) : smallL acc := by
 unfold smallL
 rw [h.2.1]
 obtain ⟨k, hk, e⟩ := h.1
 simp
 omega
theorem rgStep {v : Int} (h : rgInv m r acc i) (hl : i < (List.length r.2.2.1 : Int)) (hb : List.length r.2.2.1 ≤ bigLen) (e : v = rgAt m r i.toNat) (hs : redIdx m r = r.2.1.length → rdS r i.toNat = true) :
   rgInv m r (acc ++ [v]) (IntKind.i64.wrap (i + 1)) ∧ ((List.length r.2.2.1 : Int) - (IntKind.i64.wrap (i + 1))).toNat < ((List.length r.2.2.1 : Int) - i).toNat := by
 obtain ⟨u1, u2, u3⟩ := upStep h.1 hl hb
 obtain ⟨k, hk, e0⟩ := h.1
 have e1 : (IntKind.i64.wrap (i + 1)).toNat = i.toNat + 1 := by rw [u2]; omega
 refine ⟨⟨u1, ?_, fun hh k hk2 => ?_⟩, u3⟩
 · rw [e1, List.range_succ, h.2.1, e]; simp
 · rw [e1] at hk2
   by_cases hc : k < i.toNat
   · exact h.2.2 hh k hc
   · have : k = i.toNat := by omega
     rw [this]; exact hs hh
theorem rgY (hs : rdS r i.toNat = true) : partF m (rdPt r i.toNat) (rdSl r i.toNat) = rgAt m r i.toNat := by unfold rgAt; rw [if_pos hs]
theorem rgN (hs : rdS r i.toNat = false) (ha : a.toNat = redIdx m r) : (rdDg r i.toNat).getD a.toNat (dflt TI) = rgAt m r i.toNat := by unfold rgAt; rw [if_neg (by rw [hs]; decide), ha]
theorem rgBad (h : isRedF r = false) : (-1 : Int) = redDigF m r := by
 unfold redDigF
 rw [if_neg]
 intro e
 have := (boolC_iff.1 e).1
 rw [h] at this; cases this
theorem rgHid (h : rgInv m r acc i) (hl : i < (List.length r.2.2.1 : Int)) (hs : rdS r i.toNat = false) (hn : redIdx m r = r.2.1.length) : (-1 : Int) = redDigF m r := by
 unfold redDigF
 rw [if_neg]
 intro e
 have h0 : i.toNat < List.length r.2.2.1 := by obtain ⟨k, hk, e⟩ := h.1; omega
 have := (boolC_iff.1 e).2 hn _ h0
 rw [hs] at this; cases this
theorem rgEnd (h : rgInv m r acc i) (hl : ¬ i < (List.length r.2.2.1 : Int)) (hr : isRedF r = true) : digestF m acc = redDigF m r := by
 have e := up_end h.1 hl
 have h2 := h.2.1
 have h3 := h.2.2
 rw [e] at h2 h3
 unfold redDigF
 rw [if_pos (boolC_iff.2 ⟨hr, h3⟩), h2]
theorem twLe {α : Type} (p : α → Bool) (l : List α) : (l.takeWhile p).length ≤ l.length := by
 have e := congrArg List.length (List.takeWhile_append_dropWhile (p := p) (l := l))
 rw [List.length_append] at e
 omega
theorem redIdx_le : redIdx m r ≤ r.2.1.length := twLe _ _
theorem rgIdx (hr : isRedF r = true) (h : rgInv m r acc i) (hl : i < (List.length r.2.2.1 : Int)) (hs : rdS r i.toNat = false) (h0 : 0 ≤ a) (ha : a.toNat = redIdx m r) (hn : redIdx m r ≠ r.2.1.length) : inRange a (rdDg r i.toNat).length := by
 have h1 : i.toNat < List.length r.2.2.1 := by obtain ⟨k, hk, e⟩ := h.1; omega
 have h2 := (isRed_iff.1 hr).2.1 _ h1
 unfold rowP at h2
 rw [if_neg (by rw [hs]; decide)] at h2
 have h3 := h2.1
 have h4 := redIdx_le (m := m) (r := r)
 exact ⟨h0, by omega⟩
end
theorem findTw (m : Int) : ∀ l : List Int, (l.findIdx? (fun y => y == m) = none ↔ (l.takeWhile (fun x => x != m)).length = l.length) ∧ (∀ k, l.findIdx? (fun y => y == m) = some k → k = (l.takeWhile (fun x => x != m)).length ∧ k < l.length)
 | [] => by simp
 | x :: t => by
   obtain ⟨h1, h2⟩ := findTw m t
   rw [List.findIdx?_cons, List.takeWhile_cons]
   by_cases hx : x = m
   · subst hx
     simp
   · have e1 : (x == m) = false := by simpa using hx
     have e2 : (x != m) = true := by simpa using hx
     rw [e1, e2]
     simp only [Bool.false_eq_true, if_false, if_true, List.length_cons, Option.map_eq_none_iff, Nat.add_right_cancel_iff]
     refine ⟨h1, fun k hk => ?_⟩
     rw [Option.map_eq_some_iff] at hk
     obtain ⟨j, hj, rfl⟩ := hk
     have := h2 j hj
     omega
theorem idxNeg {m : Int} {r : Red} : findI (fun y => y == m) r.2.1 < 0 ↔ redIdx m r = r.2.1.length := by
 obtain ⟨h1, h2⟩ := findTw m r.2.1
 unfold findI redIdx
 cases hf : r.2.1.findIdx? (fun y => y == m) with
 | none => simp only []; exact ⟨fun _ => h1.1 hf, fun _ => by omega⟩
 | some k =>
   have := h2 k hf
   simp only []
   omega
theorem idxPos {m : Int} {r : Red} (h : ¬ findI (fun y => y == m) r.2.1 < 0) : (findI (fun y => y == m) r.2.1).toNat = redIdx m r := by
 obtain ⟨h1, h2⟩ := findTw m r.2.1
 unfold findI at h ⊢
 unfold redIdx
 cases hf : r.2.1.findIdx? (fun y => y == m) with
 | none => rw [hf] at h; exact (h (by decide)).elim
 | some k =>
   have := (h2 k hf).1
   simp only []
   omega
def cshG (n : Int) (b : Bool) : Int := if b = true then IntKind.i64.wrap (n + 1) else n
def cshF (r : Red) : Int := r.2.2.1.foldl cshG 0
theorem cshY {n : Int} {b : Bool} (h : b = true) : IntKind.i64.wrap (n + 1) = cshG n b := by unfold cshG; rw [if_pos h]
theorem cshN {n : Int} {b : Bool} (h : b = false) : n = cshG n b := by unfold cshG; rw [if_neg (by rw [h]; decide)]
theorem cshAux : ∀ (l : List Bool) (k : Nat), k + l.length ≤ bigLen → l.foldl cshG (k : Int) = ((k + l.countP id : Nat) : Int)
 | [], k, _ => rfl
 | b :: t, k, h => by
   have hb : k + 1 + t.length ≤ bigLen := by rw [List.length_cons] at h; omega
   rw [List.foldl_cons, List.countP_cons]
   cases b with
   | true =>
     have e : cshG (k : Int) true = ((k + 1 : Nat) : Int) := by
       rw [← cshY rfl, w64 (by omega) (by unfold bigLen at hb; omega)]; omega
     rw [e, cshAux t (k + 1) hb]
     simp
     omega
   | false =>
     rw [← cshN rfl, cshAux t k (by omega)]
     simp
theorem cshAll {r : Red} (hb : List.length r.2.2.1 ≤ bigLen) : ¬ cshF r < (List.length r.2.2.1 : Int) ↔ allSh r := by
 unfold cshF allSh rdS
 have e := cshAux r.2.2.1 0 (by omega)
 have e2 : r.2.2.1.foldl cshG 0 = ((0 + r.2.2.1.countP id : Nat) : Int) := e
 rw [e2]
 have hle := List.countP_le_length (p := id) (l := r.2.2.1)
 constructor
 · intro h k hk
   have h2 : r.2.2.1.countP id = r.2.2.1.length := by omega
   have h3 := List.countP_eq_length.1 h2
   rw [List.getD_eq_getElem?_getD, List.getElem?_eq_getElem hk]
   exact h3 _ (List.getElem_mem hk)
 · intro h
   have h2 : r.2.2.1.countP id = r.2.2.1.length := by
     refine List.countP_eq_length.2 fun b hb => ?_
     obtain ⟨j, hj, e⟩ := List.getElem_of_mem hb
     have := h j hj
     rw [List.getD_eq_getElem?_getD, List.getElem?_eq_getElem hj, e] at this
     exact this
   omega
section
variable {m : Int} {r : Red}
noncomputable def rgTest (m : Int) (r : Red) : Bool := pick2 (!(isRedF r)) true (pick2 (decide (findI (fun y => y == m) r.2.1 < 0)) (decide (cshF r < (List.length r.2.2.1 : Int))) false)
end
end Fw
namespace Fw
open Go
noncomputable def judgeItemF (f : Frame) (x : Item) : Verdict := judgeDocF f (itemEvF x) x.2.2.1 x.2.2.2.1
theorem itSm {x : Item} (h : Sm big20 TItem x) : Sm big20 TEv (itemEvF x) :=
 ⟨⟨by show (1 : Nat) ≤ big20; unfold big20; omega, fun s hs => by rw [List.mem_singleton.1 hs]; exact h.2.2.2.2⟩, ⟨Nat.zero_le _, fun s hs => by simp [itemEvF] at hs⟩⟩
theorem itCells {x : Item} (h : ((cellsC TItem x : Nat) : Int) ≤ 2000000000) : ((cellsC (.slice TStrand) (itemEvF x).1 : Nat) : Int) ≤ 2000000000 := by
 have e1 : cellsC (.slice TStrand) (itemEvF x).1 = cellsC TStrand x.2.2.2.2 + 0 := rfl
 have e2 : cellsC TItem x = cellsC TI x.1 + (cellsC TI x.2.1 + (cellsC TDoc x.2.2.1 + (cellsC TSign x.2.2.2.1 + cellsC TStrand x.2.2.2.2))) := rfl
 omega
section
variable {f : Frame} {a b : Evidence} {d : Doc} {x : Sig}
end
noncomputable def rdgF (r : Red) (c : Renewal) : Int × Bool := (redDigF c.2.1 r, true)
noncomputable def redDigsF (s : Strand) (r : Red) : List Int := pickF (rdgF r) s.2
noncomputable def arF (r : Red) (s : Strand) : List Int × Bool := (redDigsF s r, true)
noncomputable def allRedF (e : Evidence) (r : Red) : List (List Int) := pickF (arF r) e.1
noncomputable def judgeRedF (f : Frame) (e : Evidence) (r : Red) (x : Sig) : Verdict := judgeF f e (allRedF e r) (redDigF x.2.2.1 r) x
noncomputable def judgeHidF (f : Frame) (x : Item) (r : Red) : Verdict := judgeRedF f (itemEvF x) r x.2.2.2.1
end Fw
namespace Fw
open Go
theorem rgBadI {m : Int} {r : Red} (h : rgTest m r = true) (hb : List.length r.2.2.1 ≤ bigLen) : (-1 : Int) = redDigF m r := by
 unfold rgTest at h
 rw [pick2_or, Bool.or_eq_true] at h
 rcases h with h | h
 · exact rgBad (notT' h)
 · obtain ⟨h1, h2⟩ := andT h
   have h3 := idxNeg.1 (of_decide_eq_true h1)
   have h4 := of_decide_eq_true h2
   unfold redDigF
   rw [if_neg]
   intro e
   exact (cshAll hb).2 ((boolC_iff.1 e).2 h3) h4
theorem rgOk {m : Int} {r : Red} (h : rgTest m r = false) : isRedF r = true := notF (orF h).1
theorem rgNeg {m : Int} {r : Red} (h : rgTest m r = false) (hb : List.length r.2.2.1 ≤ bigLen) {k : Nat} (hk : k < List.length r.2.2.1) (hs : rdS r k = false) : ¬ findI (fun y => y == m) r.2.1 < 0 := by
 intro hn
 have h2 := (orF h).2
 rw [decide_eq_true hn] at h2
 have h3 : ¬ cshF r < (List.length r.2.2.1 : Int) := of_decide_eq_false h2
 have h4 := (cshAll hb).1 h3 k hk
 rw [hs] at h4
 cases h4
theorem tkStepB {α : Type} {p : α → Bool} {l : List α} {i : Int} {d : α} (h : tkInv p l i) (hb : l.length ≤ bigLen) (g : pick2 (decide (i < (l.length : Int))) (p (l.getD i.toNat d)) false = true) :
   tkInv p l (IntKind.i64.wrap (i + 1)) ∧ ((l.length : Int) - IntKind.i64.wrap (i + 1)).toNat < ((l.length : Int) - i).toNat := by
 obtain ⟨h1, h2, h3⟩ := h
 have g1 := of_decide_eq_true (andT g).1
 unfold bigLen at hb
 have ew : IntKind.i64.wrap (i + 1) = i + 1 := w64 (by omega) (by omega)
 rw [ew]
 refine ⟨⟨by omega, by omega, ?_⟩, by omega⟩
 rw [show (i + 1).toNat = i.toNat + 1 by omega, take_succD (by omega) d]
 intro y hy
 rcases List.mem_append.1 hy with hy | hy
 · exact h3 y hy
 · rw [List.mem_singleton.1 hy]; exact (andT g).2
section
variable {a b : List Stamp} {i : Int}
end
end Fw
