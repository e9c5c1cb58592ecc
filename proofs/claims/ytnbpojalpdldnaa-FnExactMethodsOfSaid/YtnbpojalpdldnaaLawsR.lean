/- Plain laws of copying; items and archives. Conditions: none. -/
import Derived.Test.YtnbpojalpdldnaaLawsQ
namespace Fw
open Go
/-- copied so far -/
def cpInv {α : Type} (L : List α) (acc : List α) (i : Int) : Prop := upInv L i ∧ acc = L.take i.toNat
theorem cpStart {α : Type} {L : List α} : cpInv L [] 0 := ⟨upStart, by simp⟩
theorem cpRange {α : Type} {L acc : List α} {i : Int} (h : cpInv L acc i) (hl : i < L.length) : inRange i L.length := upRange h.1 hl
theorem cpStep {α : Type} {L acc acc' : List α} {d : α} {i : Int} (h : cpInv L acc i) (hl : i < L.length) (hb : L.length ≤ bigLen) (e : acc' = acc ++ [L.getD i.toNat d]) :
    cpInv L acc' (IntKind.i64.wrap (i + 1)) ∧ (L.length - (IntKind.i64.wrap (i + 1))).toNat < (L.length - i).toNat := by
  obtain ⟨u1, u2, u3⟩ := upStep h.1 hl hb
  obtain ⟨k, hk, e1⟩ := h.1
  refine ⟨⟨u1, ?_⟩, u3⟩
  have e2 : (IntKind.i64.wrap (i + 1)).toNat = i.toNat + 1 := by rw [u2]; omega
  rw [e2, take_succD (by omega) d, e, h.2]
theorem cpEnd {α : Type} {L acc : List α} {i : Int} (h : cpInv L acc i) (hl : ¬ i < L.length) : acc = L := by
  obtain ⟨k, hk, e1⟩ := h.1
  rw [h.2, List.take_of_length_le (by omega)]
theorem cpLen {α : Type} {L acc : List α} {i : Int} (h : cpInv L acc i) (hl : i < L.length) (hs : L.length ≤ big20) : acc.length + 1 ≤ maxApp := by
  rw [h.2, List.length_take]
  unfold big20 at hs; unfold maxApp; omega
theorem appOk {α : Type} {l : List α} (h : l.length ≤ big20) : 0 + l.length ≤ maxApp := by
  unfold big20 at h; unfold maxApp; omega
end Fw
namespace Fw
open Go
/-! leaves of an archive's tree -/
noncomputable def leafOfF (m doc : Int) (l : List Piece) (b : Int) : Int := digestF m [3, doc, piecesF m l, b]
noncomputable def beforeF (m : Int) (ch : List Renewal) (k : Int) : Int := if k > 0 then renDigF m (ch.getD (IntKind.i64.wrap (k - 1)).toNat (dflt TRen)) else 0
noncomputable def leafForF (x : Item) (m : Int) : Int := leafOfF m (docDigF m x.2.2.1) x.2.2.2.2.1 (beforeF m x.2.2.2.2.2 (x.2.2.2.2.2.length : Int))
def chAt (s : Strand) (k : Int) : Renewal := s.2.getD k.toNat (dflt TRen)
def leafAtBad (s : Strand) (docs : List Int) (k : Int) : Bool :=
  pick2 (pick2 (!(inRangeF k 0 (IntKind.i64.wrap ((s.2.length : Int) - 1)))) true ((docs.length : Int) != (s.2.length : Int))) true (!(inRangeF (chAt s k).1 0 (s.1.length : Int)))
noncomputable def leafAtF (s : Strand) (docs : List Int) (k : Int) : Int :=
  if leafAtBad s docs k = true then -1 else leafOfF (chAt s k).2.1 (docs.getD k.toNat (dflt TI)) (subL s.1 0 (chAt s k).1) (beforeF (chAt s k).2.1 s.2 k)
theorem la0 {s : Strand} {docs : List Int} {k : Int} (h : leafAtBad s docs k = true) : (-1 : Int) = leafAtF s docs k := by unfold leafAtF; rw [if_pos h]
theorem la1 {s : Strand} {docs : List Int} {k : Int} (h : leafAtBad s docs k = false) (g : k > 0) :
    leafOfF (chAt s k).2.1 (docs.getD k.toNat (dflt TI)) (subL s.1 0 (chAt s k).1) (renDigF (chAt s k).2.1 (s.2.getD (IntKind.i64.wrap (k - 1)).toNat (dflt TRen))) = leafAtF s docs k := by
  unfold leafAtF beforeF; rw [if_neg (by rw [h]; decide), if_pos g]
theorem la2 {s : Strand} {docs : List Int} {k : Int} (h : leafAtBad s docs k = false) (g : ¬ k > 0) :
    leafOfF (chAt s k).2.1 (docs.getD k.toNat (dflt TI)) (subL s.1 0 (chAt s k).1) 0 = leafAtF s docs k := by
  unfold leafAtF beforeF; rw [if_neg (by rw [h]; decide), if_neg g]
theorem laIdx {k : Int} {n : Nat} (h : (!(inRangeF k 0 (IntKind.i64.wrap ((n : Int) - 1)))) = false) (hb : n ≤ bigLen) : inRange k n := by
  have := rg h
  unfold bigLen at hb
  rw [w64 (by omega) (by omega)] at this
  exact ⟨this.1, by omega⟩
theorem prevIdx {k : Int} {n : Nat} (h : inRange k n) (g : k > 0) (hb : n ≤ bigLen) : inRange (IntKind.i64.wrap (k - 1)) n := by
  obtain ⟨h1, h2⟩ := h
  unfold bigLen at hb
  rw [w64 (by omega) (by omega)]
  exact ⟨by omega, by omega⟩
theorem lastIdx {n : Nat} (g : (n : Int) > 0) (hb : n ≤ bigLen) : inRange (IntKind.i64.wrap ((n : Int) - 1)) n := by
  unfold bigLen at hb
  rw [w64 (by omega) (by omega)]
  exact ⟨by omega, by omega⟩
theorem getD_mem {α : Type} {l : List α} {k : Int} (h : inRange k l.length) (d : α) : l.getD k.toNat d ∈ l := by
  obtain ⟨h1, h2⟩ := h
  rw [List.getD_eq_getElem?_getD, List.getElem?_eq_getElem (by omega)]
  exact List.getElem_mem _
theorem subL_sm {l : List Piece} {a b : Int} (h : Sm big20 (.slice TPiece) l) : Sm big20 (.slice TPiece) (subL l a b) := by
  refine ⟨?_, fun x hx => h.2 x (List.mem_of_mem_take (List.mem_of_mem_drop hx))⟩
  have := h.1
  unfold subL
  rw [List.length_drop, List.length_take]; omega
theorem lf1 {x : Item} {m : Int} (g : (x.2.2.2.2.2.length : Int) > 0) :
    leafOfF m (docDigF m x.2.2.1) x.2.2.2.2.1 (renDigF m (x.2.2.2.2.2.getD (IntKind.i64.wrap ((x.2.2.2.2.2.length : Int) - 1)).toNat (dflt TRen))) = leafForF x m := by
  unfold leafForF beforeF; rw [if_pos g]
theorem lf2 {x : Item} {m : Int} (g : ¬ (x.2.2.2.2.2.length : Int) > 0) : leafOfF m (docDigF m x.2.2.1) x.2.2.2.2.1 0 = leafForF x m := by
  unfold leafForF beforeF; rw [if_neg g]
noncomputable def ddF (d : Doc) (r : Renewal) : Int × Bool := (docDigF r.2.1 d, true)
noncomputable def docDigsF (s : Strand) (d : Doc) : List Int := pickF (ddF d) s.2
theorem pick_true {α β : Type} (g : α → β) (L : List α) : pickF (fun x => (g x, true)) L = L.map g := by
  unfold pickF
  induction L with
  | nil => rfl
  | cons x r ih => simp
theorem pkLen2 {α β : Type} {f : α → β × Bool} {L : List α} {acc : List β} {i : Int} (h : pkInv f L acc i) (hs : L.length ≤ 2000000) : acc.length + 1 ≤ maxApp := by
  have := pick_len f (L.take i.toNat)
  rw [← h.2, List.length_take] at this
  unfold maxApp; omega
/-- a strand with a renewal that covers all its pieces -/
def withNew (s : Strand) (m : Int) : Strand := (s.1, s.2 ++ [((s.1.length : Int), m, 0, [], [])])
theorem leafEq (x : Item) (m : Int) (h : x.2.2.2.2.2.length ≤ 1048576) :
    leafAtF (withNew x.2.2.2.2 m) (docDigsF (withNew x.2.2.2.2 m) x.2.2.1) (IntKind.i64.wrap (((withNew x.2.2.2.2 m).2.length : Int) - 1)) = leafForF x m := by
  have hlen : (withNew x.2.2.2.2 m).2.length = x.2.2.2.2.2.length + 1 := by unfold withNew; simp
  have hk : IntKind.i64.wrap (((withNew x.2.2.2.2 m).2.length : Int) - 1) = (x.2.2.2.2.2.length : Int) := by
    rw [hlen, w64 (by omega) (by omega)]; omega
  have hdocs : docDigsF (withNew x.2.2.2.2 m) x.2.2.1 = (withNew x.2.2.2.2 m).2.map (fun r => docDigF r.2.1 x.2.2.1) := pick_true _ _
  have hlast : chAt (withNew x.2.2.2.2 m) (x.2.2.2.2.2.length : Int) = ((x.2.2.2.2.1.length : Int), m, 0, [], []) := by
    unfold chAt withNew
    rw [List.getD_eq_getElem?_getD]
    simp
  have hd : (docDigsF (withNew x.2.2.2.2 m) x.2.2.1).getD (x.2.2.2.2.2.length) (dflt TI) = docDigF m x.2.2.1 := by
    rw [hdocs, List.getD_eq_getElem?_getD]
    unfold withNew
    simp
  have hr : ∀ n : Nat, inRangeF (n : Int) 0 (n : Int) = true := fun n => by
    unfold inRangeF pick2
    rw [decide_eq_true (by omega : (0 : Int) ≤ n), decide_eq_true (Int.le_refl _)]; rfl
  have hbad : leafAtBad (withNew x.2.2.2.2 m) (docDigsF (withNew x.2.2.2.2 m) x.2.2.1) (x.2.2.2.2.2.length : Int) = false := by
    unfold leafAtBad
    rw [hk, hr, hlast]
    have e1 : ((docDigsF (withNew x.2.2.2.2 m) x.2.2.1).length : Int) = ((withNew x.2.2.2.2 m).2.length : Int) := by rw [hdocs, List.length_map]
    have e2 : (withNew x.2.2.2.2 m).1.length = x.2.2.2.2.1.length := rfl
    rw [e1, e2, hr]
    simp [pick2]
  rw [hk]
  unfold leafAtF
  rw [if_neg (by rw [hbad]; decide), hlast]
  have hs : subL (withNew x.2.2.2.2 m).1 0 (x.2.2.2.2.1.length : Int) = x.2.2.2.2.1 := by
    unfold subL withNew
    simp
  have hb : beforeF m (withNew x.2.2.2.2 m).2 (x.2.2.2.2.2.length : Int) = beforeF m x.2.2.2.2.2 (x.2.2.2.2.2.length : Int) := by
    unfold beforeF
    split
    · rename_i g
      congr 1
      rw [w64 (by omega) (by omega)]
      unfold withNew
      rw [List.getD_eq_getElem?_getD, List.getD_eq_getElem?_getD, List.getElem?_append_left (by omega)]
    · rfl
  show leafOfF m ((docDigsF (withNew x.2.2.2.2 m) x.2.2.1).getD (x.2.2.2.2.2.length : Int).toNat (dflt TI)) (subL (withNew x.2.2.2.2 m).1 0 (x.2.2.2.2.1.length : Int)) (beforeF m (withNew x.2.2.2.2 m).2 (x.2.2.2.2.2.length : Int)) = leafForF x m
  have e3 : ((x.2.2.2.2.2.length : Nat) : Int).toNat = x.2.2.2.2.2.length := by omega
  rw [e3, hd, hs, hb]
  rfl
noncomputable def lvF (m : Int) (x : Item) : Int × Bool := (leafForF x m, true)
noncomputable def leavesF (a : Archive) (m : Int) : List Int := pickF (lvF m) a.2
noncomputable def rootForF (a : Archive) (m : Int) : Int := treeF m (leavesF a m)
theorem leavesBig {a : Archive} {m : Int} (h : a.2.length ≤ 1048576) : (leavesF a m).length ≤ 1000000000000 := pickBig h
theorem newApp {s : Strand} (h : s.2.length ≤ big20) : s.2.length + 1 ≤ maxApp := by unfold big20 at h; unfold maxApp; omega
theorem newLen {s : Strand} {m : Int} (h : s.2.length ≤ big20) : (withNew s m).2.length ≤ 2000000 := by unfold withNew; unfold big20 at h; simp; omega
theorem newSm {s : Strand} {m : Int} (h : Sm big20 (.slice TPiece) s.1 ∧ (s.2.length ≤ big20 ∧ ∀ r ∈ s.2, Sm big20 TRen r)) : Sm big20 (.slice TPiece) (withNew s m).1 ∧ ∀ r ∈ (withNew s m).2, Sm big20 TRen r := by
  refine ⟨h.1, fun r hr => ?_⟩
  unfold withNew at hr
  rcases List.mem_append.1 hr with hr | hr
  · exact h.2.2 r hr
  · rw [List.mem_singleton.1 hr]
    exact ⟨trivial, trivial, trivial, ⟨Nat.zero_le _, fun x hx => by simp at hx⟩, ⟨Nat.zero_le _, fun x hx => by simp at hx⟩⟩
theorem pkYesV {α β : Type} {f : α → β × Bool} {L : List α} {acc : List β} {d : α} {i : Int} {v : β} (h : pkInv f L acc i) (hl : i < L.length) (hb : L.length ≤ bigLen) (g : (f (L.getD i.toNat d)).2 = true)
    (e : v = (f (L.getD i.toNat d)).1) : pkInv f L (acc ++ [v]) (IntKind.i64.wrap (i + 1)) ∧ (L.length - (IntKind.i64.wrap (i + 1))).toNat < (L.length - i).toNat := by
  rw [e]; exact pkYes h hl hb g
end Fw
namespace Fw
open Go
/-! evidence of an item; what is kept; parcels; a piece more -/
def itemEvF (x : Item) : List Strand × List (List Stamp) := ([x.2.2.2.2], [])
def fgF (now : Int) (x : Item) : Item × Bool := (x, decide (x.2.1 ≥ now))
def forgetF (a : Archive) (now : Int) : Archive × Int := ((a.1, pickF (fgF now) a.2), (a.2.length : Int) - ((pickF (fgF now) a.2).length : Int))
def fgInv (a : Archive) (now : Int) (o : Archive) (i : Int) : Prop := o.1 = a.1 ∧ pkInv (fgF now) a.2 o.2 i
theorem fgEnd {a o : Archive} {now i : Int} (h : fgInv a now o i) (hl : ¬ i < a.2.length) : o = (a.1, pickF (fgF now) a.2) := Prod.ext h.1 (pkEnd h.2 hl)
theorem fgNum {a o : Archive} {now i : Int} (h : fgInv a now o i) (hl : ¬ i < a.2.length) (hs : a.2.length ≤ 1048576) : IntKind.i64.wrap ((a.2.length : Int) - (o.2.length : Int)) = (forgetF a now).2 := by
  have e := pkEnd h.2 hl
  have := pick_len (fgF now) a.2
  rw [e]
  show IntKind.i64.wrap _ = (a.2.length : Int) - ((pickF (fgF now) a.2).length : Int)
  rw [w64 (by omega) (by omega)]
theorem fgCnt {a o : Archive} {now i n : Int} (h : fgInv a now o i) (hn : n = i - o.2.length) (hl : ¬ i < a.2.length) : n = (forgetF a now).2 := by
  have e := pkEnd h.2 hl
  obtain ⟨k, hk, e1⟩ := h.2.1
  show n = (a.2.length : Int) - ((pickF (fgF now) a.2).length : Int)
  rw [hn, ← e]; omega
theorem cellsL_pick {α : Type} {c : α → Nat} {f : α → α × Bool} (hf : ∀ x, (f x).1 = x) : ∀ L : List α, cellsL c (pickF f L) ≤ cellsL c L
  | [] => Nat.le_refl _
  | x :: r => by
    have ih := cellsL_pick (c := c) hf r
    have e : pickF f (x :: r) = pickF f [x] ++ pickF f r := by unfold pickF; rw [← List.filterMap_append]; rfl
    have e1 : pickF f [x] = (if (f x).2 = true then [(f x).1] else []) := by have := pick_app f [] x; simpa [pickF] using this
    rw [e, e1, cellsL_append]
    have e2 : cellsL c (x :: r) = c x + cellsL c r := rfl
    split
    · have : cellsL c [(f x).1] = c x := by rw [hf]; simp [cellsL]
      omega
    · have : cellsL c ([] : List α) = 0 := rfl
      omega
end Fw
namespace Fw
open Go
def itAt (a : Archive) (n : Int) : Int := findI (fun (x : Item) => x.1 == n) a.2
abbrev TDoc : Ty := .pair TI (.pair (.slice .str) (.slice TI))
noncomputable def addPieceF (s : Strand) (p : Piece) : Strand × Bool := if strandF (s.1 ++ [p], s.2) = true then ((s.1 ++ [p], s.2), true) else (s, false)
theorem ap0 {s : Strand} {p : Piece} (h : (!(strandF (s.1 ++ [p], s.2))) = true) : addPieceF s p = (s, false) := by
  unfold addPieceF; rw [if_neg (by intro e; rw [e] at h; cases h)]
theorem ap1 {s : Strand} {p : Piece} (h : (!(strandF (s.1 ++ [p], s.2))) = false) : addPieceF s p = ((s.1 ++ [p], s.2), true) := by
  unfold addPieceF; rw [if_pos (by simpa using h)]
theorem apLen {l : List Piece} (h : l.length ≤ big20) : l.length + 1 ≤ maxApp := by unfold big20 at h; unfold maxApp; omega
end Fw
namespace Fw
open Go
abbrev TSign : Ty := .pair TI (.pair TI (.pair TI (.pair TI (.pair TI (.pair TI (.pair TI (.pair TI TI)))))))
abbrev TItem : Ty := .pair TI (.pair TI (.pair TDoc (.pair TSign (.pair (.slice TPiece) (.slice TRen)))))
def itGet (a : Archive) (n : Int) : Item := a.2.getD (itAt a n).toNat (dflt TItem)
def mpBad (a : Archive) (n : Int) : Bool := decide (itAt a n < 0)
noncomputable def makeParcelF (a : Archive) (to : Int) (ids : List Int) (m : Int) : Parcel × Bool :=
  if ids.any (mpBad a) = true ∨ ids = [] then ((0, 0, [], 0), false) else ((a.1, to, ids.map (itGet a), digItemsF m (ids.map (itGet a))), true)
def mpInv (a : Archive) (to : Int) (ids : List Int) (p : Parcel) (i : Int) : Prop :=
  upInv ids i ∧ p = (a.1, to, (ids.take i.toNat).map (itGet a), 0) ∧ (ids.take i.toNat).any (mpBad a) = false
theorem mpStart {a : Archive} {to : Int} {ids : List Int} : mpInv a to ids (a.1, to, [], 0) 0 := ⟨upStart, by simp, by simp⟩
theorem mpRange {a : Archive} {to : Int} {ids : List Int} {p : Parcel} {i : Int} (h : mpInv a to ids p i) (hl : i < ids.length) : inRange i ids.length := upRange h.1 hl
theorem mpStep {a : Archive} {to : Int} {ids : List Int} {p p' : Parcel} {i : Int} (h : mpInv a to ids p i) (hl : i < ids.length) (hb : ids.length ≤ bigLen) (g : ¬ itAt a (ids.getD i.toNat (dflt TI)) < 0)
    (e : p' = (p.1, p.2.1, p.2.2.1 ++ [itGet a (ids.getD i.toNat (dflt TI))], p.2.2.2)) :
    mpInv a to ids p' (IntKind.i64.wrap (i + 1)) ∧ (ids.length - (IntKind.i64.wrap (i + 1))).toNat < (ids.length - i).toNat := by
  obtain ⟨u1, u2, u3⟩ := upStep h.1 hl hb
  obtain ⟨k, hk, e1⟩ := h.1
  obtain ⟨_, h2, h3⟩ := h
  have e2 : (IntKind.i64.wrap (i + 1)).toNat = i.toNat + 1 := by rw [u2]; omega
  refine ⟨⟨u1, ?_, ?_⟩, u3⟩
  · rw [e2, take_succD (by omega) (dflt TI), List.map_append, e, h2]; rfl
  · rw [e2, take_succD (by omega) (dflt TI), List.any_append, h3]
    simp only [List.any_cons, List.any_nil, Bool.or_false, Bool.false_or]
    exact decide_eq_false g
theorem mpStop {a : Archive} {to m : Int} {ids : List Int} {p : Parcel} {i : Int} (h : mpInv a to ids p i) (hl : i < ids.length) (g : itAt a (ids.getD i.toNat (dflt TI)) < 0) : makeParcelF a to ids m = ((0, 0, [], 0), false) := by
  obtain ⟨k, hk, e1⟩ := h.1
  unfold makeParcelF
  rw [if_pos]
  left
  rw [List.any_eq_true]
  refine ⟨ids.getD i.toNat (dflt TI), ?_, decide_eq_true g⟩
  rw [List.getD_eq_getElem?_getD, List.getElem?_eq_getElem (by omega)]
  exact List.getElem_mem _
theorem mpNone {a : Archive} {to m : Int} {ids : List Int} (h : ((ids.length : Int) == 0) = true) : makeParcelF a to ids m = ((0, 0, [], 0), false) := by
  have : ids = [] := List.length_eq_zero_iff.1 (by have := beq_iff_eq.1 h; omega)
  unfold makeParcelF
  rw [if_pos (.inr this)]
theorem mpDone {a : Archive} {to m : Int} {ids : List Int} {p : Parcel} {i : Int} (h : mpInv a to ids p i) (hl : ¬ i < ids.length) (g : ((ids.length : Int) == 0) = false) :
    makeParcelF a to ids m = ((p.1, p.2.1, p.2.2.1, digItemsF m p.2.2.1), true) := by
  obtain ⟨k, hk, e1⟩ := h.1
  obtain ⟨_, h2, h3⟩ := h
  have hk' : i.toNat = ids.length := by omega
  rw [hk', List.take_length] at h2 h3
  unfold makeParcelF
  rw [if_neg, h2]
  rintro (q | q)
  · rw [h3] at q; cases q
  · subst q; simp at g
theorem mpLen {a : Archive} {to : Int} {ids : List Int} {p : Parcel} {i : Int} (h : mpInv a to ids p i) (hs : ids.length ≤ 1048576) : p.2.2.1.length + 1 ≤ maxApp := by
  rw [h.2.1]
  show ((ids.take i.toNat).map (itGet a)).length + 1 ≤ maxApp
  rw [List.length_map, List.length_take]
  unfold maxApp; omega
theorem itMem {a : Archive} {n : Int} (g : ¬ itAt a n < 0) (hb : a.2.length ≤ bigLen) : itGet a n ∈ a.2 := by
  have := findRange (p := fun (x : Item) => x.1 == n) (l := a.2) g
  exact getD_mem this _
theorem mpSm {a : Archive} {to : Int} {ids : List Int} {p : Parcel} {i : Int} (h : mpInv a to ids p i) (hs : ids.length ≤ 1048576) (ha : ∀ x ∈ a.2, Sm big20 TItem x) : Sm big20 (.slice TItem) p.2.2.1 := by
  rw [h.2.1]
  refine ⟨?_, fun x hx => ?_⟩
  · show ((ids.take i.toNat).map (itGet a)).length ≤ big20
    rw [List.length_map, List.length_take]; unfold big20; omega
  · obtain ⟨n, hn, rfl⟩ := List.mem_map.1 hx
    have hb := List.any_eq_false.1 h.2.2 n hn
    have g : ¬ itAt a n < 0 := fun e => hb (decide_eq_true e)
    have := findRange (p := fun (x : Item) => x.1 == n) (l := a.2) g
    exact ha _ (getD_mem this _)
/-! how many cells -/
theorem cellsL_map {c : Item → Nat} {w : Nat} {a : Archive} {ids : List Int} (h : ∀ n ∈ ids, c (itGet a n) ≤ w) : cellsL c (ids.map (itGet a)) ≤ w * ids.length := by
  induction ids with
  | nil => simp [cellsL]
  | cons n r ih =>
    have h1 := h n (by simp)
    have h2 := ih (fun m hm => h m (by simp [hm]))
    show c (itGet a n) + cellsL c (r.map (itGet a)) ≤ w * (r.length + 1)
    rw [Nat.mul_add]; omega
end Fw
namespace Fw
open Go
theorem ne_self2CI {α : Type} {x : α} {y : Int} (h : pick2 (!(eqC x x)) true (y != y) = true) : False := by rw [eqC_self] at h; simp [pick2] at h
theorem orNe2I {α : Type} {x : α} {y K : Int} (hk : 0 ≤ K) (h : pick2 (pick2 (decide (K < 0)) true (!(eqC x x))) true (y != y) = true) : False := by
  rw [decide_eq_false (by omega : ¬ K < 0), eqC_self] at h; simp [pick2] at h
theorem orNe2B {α : Type} {x : α} {y : Bool} {K : Int} (hk : 0 ≤ K) (h : pick2 (pick2 (decide (K < 0)) true (!(eqC x x))) true (y != y) = true) : False := by
  rw [decide_eq_false (by omega : ¬ K < 0), eqC_self] at h; simp [pick2] at h
def setStrand (x : Item) (s : Strand) : Item := (x.1, x.2.1, x.2.2.1, x.2.2.2.1, s)
noncomputable def addToItemF (a : Archive) (n : Int) (p : Piece) : Archive × Bool :=
  if itAt a n < 0 then (a, false) else ((a.1, a.2.set (itAt a n).toNat (setStrand (itGet a n) (addPieceF (itGet a n).2.2.2.2 p).1)), (addPieceF (itGet a n).2.2.2.2 p).2)
theorem ati0 {a : Archive} {n : Int} {p : Piece} (h : itAt a n < 0) : addToItemF a n p = (a, false) := by unfold addToItemF; rw [if_pos h]
theorem ati1 {a : Archive} {n : Int} {p : Piece} (h : ¬ itAt a n < 0) :
    addToItemF a n p = ((a.1, a.2.set (itAt a n).toNat (setStrand (itGet a n) (addPieceF (itGet a n).2.2.2.2 p).1)), (addPieceF (itGet a n).2.2.2.2 p).2) := by unfold addToItemF; rw [if_neg h]
theorem cellsL_set {α : Type} (c : α → Nat) (y : α) : ∀ (l : List α) (i : Nat), cellsL c (l.set i y) ≤ cellsL c l + c y
  | [], i => by simp [cellsL]
  | x :: r, 0 => by show c y + cellsL c r ≤ c x + cellsL c r + c y; omega
  | x :: r, i + 1 => by
    have := cellsL_set c y r i
    show c x + cellsL c (r.set i y) ≤ c x + cellsL c r + c y; omega
theorem cellsL_mem {α : Type} (c : α → Nat) (x : α) : ∀ (l : List α), x ∈ l → c x ≤ cellsL c l
  | y :: r, h => by
    show c x ≤ c y + cellsL c r
    rcases List.mem_cons.1 h with h | h
    · rw [h]; omega
    · have := cellsL_mem c x r h; omega
end Fw
namespace Fw
open Go
theorem appMore {α : Type} {l : List α} (h : l.length ≤ 4000000) : 0 + l.length ≤ maxApp := by unfold maxApp; omega
abbrev TStrand : Ty := .pair (.slice TPiece) (.slice TRen)
theorem evCells {x : Item} (h : ((cellsC TItem x : Nat) : Int) ≤ 2000000000) : ((cellsV (.pair (.slice TStrand) (.slice (.slice TStamp))) (itemEvF x) : Nat) : Int) ≤ 10000000000000000 := by
  have e1 : cellsC TItem x = 1 + (1 + (cellsC TDoc x.2.2.1 + (cellsC TSign x.2.2.2.1 + cellsC TStrand x.2.2.2.2))) := rfl
  have e2 : cellsV (.pair (.slice TStrand) (.slice (.slice TStamp))) (itemEvF x) = (cellsC TStrand x.2.2.2.2 + 0) + 0 := rfl
  rw [e2]; omega
end Fw
