/- Plain laws of copying; items and archives. Conditions: none. -/
import Derived.Test.YtdnmahkbhobooaaLawsQ
namespace Fw
open Go
/-- copied so far -/
def cpInv {α : Type} (L : List α) (acc : List α) (i : Int) : Prop := upInv L i ∧ acc = L.take i.toNat
theorem cpStart {α : Type} {L : List α} : cpInv L [] 0 := ⟨upStart, by simp⟩
theorem cpRange {α : Type} {L acc : List α} {i : Int} (h : cpInv L acc i) (hl : i < L.length) : inRange i L.length := upRange h.1 hl
theorem cpStep {α : Type} {L acc acc' : List α} {d : α} {i : Int} (h : cpInv L acc i) (hl : i < L.length) (hb : L.length ≤ bigLen) (e : acc' = acc ++ [L.getD i.toNat d]) :
    cpInv L acc' (IntKind.i64.wrap (i + 1)) ∧ (L.length - (IntKind.i64.wrap (i + 1))).toNat < (L.length - i).toNat := by
  obtain ⟨u1, u2, u3⟩ := upStep h.1 hl hb
  obtain ⟨k, hk, e1⟩ := h.1
  refine ⟨⟨u1, ?_⟩, u3⟩
  have e2 : (IntKind.i64.wrap (i + 1)).toNat = i.toNat + 1 := by rw [u2]; omega
  rw [e2, take_succD (by omega) d, e, h.2]
theorem cpEnd {α : Type} {L acc : List α} {i : Int} (h : cpInv L acc i) (hl : ¬ i < L.length) : acc = L := by
  obtain ⟨k, hk, e1⟩ := h.1
  rw [h.2, List.take_of_length_le (by omega)]
theorem cpLen {α : Type} {L acc : List α} {i : Int} (h : cpInv L acc i) (hl : i < L.length) (hs : L.length ≤ big20) : acc.length + 1 ≤ maxApp := by
  rw [h.2, List.length_take]
  unfold big20 at hs; unfold maxApp; omega
theorem appOk {α : Type} {l : List α} (h : l.length ≤ big20) : 0 + l.length ≤ maxApp := by
  unfold big20 at h; unfold maxApp; omega
end Fw
namespace Fw
open Go
/-! leaves of an archive's tree -/
noncomputable def leafOfF (m doc : Int) (l : List Piece) (b : Int) : Int := digestF m [3, doc, piecesF m l, b]
noncomputable def beforeF (m : Int) (ch : List Renewal) (k : Int) : Int := if k > 0 then renDigF m (ch.getD (IntKind.i64.wrap (k - 1)).toNat (dflt TRen)) else 0
noncomputable def leafForF (x : Item) (m : Int) : Int := leafOfF m (docDigF m x.2.2.1) x.2.2.2.2.1 (beforeF m x.2.2.2.2.2 (x.2.2.2.2.2.length : Int))
def chAt (s : Strand) (k : Int) : Renewal := s.2.getD k.toNat (dflt TRen)
def leafAtBad (s : Strand) (docs : List Int) (k : Int) : Bool :=
  pick2 (pick2 (!(inRangeF k 0 (IntKind.i64.wrap ((s.2.length : Int) - 1)))) true ((docs.length : Int) != (s.2.length : Int))) true (!(inRangeF (chAt s k).1 0 (s.1.length : Int)))
noncomputable def leafAtF (s : Strand) (docs : List Int) (k : Int) : Int :=
  if leafAtBad s docs k = true then -1 else leafOfF (chAt s k).2.1 (docs.getD k.toNat (dflt TI)) (subL s.1 0 (chAt s k).1) (beforeF (chAt s k).2.1 s.2 k)
theorem la0 {s : Strand} {docs : List Int} {k : Int} (h : leafAtBad s docs k = true) : (-1 : Int) = leafAtF s docs k := by unfold leafAtF; rw [if_pos h]
theorem la1 {s : Strand} {docs : List Int} {k : Int} (h : leafAtBad s docs k = false) (g : k > 0) :
    leafOfF (chAt s k).2.1 (docs.getD k.toNat (dflt TI)) (subL s.1 0 (chAt s k).1) (renDigF (chAt s k).2.1 (s.2.getD (IntKind.i64.wrap (k - 1)).toNat (dflt TRen))) = leafAtF s docs k := by
  unfold leafAtF beforeF; rw [if_neg (by rw [h]; decide), if_pos g]
theorem la2 {s : Strand} {docs : List Int} {k : Int} (h : leafAtBad s docs k = false) (g : ¬ k > 0) :
    leafOfF (chAt s k).2.1 (docs.getD k.toNat (dflt TI)) (subL s.1 0 (chAt s k).1) 0 = leafAtF s docs k := by
  unfold leafAtF beforeF; rw [if_neg (by rw [h]; decide), if_neg g]
theorem laIdx {k : Int} {n : Nat} (h : (!(inRangeF k 0 (IntKind.i64.wrap ((n : Int) - 1)))) = false) (hb : n ≤ bigLen) : inRange k n := by
  have := rg h
  unfold bigLen at hb
  rw [w64 (by omega) (by omega)] at this
  exact ⟨this.1, by omega⟩
theorem prevIdx {k : Int} {n : Nat} (h : inRange k n) (g : k > 0) (hb : n ≤ bigLen) : inRange (IntKind.i64.wrap (k - 1)) n := by
  obtain ⟨h1, h2⟩ := h
  unfold bigLen at hb
  rw [w64 (by omega) (by omega)]
  exact ⟨by omega, by omega⟩
theorem lastIdx {n : Nat} (g : (n : Int) > 0) (hb : n ≤ bigLen) : inRange (IntKind.i64.wrap ((n : Int) - 1)) n := by
  unfold bigLen at hb
  rw [w64 (by omega) (by omega)]
  exact ⟨by omega, by omega⟩
theorem getD_mem {α : Type} {l : List α} {k : Int} (h : inRange k l.length) (d : α) : l.getD k.toNat d ∈ l := by
  obtain ⟨h1, h2⟩ := h
  rw [List.getD_eq_getElem?_getD, List.getElem?_eq_getElem (by omega)]
  exact List.getElem_mem _
theorem subL_sm {l : List Piece} {a b : Int} (h : Sm big20 (.slice TPiece) l) : Sm big20 (.slice TPiece) (subL l a b) := by
  refine ⟨?_, fun x hx => h.2 x (List.mem_of_mem_take (List.mem_of_mem_drop hx))⟩
  have := h.1
  unfold subL
  rw [List.length_drop, List.length_take]; omega
theorem lf1 {x : Item} {m : Int} (g : (x.2.2.2.2.2.length : Int) > 0) :
    leafOfF m (docDigF m x.2.2.1) x.2.2.2.2.1 (renDigF m (x.2.2.2.2.2.getD (IntKind.i64.wrap ((x.2.2.2.2.2.length : Int) - 1)).toNat (dflt TRen))) = leafForF x m := by
  unfold leafForF beforeF; rw [if_pos g]
theorem lf2 {x : Item} {m : Int} (g : ¬ (x.2.2.2.2.2.length : Int) > 0) : leafOfF m (docDigF m x.2.2.1) x.2.2.2.2.1 0 = leafForF x m := by
  unfold leafForF beforeF; rw [if_neg g]
noncomputable def ddF (d : Doc) (r : Renewal) : Int × Bool := (docDigF r.2.1 d, true)
noncomputable def docDigsF (s : Strand) (d : Doc) : List Int := pickF (ddF d) s.2
theorem pick_true {α β : Type} (g : α → β) (L : List α) : pickF (fun x => (g x, true)) L = L.map g := by
  unfold pickF
  induction L with
  | nil => rfl
  | cons x r ih => simp
theorem pkLen2 {α β : Type} {f : α → β × Bool} {L : List α} {acc : List β} {i : Int} (h : pkInv f L acc i) (hs : L.length ≤ 2000000) : acc.length + 1 ≤ maxApp := by
  have := pick_len f (L.take i.toNat)
  rw [← h.2, List.length_take] at this
  unfold maxApp; omega
/-- a strand with a renewal that covers all its pieces -/
def withNew (s : Strand) (m : Int) : Strand := (s.1, s.2 ++ [((s.1.length : Int), m, 0, [], [])])
theorem leafEq (x : Item) (m : Int) (h : x.2.2.2.2.2.length ≤ 1048576) :
    leafAtF (withNew x.2.2.2.2 m) (docDigsF (withNew x.2.2.2.2 m) x.2.2.1) (IntKind.i64.wrap (((withNew x.2.2.2.2 m).2.length : Int) - 1)) = leafForF x m := by
  have hlen : (withNew x.2.2.2.2 m).2.length = x.2.2.2.2.2.length + 1 := by unfold withNew; simp
  have hk : IntKind.i64.wrap (((withNew x.2.2.2.2 m).2.length : Int) - 1) = (x.2.2.2.2.2.length : Int) := by
    rw [hlen, w64 (by omega) (by omega)]; omega
  have hdocs : docDigsF (withNew x.2.2.2.2 m) x.2.2.1 = (withNew x.2.2.2.2 m).2.map (fun r => docDigF r.2.1 x.2.2.1) := pick_true _ _
  have hlast : chAt (withNew x.2.2.2.2 m) (x.2.2.2.2.2.length : Int) = ((x.2.2.2.2.1.length : Int), m, 0, [], []) := by
    unfold chAt withNew
    rw [List.getD_eq_getElem?_getD]
    simp
  have hd : (docDigsF (withNew x.2.2.2.2 m) x.2.2.1).getD (x.2.2.2.2.2.length) (dflt TI) = docDigF m x.2.2.1 := by
    rw [hdocs, List.getD_eq_getElem?_getD]
    unfold withNew
    simp
  have hr : ∀ n : Nat, inRangeF (n : Int) 0 (n : Int) = true := fun n => by
    unfold inRangeF pick2
    rw [decide_eq_true (by omega : (0 : Int) ≤ n), decide_eq_true (Int.le_refl _)]; rfl
  have hbad : leafAtBad (withNew x.2.2.2.2 m) (docDigsF (withNew x.2.2.2.2 m) x.2.2.1) (x.2.2.2.2.2.length : Int) = false := by
    unfold leafAtBad
    rw [hk, hr, hlast]
    have e1 : ((docDigsF (withNew x.2.2.2.2 m) x.2.2.1).length : Int) = ((withNew x.2.2.2.2 m).2.length : Int) := by rw [hdocs, List.length_map]
    have e2 : (withNew x.2.2.2.2 m).1.length = x.2.2.2.2.1.length := rfl
    rw [e1, e2, hr]
    simp [pick2]
  rw [hk]
  unfold leafAtF
  rw [if_neg (by rw [hbad]; decide), hlast]
  have hs : subL (withNew x.2.2.2.2 m).1 0 (x.2.2.2.2.1.length : Int) = x.2.2.2.2.1 := by
    unfold subL withNew
    simp
  have hb : beforeF m (withNew x.2.2.2.2 m).2 (x.2.2.2.2.2.length : Int) = beforeF m x.2.2.2.2.2 (x.2.2.2.2.2.length : Int) := by
    unfold beforeF
    split
    · rename_i g
      congr 1
      rw [w64 (by omega) (by omega)]
      unfold withNew
      rw [List.getD_eq_getElem?_getD, List.getD_eq_getElem?_getD, List.getElem?_append_left (by omega)]
    · rfl
  show leafOfF m ((docDigsF (withNew x.2.2.2.2 m) x.2.2.1).getD (x.2.2.2.2.2.length : Int).toNat (dflt TI)) (subL (withNew x.2.2.2.2 m).1 0 (x.2.2.2.2.1.length : Int)) (beforeF m (withNew x.2.2.2.2 m).2 (x.2.2.2.2.2.length : Int)) = leafForF x m
  have e3 : ((x.2.2.2.2.2.length : Nat) : Int).toNat = x.2.2.2.2.2.length := by omega
  rw [e3, hd, hs, hb]
  rfl
noncomputable def lvF (m : Int) (x : Item) : Int × Bool := (leafForF x m, true)
noncomputable def leavesF (a : Archive) (m : Int) : List Int := pickF (lvF m) a.2
noncomputable def rootForF (a : Archive) (m : Int) : Int := treeF m (leavesF a m)
theorem leavesBig {a : Archive} {m : Int} (h : a.2.length ≤ 1048576) : (leavesF a m).length ≤ 1000000000000 := pickBig h
theorem newApp {s : Strand} (h : s.2.length ≤ big20) : s.2.length + 1 ≤ maxApp := by unfold big20 at h; unfold maxApp; omega
theorem newLen {s : Strand} {m : Int} (h : s.2.length ≤ big20) : (withNew s m).2.length ≤ 2000000 := by unfold withNew; unfold big20 at h; simp; omega
theorem newSm {s : Strand} {m : Int} (h : Sm big20 (.slice TPiece) s.1 ∧ (s.2.length ≤ big20 ∧ ∀ r ∈ s.2, Sm big20 TRen r)) : Sm big20 (.slice TPiece) (withNew s m).1 ∧ ∀ r ∈ (withNew s m).2, Sm big20 TRen r := by
  refine ⟨h.1, fun r hr => ?_⟩
  unfold withNew at hr
  rcases List.mem_append.1 hr with hr | hr
  · exact h.2.2 r hr
  · rw [List.mem_singleton.1 hr]
    exact ⟨trivial, trivial, trivial, ⟨Nat.zero_le _, fun x hx => by simp at hx⟩, ⟨Nat.zero_le _, fun x hx => by simp at hx⟩⟩
theorem pkYesV {α β : Type} {f : α → β × Bool} {L : List α} {acc : List β} {d : α} {i : Int} {v : β} (h : pkInv f L acc i) (hl : i < L.length) (hb : L.length ≤ bigLen) (g : (f (L.getD i.toNat d)).2 = true)
    (e : v = (f (L.getD i.toNat d)).1) : pkInv f L (acc ++ [v]) (IntKind.i64.wrap (i + 1)) ∧ (L.length - (IntKind.i64.wrap (i + 1))).toNat < (L.length - i).toNat := by
  rw [e]; exact pkYes h hl hb g
end Fw
