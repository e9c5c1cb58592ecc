/- The operations over data: what each does to what the slots hold, as a function that can be computed. Conditions: none. -/
import Derived.Test.YtnbpojalpdldnaaFw2
import GoSem.Dispatch
namespace Fw
open Go

/-- cast of a continuation: computes away where both types are written out -/
def castK {a b : Ty} {R : Type} (h : a = b) (k : El b → R) : El a → R := Eq.rec (motive := fun c _ => (El c → R) → (El a → R)) (fun k => k) h k

structure SV where
  s : Sh
  x : El s.ty

/-- what is known of a borrowed value's place: its cells, its beginning, or the field of an element of an owned row that it was loaded from -/
inductive Bx where
  | f | t | el (off : Nat) (et : Ty) (i eo : Nat)
  deriving DecidableEq
def Bx.isT : Bx → Bool
  | .t => true
  | _ => false

inductive A where
  | junk
  | c (s : Sh) (x : El s.ty)
  | ptr (k g off : Nat)
  | bor (k g ver : Nat) (t : Ty) (x : El t) (org : Option Nat) (exact : Bx)
  | elp (k g ver off : Nat) (et : Ty) (i : Nat) (eo : Nat) (arr : Option Nat)
  | eptr (t : Ty) (x : El t) (off : Nat)
  | al (k g : Nat) (ag : Bool) (off : Nat)
  | cond (s g ver : Nat) (w : Bool) (a : A)
  | tup (l : List (Option SV))
  | fn (f : Nat)

structure Ent where
  g : Nat
  ver : Nat
  a : A

abbrev Env := List (Nat × Ent)
def noEnt : Ent := ⟨0, 0, .junk⟩
def Env.get : Env → Nat → Ent
  | [], _ => noEnt
  | (k, e) :: r, n => if k = n then e else Env.get r n

/-- one write: a slot, whether its pointer stays, what it holds then -/
structure Wr where
  slot : Nat
  keep : Bool
  a : A
def Env.put (ρ : Env) (w : Wr) : Env :=
  (w.slot, if w.keep then ⟨(ρ.get w.slot).g, (ρ.get w.slot).ver + 1, w.a⟩ else ⟨(ρ.get w.slot).g + 1, 0, w.a⟩) :: ρ
def Env.puts (ρ : Env) : List Wr → Env
  | [] => ρ
  | w :: r => (ρ.put w).puts r

/-- an operand: the slot it stands in, what that holds, and what it points to -/
structure Opd where
  slot : Option Nat
  ent : Ent
  a : A
  tgt : Ent

abbrev Vals : List Ty → Type
  | [] => Unit
  | t :: r => El t × Vals r

/-- a contract: parameters, results, what is asked, what is computed -/
structure Fun where
  args : List Ty
  res : List Sh
  pre : Vals args → Prop
  run : Vals args → Vals (res.map Sh.ty)

/-- a function that writes into what its first argument owns: that argument's shape, what is asked, its data afterwards, the result -/
structure MFun where
  s : Sh
  pre : El s.ty → Int → Prop
  out : El s.ty → Int → El s.ty
  run : El s.ty → Int → Int

/-- a function that takes over what its first argument owns: that argument's shape, the others, the result -/
structure TFun where
  s : Sh
  args : List Ty
  res : Sh
  pre : El s.ty → Vals args → Prop
  run : El s.ty → Vals args → El res.ty

structure Ctx where
  n : Nat
  tys : List (Nat × Ty)
  flds : List (Nat × List (Nat × Ty))
  res : List Nat
  keep : List Nat
  fn : Nat → Option Fun
  eqs : List Nat
  fnM : Nat → Option MFun := fun _ => none
  pins : List Nat := []
  fnT : Nat → Option TFun := fun _ => none

abbrev Out := Option (List Wr × List Prop)

def A.tgt : A → Option Nat
  | .ptr k _ _ => some k
  | .bor k _ _ _ _ _ _ => some k
  | .elp k _ _ _ _ _ _ _ => some k
  | .al k _ _ _ => some k
  | .cond _ _ _ _ a => a.tgt
  | _ => none

def ofConst : Value → A
  | .bool b => .c (.pure .bool) b
  | .int k n => if k.min ≤ n ∧ n ≤ k.max then .c (.pure (.int k)) n else .junk
  | .string s => if s.data.toList.length ≤ bigLen then .c (.pure .str) s.data.toList else .junk
  | _ => .junk

/-- the guard taken off, where the operation stands under it -/
def A.strip (s g ver : Nat) (w : Bool) : A → A
  | .cond s' g' ver' w' a => if s' = s ∧ g' = g ∧ ver' = ver ∧ w' = w then a else .cond s' g' ver' w' a
  | a => a
abbrev Gd := Option (Nat × Nat × Nat × Bool)
def A.stripG : Gd → A → A
  | none, a => a
  | some (s, g, ver, w), a => a.strip s g ver w

def tgtOf (ρ : Env) (a : A) : Ent := match a.tgt with | some k => ρ.get k | none => noEnt
def opd (ρ : Env) (gd : Gd) : Operand → Opd
  | .tmp t => ⟨some t, ρ.get t, (ρ.get t).a.stripG gd, tgtOf ρ ((ρ.get t).a.stripG gd)⟩
  | .const v => ⟨none, noEnt, ofConst v, noEnt⟩
  | .func f => ⟨none, noEnt, .fn f, noEnt⟩
  | .global _ => ⟨none, noEnt, .junk, noEnt⟩

/-- read as data of type t -/
def rd {R : Type} (t : Ty) (o : Opd) (k : El t → Option R) : Option R :=
  match o.a with
  | .c s x => if h : s.ty = t then (if s.noref = true then castK h k x else none) else none
  | .bor _ g ver t' x _ _ => if o.tgt.g = g ∧ o.tgt.ver = ver then (if h : t' = t then castK h k x else none) else none
  | _ => none

def mkPair {R : Type} : (a : Sh) → El a.ty → (b : Sh) → El b.ty → ((s : Sh) → El s.ty → R) → R
  | .pure a, x, .pure b, y, k => k (.pure (.pair a b)) (x, y)
  | a, x, b, y, k => k (.pair a b) (x, y)

def El.subK {R : Type} : (T : Ty) → El T → (off : Nat) → (t : Ty) → (El t → Option R) → Option R
  | .pair a b, x, off, t, k =>
    if h : off = 0 ∧ Ty.pair a b = t then castK h.2 k x
    else if off < a.size then El.subK a x.1 off t k else El.subK b x.2 (off - a.size) t k
  | .int j, x, off, t, k => if h : off = 0 ∧ Ty.int j = t then castK h.2 k x else none
  | .bool, x, off, t, k => if h : off = 0 ∧ Ty.bool = t then castK h.2 k x else none
  | .str, x, off, t, k => if h : off = 0 ∧ Ty.str = t then castK h.2 k x else none
  | .slice e, x, off, t, k => if h : off = 0 ∧ Ty.slice e = t then castK h.2 k x else none
  | .arr n e, x, off, t, k => if h : off = 0 ∧ Ty.arr n e = t then castK h.2 k x else none

/-- the part of type t at cell off -/
def Sh.subK {R : Type} : (s : Sh) → El s.ty → (off : Nat) → (t : Ty) → ((s : Sh) → El s.ty → Option R) → Option R
  | .pure T, x, off, t, k => El.subK T x off t (fun y => k (.pure t) y)
  | .pair a b, x, off, t, k =>
    if off = 0 ∧ Ty.pair a.ty b.ty = t then k (.pair a b) x
    else if off < a.size then a.subK x.1 off t k else b.subK x.2 (off - a.size) t k
  | .own e, x, off, t, k => if off = 0 ∧ Ty.slice e.ty = t then k (.own e) x else none
  | .nil e, x, off, t, k => if off = 0 ∧ Ty.slice e = t then k (.nil e) x else none
  | _, _, _, _, _ => none

/-- a part replaced by another of its type -/
def El.updK {R : Type} : (T : Ty) → El T → (off : Nat) → (s' : Sh) → El s'.ty → ((s : Sh) → El s.ty → Option R) → Option R
  | .pair a b, x, off, s', y, k =>
    if off = 0 ∧ Ty.pair a b = s'.ty then k s' y
    else if off < a.size then El.updK a x.1 off s' y (fun s1 y1 => mkPair s1 y1 (.pure b) x.2 k)
    else El.updK b x.2 (off - a.size) s' y (fun s1 y1 => mkPair (.pure a) x.1 s1 y1 k)
  | T, _, off, s', y, k => if off = 0 ∧ T = s'.ty then k s' y else none
def Sh.updK {R : Type} : (s : Sh) → El s.ty → (off : Nat) → (s' : Sh) → El s'.ty → ((s : Sh) → El s.ty → Option R) → Option R
  | .pure T, x, off, s', y, k => El.updK T x off s' y k
  | .pair a b, x, off, s', y, k =>
    if off = 0 ∧ Ty.pair a.ty b.ty = s'.ty ∧ s'.size = a.size + b.size then k s' y
    else if off < a.size then a.updK x.1 off s' y (fun s1 y1 => mkPair s1 y1 b x.2 k)
    else b.updK x.2 (off - a.size) s' y (fun s1 y1 => mkPair a x.1 s1 y1 k)
  | .own e, _, off, s', y, k => if off = 0 ∧ Ty.slice e.ty = s'.ty then k s' y else none
  | .nil e, _, off, s', y, k => if off = 0 ∧ Ty.slice e = s'.ty then k s' y else none
  | .hole t, _, off, s', y, k => if off = 0 ∧ t = s'.ty then k s' y else none
  | .ref _, _, _, _, _, _ => none

/-- a slot's content, all of it made shared -/
def froz : A → Option A
  | .c (.ref s) x => if s.noref = true then some (.c (.ref (.pure s.ty)) x) else none
  | .c s x => if s.noref = true then some (.c (.pure s.ty) x) else none
  | _ => none

/-- taken, to be kept elsewhere: what is owned moves, what is borrowed becomes shared -/
def tk {R : Type} (o : Opd) (k : (s : Sh) → El s.ty → List Wr → Option R) : Option R :=
  match o.a with
  | .c s x => if s.free = true then k s x [] else match o.slot with | some j => k s x [⟨j, false, .junk⟩] | none => none
  | .bor j g ver t x _ _ =>
    if o.tgt.g = g ∧ o.tgt.ver = ver then
      match froz o.tgt.a with
      | some a' => k (.pure t) x [⟨j, true, a'⟩]
      | none => none
    else none
  | _ => none
/-- the same, at a shape that is given -/
def tkAs {R : Type} (s : Sh) (o : Opd) (k : El s.ty → List Wr → Option R) : Option R :=
  tk o fun s' x ws =>
    if h : s'.ty = s.ty then
      if s' = s then castK h (fun y => k y ws) x
      else if s = .pure s.ty ∧ s'.noref = true ∧ s'.free = true then castK h (fun y => k y ws) x
      else none
    else none
/-- one shape may be seen as the other: what is empty as a row, what is shared part by part -/
def upP : Ty → Sh → Bool
  | .pair a b, .pair c d => upP a c && upP b d
  | t, s => decide (s = .pure t)
def upB : Sh → Sh → Bool
  | .pure t, s => upP t s
  | .nil e, .own e' => decide (e'.ty = e)
  | .nil e, .pure (.slice e') => decide (e' = e)
  | .pair a b, .pair c d => upB a c && upB b d
  | .pair a b, .pure (.pair c d) => upB a (.pure c) && upB b (.pure d)
  | .own e, .own e' => upB e e'
  | a, b => decide (a = b)
theorem upP_cases {t : Ty} {s : Sh} (h : upP t s = true) : s = .pure t ∨ ∃ a b c d, t = .pair a b ∧ s = .pair c d ∧ upP a c = true ∧ upP b d = true := by
  unfold upP at h
  split at h
  · rename_i a b c d
    simp only [Bool.and_eq_true] at h
    exact .inr ⟨a, b, c, d, rfl, rfl, h.1, h.2⟩
  · exact .inl (by simpa using h)
theorem upP_ty : ∀ (t : Ty) (s : Sh), upP t s = true → t = s.ty := by
  intro t
  induction t with
  | pair a b iha ihb =>
    intro s h
    rcases upP_cases h with h | ⟨a', b', c, d, h1, h2, h3, h4⟩
    · rw [h]
    · cases h1; subst h2; simp [iha c h3, ihb d h4]
  | _ =>
    intro s h
    rcases upP_cases h with h | ⟨_, _, _, _, h, _⟩
    · rw [h]
    · cases h
theorem upB_ty : ∀ (a b : Sh), upB a b = true → a.ty = b.ty := by
  intro a
  induction a with
  | pure t => intro b h; exact upP_ty t b h
  | nil e =>
    intro b h
    cases b with
    | own e' => simp [upB] at h; simp [h]
    | pure t => cases t with
      | slice e' => simp [upB] at h; simp [h]
      | _ => simp [upB] at h
    | nil e' => simp [upB] at h; rw [h]
    | _ => simp [upB] at h
  | pair a b iha ihb =>
    intro s h
    cases s with
    | pair c d => simp [upB] at h; simp [iha c h.1, ihb d h.2]
    | pure t => cases t with
      | pair c d => simp [upB] at h; simp [iha (.pure c) h.1, ihb (.pure d) h.2]
      | _ => simp [upB] at h
    | _ => simp [upB] at h
  | own e ih =>
    intro s h
    cases s with
    | own e' => simp only [upB] at h; simp [ih e' h]
    | _ => simp [upB] at h
  | ref e ih =>
    intro s h
    cases s <;> simp [upB] at h
    rw [h]
  | hole t =>
    intro s h
    cases s <;> simp [upB] at h
    rw [h]
/-- a part, and what is left: the part's place a hole -/
def Sh.cutK {R : Type} : (s : Sh) → El s.ty → (off : Nat) → (t : Ty) → ((s : Sh) → El s.ty → (s2 : Sh) → El s2.ty → Option R) → Option R
  | .pure T, x, off, t, k => El.subK T x off t (fun y => k (.pure t) y (.pure T) x)
  | .pair a b, x, off, t, k =>
    if off = 0 ∧ Ty.pair a.ty b.ty = t ∧ (Sh.pair a b).noref = true then k (.pair a b) x (.hole (.pair a.ty b.ty)) x
    else if off < a.size then a.cutK x.1 off t fun s' y s2 x2 => mkPair s2 x2 b x.2 fun s3 x3 => k s' y s3 x3
    else b.cutK x.2 (off - a.size) t fun s' y s2 x2 => mkPair a x.1 s2 x2 fun s3 x3 => k s' y s3 x3
  | .own e, x, off, t, k => if off = 0 ∧ Ty.slice e.ty = t then k (.own e) x (.hole (.slice e.ty)) x else none
  | .nil e, x, off, t, k => if off = 0 ∧ Ty.slice e = t then k (.nil e) x (.nil e) x else none
  | _, _, _, _, _ => none
/-- taken with what it owns: the place that it is borrowed from is left with a hole -/
def tkOwn {R : Type} (o : Opd) (k : (s : Sh) → El s.ty → List Wr → Option R) : Option R :=
  match o.a with
  | .bor j g ver t _ (some off) .t =>
    if o.tgt.g = g ∧ o.tgt.ver = ver then
      match o.tgt.a with
      | .c (.ref s) x => s.cutK x off t fun s' y s2 x2 => if s'.noref = true then k s' y [⟨j, true, .c (.ref s2) x2⟩] else none
      | .c s x => s.cutK x off t fun s' y _ _ => if s'.noref = true then k s' y [⟨j, false, .junk⟩] else none
      | _ => none
    else none
  | .c s x => if s.free = true then k s x [] else match o.slot with | some j => k s x [⟨j, false, .junk⟩] | none => none
  | _ => none
/-- taken for good: the place that it is borrowed from is given up -/
def tkRes {R : Type} (o : Opd) (k : (s : Sh) → El s.ty → List Wr → Option R) : Option R :=
  match o.a with
  | .bor j g ver t _ (some off) .t =>
    if o.tgt.g = g ∧ o.tgt.ver = ver then
      match o.tgt.a with
      | .c (.ref s) x => s.subK x off t fun s' y => k s' y [⟨j, false, .junk⟩]
      | .c s x => s.subK x off t fun s' y => k s' y [⟨j, false, .junk⟩]
      | _ => none
    else none
  | _ => tk o k

def zeroK {R : Type} : (t : Ty) → ((s : Sh) → El s.ty → R) → R
  | .slice e, k => k (.nil e) []
  | .pair a b, k => zeroK a fun s x => zeroK b fun s' y => mkPair s x s' y k
  | t, k => k (.pure t) (dflt t)

def noneIs (j : Nat) : List Wr → Bool
  | [] => true
  | w :: r => if w.slot = j then false else noneIs j r
/-- a guard still stands, unless its slot was written -/
def nextG : Gd → List Wr → Gd
  | some (s, g, ver, b), ws => if noneIs s ws = true then some (s, g, ver, b) else none
  | none, _ => none
def look {α : Type} : List (Nat × α) → Nat → Option α
  | [], _ => none
  | (k, a) :: r, n => if k = n then some a else look r n

/-- the parts of a struct, those that are not given being zero -/
def buildK {R : Type} : List (Nat × Ty) → Nat → Gd → Env → List (Nat × Operand) → ((s : Sh) → El s.ty → List Wr → Option R) → Option R
  | [], _, _, _, _, _ => none
  | [(_, t)], i, gd, ρ, ps, k =>
    match look ps i with
    | some o => tk (opd ρ gd o) fun s x ws => if s.ty = t ∧ s.noref = true then k s x ws else none
    | none => zeroK t fun s x => k s x []
  | (_, t) :: r, i, gd, ρ, ps, k =>
    match look ps i with
    | some o => tk (opd ρ gd o) fun s x ws => if s.ty = t ∧ s.noref = true then buildK r (i + 1) (nextG gd ws) (ρ.puts ws) ps fun s' y ws' => mkPair s x s' y fun s2 z => k s2 z (ws ++ ws') else none
    | none => zeroK t fun s x => buildK r (i + 1) gd ρ ps fun s' y ws' => mkPair s x s' y fun s2 z => k s2 z ws'

/-- the elements of an array literal of plain data -/
def arrK {R : Type} (e : Ty) (gd : Gd) (ρ : Env) : Nat → Nat → List (Nat × Operand) → (List (El e) → Option R) → Option R
  | 0, _, _, k => k []
  | n + 1, i, ps, k =>
    match look ps i with
    | some o => rd e (opd ρ gd o) fun x => arrK e gd ρ n (i + 1) ps fun xs => k (x :: xs)
    | none => arrK e gd ρ n (i + 1) ps fun xs => k (dflt e :: xs)

/-- the elements of a slice literal -/
def elemsK {R : Type} (s : Sh) : Gd → Env → List (Nat × Operand) → Nat → (List (El s.ty) → List Wr → Option R) → Option R
  | _, _, [], _, k => k [] []
  | gd, ρ, (j, o) :: r, i, k => if j = i then tkAs s (opd ρ gd o) fun x ws => elemsK s (nextG gd ws) (ρ.puts ws) r (i + 1) fun xs ws' => k (x :: xs) (ws ++ ws') else none

def Sh.anyNil : Sh → Bool
  | .nil _ => true
  | .pair a b => a.anyNil || b.anyNil
  | _ => false
def elemSh (e : Ty) (gd : Gd) (ρ : Env) : List (Nat × Operand) → Sh
  | [] => .pure e
  | (_, o) :: _ => match (opd ρ gd o).a with | .c s _ => if s.free = true ∧ s.anyNil = false then .pure e else s | _ => .pure e

def nodupB : List Nat → Bool
  | [] => true
  | a :: r => !(r.contains a) && nodupB r
def keysB {α : Type} (n : Nat) (ps : List (Nat × α)) : Bool := nodupB (ps.map Prod.fst) && (ps.map Prod.fst).all (fun i => decide (i < n))
/-- fields that lie one behind the other -/
def contB : Nat → List (Nat × Ty) → Bool
  | _, [] => true
  | p, (o, t) :: r => o == p && contB (p + t.size) r

/-- a pointer: the slot of the variable, its age, the cell -/
def ptrK {R : Type} (o : Opd) (k : (j g off : Nat) → Ent → Option R) : Option R :=
  match o.a with
  | .ptr j g off => k j g off o.tgt
  | .c (.ref _) _ => match o.slot with | some j => k j o.ent.g 0 o.ent | none => none
  | _ => none

def inRange (i : Int) (n : Nat) : Prop := 0 ≤ i ∧ i < n

def maxNew : Nat := 2147483648

def binInt (op : BinOp) (k : IntKind) (x y : Int) : Option (A × List Prop) :=
  match op with
  | .add => some (.c (.pure (.int k)) (k.wrap (x + y)), [])
  | .sub => some (.c (.pure (.int k)) (k.wrap (x - y)), [])
  | .mul => some (.c (.pure (.int k)) (k.wrap (x * y)), [])
  | .quo => some (.c (.pure (.int k)) (k.wrap (x.tdiv y)), [y ≠ 0])
  | .rem => some (.c (.pure (.int k)) (x.tmod y), [y ≠ 0])
  | .eql => some (.c (.pure .bool) (x == y), [])
  | .neq => some (.c (.pure .bool) (x != y), [])
  | .lss => some (.c (.pure .bool) (decide (x < y)), [])
  | .leq => some (.c (.pure .bool) (decide (x ≤ y)), [])
  | .gtr => some (.c (.pure .bool) (decide (x > y)), [])
  | .geq => some (.c (.pure .bool) (decide (x ≥ y)), [])
  | .and => some (.c (.pure (.int k)) (k.wrap (BitVec.ofInt k.bits x &&& BitVec.ofInt k.bits y).toNat), [])
  | .or => some (.c (.pure (.int k)) (k.wrap (BitVec.ofInt k.bits x ||| BitVec.ofInt k.bits y).toNat), [])
  | .xor => some (.c (.pure (.int k)) (k.wrap (BitVec.ofInt k.bits x ^^^ BitVec.ofInt k.bits y).toNat), [])
  | _ => none

def shiftInt (op : BinOp) (k : IntKind) (x y : Int) : Option (A × List Prop) :=
  match op with
  | .shl => some (.c (.pure (.int k)) (k.wrap (x * 2 ^ (min y.toNat k.bits))), [0 ≤ y])
  | .shr => some (.c (.pure (.int k)) (x.fdiv (2 ^ (min y.toNat k.bits))), [0 ≤ y])
  | _ => none

/-- types whose values are equal just when their data are -/
def Ty.cmp : Ty → Bool
  | .int _ => true
  | .bool => true
  | .str => true
  | .pair a b => a.cmp && b.cmp
  | _ => false
def El.eq : (t : Ty) → El t → El t → Bool
  | .int _, x, y => x == y
  | .bool, x, y => x == y
  | .str, x, y => x == y
  | .pair a b, x, y => El.eq a x.1 y.1 && El.eq b x.2 y.2
  | _, _, _ => false

def binStr (op : BinOp) (x y : List UInt8) : Option (A × List Prop) :=
  match op with
  | .add => some (.c (.pure .str) (x ++ y), [x.length + y.length ≤ bigLen])
  | .eql => some (.c (.pure .bool) (x == y), [])
  | .neq => some (.c (.pure .bool) (x != y), [])
  | _ => none

def bytesOf (x : List UInt8) : List Int := x.map fun b => (b.toNat : Int)
def strOf (x : List Int) : List UInt8 := x.map fun n => UInt8.ofNat n.toNat

/-- arguments, read -/
def argsK {R : Type} : (ts : List Ty) → List Opd → (Vals ts → Option R) → Option R
  | [], [], k => k ()
  | t :: ts, o :: os, k => rd t o fun x => argsK ts os fun xs => k (x, xs)
  | _, _, _ => none
/-- arguments, shared from here on -/
def argsShK {R : Type} : (ts : List Ty) → List Opd → (Vals ts → List Wr → Option R) → Option R
  | [], [], k => k () []
  | t :: ts, o :: os, k => tkAs (.pure t) o fun x ws => argsShK ts os fun xs ws' => k (x, xs) (ws ++ ws')
  | _, _, _ => none

/-- results -/
def resK : (ss : List Sh) → Vals (ss.map Sh.ty) → List (Option SV)
  | [], _ => []
  | s :: ss, x => some ⟨s, x.1⟩ :: resK ss x.2
def resA : (ss : List Sh) → Vals (ss.map Sh.ty) → A
  | [s], x => .c s x.1
  | ss, x => .tup (resK ss x)

def Ctx.ty (C : Ctx) (t : Nat) : Option Ty := look C.tys t

def pick2 (c a b : Bool) : Bool := cond c a b

/-- every row in it has elements that are shared -/
def Sh.shallow : Sh → Bool
  | .own (.pure _) => true
  | .own _ => false
  | .ref s => s.shallow
  | .pair a b => a.shallow && b.shallow
  | _ => true

/-- the content of a slot, and where it stands: in a variable, or in the slot itself -/
def contK {R : Type} (e : Ent) (k : (s : Sh) → El s.ty → Option R) : Option R :=
  match e.a with
  | .c (.ref s) x => k s x
  | .c s x => k s x
  | _ => none
/-- the content with a part replaced -/
def contPut {R : Type} (e : Ent) (off : Nat) (s' : Sh) (y : El s'.ty) (k : A → Option R) : Option R :=
  match e.a with
  | .c (.ref s) x => s.updK x off s' y fun s2 x2 => k (.c (.ref s2) x2)
  | .c s x => s.updK x off s' y fun s2 x2 => k (.c s2 x2)
  | _ => none

end Fw
