/- What each operation does to the slots, computed. Conditions: none. -/
import Derived.Test.YtnbpojalpdldnaaFw5
namespace Fw
open Go

def w1 (d : Nat) (a : A) : Wr := ⟨d, false, a⟩
def out1 (d : Nat) (a : A) : Out := some ([w1 d a], [])

def exCopy (C : Ctx) (asg : Bool) (d : Nat) (a : Opd) : Out :=
  match a.a with
  | .c s x =>
    if s.free = true then out1 d (.c s x)
    else match a.slot with
      | some j =>
        if asg = true then some ([w1 j .junk, w1 d (.c s x)], [])
        else match a.ent.a with
          | .c (.ref _) _ => out1 d (.ptr j a.ent.g 0)
          | .c s' x' => if s'.noref = true then out1 d (.bor j a.ent.g a.ent.ver s'.ty x' (some 0) .t) else none
          | _ => none
      | none => none
  | .bor k g ver t x org e =>
    if (asg && C.res.contains d) = true then none
    else out1 d (.bor k g ver t x org e)
  | .ptr k g off => out1 d (.ptr k g off)
  | .eptr u x off => out1 d (.eptr u x off)
  | .al k g ag off => out1 d (.al k g ag off)
  | .elp k g ver off et i eo arr => out1 d (.elp k g ver off et i eo arr)
  | .fn f => out1 d (.fn f)
  | .tup l => match a.slot with | some j => some ([w1 j .junk, w1 d (.tup l)], []) | none => none
  | _ => none

def exNil (C : Ctx) (t : TypeId) (d : Nat) : Out :=
  match C.ty t with
  | some (.slice e) => out1 d (.c (.nil e) [])
  | _ => none

def exPick (d : Nat) (c : Opd) (ab : (s g ver : Nat) → Opd × Opd) : Out :=
  rd .bool c fun cb =>
  match c.slot with
  | some s =>
    rd .bool (ab s c.ent.g c.ent.ver).1 fun x =>
    rd .bool (ab s c.ent.g c.ent.ver).2 fun y => out1 d (.c (.pure .bool) (pick2 cb x y))
  | none => none

def isRef : A → Bool
  | .c (.ref _) _ => true
  | _ => false
/-- a parameter that owns something: it stays where it is -/
def alOf (C : Ctx) (T : Ty) (a : Opd) : Option (Nat × Nat × Bool) :=
  match C.pins with
  | [] => none
  | p :: r => match a.slot, a.ent.a with
    | some j, .c s _ => if (p :: r).contains j = true ∧ s.free = false ∧ s.ty = T ∧ s.noref = true then some (j, a.ent.g, s.ag) else none
    | _, _ => none
def exBox (C : Ctx) (t : TypeId) (d : Nat) (a : Opd) : Out :=
  match C.ty t with
  | some T => match alOf C T a with
    | some (j, g, ag) => out1 d (.al j g ag 0)
    | none => tk a fun s x ws => if s.ty = T then (if s.noref = true then some (ws ++ [w1 d (.c (.ref s) x)], []) else none) else none
  | none => none

def exAlloc (C : Ctx) (t : TypeId) (d : Nat) : Out :=
  match C.ty t with
  | some T => zeroK T fun s x => out1 d (.c (.ref s) x)
  | none => none

/-- a part, handed out: shared, or borrowed from slot j -/
def give (d j g ver : Nat) (org : Option Nat) (s : Sh) (y : El s.ty) : Out :=
  if s.free = true then out1 d (.c s y)
  else if s.noref = true then out1 d (.bor j g ver s.ty y org .t) else none

/-- the same, loaded from a field of an element -/
def giveB (d j g ver : Nat) (b : Bx) (s : Sh) (y : El s.ty) : Out :=
  if s.free = true then out1 d (.c s y)
  else if s.noref = true then out1 d (.bor j g ver s.ty y none b) else none
def elB (arr : Option Nat) (off : Nat) (et : Ty) (i eo : Nat) : Bx :=
  match arr with
  | none => .el off et i eo
  | some _ => .t

/-- element i of the row or the array at cell off -/
def elemK {R : Type} (e : Ent) (off : Nat) (et : Ty) (i : Nat) (arr : Option Nat) (k : (s : Sh) → El s.ty → Option R) : Option R :=
  match arr with
  | none => contK e fun s x => s.subK x off (.slice et) fun s1 y1 =>
    match s1, y1 with
    | .own e, ys => if e.noref = true then k e (ys.getD i (dflt e.ty)) else none
    | .pure (.slice e), ys => k (.pure e) (ys.getD i (dflt e))
    | _, _ => none
  | some n =>
    match e.a with
    | .c (.ref s) x => s.subK x off (.arr n et) fun s1 y1 =>
      match s1, y1 with
      | .pure (.arr _ e), ys => k (.pure e) (ys.getD i (dflt e))
      | _, _ => none
    | _ => none

def exLoad (C : Ctx) (t : TypeId) (d : Nat) (a : Opd) : Out :=
  match C.ty t with
  | some T =>
    match a.a with
    | .eptr u x off => El.subK u x off T fun y => out1 d (.c (.pure T) y)
    | .elp k g ver off et i eo arr =>
      if a.tgt.g = g ∧ a.tgt.ver = ver then
        elemK a.tgt off et i arr fun e y => e.subK y eo T fun s z => giveB d k a.tgt.g a.tgt.ver (elB arr off et i eo) s z
      else none
    | .al k g ag off => if a.tgt.g = g then
        match a.tgt.a with
        | .c s x => if ag = s.ag ∧ s.noref = true then s.subK x off T fun s' y => give d k a.tgt.g a.tgt.ver (some off) s' y else none
        | _ => none
      else none
    | _ => ptrK a fun j g off e =>
      if e.g = g then
        match e.a with
        | .c (.ref s) x => s.subK x off T fun s' y => give d j g e.ver (some off) s' y
        | _ => none
      else none
  | none => none

def isOrg : A → Bool
  | .bor _ _ _ _ _ (some _) .t => true
  | _ => false
def takeK {R : Type} (C : Ctx) (j : Nat) (v : Opd) (k : (s : Sh) → El s.ty → List Wr → Option R) : Option R :=
  if (C.res.contains j && isOrg v.a) = true then tkOwn v k else tk v k

def exStore (C : Ctx) (t : TypeId) (a v : Opd) : Out :=
  match C.ty t with
  | some T =>
    match a.a with
    | .elp _ _ _ _ _ _ _ _ => none
    | _ => ptrK a fun j g off e =>
      if e.g = g then
        takeK C j v fun s' y ws =>
        if s'.ty = T ∧ s'.noref = true ∧ noneIs j ws = true then
          match e.a with
          | .c (.ref s) x => s.updK x off s' y fun s2 x2 => some (ws ++ [⟨j, true, .c (.ref s2) x2⟩], [])
          | _ => none
        else none
      else none
  | none => none

/-- the same pointer, o cells further -/
def exMovePtr (d : Nat) (a : Opd) (o : Nat) : Out :=
  match a.a with
  | .eptr u x off => out1 d (.eptr u x (off + o))
  | .al k g ag off => out1 d (.al k g ag (off + o))
  | .elp k g ver off et i eo arr => if a.tgt.g = g ∧ a.tgt.ver = ver then out1 d (.elp k g ver off et i (eo + o) arr) else none
  | _ => ptrK a fun j g off e => if e.g = g then out1 d (.ptr j g (off + o)) else none

def exFieldAddr (C : Ctx) (t : TypeId) (d : Nat) (a : Opd) (f : Nat) : Out :=
  match look C.flds t with
  | some l => match l[f]? with
    | some (o, _) => exMovePtr d a o
    | none => none
  | none => none

def exField (C : Ctx) (t : TypeId) (d : Nat) (a : Opd) (f : Nat) : Out :=
  match look C.flds t with
  | some l => match l[f]? with
    | some (o, ft) =>
      match a.a with
      | .c s x => s.subK x o ft fun s' y => if s'.free = true then out1 d (.c s' y) else none
      | .bor k g ver u x org e =>
        if a.tgt.g = g ∧ a.tgt.ver = ver then
          El.subK u x o ft fun y => if ft.flat = true then out1 d (.c (.pure ft) y) else
            out1 d (.bor k g ver ft y (match org, e with | some off, .t => some (off + o) | _, _ => none) .t)
        else none
      | _ => none
    | none => none
  | none => none

def exIndexAddr (C : Ctx) (t : TypeId) (d : Nat) (a i : Opd) : Out :=
  rd (.int .i64) i fun idx =>
  match C.ty t with
  | some (.slice E) =>
    match a.a with
    | .c (.pure (.slice e)) xs => if e = E then some ([w1 d (.eptr e (xs.getD idx.toNat (dflt e)) 0)], [inRange idx xs.length]) else none
    | .c (.own _) _ => match a.slot, a.ent.a with
      | some j, .c (.own e) xs => if e.ty = E then some ([w1 d (.elp j a.ent.g a.ent.ver 0 e.ty idx.toNat 0 none)], [inRange idx xs.length]) else none
      | _, _ => none
    | .bor k g ver (.slice e) xs (some off) _ =>
      if a.tgt.g = g ∧ a.tgt.ver = ver ∧ e = E then some ([w1 d (.elp k g ver off e idx.toNat 0 none)], [inRange idx xs.length]) else none
    | _ => none
  | some (.arr n e) => ptrK a fun j g off en =>
    if en.g = g ∧ 2 ≤ n then some ([w1 d (.elp j g en.ver off e idx.toNat 0 (some n))], [inRange idx n]) else none
  | _ => none

def exIndex (C : Ctx) (t : TypeId) (d : Nat) (a i : Opd) : Out :=
  rd (.int .i64) i fun idx =>
  match C.ty t with
  | some (.arr n e) => if e.flat = true ∧ e.ag = false then rd (.arr n e) a fun xs => some ([w1 d (.c (.pure e) (xs.getD idx.toNat (dflt e)))], [inRange idx n]) else none
  | some .str => rd .str a fun xs => some ([w1 d (.c (.pure (.int .u8)) ((xs.getD idx.toNat 0).toNat : Int))], [inRange idx xs.length])
  | _ => none

def exExtract (d : Nat) (a : Opd) (i : Nat) : Out :=
  match a.a, a.slot with
  | .tup l, some j => match l[i]? with
    | some (some ⟨s, x⟩) => if s.free = true then out1 d (.c s x) else some ([w1 j (.tup (l.set i none)), w1 d (.c s x)], [])
    | _ => none
  | _, _ => none

def exUn (op : UnOp) (d : Nat) (t : Ty) (a : Opd) : Out :=
  match op, t with
  | .not, .bool => rd .bool a fun x => out1 d (.c (.pure .bool) (!x))
  | .neg, .int k => rd (.int k) a fun x => out1 d (.c (.pure (.int k)) (k.wrap (0 - x)))
  | _, _ => none

def exBin (C : Ctx) (op : BinOp) (t u : TypeId) (d : Nat) (a b : Opd) : Out :=
  match C.ty t with
  | some (.int k) =>
    match op with
    | .shl | .shr => match C.ty u with
      | some (.int k2) => rd (.int k) a fun x => rd (.int k2) b fun y =>
        match shiftInt op k x y with | some (r, cs) => some ([w1 d r], cs) | none => none
      | _ => none
    | _ => rd (.int k) a fun x => rd (.int k) b fun y => match binInt op k x y with | some (r, cs) => some ([w1 d r], cs) | none => none
  | some .str => rd .str a fun x => rd .str b fun y => match binStr op x y with | some (r, cs) => some ([w1 d r], cs) | none => none
  | some .bool => rd .bool a fun x => rd .bool b fun y =>
    match op with
    | .eql => out1 d (.c (.pure .bool) (x == y))
    | .neq => out1 d (.c (.pure .bool) (x != y))
    | _ => none
  | some (.pair T1 T2) =>
    if C.eqs.contains t = true then rd (.pair T1 T2) a fun x => rd (.pair T1 T2) b fun y =>
      match op with
      | .eql => out1 d (.c (.pure .bool) (El.eq (.pair T1 T2) x y))
      | .neq => out1 d (.c (.pure .bool) (!(El.eq (.pair T1 T2) x y)))
      | _ => none
    else none
  | _ => none

def exConvert (C : Ctx) (t u : TypeId) (d : Nat) (a : Opd) : Out :=
  match C.ty t, C.ty u with
  | some (.int k), some (.int k2) => rd (.int k) a fun x => out1 d (.c (.pure (.int k2)) (k2.wrap x))
  | some .str, some (.slice (.int .u8)) => rd .str a fun x => some ([w1 d (.c (.own (.pure (.int .u8))) (bytesOf x))], [x.length ≤ maxNew])
  | some (.slice (.int .u8)), some .str => rd (.slice (.int .u8)) a fun x => out1 d (.c (.pure .str) (strOf x))
  | _, _ => none

/-- given over to a result variable -/
def exTake (d : Nat) (a : Opd) : Out := tkOwn a fun s y ws => some (ws ++ [w1 d (.c s y)], [])

/-- bounds of a slice expression -/
def loK {R : Type} (o : Option Opd) (k : Int → Option R) : Option R :=
  match o with
  | none => k 0
  | some o => rd (.int .i64) o k
def hiK {R : Type} (o : Option Opd) (n : Int) (k : Int → Option R) : Option R :=
  match o with
  | none => k n
  | some o => rd (.int .i64) o k
def subL {α : Type} (xs : List α) (l h : Int) : List α := (xs.take h.toNat).drop l.toNat
def exSlice (C : Ctx) (t : TypeId) (d : Nat) (a : Opd) (lo hi : Option Opd) : Out :=
  match C.ty t with
  | some (.slice E) =>
    match a.a with
    | .c (.pure (.slice e)) xs => if e = E then loK lo fun l => hiK hi xs.length fun h => some ([w1 d (.c (.pure (.slice e)) (subL xs l h))], [0 ≤ l, l ≤ h, h ≤ xs.length]) else none
    | .c (.own _) _ => match a.slot, a.ent.a with
      | some j, .c (.own e) xs => if e.ty = E ∧ e.noref = true then loK lo fun l => hiK hi xs.length fun h => some ([w1 d (.bor j a.ent.g a.ent.ver (.slice e.ty) (subL xs l h) none .f)], [0 ≤ l, l ≤ h, h ≤ xs.length]) else none
      | _, _ => none
    | .bor k g ver (.slice e) xs _ _ =>
      if a.tgt.g = g ∧ a.tgt.ver = ver ∧ e = E then loK lo fun l => hiK hi xs.length fun h => some ([w1 d (.bor k g ver (.slice e) (subL xs l h) none .f)], [0 ≤ l, l ≤ h, h ≤ xs.length]) else none
    | _ => none
  | some .str => rd .str a fun xs => loK lo fun l => hiK hi xs.length fun h => some ([w1 d (.c (.pure .str) (subL xs l h))], [0 ≤ l, l ≤ h, h ≤ xs.length])
  | _ => none

/-- a store through a pointer to an element of a row -/
def contWrap (e : Ent) (s : Sh) (x : El s.ty) : A :=
  match e.a with
  | .c (.ref _) _ => .c (.ref s) x
  | _ => .c s x
def exStoreEl (C : Ctx) (t : TypeId) (a v : Opd) : Out :=
  match C.ty t with
  | some T =>
    match a.a with
    | .elp k g ver off et i eo none =>
      if a.tgt.g = g ∧ a.tgt.ver = ver then
        takeK C k v fun s' y ws =>
        if s'.ty = T ∧ s'.noref = true ∧ noneIs k ws = true then
          contK a.tgt fun s x => s.cutK x off (.slice et) fun s1 y1 s2 x2 =>
            match s1, y1 with
            | .own e, ys => if e.noref = true then e.updK (ys.getD i (dflt e.ty)) eo s' y fun e2 z =>
                if h : upB e2 e = true then castK (upB_ty e2 e h) (fun z => s2.updK x2 off (.own e) (ys.set i z) fun s3 x3 => some (ws ++ [⟨k, true, contWrap a.tgt s3 x3⟩], [])) z else none
              else none
            | _, _ => none
        else none
      else none
    | _ => none
  | none => none

def exMakeSlice (C : Ctx) (t : TypeId) (d : Nat) (l c : Opd) : Out :=
  match C.ty t with
  | some (.slice e) => rd (.int .i64) l fun n => rd (.int .i64) c fun m =>
    zeroK e fun s x => some ([w1 d (.c (.own s) (List.replicate n.toNat x))], [n = m, 0 ≤ n, n ≤ maxNew])
  | _ => none

def exBuild (C : Ctx) (t : TypeId) (d : Nat) (gd : Gd) (ρ : Env) (ps : List (Nat × Operand)) : Out :=
  match C.ty t with
  | some (.pair a b) =>
    match look C.flds t with
    | some l => if contB 0 l = true ∧ keysB l.length ps = true then
        buildK l 0 gd ρ ps fun s x ws => if s.ty = .pair a b then some (ws ++ [w1 d (.c s x)], []) else none
      else none
    | none => none
  | some (.arr n e) => if e.flat = true ∧ keysB n ps = true then arrK e gd ρ n 0 ps fun xs => out1 d (.c (.pure (.arr n e)) xs) else none
  | _ => none

def exBuildSlice (C : Ctx) (t : TypeId) (d n : Nat) (gd : Gd) (ρ : Env) (ps : List (Nat × Operand)) : Out :=
  match C.ty t with
  | some (.slice e) =>
    if ps.length = n ∧ n ≤ 4096 ∧ e.size ≤ 4096 ∧ (elemSh e gd ρ ps).ty = e ∧ (elemSh e gd ρ ps).noref = true then
      elemsK (elemSh e gd ρ ps) gd ρ ps 0 fun xs ws => some (ws ++ [w1 d (.c (.own (elemSh e gd ρ ps)) xs)], [])
    else none
  | _ => none

def exLen (C : Ctx) (t : TypeId) (d : Nat) (a : Opd) : Out :=
  match C.ty t with
  | some (.slice e) => rd (.slice e) a fun x => out1 d (.c (.pure (.int .i64)) (x.length : Int))
  | some .str => rd .str a fun x => out1 d (.c (.pure (.int .i64)) (x.length : Int))
  | _ => none

def exMinMax (mx : Bool) (d : Nat) (a b : Opd) : Out :=
  rd (.int .i64) a fun x => rd (.int .i64) b fun y => out1 d (.c (.pure (.int .i64)) (if mx = true then max x y else min x y))

def maxApp : Nat := 4294967296
def castSh {a b : Sh} {R : Type} (h : a = b) (k : List (El b.ty) → R) : List (El a.ty) → R := Eq.rec (motive := fun c _ => (List (El c.ty) → R) → (List (El a.ty) → R)) (fun k => k) h k
/-- what an append's source adds -/
def srcK {R : Type} (E : Ty) (o : Opd) (k : (e : Sh) → List (El e.ty) → List Wr → Option R) : Option R :=
  if E.flat = true then rd (.slice E) o fun ys => k (.pure E) ys []
  else tk o fun s y ws =>
    match s, y with
    | .own e, ys => if e.ty = E ∧ e.noref = true then k e ys ws else none
    | .pure (.slice e), ys => if e = E then k (.pure e) ys ws else none
    | .nil e, _ => if e = E then k (.pure e) [] ws else none
    | _, _ => none
/-- the row behind an append -/
def appRowK {R : Type} (_ : Ty) (s : Sh) (x : El s.ty) (e2 : Sh) (ys : List (El e2.ty)) (k : Nat → (e : Sh) → List (El e.ty) → Option R) : Option R :=
  match s, x with
  | .nil _, _ => k 0 e2 ys
  | .own e, x => if h : e2 = e then castSh h (fun ys => k (List.length x) e (x ++ ys)) ys else (match x with | [] => k 0 e2 ys | _ => none)
  | _, _ => none
/-- cast of rows, where the elements' types are equal -/
def castLs {a b : Ty} {R : Type} (h : a = b) (k : List (El b) → R) : List (El a) → R := Eq.rec (motive := fun c _ => (List (El c) → R) → (List (El a) → R)) (fun k => k) h k
/-- what is added, seen as the row's elements -/
def upRowK {R : Type} (s : Sh) (e2 : Sh) (ys : List (El e2.ty)) (k : (e : Sh) → List (El e.ty) → Option R) : Option R :=
  match s with
  | .own e => if e2 = e then k e2 ys else if h : upB e2 e = true then (if e2.noref = true ∧ e.noref = true then castLs (upB_ty e2 e h) (fun ys => k e ys) ys else k e2 ys) else k e2 ys
  | _ => k e2 ys
def exAppend (C : Ctx) (t : TypeId) (d : Nat) (gd : Gd) (ρ : Env) (a b : Operand) : Out :=
  match C.ty t with
  | some (.slice E) =>
    tkOwn (opd ρ gd a) fun s x ws =>
    srcK E (opd (ρ.puts ws) (nextG gd ws) b) fun e2 ys ws2 => upRowK s e2 ys fun e2 ys =>
    if s.ty = .slice E ∧ s.noref = true ∧ e2.ty = E ∧ e2.noref = true then
      appRowK E s x e2 ys fun nx e zs => some (ws ++ (ws2 ++ [w1 d (.c (.own e) zs)]), [nx + ys.length ≤ maxApp])
    else none
  | _ => none


/-- a part of what slot j owns is given to a function that writes into it -/
def ioK (F : MFun) (d j off : Nat) (e : Ent) (n : Int) : Out :=
  contK e fun s x => s.cutK x off F.s.ty fun s1 y1 s2 x2 =>
    if h : upB s1 F.s = true then castK (upB_ty s1 F.s h) (fun y => s2.updK x2 off F.s (F.out y n) fun s3 x3 =>
      some ([⟨j, true, contWrap e s3 x3⟩, w1 d (.c (.pure (.int .i64)) (F.run y n))], [F.pre y n])) y1 else none
/-- the same of a field of an element of an owned row -/
def ioElK (F : MFun) (d j off : Nat) (et : Ty) (i eo : Nat) (e : Ent) (n : Int) : Out :=
  contK e fun s x => s.cutK x off (.slice et) fun s1 y1 s2 x2 =>
    match s1, y1 with
    | .own el, ys => if el.noref = true then el.cutK (ys.getD i (dflt el.ty)) eo F.s.ty fun u1 z1 u2 w2 =>
        if h : upB u1 F.s = true then castK (upB_ty u1 F.s h) (fun z => u2.updK w2 eo F.s (F.out z n) fun u3 w3 =>
          if h3 : upB u3 el = true then castK (upB_ty u3 el h3) (fun w3 => s2.updK x2 off (.own el) (ys.set i w3) fun s3 x3 =>
            some ([⟨j, true, contWrap e s3 x3⟩, w1 d (.c (.pure (.int .i64)) (F.run z n))], [F.pre z n])) w3 else none) z1 else none
      else none
    | _, _ => none
/-- arguments that are data alone, or shared already -/
def argsFK {R : Type} : (ts : List Ty) → List Opd → (Vals ts → Option R) → Option R
  | [], [], k => k ()
  | t :: ts, o :: os, k =>
    if t.flat = true then rd t o fun x => argsFK ts os fun xs => k (x, xs)
    else match o.a with
      | .c s x => if h : s.ty = t then (if s.free = true ∧ s.noref = true then castK h (fun x => argsFK ts os fun xs => k (x, xs)) x else none) else none
      | _ => none
  | _, _, _ => none
def exCallT (C : Ctx) (f d : Nat) (as : List Opd) : Out :=
  match C.fnT f, as with
  | some F, q :: qs => argsFK F.args qs fun xs => tkOwn q fun s x ws =>
      if h : upB s F.s = true then castK (upB_ty s F.s h) (fun y => some (ws ++ [w1 d (.c F.res (F.run y xs))], [F.pre y xs])) x else none
  | _, _ => none
def exCallM (C : Ctx) (f d : Nat) (as : List Opd) : Out :=
  match C.fnM f, as with
  | some F, [q, qn] => rd (.int .i64) qn fun n =>
    match q.a with
    | .c _ _ => match q.slot with
      | some j => match q.ent.a with
        | .c s _ => if isRef q.ent.a = true then none else if s.ty = F.s.ty ∧ s.noref = true then ioK F d j 0 q.ent n else none
        | _ => none
      | none => none
    | .bor j g ver t _ (some off) .t => if q.tgt.g = g ∧ q.tgt.ver = ver ∧ t = F.s.ty then ioK F d j off q.tgt n else none
    | .bor j g ver t _ none (.el off et i eo) => if q.tgt.g = g ∧ q.tgt.ver = ver ∧ t = F.s.ty then ioElK F d j off et i eo q.tgt n else none
    | _ => none
  | none, as => exCallT C f d as
  | _, _ => none

def exCall (C : Ctx) (f d : Nat) (as : List Opd) : Out :=
  match C.fn f with
  | some F =>
    if F.res.all Sh.closed = true then argsK F.args as fun xs => some ([w1 d (resA F.res (F.run xs))], [F.pre xs])
    else none
  | none => exCallM C f d as
end Fw
