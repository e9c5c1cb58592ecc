/- What each operation does to the slots, computed. Conditions: none. -/
import Derived.Test.YtaoeigiogikiaaaFw5
namespace Fw
open Go

def w1 (d : Nat) (a : A) : Wr := ⟨d, false, a⟩
def out1 (d : Nat) (a : A) : Out := some ([w1 d a], [])

def exCopy (C : Ctx) (asg : Bool) (d : Nat) (a : Opd) : Out :=
  match a.a with
  | .c s x =>
    if s.free = true then out1 d (.c s x)
    else match a.slot with
      | some j =>
        if asg = true then some ([w1 j .junk, w1 d (.c s x)], [])
        else match a.ent.a with
          | .c (.ref _) _ => out1 d (.ptr j a.ent.g 0)
          | .c s' x' => if s'.noref = true then out1 d (.bor j a.ent.g a.ent.ver s'.ty x' (some 0) true) else none
          | _ => none
      | none => none
  | .bor k g ver t x org e =>
    if (asg && C.res.contains d) = true then none
    else out1 d (.bor k g ver t x org e)
  | .ptr k g off => out1 d (.ptr k g off)
  | .eptr u x off => out1 d (.eptr u x off)
  | .elp k g ver off et i eo arr => out1 d (.elp k g ver off et i eo arr)
  | .fn f => out1 d (.fn f)
  | _ => none

def exNil (C : Ctx) (t : TypeId) (d : Nat) : Out :=
  match C.ty t with
  | some (.slice e) => out1 d (.c (.nil e) [])
  | _ => none

def exPick (d : Nat) (c : Opd) (ab : (s g ver : Nat) → Opd × Opd) : Out :=
  rd .bool c fun cb =>
  match c.slot with
  | some s =>
    rd .bool (ab s c.ent.g c.ent.ver).1 fun x =>
    rd .bool (ab s c.ent.g c.ent.ver).2 fun y => out1 d (.c (.pure .bool) (pick2 cb x y))
  | none => none

def exBox (C : Ctx) (t : TypeId) (d : Nat) (a : Opd) : Out :=
  match C.ty t with
  | some T => tk a fun s x ws => if s.ty = T then (if s.noref = true then some (ws ++ [w1 d (.c (.ref s) x)], []) else none) else none
  | none => none

def exAlloc (C : Ctx) (t : TypeId) (d : Nat) : Out :=
  match C.ty t with
  | some T => zeroK T fun s x => out1 d (.c (.ref s) x)
  | none => none

/-- a part, handed out: shared, or borrowed from slot j -/
def give (d j g ver : Nat) (org : Option Nat) (s : Sh) (y : El s.ty) : Out :=
  if s.free = true then out1 d (.c s y)
  else if s.noref = true then out1 d (.bor j g ver s.ty y org true) else none

/-- element i of the row or the array at cell off -/
def elemK {R : Type} (e : Ent) (off : Nat) (et : Ty) (i : Nat) (arr : Option Nat) (k : (s : Sh) → El s.ty → Option R) : Option R :=
  match arr with
  | none => contK e fun s x => s.subK x off (.slice et) fun s1 y1 =>
    match s1, y1 with
    | .own e, ys => if e.noref = true then k e (ys.getD i (dflt e.ty)) else none
    | .pure (.slice e), ys => k (.pure e) (ys.getD i (dflt e))
    | _, _ => none
  | some n =>
    match e.a with
    | .c (.ref s) x => s.subK x off (.arr n et) fun s1 y1 =>
      match s1, y1 with
      | .pure (.arr _ e), ys => k (.pure e) (ys.getD i (dflt e))
      | _, _ => none
    | _ => none

def exLoad (C : Ctx) (t : TypeId) (d : Nat) (a : Opd) : Out :=
  match C.ty t with
  | some T =>
    match a.a with
    | .eptr u x off => El.subK u x off T fun y => out1 d (.c (.pure T) y)
    | .elp k g ver off et i eo arr =>
      if a.tgt.g = g ∧ a.tgt.ver = ver then
        elemK a.tgt off et i arr fun e y => e.subK y eo T fun s z => give d k a.tgt.g a.tgt.ver none s z
      else none
    | _ => ptrK a fun j g off e =>
      if e.g = g then
        match e.a with
        | .c (.ref s) x => s.subK x off T fun s' y => give d j g e.ver (some off) s' y
        | _ => none
      else none
  | none => none

def takeK {R : Type} (C : Ctx) (j : Nat) (v : Opd) (k : (s : Sh) → El s.ty → List Wr → Option R) : Option R :=
  if C.res.contains j = true then tkRes v k else tk v k

def exStore (C : Ctx) (t : TypeId) (a v : Opd) : Out :=
  match C.ty t with
  | some T =>
    match a.a with
    | .elp k g ver off et i eo arr =>
      if a.tgt.g = g ∧ a.tgt.ver = ver then
        tk v fun s' y ws =>
        if s'.ty = T ∧ noneIs k ws = true then
          match arr with
          | none => contK a.tgt fun s x => s.subK x off (.slice et) fun s1 y1 =>
            match s1, y1 with
            | .own e, ys => if e.noref = true then e.updK (ys.getD i (dflt e.ty)) eo s' y fun e2 z =>
              if h : e2.ty = e.ty then (if e2 = e then castK h (fun z => contPut a.tgt off (.own e) (ys.set i z) fun na => some (ws ++ [⟨k, true, na⟩], [])) z else none) else none
              else none
            | _, _ => none
          | some n =>
            match a.tgt.a with
            | .c (.ref s) x => s.subK x off (.arr n et) fun s1 y1 =>
              match s1, y1 with
              | .pure (.arr m e), ys => El.updK e (ys.getD i (dflt e)) eo s' y fun e2 z =>
                if h : e2.ty = e then (if e2 = .pure e then castK h (fun z => contPut a.tgt off (.pure (.arr m e)) (ys.set i z) fun na => some (ws ++ [⟨k, true, na⟩], [])) z else none) else none
              | _, _ => none
            | _ => none
        else none
      else none
    | _ => ptrK a fun j g off e =>
      if e.g = g then
        takeK C j v fun s' y ws =>
        if s'.ty = T ∧ s'.noref = true ∧ noneIs j ws = true then
          match e.a with
          | .c (.ref s) x => s.updK x off s' y fun s2 x2 => some (ws ++ [⟨j, true, .c (.ref s2) x2⟩], [])
          | _ => none
        else none
      else none
  | none => none

/-- the same pointer, o cells further -/
def exMovePtr (d : Nat) (a : Opd) (o : Nat) : Out :=
  match a.a with
  | .eptr u x off => out1 d (.eptr u x (off + o))
  | .elp k g ver off et i eo arr => if a.tgt.g = g ∧ a.tgt.ver = ver then out1 d (.elp k g ver off et i (eo + o) arr) else none
  | _ => ptrK a fun j g off e => if e.g = g then out1 d (.ptr j g (off + o)) else none

def exFieldAddr (C : Ctx) (t : TypeId) (d : Nat) (a : Opd) (f : Nat) : Out :=
  match look C.flds t with
  | some l => match l[f]? with
    | some (o, _) => exMovePtr d a o
    | none => none
  | none => none

def exField (C : Ctx) (t : TypeId) (d : Nat) (a : Opd) (f : Nat) : Out :=
  match look C.flds t with
  | some l => match l[f]? with
    | some (o, ft) =>
      match a.a with
      | .c s x => s.subK x o ft fun s' y => if s'.free = true then out1 d (.c s' y) else none
      | .bor k g ver u x org e =>
        if a.tgt.g = g ∧ a.tgt.ver = ver then
          El.subK u x o ft fun y => if ft.flat = true then out1 d (.c (.pure ft) y) else
            out1 d (.bor k g ver ft y (match org, e with | some off, true => some (off + o) | _, _ => none) true)
        else none
      | _ => none
    | none => none
  | none => none

def exIndexAddr (C : Ctx) (t : TypeId) (d : Nat) (a i : Opd) : Out :=
  rd (.int .i64) i fun idx =>
  match C.ty t with
  | some (.slice E) =>
    match a.a with
    | .c (.pure (.slice e)) xs => if e = E then some ([w1 d (.eptr e (xs.getD idx.toNat (dflt e)) 0)], [inRange idx xs.length]) else none
    | .c (.own _) _ => match a.slot, a.ent.a with
      | some j, .c (.own e) xs => if e.ty = E then some ([w1 d (.elp j a.ent.g a.ent.ver 0 e.ty idx.toNat 0 none)], [inRange idx xs.length]) else none
      | _, _ => none
    | .bor k g ver (.slice e) xs (some off) _ =>
      if a.tgt.g = g ∧ a.tgt.ver = ver ∧ e = E then some ([w1 d (.elp k g ver off e idx.toNat 0 none)], [inRange idx xs.length]) else none
    | _ => none
  | some (.arr n e) => ptrK a fun j g off en =>
    if en.g = g ∧ 2 ≤ n then some ([w1 d (.elp j g en.ver off e idx.toNat 0 (some n))], [inRange idx n]) else none
  | _ => none

def exIndex (C : Ctx) (t : TypeId) (d : Nat) (a i : Opd) : Out :=
  rd (.int .i64) i fun idx =>
  match C.ty t with
  | some (.arr n e) => if e.flat = true ∧ e.ag = false then rd (.arr n e) a fun xs => some ([w1 d (.c (.pure e) (xs.getD idx.toNat (dflt e)))], [inRange idx n]) else none
  | some .str => rd .str a fun xs => some ([w1 d (.c (.pure (.int .u8)) ((xs.getD idx.toNat 0).toNat : Int))], [inRange idx xs.length])
  | _ => none

def exExtract (d : Nat) (a : Opd) (i : Nat) : Out :=
  match a.a, a.slot with
  | .tup l, some j => match l[i]? with
    | some (some ⟨s, x⟩) => if s.free = true then out1 d (.c s x) else some ([w1 j (.tup (l.set i none)), w1 d (.c s x)], [])
    | _ => none
  | _, _ => none

def exUn (op : UnOp) (d : Nat) (t : Ty) (a : Opd) : Out :=
  match op, t with
  | .not, .bool => rd .bool a fun x => out1 d (.c (.pure .bool) (!x))
  | .neg, .int k => rd (.int k) a fun x => out1 d (.c (.pure (.int k)) (k.wrap (0 - x)))
  | _, _ => none

def exBin (C : Ctx) (op : BinOp) (t u : TypeId) (d : Nat) (a b : Opd) : Out :=
  match C.ty t with
  | some (.int k) =>
    match op with
    | .shl | .shr => match C.ty u with
      | some (.int k2) => rd (.int k) a fun x => rd (.int k2) b fun y =>
        match shiftInt op k x y with | some (r, cs) => some ([w1 d r], cs) | none => none
      | _ => none
    | _ => rd (.int k) a fun x => rd (.int k) b fun y => match binInt op k x y with | some (r, cs) => some ([w1 d r], cs) | none => none
  | some .str => rd .str a fun x => rd .str b fun y => match binStr op x y with | some (r, cs) => some ([w1 d r], cs) | none => none
  | some .bool => rd .bool a fun x => rd .bool b fun y =>
    match op with
    | .eql => out1 d (.c (.pure .bool) (x == y))
    | .neq => out1 d (.c (.pure .bool) (x != y))
    | _ => none
  | _ => none

def exConvert (C : Ctx) (t u : TypeId) (d : Nat) (a : Opd) : Out :=
  match C.ty t, C.ty u with
  | some (.int k), some (.int k2) => rd (.int k) a fun x => out1 d (.c (.pure (.int k2)) (k2.wrap x))
  | some .str, some (.slice (.int .u8)) => rd .str a fun x => some ([w1 d (.c (.own (.pure (.int .u8))) (bytesOf x))], [x.length ≤ maxNew])
  | some (.slice (.int .u8)), some .str => rd (.slice (.int .u8)) a fun x => out1 d (.c (.pure .str) (strOf x))
  | _, _ => none

def exMakeSlice (C : Ctx) (t : TypeId) (d : Nat) (l c : Opd) : Out :=
  match C.ty t with
  | some (.slice e) => rd (.int .i64) l fun n => rd (.int .i64) c fun m =>
    zeroK e fun s x => some ([w1 d (.c (.own s) (List.replicate n.toNat x))], [n = m, 0 ≤ n, n ≤ maxNew])
  | _ => none

def exBuild (C : Ctx) (t : TypeId) (d : Nat) (gd : Gd) (ρ : Env) (ps : List (Nat × Operand)) : Out :=
  match C.ty t with
  | some (.pair a b) =>
    match look C.flds t with
    | some l => if contB 0 l = true ∧ keysB l.length ps = true then
        buildK l 0 gd ρ ps fun s x ws => if s.ty = .pair a b then some (ws ++ [w1 d (.c s x)], []) else none
      else none
    | none => none
  | some (.arr n e) => if e.flat = true ∧ keysB n ps = true then arrK e gd ρ n 0 ps fun xs => out1 d (.c (.pure (.arr n e)) xs) else none
  | _ => none

def exBuildSlice (C : Ctx) (t : TypeId) (d n : Nat) (gd : Gd) (ρ : Env) (ps : List (Nat × Operand)) : Out :=
  match C.ty t with
  | some (.slice e) =>
    if ps.length = n ∧ n ≤ 4096 ∧ e.size ≤ 4096 ∧ (elemSh e gd ρ ps).ty = e ∧ (elemSh e gd ρ ps).noref = true then
      elemsK (elemSh e gd ρ ps) gd ρ ps 0 fun xs ws => some (ws ++ [w1 d (.c (.own (elemSh e gd ρ ps)) xs)], [])
    else none
  | _ => none

def exLen (C : Ctx) (t : TypeId) (d : Nat) (a : Opd) : Out :=
  match C.ty t with
  | some (.slice e) => rd (.slice e) a fun x => out1 d (.c (.pure (.int .i64)) (x.length : Int))
  | some .str => rd .str a fun x => out1 d (.c (.pure (.int .i64)) (x.length : Int))
  | _ => none

def exMinMax (mx : Bool) (d : Nat) (a b : Opd) : Out :=
  rd (.int .i64) a fun x => rd (.int .i64) b fun y => out1 d (.c (.pure (.int .i64)) (if mx = true then max x y else min x y))

def exCall (C : Ctx) (f d : Nat) (as : List Opd) : Out :=
  match C.fn f with
  | some F =>
    if F.res.all Sh.closed = true then argsK F.args as fun xs => some ([w1 d (resA F.res (F.run xs))], [F.pre xs])
    else none
  | none => none

end Fw
