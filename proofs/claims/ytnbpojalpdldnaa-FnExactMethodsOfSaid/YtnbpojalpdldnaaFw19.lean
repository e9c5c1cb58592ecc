/- A function's contract from what is shown of its body. Conditions: none. -/
import Derived.Test.YtnbpojalpdldnaaFw18
namespace Fw
open Go

def castS {a b : Sh} (h : a = b) (k : El b.ty → Prop) : El a.ty → Prop := Eq.rec (motive := fun c _ => (El c.ty → Prop) → (El a.ty → Prop)) (fun k => k) h k

/-- a row of none is a row of none of whatever its elements' memory is -/
def emptyK : (a b : Sh) → El a.ty → (El b.ty → Prop) → Prop
  | .own e, .own e', [], k => if e.ty = e'.ty ∧ e.noref = true ∧ e'.noref = true then k [] else False
  | _, _, _, _ => False
def conv (a b : Sh) (y : El a.ty) (k : El b.ty → Prop) : Prop := if h : upB a b = true then castK (upB_ty a b h) k y else emptyK a b y k
theorem emptyK_ok {M : Mem} {R : RowFn} (a b : Sh) (y : El a.ty) (k : El b.ty → Prop) (h : emptyK a b y k) : ∃ z, k z ∧ a.ag = b.ag ∧ ∀ cs bs, EncO M R a cs y bs → EncO M R b cs z bs := by
  unfold emptyK at h
  split at h
  · rename_i e e' k
    split at h
    · rename_i hc
      obtain ⟨c1, c2, c3⟩ := hc
      refine ⟨[], h, rfl, fun cs bs he => ?_⟩
      rcases he with ⟨h1, h2, _⟩ | ⟨b, cap, row, bss, h1, h2, h3, h4, h5, h6, h7⟩
      · exact .inl ⟨h1, h2, rfl⟩
      · exact .inr ⟨b, cap, row, bss, h1, h2, h3, h4, h5, by rw [h6, Sh.size_ty e c2, Sh.size_ty e' c3, c1], h7⟩
    · exact h.elim
  · exact h.elim

theorem conv_ok {M : Mem} {R : RowFn} (a b : Sh) (y : El a.ty) (k : El b.ty → Prop) (h : conv a b y k) : ∃ z, k z ∧ a.ag = b.ag ∧ ∀ cs bs, EncO M R a cs y bs → EncO M R b cs z bs := by
  unfold conv at h
  split at h
  · rename_i hu
    obtain ⟨z, h1, h2⟩ := castK_heq (upB_ty a b hu) k y
    rw [h1] at h
    exact ⟨z, h, upB_ag a b hu, fun cs bs he => upB_enc a b hu y z cs bs h2 he⟩
  · exact emptyK_ok a b y k h

/-- what a result variable holds -/
def resOf {R : Type} (C : Ctx) (ρ : Env) (r : ResultVar) (d : R) (k : (s : Sh) → El s.ty → R) : R :=
  match r with
  | .tmp t => match (ρ.get t).a with | .c s x => k s x | _ => d
  | .cell t u => match C.ty u with
    | some T => match (ρ.get t).a with | .c (.ref s) x => if s.ty = T ∧ s.noref = true then k s x else d | _ => d
    | none => d
def slotOf : ResultVar → Nat
  | .tmp t => t
  | .cell t _ => t
def DoneR (C : Ctx) : (ss : List Sh) → Vals (ss.map Sh.ty) → List ResultVar → Env → Prop
  | [], _, [], _ => True
  | s :: ss, x, r :: rs, ρ => resOf C ρ r False (fun s' y => conv s' s y (fun z => z = x.1)) ∧ DoneR C ss x.2 rs ρ
  | _, _, _, _ => False

def distinct : List Nat → Bool
  | [] => true
  | x :: r => !(memb x r) && distinct r

def doneK (F : Fun) (C : Ctx) (rs : List ResultVar) (xs : Vals F.args) : Exit → Env → Prop
  | .normal, ρ => DoneR C F.res (F.run xs) rs ρ
  | .ret, ρ => DoneR C F.res (F.run xs) rs ρ
  | _, _ => False

/-- the slots of the parameters -/
def argEnv : Nat → (ts : List Ty) → Vals ts → Env
  | _, [], _ => []
  | i, t :: ts, x => (i, ⟨0, 0, .c (.pure t) x.1⟩) :: argEnv (i + 1) ts x.2

def WfAll : (ts : List Ty) → Vals ts → Prop
  | [], _ => True
  | t :: ts, x => Wf t x.1 ∧ WfAll ts x.2

theorem argEnv_get (M : Mem) : ∀ (ts : List Ty) (xs : Vals ts) (vs : List Value) (i t : Nat), ArgsR M ts vs xs →
    (∃ (T : Ty) (x : El T) (v : Value) (cs : List Value), i ≤ t ∧ vs[t - i]? = some v ∧ (argEnv i ts xs).get t = ⟨0, 0, .c (.pure T) x⟩ ∧ ValC T.ag v cs ∧ Enc M T cs x) ∨
    ((t < i ∨ i + ts.length ≤ t) ∧ (argEnv i ts xs).get t = noEnt)
  | [], _, _, i, t, _ => .inr ⟨by simp; omega, rfl⟩
  | T :: ts, xs, [], i, t, h => h.elim
  | T :: ts, xs, v :: vs, i, t, ⟨⟨cs, h1, h2⟩, h3⟩ => by
    unfold argEnv
    simp only [Env.get]
    by_cases h : i = t
    · subst h
      exact .inl ⟨T, xs.1, v, cs, Nat.le_refl _, by simp, by simp, h1, h2⟩
    · rw [if_neg h]
      rcases argEnv_get M ts xs.2 vs (i + 1) t h3 with ⟨T', x', v', cs', k1, k2, k3, k4, k5⟩ | ⟨k1, k2⟩
      · exact .inl ⟨T', x', v', cs', by omega, by rw [show t - i = (t - (i + 1)) + 1 by omega]; simpa using k2, k3, k4, k5⟩
      · exact .inr ⟨by simp; omega, k2⟩

theorem argsR_wf {M : Mem} : ∀ (ts : List Ty) (vs : List Value) (xs : Vals ts), ArgsR M ts vs xs → WfAll ts xs
  | [], [], _, _ => trivial
  | [], _ :: _, _, h => h.elim
  | _ :: _, [], _, h => h.elim
  | t :: ts, _ :: vs, xs, ⟨⟨cs, _, h2⟩, h3⟩ => ⟨Enc.wf t cs xs.1 h2, argsR_wf ts vs xs.2 h3⟩
theorem argsR_len {M : Mem} : ∀ (ts : List Ty) (vs : List Value) (xs : Vals ts), ArgsR M ts vs xs → vs.length = ts.length
  | [], [], _, _ => rfl
  | [], _ :: _, _, h => h.elim
  | _ :: _, [], _, h => h.elim
  | t :: ts, v :: vs, xs, ⟨_, h3⟩ => by simp [argsR_len ts vs xs.2 h3]

theorem memb_of_mem {x : Nat} : ∀ {l : List Nat}, x ∈ l → memb x l = true
  | y :: r, h => by
    unfold memb
    split
    · rfl
    · rename_i hne
      rcases List.mem_cons.1 h with h | h
      · exact (hne h.symm).elim
      · exact memb_of_mem h

section
variable {n B : Nat} {X : List Nat} {w0 : World} {M0 M : Mem} {ω : Own} {ρ : Env} {tmps : Array Value} {w : World} {P : Program} {C : Ctx}

/-- one result variable -/
theorem resOf_ok (hC : CtxOk P C) (S : St0 n B X w0 M0 M ω ρ tmps w) {r : ResultVar} {Q : (s : Sh) → El s.ty → Prop} (h : resOf C ρ r False Q) :
    ∃ v s x cs bs, ((match r with | .tmp t => pure (tmps.getD t undef) | .cell a t => do loadVar t (← asAddr (tmps.getD a undef)) : Sem Value)).run P w = .ok v w ∧ Q s x ∧ ValC s.ag v cs ∧
      EncO M (rows w) s cs x bs ∧ bs.Nodup ∧ ∀ b ∈ bs, ω b = some (slotOf r) := by
  cases r with
  | tmp t =>
    simp only [resOf] at h
    split at h
    · rename_i s x ha
      have ht : t < n := by
        rcases Nat.lt_or_ge t n with h' | h'
        · exact h'
        · rw [S.high t h'] at ha; cases ha
      have hr := S.slots t ht
      rw [ha] at hr
      obtain ⟨cs, bs, h1, h2, h3, h4⟩ := hr
      exact ⟨_, s, x, cs, bs, rfl, h, h1, h2, h3, h4⟩
    · exact h.elim
  | cell t u =>
    simp only [resOf] at h
    split at h
    · rename_i T hT
      split at h
      · rename_i s x ha
        split at h
        · rename_i hc
          have ht : t < n := by
            rcases Nat.lt_or_ge t n with h' | h'
            · exact h'
            · rw [S.high t h'] at ha; cases ha
          obtain ⟨b, row, bss, k1, k2, k3, k4, k5⟩ := ref_ptr S ht ha
          have hl := EncO.length s row x bss k3
          have hsz : s.size = T.size := by rw [Sh.size_ty s hc.2, hc.1]
          have hv := mkVal_ok (ag := T.ag) (cs := row) (fun hg => by rw [hl, hsz]; exact Ty.size_sc T hg)
          rw [List.nodup_cons] at k4
          refine ⟨mkVal T.ag row, s, x, row, bss, ?_, h, by rw [Sh.ag_ty s hc.2, hc.1]; exact hv, k3, k4.2, fun i hi => k5 i (by simp [hi])⟩
          have k1' : tmps.getD t undef = .pointer (some ⟨b, 0, none⟩) := k1
          simp only [k1', asAddr, Sem.run_bind, Sem.run_pure, Result.andThen_ok]
          exact run_loadVar (hC.ty u T hT) (by rw [hl, hsz]) (rows_full k2) hv
        · exact h.elim
      · exact h.elim
    · exact h.elim

theorem run_mapM_res (hC : CtxOk P C) (S : St0 n B X w0 M0 M ω ρ tmps w) : ∀ (ss : List Sh) (xs : Vals (ss.map Sh.ty)) (rs : List ResultVar), DoneR C ss xs rs ρ → distinct (rs.map slotOf) = true →
    ∃ vs bs, (rs.mapM (fun r => (match r with | .tmp t => pure (tmps.getD t undef) | .cell a t => do loadVar t (← asAddr (tmps.getD a undef)) : Sem Value))).run P w = .ok vs w ∧
      TupR M (rows w) (resK ss xs) vs bs ∧ bs.Nodup ∧ (∀ b ∈ bs, ∃ r ∈ rs, ω b = some (slotOf r))
  | [], _, [], _, _ => ⟨[], [], rfl, rfl, List.nodup_nil, by simp⟩
  | [], _, _ :: _, h, _ => h.elim
  | _ :: _, _, [], h, _ => h.elim
  | s :: ss, xs, r :: rs, ⟨h1, h2⟩, hd => by
    obtain ⟨v, s', y, cs, bs, e1, e2, e3, e4, e5, e6⟩ := resOf_ok hC S h1
    obtain ⟨z, rfl, hag, hz⟩ := conv_ok (M := M) (R := rows w) s' s y _ e2
    simp only [List.map_cons, distinct, Bool.and_eq_true, Bool.not_eq_true'] at hd
    obtain ⟨vs, bs2, g1, g2, g3, g4⟩ := run_mapM_res hC S ss xs.2 rs h2 hd.2
    refine ⟨v :: vs, bs ++ bs2, ?_, ⟨cs, bs, bs2, by rw [← hag]; exact e3, hz cs bs e4, rfl, g2⟩, ?_, ?_⟩
    · rw [List.mapM_cons]
      simp only [Sem.run_bind, e1, Result.andThen_ok, g1, Sem.run_pure]
    · rw [List.nodup_append]
      refine ⟨e5, g3, fun a ha b hb hab => ?_⟩
      subst hab
      obtain ⟨r', hr', ho⟩ := g4 a hb
      have h1 := e6 a ha
      rw [h1] at ho
      simp only [Option.some.injEq] at ho
      have : memb (slotOf r) (rs.map slotOf) = true := memb_of_mem (List.mem_map.2 ⟨r', hr', ho.symm⟩)
      rw [this] at hd
      exact absurd hd.1 (by simp)
    · intro b hb
      rcases List.mem_append.1 hb with hb | hb
      · exact ⟨r, by simp, e6 b hb⟩
      · obtain ⟨r', h3, h4⟩ := g4 b hb
        exact ⟨r', by simp [h3], h4⟩
end

theorem tupR_len {M : Mem} {R : RowFn} : ∀ (ss : List Sh) (x : Vals (ss.map Sh.ty)) (vs : List Value) (bs : List Nat), TupR M R (resK ss x) vs bs → vs.length = ss.length
  | [], _, [], _, _ => rfl
  | [], _, _ :: _, _, h => h.elim
  | s :: ss, x, v :: vs, bs, ⟨_, _, b2, _, _, _, h4⟩ => by simp [tupR_len ss x.2 vs b2 h4]
  | _ :: _, _, [], _, h => h.elim
theorem resR_of_tup {M : Mem} {R : RowFn} (ss : List Sh) (x : Vals (ss.map Sh.ty)) (vs : List Value) (bs : List Nat) (h : TupR M R (resK ss x) vs bs) :
    ResR M R ss (if h : vs.toArray.size = 1 then vs.toArray[0] else .tuple vs.toArray) x bs := by
  have hl := tupR_len ss x vs bs h
  match ss, x, vs, h, hl with
  | [], x, [], h, _ => exact ⟨[], rfl, h⟩
  | [s], x, [v], ⟨cs, b1, b2, h1, h2, h3, h4⟩, _ =>
    have : b2 = [] := h4
    subst this
    rw [List.append_nil] at h3
    subst h3
    exact ⟨cs, h1, h2⟩
  | s :: s' :: ss, x, v :: v' :: vs, h, _ => exact ⟨v :: v' :: vs, by simp, h⟩

/-- THE CONTRACT -/
theorem meets_of_vc {P : Program} {C : Ctx} {f : Nat} {F : Fun} {fn : Func} {code : Code} (hC : CtxOk P C) (hF : ∀ f F, C.fn f = some F → Meets P f F)
    (h1 : P.funcs[f]? = some fn) (h2 : (fn.name == "runtime.NumGoroutine") = false) (hb : fn.body = some code) (hn : fn.ntmps = C.n) (ha : F.args.length ≤ C.n)
    (hd : distinct (fn.results.toList.map slotOf) = true)
    (h : ∀ xs : Vals F.args, WfAll F.args xs → F.pre xs → ∀ G : Cfg, G.Ok → G.P = P → G.C = C → Vc G code (argEnv 0 F.args xs) (doneK F C fn.results.toList xs)) : Meets P f F := by
  refine ⟨⟨fn, h1, h2, by rw [hb]; rfl⟩, fun w M vs xs hM hargs hpre => ?_⟩
  have hlen := argsR_len _ _ _ hargs
  refine calls_of_wp h1 hb ?_
  have hvc := h xs (argsR_wf _ _ _ hargs) hpre ⟨P, C, w.heap.size, [], w, M, vl (vs.toArray ++ Array.replicate (fn.ntmps - vs.toArray.size) undef)⟩ ⟨hC, hF, Nat.le_refl _⟩ rfl rfl
  have hsz : (vs.toArray ++ Array.replicate (fn.ntmps - vs.toArray.size) undef).size = C.n := by simp [hn, hlen]; omega
  have hget : ∀ t, (vs.toArray ++ Array.replicate (fn.ntmps - vs.toArray.size) undef).getD t undef = vs.getD t undef := by
    intro t
    rw [Array.getD_eq_getD_getElem?, List.getD_eq_getElem?_getD]
    rw [Array.getElem?_append]
    split
    · simp
    · rename_i hlt
      have hge : vs.length ≤ t := by simpa using hlt
      rw [List.getElem?_eq_none hge]
      rw [Array.getElem?_replicate]
      split <;> rfl
  have hS : Sim C.n w.heap.size [] w M (argEnv 0 F.args xs) (vs.toArray ++ Array.replicate (fn.ntmps - vs.toArray.size) undef) w := by
    refine ⟨M, fun _ => none, hsz, Fr.refl _ _ _, Mem.le_refl _, fun _ _ _ _ => rfl, hM, by simp, fun t ht => ?_, fun t ht => ?_⟩
    · rcases argEnv_get M F.args xs vs 0 t hargs with ⟨T, x, v, cs, k1, k2, k3, k4, k5⟩ | ⟨_, k2⟩
      · have := (List.getElem?_eq_some_iff.1 k2).1; omega
      · rw [k2]; rfl
    · rcases argEnv_get M F.args xs vs 0 t hargs with ⟨T, x, v, cs, k1, k2, k3, k4, k5⟩ | ⟨_, k2⟩
      · rw [k3, hget]
        have : vs.getD t undef = v := by rw [List.getD_eq_getElem?_getD]; simp at k2; rw [k2]; rfl
        rw [this]
        exact ⟨cs, [], k4, ⟨rfl, k5⟩, List.nodup_nil, by simp⟩
      · rw [k2]; exact trivial
  refine wp_mono (hvc _ w rfl ⟨hS, fun _ _ => rfl⟩) ?_
  rintro e a' w' ⟨ρ', hK, hd', ⟨M', ω', S⟩, _⟩
  have fin : DoneR C F.res (F.run xs) fn.results.toList ρ' → a'.defers = [] ∧ ∃ v, (results fn a'.tmps).run P w' = .ok v w' ∧
      (∃ v' M' bs, Ending.returned v = .returned v' ∧ Fr w.heap.size [] w w' ∧ After w M w' M' ∧ ResR M' (rows w') F.res v' (F.run xs) bs ∧ bs.Nodup ∧ ∀ b ∈ bs, w.heap.size ≤ b ∧ ∀ o, M' b o = none) := by
    intro hD
    obtain ⟨rvs, bs, g1, g2, g3, g4⟩ := run_mapM_res hC S F.res (F.run xs) fn.results.toList hD hd
    have hmap : (fn.results.mapM (fun r => (match r with | .tmp t => pure (a'.tmps.getD t undef) | .cell a t => do loadVar t (← asAddr (a'.tmps.getD a undef)) : Sem Value))).run P w' = .ok rvs.toArray w' := by
      rw [Array.mapM_eq_mapM_toList, Sem.run_map, g1]; rfl
    have hbs : ∀ b ∈ bs, w.heap.size ≤ b ∧ ∀ o, M' b o = none := fun b hb => by
      obtain ⟨r, _, ho⟩ := g4 b hb
      obtain ⟨k1, _, k3⟩ := S.dis b _ ho
      exact ⟨by simpa using k1, k3⟩
    have haf : After w M w' M' := ⟨S.m0, S.mem, fun b o hb => S.old b o hb (by simp)⟩
    have hrun : (results fn a'.tmps).run P w' = .ok (if h : rvs.toArray.size = 1 then rvs.toArray[0] else .tuple rvs.toArray) w' := by
      unfold results
      rw [Sem.run_bind]
      refine (congrArg (fun x => (Sem.run P x w').andThen _) (?_ : _ = fn.results.mapM (fun r => (match r with | .tmp t => pure (a'.tmps.getD t undef) | .cell a t => do loadVar t (← asAddr (a'.tmps.getD a undef)) : Sem Value)))).trans ?_
      · congr 1
      · rw [hmap]; rfl
    refine ⟨hd', _, hrun, _, M', bs, rfl, S.fr, haf, ?_, g3, hbs⟩
    exact resR_of_tup _ _ _ _ g2
  cases e with
  | normal => exact fin hK
  | ret => exact fin hK
  | _ => exact hK.elim

/-- the slots of a function that writes into what its first argument owns -/
def argEnvM (F : MFun) (x : El F.s.ty) (n : Int) : Env := [(0, ⟨0, 0, .c F.s x⟩), (1, ⟨0, 0, .c (.pure (.int .i64)) n⟩)]
def doneM (F : MFun) (C : Ctx) (r : ResultVar) (x : El F.s.ty) (n : Int) : Exit → Env → Prop
  | .normal, ρ => DoneR C [.pure (.int .i64), F.s] (F.run x n, F.out x n, ()) [r, .tmp 0] ρ
  | .ret, ρ => DoneR C [.pure (.int .i64), F.s] (F.run x n, F.out x n, ()) [r, .tmp 0] ρ
  | _, _ => False

/-- THE CONTRACT of such a function -/
theorem meetsM_of_vc {P : Program} {C : Ctx} {f : Nat} {F : MFun} {fn : Func} {code : Code} {r : ResultVar} (hC : CtxOk P C) (hF : ∀ f F, C.fn f = some F → Meets P f F)
    (h1 : P.funcs[f]? = some fn) (h2 : (fn.name == "runtime.NumGoroutine") = false) (hb : fn.body = some code) (hn : fn.ntmps = C.n) (ha : 2 ≤ C.n)
    (hr : fn.results = #[r]) (hpin : C.pins = [0]) (hcl : F.s.closed = true) (hnr : F.s.noref = true)
    (h : ∀ (x : El F.s.ty) (n : Int), Wf F.s.ty x → inR .i64 n → F.pre x n → ∀ G : Cfg, G.Ok → G.P = P → G.C = C → Vc G code (argEnvM F x n) (doneM F C r x n)) : MeetsM P f F := by
  refine ⟨⟨fn, h1, h2, by rw [hb]; rfl⟩, hcl, hnr, fun w v cs x bs n hni hv he hnd hpre => ?_⟩
  refine calls_of_wp h1 hb ?_
  have hvc := h x n (EncO.wf _ _ _ _ hnr he) hni hpre ⟨P, C, w.heap.size, bs, w, emp, vl (#[v, .int .i64 n] ++ Array.replicate (fn.ntmps - #[v, Value.int .i64 n].size) undef)⟩ ⟨hC, hF, Nat.le_refl _⟩ rfl rfl
  have hsz : (#[v, Value.int .i64 n] ++ Array.replicate (fn.ntmps - #[v, Value.int .i64 n].size) undef).size = C.n := by simp [hn]; omega
  have h0 : (#[v, Value.int .i64 n] ++ Array.replicate (fn.ntmps - #[v, Value.int .i64 n].size) undef).getD 0 undef = v := by
    rw [Array.getD_eq_getD_getElem?, Array.getElem?_append]; simp
  have h1' : (#[v, Value.int .i64 n] ++ Array.replicate (fn.ntmps - #[v, Value.int .i64 n].size) undef).getD 1 undef = .int .i64 n := by
    rw [Array.getD_eq_getD_getElem?, Array.getElem?_append]; simp
  have hS : Sim C.n w.heap.size bs w emp (argEnvM F x n) (#[v, Value.int .i64 n] ++ Array.replicate (fn.ntmps - #[v, Value.int .i64 n].size) undef) w := by
    refine ⟨emp, fun b => if b ∈ bs then some 0 else none, hsz, Fr.refl _ _ _, Mem.le_refl _, fun _ _ _ _ => rfl, fun b o v h => (by cases h), fun b k hb => ?_, fun t ht => ?_, fun t ht => ?_⟩
    · have hb : b ∈ bs := by
        by_cases hm : b ∈ bs
        · exact hm
        · simp [hm] at hb
      obtain ⟨row, hrow⟩ := EncO.rows _ _ _ _ he b hb
      exact ⟨.inr hb, rows_lt hrow, fun _ => rfl⟩
    · match t, ht with
      | 0, ht => omega
      | 1, ht => omega
      | t + 2, _ => rfl
    · match t, ht with
      | 0, ht => rw [h0]; exact ⟨cs, bs, hv, he, hnd, fun b hb => by simp [hb]⟩
      | 1, ht => rw [h1']; exact ⟨[.int .i64 n], [], rfl, ⟨rfl, rfl, hni⟩, List.nodup_nil, by simp⟩
      | t + 2, _ => exact trivial
  refine wp_mono (hvc _ w rfl ⟨hS, fun _ _ => rfl⟩) ?_
  rintro e a' w' ⟨ρ', hK, hd', ⟨M', ω', S⟩, hpn⟩
  have fin : DoneR C [.pure (.int .i64), F.s] (F.run x n, F.out x n, ()) [r, .tmp 0] ρ' → a'.defers = [] ∧ ∃ v, (results fn a'.tmps).run P w' = .ok v w' ∧
      (∃ bs', Ending.returned v = .returned (.int .i64 (F.run x n)) ∧ inR .i64 (F.run x n) ∧ Fr w.heap.size bs w w' ∧ EncO emp (rows w') F.s cs (F.out x n) bs' ∧ bs'.Nodup ∧ ∀ b ∈ bs', b ∈ bs ∨ w.heap.size ≤ b) := by
    rintro ⟨hD1, hD2, _⟩
    obtain ⟨u, s', y, cs1, bs1, e1, e2, e3, e4, _, _⟩ := resOf_ok hC S hD1
    obtain ⟨z, rfl, hag, hz⟩ := conv_ok (M := M') (R := rows w') s' _ y _ e2
    obtain ⟨_, hz1, hz2⟩ := hz cs1 bs1 e4
    have hz1 : cs1 = [.int .i64 (F.run x n)] := hz1
    have hu : u = .int .i64 (F.run x n) := by
      rw [hag, hz1] at e3
      have : [Value.int .i64 (F.run x n)] = [u] := e3
      simpa using this.symm
    subst hu
    obtain ⟨u2, s2, y2, cs2, bs2, g1, g2, g3, g4, g5, g6⟩ := resOf_ok hC S hD2
    obtain ⟨z2, rfl, hag2, hzz⟩ := conv_ok (M := M') (R := rows w') s2 _ y2 _ g2
    have hu2 : u2 = v := by
      have : a'.tmps.getD 0 undef = u2 := by
        have := g1
        simp only [Sem.run_pure, Result.ok.injEq, and_true] at this
        exact this
      rw [← this]
      have := hpn 0 (by show 0 ∈ C.pins; rw [hpin]; simp)
      rw [← h0]; exact this
    subst hu2
    rw [hag2] at g3
    have := ValC.fun_ hv g3
    subst this
    have hrun : (results fn a'.tmps).run P w' = .ok (.int .i64 (F.run x n)) w' := by
      unfold results
      rw [hr, Sem.run_bind]
      have hm : (#[r].mapM (fun r => (match r with | .tmp t => pure (a'.tmps.getD t undef) | .cell a t => do loadVar t (← asAddr (a'.tmps.getD a undef)) : Sem Value))).run P w' = .ok #[.int .i64 (F.run x n)] w' := by
        rw [Array.mapM_eq_mapM_toList, Sem.run_map]
        simp only [List.mapM_cons, List.mapM_nil, Sem.run_bind, e1, Result.andThen_ok, Sem.run_pure]
      refine (congrArg (fun q => (Sem.run P q w').andThen _) (?_ : _ = #[r].mapM (fun r => (match r with | .tmp t => pure (a'.tmps.getD t undef) | .cell a t => do loadVar t (← asAddr (a'.tmps.getD a undef)) : Sem Value)))).trans ?_
      · congr 1
      · rw [hm]; rfl
    exact ⟨hd', _, hrun, bs2, rfl, hz2, S.fr, EncO.closed _ _ _ _ hcl (hzz _ bs2 g4), g5, fun b hb => ((S.dis b _ (g6 b hb)).1).symm⟩
  cases e with
  | normal => exact fin hK
  | ret => exact fin hK
  | _ => exact hK.elim

/-- the slots of a function that takes over what its first argument owns -/
def argEnvT (F : TFun) (x : El F.s.ty) (xs : Vals F.args) : Env := (0, ⟨0, 0, .c F.s x⟩) :: argEnv 1 F.args xs
def doneT (F : TFun) (C : Ctx) (r : ResultVar) (x : El F.s.ty) (xs : Vals F.args) : Exit → Env → Prop
  | .normal, ρ => DoneR C [F.res] (F.run x xs, ()) [r] ρ
  | .ret, ρ => DoneR C [F.res] (F.run x xs, ()) [r] ρ
  | _, _ => False
/-- THE CONTRACT of such a function -/
theorem meetsT_of_vc {P : Program} {C : Ctx} {f : Nat} {F : TFun} {fn : Func} {code : Code} {r : ResultVar} (hC : CtxOk P C) (hF : ∀ f F, C.fn f = some F → Meets P f F)
    (h1 : P.funcs[f]? = some fn) (h2 : (fn.name == "runtime.NumGoroutine") = false) (hb : fn.body = some code) (hn : fn.ntmps = C.n) (ha : F.args.length + 1 ≤ C.n)
    (hr : fn.results = #[r]) (hcl : F.s.closed = true) (hnr : F.s.noref = true) (hrc : F.res.closed = true)
    (h : ∀ (x : El F.s.ty) (xs : Vals F.args), Wf F.s.ty x → WfAll F.args xs → F.pre x xs → ∀ G : Cfg, G.Ok → G.P = P → G.C = C → Vc G code (argEnvT F x xs) (doneT F C r x xs)) (hp : C.pins = []) : MeetsT P f F := by
  refine ⟨⟨fn, h1, h2, by rw [hb]; rfl⟩, hcl, hnr, hrc, fun w M v cs x bs vs xs hM hMb hv he hnd hargs hpre => ?_⟩
  refine calls_of_wp h1 hb ?_
  have hlen := argsR_len _ _ _ hargs
  have hvc := h x xs (EncO.wf _ _ _ _ hnr he) (argsR_wf _ _ _ hargs) hpre ⟨P, C, w.heap.size, bs, w, M, fun _ => undef⟩ ⟨hC, hF, Nat.le_refl _⟩ rfl rfl
  have hsz : ((v :: vs).toArray ++ Array.replicate (fn.ntmps - (v :: vs).toArray.size) undef).size = C.n := by simp [hn, hlen]; omega
  have hget : ∀ t, ((v :: vs).toArray ++ Array.replicate (fn.ntmps - (v :: vs).toArray.size) undef).getD t undef = (v :: vs).getD t undef := by
    intro t
    rw [Array.getD_eq_getD_getElem?, List.getD_eq_getElem?_getD]
    rw [Array.getElem?_append]
    split
    · simp
    · rename_i hlt
      have hge : (v :: vs).length ≤ t := by simpa using hlt
      rw [List.getElem?_eq_none hge]
      rw [Array.getElem?_replicate]
      split <;> rfl
  have hS : Sim C.n w.heap.size bs w M (argEnvT F x xs) ((v :: vs).toArray ++ Array.replicate (fn.ntmps - (v :: vs).toArray.size) undef) w := by
    refine ⟨M, fun b => if b ∈ bs then some 0 else none, hsz, Fr.refl _ _ _, Mem.le_refl _, fun _ _ _ _ => rfl, hM, fun b k hb => ?_, fun t ht => ?_, fun t ht => ?_⟩
    · have hb : b ∈ bs := by
        by_cases hm : b ∈ bs
        · exact hm
        · simp [hm] at hb
      obtain ⟨row, hrow⟩ := EncO.rows _ _ _ _ he b hb
      exact ⟨.inr hb, rows_lt hrow, hMb b hb⟩
    · have ht0 : t ≠ 0 := by omega
      show (if 0 = t then _ else Env.get (argEnv 1 F.args xs) t).a = _
      rw [if_neg (Ne.symm ht0)]
      rcases argEnv_get M F.args xs vs 1 t hargs with ⟨T, x', v', cs', k1, k2, k3, k4, k5⟩ | ⟨_, k2⟩
      · have := (List.getElem?_eq_some_iff.1 k2).1; omega
      · rw [k2]; rfl
    · by_cases h0 : t = 0
      · subst h0
        rw [hget]
        exact ⟨cs, bs, hv, EncO.closed _ _ _ _ hcl he, hnd, fun b hb => by simp [hb]⟩
      · have hge : (argEnvT F x xs).get t = (argEnv 1 F.args xs).get t := by
          show (if 0 = t then _ else Env.get (argEnv 1 F.args xs) t) = _
          rw [if_neg (Ne.symm h0)]
        rw [hge]
        rcases argEnv_get M F.args xs vs 1 t hargs with ⟨T, x', v', cs', k1, k2, k3, k4, k5⟩ | ⟨_, k2⟩
        · rw [k3, hget]
          have : (v :: vs).getD t undef = v' := by
            rw [List.getD_eq_getElem?_getD]
            have : (v :: vs)[t]? = vs[t - 1]? := by
              cases t with
              | zero => exact (h0 rfl).elim
              | succ t => simp
            rw [this, k2]; rfl
          rw [this]
          exact ⟨cs', [], k4, ⟨rfl, k5⟩, List.nodup_nil, by simp⟩
        · rw [k2]; exact trivial
  refine wp_mono (hvc _ w rfl ⟨hS, fun t ht => by
    have ht : t ∈ C.pins := ht
    rw [hp] at ht; simp at ht⟩) ?_
  rintro e a' w' ⟨ρ', hK, hd', ⟨M', ω', S⟩, _⟩
  have fin : DoneR C [F.res] (F.run x xs, ()) [r] ρ' → a'.defers = [] ∧ ∃ v, (results fn a'.tmps).run P w' = .ok v w' ∧
      (∃ r cs' bs', Ending.returned v = .returned r ∧ Fr w.heap.size bs w w' ∧ ValC F.res.ag r cs' ∧ EncO emp (rows w') F.res cs' (F.run x xs) bs' ∧ bs'.Nodup ∧ ∀ b ∈ bs', b ∈ bs ∨ w.heap.size ≤ b) := by
    rintro ⟨hD1, _⟩
    obtain ⟨u, s', y, cs1, bs1, e1, e2, e3, e4, e5, e6⟩ := resOf_ok hC S hD1
    obtain ⟨z, rfl, hag, hz⟩ := conv_ok (M := M') (R := rows w') s' _ y _ e2
    have hrun : (results fn a'.tmps).run P w' = .ok u w' := by
      unfold results
      rw [hr, Sem.run_bind]
      have hm : (#[r].mapM (fun r => (match r with | .tmp t => pure (a'.tmps.getD t undef) | .cell a t => do loadVar t (← asAddr (a'.tmps.getD a undef)) : Sem Value))).run P w' = .ok #[u] w' := by
        rw [Array.mapM_eq_mapM_toList, Sem.run_map]
        simp only [List.mapM_cons, List.mapM_nil, Sem.run_bind, e1, Result.andThen_ok, Sem.run_pure]
      refine (congrArg (fun q => (Sem.run P q w').andThen _) (?_ : _ = #[r].mapM (fun r => (match r with | .tmp t => pure (a'.tmps.getD t undef) | .cell a t => do loadVar t (← asAddr (a'.tmps.getD a undef)) : Sem Value)))).trans ?_
      · congr 1
      · rw [hm]; rfl
    exact ⟨hd', _, hrun, u, cs1, bs1, rfl, S.fr, by rw [← hag]; exact e3, EncO.closed _ _ _ _ hrc (hz cs1 bs1 e4), e5, fun b hb => ((S.dis b _ (e6 b hb)).1).symm⟩
  cases e with
  | normal => exact fin hK
  | ret => exact fin hK
  | _ => exact hK.elim

end Fw
