/- All operations of a region, one behind the other or in whatever order. Conditions: none. -/
import Derived.Test.YtnbpojalpdldnaaFwO
namespace Fw
open Go

def isNilSl : Operand → Bool
  | .const (.slice none 0 0) => true
  | _ => false

def isBor : A → Bool
  | .bor _ _ _ _ _ _ _ => true
  | _ => false
def isElp : A → Bool
  | .elp _ _ _ _ _ _ _ _ => true
  | _ => false

def exAt (C : Ctx) (gd : Gd) (ρ : Env) (o : Oper) (d : Nat) : Out :=
  match o.op with
  | .move x => if isNilSl x = true then exNil C o.type d else exCopy C false d (opd ρ gd x)
  | .assign x => if isNilSl x = true then exNil C o.type d else if (C.res.contains d && isBor (opd ρ gd x).a) = true then exTake d (opd ρ gd x) else exCopy C true d (opd ρ gd x)
  | .pick c a b => exPick d (opd ρ gd c) (fun s g ver => (opd ρ (some (s, g, ver, true)) a, opd ρ (some (s, g, ver, false)) b))
  | .box t x => exBox C t d (opd ρ gd x)
  | .alloc t => exAlloc C t d
  | .load t x => exLoad C t d (opd ρ gd x)
  | .fieldAddr t x f => exFieldAddr C t d (opd ρ gd x) f
  | .binOp op t x y u => exBin C op t u d (opd ρ gd x) (opd ρ gd y)
  | .unOp op t x => match C.ty t with | some T => exUn op d T (opd ρ gd x) | none => none
  | .index t x i => exIndex C t d (opd ρ gd x) (opd ρ gd i)
  | .indexAddr t x i => exIndexAddr C t d (opd ρ gd x) (opd ρ gd i)
  | .build t ps => exBuild C t d gd ρ ps.toList
  | .buildSlice t len ps => exBuildSlice C t d len gd ρ ps.toList
  | .convert t u x => exConvert C t u d (opd ρ gd x)
  | .extract x i => exExtract d (opd ρ gd x) i
  | .makeSlice t x y => exMakeSlice C t d (opd ρ gd x) (opd ρ gd y)
  | .slice t x lo hi mx => if mx.isSome = true then none else exSlice C t d (opd ρ gd x) (lo.map (opd ρ gd)) (hi.map (opd ρ gd))
  | .call c =>
    match c.callee with
    | .value (.func f) => exCall C f d (c.args.toList.map (opd ρ gd))
    | .builtin .len => match c.args.toList, c.argTypes.toList with
      | [x], [t] => exLen C t d (opd ρ gd x)
      | _, _ => none
    | .builtin .append => match c.args.toList, c.argTypes.toList with
      | [x, y], [t, u] => if t = u then exAppend C t d gd ρ x y else none
      | _, _ => none
    | .builtin .min => match c.args.toList with
      | [x, y] => exMinMax false d (opd ρ gd x) (opd ρ gd y)
      | _ => none
    | .builtin .max => match c.args.toList with
      | [x, y] => exMinMax true d (opd ρ gd x) (opd ρ gd y)
      | _ => none
    | _ => none
  | _ => none

def ex (C : Ctx) (gd : Gd) (ρ : Env) (o : Oper) : Out :=
  match o.dst with
  | some d => if d < C.n then exAt C gd ρ o d else none
  | none =>
    match o.op with
    | .store t x v => if isElp (opd ρ gd x).a = true then exStoreEl C t (opd ρ gd x) (opd ρ gd v) else exStore C t (opd ρ gd x) (opd ρ gd v)
    | _ => none

section
variable {B : Nat} {X : List Nat} {w0 : World} {M0 M : Mem} {ω : Own} {ρ : Env} {a : Act} {w : World} {P : Program} {C : Ctx}

theorem exNil_ok (_ : CtxOk P C) {n : Nat} {tmps : Array Value} (S : St0 n B X w0 M0 M ω ρ tmps w) {t : TypeId} {d : Nat} (hd : d < n) {ws : List Wr} {cs : List Prop} (h : exNil C t d = some (ws, cs)) :
    ∃ M' ω', St0 n B X w0 M0 M' ω' (ρ.puts ws) (tmps.setIfInBounds d (.slice none 0 0)) w := by
  unfold exNil at h
  split at h
  · rename_i e hT
    simp only [out1, Option.some.injEq, Prod.mk.injEq] at h
    obtain ⟨rfl, rfl⟩ := h
    exact ⟨_, _, put_c S hd (s := .nil e) (cs := [.slice none 0 0]) rfl ⟨rfl, ⟨none, rfl, by simp⟩, rfl⟩ List.nodup_nil (by simp)⟩
  · cases h

theorem opds_rel {n : Nat} {tmps : Array Value} (S : St0 n B X w0 M0 M ω ρ tmps w) {gd : Gd} (hg : GuardOk ρ (vl tmps) gd) (df : List Deferred) : ∀ (l : List Operand),
    OpdsR n M ω w ρ (vl tmps) (l.map (opd ρ gd)) (l.map (Act.eval ⟨tmps, df⟩))
  | [] => trivial
  | x :: l => ⟨opd_rel S hg x df, opds_rel S hg df l⟩

/-- an operation that stands: what it yields, and the state behind it -/
def Goes (P : Program) (o : Oper) (a : Act) (w : World) (R : Act → World → Prop) : Prop :=
  match (execOp a.eval o).run P w with
  | .ok (.value v) w' => R (a.put o.dst v) w'
  | .ok .skip w' => R (a.put o.dst undef) w'
  | .ok (.enter f args) w' => Calls P f args w' fun e w'' => ∃ v, e = .returned v ∧ R (a.put o.dst v) w''
  | _ => False

theorem Goes.wp {o : Oper} {R : Act → World → Prop} {Q : Exit → Act → World → Prop} (h : Goes P o a w R) : o.wp P a w R Q := by
  unfold Goes at h
  unfold Oper.wp
  generalize (execOp a.eval o).run P w = r at h
  cases r with
  | halt x w' => cases h
  | ok nx w' =>
    cases nx <;> first | exact h | exact False.elim h | skip
    exact Calls.mono h fun e w'' ⟨v, he, hr⟩ => by subst he; exact hr

theorem goes_run {o : Oper} {R : Act → World → Prop} {v : Value} {w' : World} (hr : (execOp a.eval o).run P w = .ok (.value v) w') (h : R (a.put o.dst v) w') : Goes P o a w R := by
  unfold Goes
  rw [hr]; exact h
theorem goes_value {o : Oper} {R : Act → World → Prop} {s : Sem Value} {v : Value} {w' : World} (he : execOp a.eval o = (do pure (.value (← s)) : Sem Next)) (hr : s.run P w = .ok v w') (h : R (a.put o.dst v) w') : Goes P o a w R := by
  unfold Goes
  rw [he]
  simp only [Sem.run_bind, hr, Result.andThen_ok, Sem.run_pure]
  exact h

theorem run_callFunc {f : FuncId} {fn : Func} (h1 : P.funcs[f]? = some fn) (h2 : (fn.name == "runtime.NumGoroutine") = false) (h3 : fn.body.isNone = false) (args : Array Value) :
    (callFunc f args).run P w = .ok (.enter f args) w := by
  unfold callFunc
  simp only [Sem.run_bind, run_program, Result.andThen_ok, h1]
  rw [if_neg (by rw [h2]; simp), if_neg (by rw [h3]; simp)]
  rfl

theorem ex_ok (hC : CtxOk P C) (hF : ∀ f F, C.fn f = some F → Meets P f F) (S : St0 C.n B X w0 M0 M ω ρ a.tmps w) (hB : B ≤ w0.heap.size) {gd : Gd} (hg : GuardOk ρ (vl a.tmps) gd)
    {o : Oper} {ws : List Wr} {cs : List Prop} (h : ex C gd ρ o = some (ws, cs)) (hcs : ∀ p ∈ cs, p) :
    Goes P o a w fun a' w' => (∃ v, a' = a.put o.dst v) ∧ ∃ M' ω', St0 C.n B X w0 M0 M' ω' (ρ.puts ws) a'.tmps w' := by
  obtain ⟨tmps, df⟩ := a
  simp only at S hg
  unfold ex at h
  split at h
  · rename_i d hdst
    split at h
    · rename_i hd
      have hput : ∀ v, (Act.put ⟨tmps, df⟩ o.dst v) = ⟨tmps.setIfInBounds d v, df⟩ := fun v => by rw [hdst]; rfl
      have val : ∀ {s : Sem Value}, execOp (Act.eval ⟨tmps, df⟩) o = (do pure (.value (← s)) : Sem Next) → Res C.n B X w0 M0 ρ tmps d ws (s.run P w) →
          Goes P o ⟨tmps, df⟩ w fun a' w' => (∃ v, a' = Act.put ⟨tmps, df⟩ o.dst v) ∧ ∃ M' ω', St0 C.n B X w0 M0 M' ω' (ρ.puts ws) a'.tmps w' := by
        intro s he ⟨v', w', M', ω', hr, hS⟩
        exact goes_value he hr ⟨⟨v', rfl⟩, by rw [hput]; exact ⟨M', ω', hS⟩⟩
      have q := fun x => opd_rel S hg x df
      unfold exAt at h
      split at h
      · -- move
        rename_i x hop
        have he : execOp (Act.eval ⟨tmps, df⟩) o = (do pure (.value (← (pure (Act.eval ⟨tmps, df⟩ x) : Sem Value))) : Sem Next) := by unfold execOp; rw [hop]; rfl
        split at h
        · rename_i hnil
          obtain ⟨M', ω', hS⟩ := exNil_ok hC S hd h
          have hx : x = .const (.slice none 0 0) := by unfold isNilSl at hnil; split at hnil <;> first | rfl | cases hnil
          exact val he ⟨_, w, M', ω', rfl, by rw [hx]; exact hS⟩
        · obtain ⟨M', ω', hS⟩ := exCopy_ok S hd h (q x)
          exact val he ⟨_, w, M', ω', rfl, hS⟩
      · rename_i x hop
        have he : execOp (Act.eval ⟨tmps, df⟩) o = (do pure (.value (← (pure (Act.eval ⟨tmps, df⟩ x) : Sem Value))) : Sem Next) := by unfold execOp; rw [hop]; rfl
        split at h
        · rename_i hnil
          obtain ⟨M', ω', hS⟩ := exNil_ok hC S hd h
          have hx : x = .const (.slice none 0 0) := by unfold isNilSl at hnil; split at hnil <;> first | rfl | cases hnil
          exact val he ⟨_, w, M', ω', rfl, by rw [hx]; exact hS⟩
        · split at h
          · obtain ⟨M', ω', hS⟩ := exTake_ok S hd h (q x)
            exact val he ⟨_, w, M', ω', rfl, hS⟩
          · obtain ⟨M', ω', hS⟩ := exCopy_ok S hd h (q x)
            exact val he ⟨_, w, M', ω', rfl, hS⟩
      · rename_i c x y hop
        refine val (s := do pure (if ← asBool (Act.eval ⟨tmps, df⟩ c) then Act.eval ⟨tmps, df⟩ x else Act.eval ⟨tmps, df⟩ y)) ?_ (exPick_ok S hg hd h df)
        unfold execOp; rw [hop]; simp only [bind_assoc, pure_bind]
      · rename_i t x hop
        exact val (by unfold execOp; rw [hop]) (exBox_ok S hB hd h (q x))
      · rename_i t hop
        exact val (by unfold execOp; rw [hop]) (exAlloc_ok hC S hB hd h)
      · rename_i t x hop
        exact val (by unfold execOp; rw [hop]) (exLoad_ok hC S hd h (q x))
      · rename_i t x f hop
        exact val (by unfold execOp; rw [hop]) (exFieldAddr_ok hC S hd h (q x))
      · rename_i op t x y u hop
        exact val (by unfold execOp; rw [hop]) (exBin_ok hC S hd h hcs (q x) (q y) x y)
      · rename_i op t x hop
        split at h
        · exact val (by unfold execOp; rw [hop]) (exUn_ok S hd h (q x))
        · cases h
      · rename_i t x i hop
        exact val (by unfold execOp; rw [hop]) (exIndex_ok hC S hd h hcs (q x) (q i))
      · rename_i t x i hop
        exact val (by unfold execOp; rw [hop]) (exIndexAddr_ok hC S hd h hcs (q x) (q i))
      · rename_i t ps hop
        exact val (by unfold execOp; rw [hop]) (exBuild_ok hC S hg hd h df)
      · rename_i t len ps hop
        exact val (by unfold execOp; rw [hop]) (exBuildSlice_ok hC S hB hg hd h df)
      · rename_i t u x hop
        exact val (by unfold execOp; rw [hop]) (exConvert_ok hC S hB hd h hcs (q x))
      · rename_i x i hop
        exact val (by unfold execOp; rw [hop]) (exExtract_ok S hd h (q x))
      · rename_i t x y hop
        exact val (by unfold execOp; rw [hop]) (exMakeSlice_ok hC S hB hd h hcs (q x) (q y))
      · rename_i t x lo hi mx hop
        split at h
        · cases h
        · rename_i hmx
          have hmx' : mx = none := by cases mx with | none => rfl | some _ => simp at hmx
          subst hmx'
          exact val (by unfold execOp; rw [hop]; rfl) (exSlice_ok hC S hg hd h hcs df (q x))
      · rename_i c hop
        obtain ⟨callee, args, argTypes⟩ := c
        simp only at h
        split at h
        · rename_i f
          have hc := exCall_ok S hB hF hd h hcs (opds_rel S hg df args.toList) (fun h => exCallM_ok hC S hB hd h hcs (opds_rel S hg df args.toList))
          obtain ⟨fn, h1, h2, h3⟩ : ∃ fn, P.funcs[f]? = some fn ∧ (fn.name == "runtime.NumGoroutine") = false ∧ fn.body.isNone = false := by
            unfold exCall at h
            split at h
            · rename_i F hf; exact (hF f F hf).fn
            · unfold exCallM at h
              split at h
              · rename_i F _ _ hf _; exact (hC.fnM f F hf).fn
              · unfold exCallT at h
                split at h
                · rename_i F _ _ hf _; exact (hC.fnT f F hf).fn
                · cases h
              · cases h
          have hrun : (execOp (Act.eval ⟨tmps, df⟩) o).run P w = .ok (.enter f (args.map (Act.eval ⟨tmps, df⟩))) w := by
            unfold execOp; rw [hop]
            have hcf := run_callFunc (w := w) h1 h2 h3 (args.map (Act.eval ⟨tmps, df⟩))
            simp only [resolve, Act.eval, Deferred.ofValue, Sem.run_bind, Sem.run_pure, Result.andThen_ok, invoke, Array.empty_append, Array.append_empty]
            exact hcf
          unfold Goes
          rw [hrun]
          have e2 : (args.toList.map (Act.eval ⟨tmps, df⟩)).toArray = args.map (Act.eval ⟨tmps, df⟩) := by rw [← Array.toList_map]
          simp only
          rw [← e2]
          exact hc.mono fun e w' ⟨v, M', ω', he, hS⟩ => ⟨v, he, ⟨v, rfl⟩, by rw [hput]; exact ⟨M', ω', hS⟩⟩
        · rename_i hb
          split at h
          · rename_i x t ha ht
            have ha' : args = #[x] := by rw [← Array.toArray_toList (xs := args), ha]
            have ht' : argTypes = #[t] := by rw [← Array.toArray_toList (xs := argTypes), ht]
            subst ha'; subst ht'
            obtain ⟨v', w', M', ω', hr, hS⟩ := exLen_ok (P := P) hC S hd h (q x) o.type
            refine goes_run (v := v') (w' := w') ?_ ⟨⟨v', rfl⟩, by rw [hput]; exact ⟨M', ω', hS⟩⟩
            unfold execOp; rw [hop]; simp [resolve, invoke, builtin, hr]
          · cases h
        · split at h
          · rename_i x y t u ha ht
            have ha' : args = #[x, y] := by rw [← Array.toArray_toList (xs := args), ha]
            have ht' : argTypes = #[t, u] := by rw [← Array.toArray_toList (xs := argTypes), ht]
            subst ha'; subst ht'
            split at h
            · rename_i htu
              subst htu
              obtain ⟨v', w', M', ω', hr, hS⟩ := exAppend_ok (P := P) hC S hB hg hd h hcs df o.type
              refine goes_run (v := v') (w' := w') ?_ ⟨⟨v', rfl⟩, by rw [hput]; exact ⟨M', ω', hS⟩⟩
              unfold execOp; rw [hop]; simp [resolve, invoke, builtin, hr]
            · cases h
          · cases h
        · split at h
          · rename_i x y ha
            have ha' : args = #[x, y] := by rw [← Array.toArray_toList (xs := args), ha]
            subst ha'
            obtain ⟨v', w', M', ω', hr, hS⟩ := exMinMax_ok (P := P) S hd h (q x) (q y) argTypes o.type
            simp only [Bool.false_eq_true, if_false] at hr
            refine goes_run (v := v') (w' := w') ?_ ⟨⟨v', rfl⟩, by rw [hput]; exact ⟨M', ω', hS⟩⟩
            unfold execOp; rw [hop]; simp [resolve, invoke, builtin, hr]
          · cases h
        · split at h
          · rename_i x y ha
            have ha' : args = #[x, y] := by rw [← Array.toArray_toList (xs := args), ha]
            subst ha'
            obtain ⟨v', w', M', ω', hr, hS⟩ := exMinMax_ok (P := P) S hd h (q x) (q y) argTypes o.type
            simp only [if_true] at hr
            refine goes_run (v := v') (w' := w') ?_ ⟨⟨v', rfl⟩, by rw [hput]; exact ⟨M', ω', hS⟩⟩
            unfold execOp; rw [hop]; simp [resolve, invoke, builtin, hr]
          · cases h
        · cases h
      · cases h
    · cases h
  · rename_i hdst
    split at h
    · rename_i t x v hop
      have hst : ∃ w', (Instr.storeAt t (Act.eval ⟨tmps, df⟩ x) (Act.eval ⟨tmps, df⟩ v)).run P w = .ok () w' ∧ ∃ M' ω', St0 C.n B X w0 M0 M' ω' (ρ.puts ws) tmps w' := by
        split at h
        · exact exStoreEl_ok hC S h (opd_rel S hg x df) (opd_rel S hg v df)
        · exact exStore_ok hC S h (opd_rel S hg x df) (opd_rel S hg v df)
      obtain ⟨w', hr, M', ω', hS⟩ := hst
      have hrun : (execOp (Act.eval ⟨tmps, df⟩) o).run P w = .ok .skip w' := by
        unfold execOp; rw [hop]
        simp only [Sem.run_bind, hr, Result.andThen_ok, Sem.run_pure]
      unfold Goes
      rw [hrun]
      exact ⟨⟨undef, rfl⟩, by rw [hdst]; exact ⟨M', ω', hS⟩⟩
    · cases h

end
end Fw
