/- Each operation does what is computed of it: structs and arrays built of parts. Conditions: none. -/
import Derived.Test.YtnbpojalpdldnaaFwC
namespace Fw
open Go

section
variable {n B : Nat} {X : List Nat} {w0 : World} {M0 M : Mem} {ω : Own} {ρ : Env} {tmps : Array Value} {w : World} {P : Program} {C : Ctx}

theorem run_places : ∀ (fs : List Go.Field), (∀ f ∈ fs, ∃ T, TyR P f.type T) →
    ∃ r, (fs.mapM fun f => (do pure (f.offset, ← Go.sizeOf f.type) : Sem (Nat × Nat))).run P w = .ok r w ∧ ∀ (i : Nat) (f : Go.Field) (T : Ty), fs[i]? = some f → TyR P f.type T → r[i]? = some (f.offset, T.size)
  | [], _ => ⟨[], rfl, fun i f T h => by simp at h⟩
  | f :: fs, h => by
    obtain ⟨r, h1, h2⟩ := run_places fs (fun g hg => h g (by simp [hg]))
    obtain ⟨T, hT⟩ := h f (by simp)
    refine ⟨(f.offset, T.size) :: r, ?_, fun i g T' hi hT' => ?_⟩
    · rw [List.mapM_cons]
      simp only [Sem.run_bind, run_sizeOf hT, Sem.run_pure, Result.andThen_ok, h1]
    · cases i with
      | zero =>
        simp at hi; subst hi
        obtain ⟨i1, a1, a2, _⟩ := hT.info
        obtain ⟨i2, b1, b2, _⟩ := hT'.info
        rw [a1] at b1; cases b1
        simp [← a2, ← b2]
      | succ i => simpa using h2 i g T' (by simpa using hi) hT'
theorem run_places' (fs : Array Go.Field) (h : ∀ f ∈ fs.toList, ∃ T, TyR P f.type T) :
    ∃ r : Array (Nat × Nat), (fs.mapM fun f => (do pure (f.offset, ← Go.sizeOf f.type) : Sem (Nat × Nat))).run P w = .ok r w ∧ ∀ (i : Nat) (f : Go.Field) (T : Ty), fs[i]? = some f → TyR P f.type T → r[i]? = some (f.offset, T.size) := by
  obtain ⟨r, h1, h2⟩ := run_places (w := w) fs.toList h
  refine ⟨r.toArray, ?_, fun i f T hi hT => by simpa using h2 i f T (by simpa using hi) hT⟩
  rw [Array.mapM_eq_mapM_toList, map_eq_pure_bind]
  simp only [Sem.run_bind, h1, Sem.run_pure, Result.andThen_ok]

theorem optAll_all {α β : Type} {f : α → Option β} : ∀ {l : List α} {r : List β}, optAll f l = some r → ∀ a ∈ l, ∃ b, f a = some b
  | a :: l, r, h, x, hx => by
    simp only [optAll] at h
    split at h
    · rename_i b l' h1 h2
      rcases List.mem_cons.1 hx with rfl | hx
      · exact ⟨b, h1⟩
      · exact optAll_all h2 x hx
    · cases h

theorem contB_ge : ∀ (l : List (Nat × Ty)) (p : Nat), contB p l = true → ∀ (i o : Nat) (t : Ty), l[i]? = some (o, t) → p ≤ o ∧ o + t.size ≤ p + total l
  | [], p, _, i, o, t, h => by simp at h
  | (o', t') :: l, p, hc, i, o, t, h => by
    simp only [contB, Bool.and_eq_true, beq_iff_eq] at hc
    obtain ⟨rfl, hc⟩ := hc
    cases i with
    | zero => simp at h; obtain ⟨rfl, rfl⟩ := h; simp only [total]; omega
    | succ i =>
      have := contB_ge l _ hc i o t (by simpa using h)
      simp only [total]; omega
theorem contB_disj : ∀ (l : List (Nat × Ty)) (p : Nat), contB p l = true → ∀ (i j oi : Nat) (ti : Ty) (oj : Nat) (tj : Ty), l[i]? = some (oi, ti) → l[j]? = some (oj, tj) → i < j → oi + ti.size ≤ oj
  | [], p, _, i, j, oi, ti, oj, tj, h, _, _ => by simp at h
  | (o', t') :: l, p, hc, i, j, oi, ti, oj, tj, hi, hj, hlt => by
    simp only [contB, Bool.and_eq_true, beq_iff_eq] at hc
    obtain ⟨rfl, hc⟩ := hc
    cases j with
    | zero => omega
    | succ j =>
      cases i with
      | zero =>
        simp at hi; obtain ⟨rfl, rfl⟩ := hi
        exact (contB_ge l _ hc j oj tj (by simpa using hj)).1
      | succ i => exact contB_disj l _ hc i j oi ti oj tj (by simpa using hi) (by simpa using hj) (by omega)

theorem parts_look (ps : Array (Nat × Operand)) (df : List Deferred) (i : Nat) :
    look (ps.map fun (i, x) => (i, Act.eval ⟨tmps, df⟩ x)).toList i = (look ps.toList i).map (Act.eval ⟨tmps, df⟩) := by
  have : (ps.map fun (i, x) => (i, Act.eval ⟨tmps, df⟩ x)).toList = ps.toList.map fun q => (q.1, Act.eval ⟨tmps, df⟩ q.2) := by rw [Array.toList_map]
  rw [this, look_map]
theorem parts_keys (ps : Array (Nat × Operand)) (df : List Deferred) : ((ps.map fun (i, x) => (i, Act.eval ⟨tmps, df⟩ x)).toList.map Prod.fst) = ps.toList.map Prod.fst := by
  rw [Array.toList_map, List.map_map]; rfl
theorem look_nodup {α : Type} : ∀ {ps : List (Nat × α)}, (ps.map Prod.fst).Nodup → ∀ q ∈ ps, look ps q.1 = some q.2
  | (k, a) :: r, hn, q, hq => by
    simp only [List.map_cons, List.nodup_cons] at hn
    rcases List.mem_cons.1 hq with rfl | hq
    · simp [look]
    · have hne : k ≠ q.1 := fun e => hn.1 (e ▸ List.mem_map_of_mem hq)
      simp only [look, if_neg hne]
      exact look_nodup hn.2 q hq

theorem exBuild_ok (hC : CtxOk P C) (S : St0 n B X w0 M0 M ω ρ tmps w) {gd : Gd} (hg : GuardOk ρ (vl tmps) gd) {t : TypeId} {d : Nat} (hd : d < n) {ps : Array (Nat × Operand)} {ws : List Wr} {cs : List Prop}
    (h : exBuild C t d gd ρ ps.toList = some (ws, cs)) (df : List Deferred) :
    Res n B X w0 M0 ρ tmps d ws ((Instr.build t (ps.map fun (i, x) => (i, Act.eval ⟨tmps, df⟩ x))).run P w) := by
  unfold exBuild at h
  split at h
  · rename_i a b hT
    have hTy := hC.ty t _ hT
    split at h
    · rename_i l hl
      split at h
      · rename_i hc
        obtain ⟨hc1, hc2⟩ := hc
        obtain ⟨hk1, hk2⟩ := keysB_ok hc2
        obtain ⟨fs, hu, hfld⟩ := hC.flds t l hl
        obtain ⟨fs', m, l', hu', ho, hp⟩ := hTy.under
        rw [hu] at hu'; cases hu'
        obtain ⟨r, hr1, hr2⟩ := run_places' (P := P) (w := w) fs (fun f hf => by obtain ⟨T, hT⟩ := optAll_all ho f hf; exact ⟨T, _, hT⟩)
        have hplace : ∀ (i o : Nat) (T : Ty), l[i]? = some (o, T) → r[i]? = some (o, T.size) := by
          intro i o T hi
          obtain ⟨f, e1, e2, e3, _⟩ := hfld i o T hi
          rw [hr2 i f T e1 e3, e2]
        obtain ⟨s, x, ws', M', ω', bs, k1, k2, k3, k4, k5, k6, k7, k8, k9, k10, k11⟩ := build_ok df ps.toList l 0 0 gd ρ M ω _ _ S hg hc1 h
        split at k1
        · rename_i hs
          simp only [Option.some.injEq, Prod.mk.injEq] at k1
          obtain ⟨rfl, rfl⟩ := k1
          obtain ⟨inf, i1, i2, i3, z, i4, i5⟩ := hTy.info
          obtain ⟨zcs, z1, z2, z3⟩ := zOk_cells i5
          have hzl : zcs.length = total l := by
            have := zc_drop z2
            rw [← foldTy_size l k9, ← k8, hs]
            have h1 := congrArg List.length this.1
            simp at h1; omega
          have hzrun : (zeroValue t).run P w = .ok z w := by simp [zeroValue, typeInfo, i1, i4]
          obtain ⟨cells, f1, f2, f3⟩ := fill_ok (fun i => r[i]?) l.length (by
            intro i j oi si oj sj h1 h2 hi hj hne
            obtain ⟨⟨o1, t1⟩, g1⟩ : ∃ q, l[i]? = some q := ⟨l[i], List.getElem?_eq_getElem hi⟩
            obtain ⟨⟨o2, t2⟩, g2⟩ : ∃ q, l[j]? = some q := ⟨l[j], List.getElem?_eq_getElem hj⟩
            rw [hplace i o1 t1 g1] at h1
            rw [hplace j o2 t2 g2] at h2
            simp only [Option.some.injEq, Prod.mk.injEq] at h1 h2
            obtain ⟨rfl, rfl⟩ := h1
            obtain ⟨rfl, rfl⟩ := h2
            rcases Nat.lt_or_gt_of_ne hne with hlt | hlt
            · exact .inl (contB_disj l 0 hc1 i j _ _ _ _ g1 g2 hlt)
            · exact .inr (contB_disj l 0 hc1 j i _ _ _ _ g2 g1 hlt)) (ps.map fun (i, x) => (i, Act.eval ⟨tmps, df⟩ x)).toList z.cells (by
            intro q hq
            simp only [Array.toList_map, List.mem_map] at hq
            obtain ⟨p, hp', rfl⟩ := hq
            have hlt := hk2 p hp'
            obtain ⟨⟨o1, t1⟩, g1⟩ : ∃ q, l[p.1]? = some q := ⟨l[p.1], List.getElem?_eq_getElem hlt⟩
            have hsz := k10 p.1 o1 t1 p.2 g1 (by rw [Nat.zero_add]; exact look_nodup hk1 p hp')
            refine ⟨hlt, o1, by simp only [hsz]; exact hplace _ _ _ g1, ?_⟩
            have := contB_ge l 0 hc1 _ _ _ g1
            simp only [hsz]
            rw [← Array.length_toList, z3, hzl]; omega) (by rw [parts_keys]; exact hk1)
          have hcl : cells.toList.length = zcs.length := by
            rw [Array.length_toList, f2, ← Array.length_toList, z3]
          have he := k11 zcs cells.toList [] (by rw [List.drop_zero, ← k8, hs]; exact z2) hcl (fun j o T hj => by
            have hlt := (List.getElem?_eq_some_iff.1 hj).1
            rw [f3 j o T.size hlt (hplace j o T hj), parts_look, Nat.zero_add, z3]
            cases look ps.toList j <;> rfl)
          rw [List.drop_zero, ← hzl, ← hcl, List.take_length] at he
          refine ⟨.agg cells, w, M', settle n d ω', ?_, ?_⟩
          · simp only [Instr.build, Sem.run_bind, hzrun, Result.andThen_ok, run_underlying' hu]
            show (Sem.run P (fs.mapM fun f => (do pure (f.offset, ← Go.sizeOf f.type) : Sem (Nat × Nat))) w).andThen _ = _
            rw [hr1]
            simp only [Result.andThen_ok, f1, Sem.run_pure]
          · rw [Env.puts_append]
            refine put_c k2 hd (cs := cells.toList) ?_ he k6 (fun b hb => by obtain ⟨L, g1, g2⟩ := k7 b hb; exact ⟨L, by omega, g2⟩)
            rw [Sh.ag_ty s k5, hs]
            simp [ValC, Ty.ag]
        · cases k1
      · cases h
    · cases h
  · rename_i m e hT
    have hTy := hC.ty t _ hT
    obtain ⟨te, hu, hTe⟩ := hTy.under
    split at h
    · rename_i hc
      obtain ⟨he, hc2⟩ := hc
      obtain ⟨hk1, hk2⟩ := keysB_ok hc2
      obtain ⟨xs, k1, k2, k3⟩ := arr_ok S hg he df m 0 _ _ h
      simp only [out1, Option.some.injEq, Prod.mk.injEq] at k1
      obtain ⟨rfl, rfl⟩ := k1
      obtain ⟨inf, i1, i2, i3, z, i4, i5⟩ := hTy.info
      obtain ⟨zcs, z1, z2, z3⟩ := zOk_cells i5
      have hzrun : (zeroValue t).run P w = .ok z w := by simp [zeroValue, typeInfo, i1, i4]
      obtain ⟨v1, e1, e2⟩ := zc_enc M _ _ _ z2
      rw [List.append_nil] at e1
      subst e1
      have hzl : zcs.length = m * e.size := Enc.length _ _ _ e2
      obtain ⟨e3, e4⟩ := e2
      obtain ⟨cells, f1, f2, f3⟩ := fill_ok (fun i => some (i * e.size, e.size)) m (by
        intro i j oi si oj sj h1 h2 hi hj hne
        simp only [Option.some.injEq, Prod.mk.injEq] at h1 h2
        obtain ⟨rfl, rfl⟩ := h1
        obtain ⟨rfl, rfl⟩ := h2
        rcases Nat.lt_or_gt_of_ne hne with hl | hl
        · left
          have := Nat.mul_le_mul_right e.size (show i + 1 ≤ j from hl)
          rw [Nat.add_mul] at this; omega
        · right
          have := Nat.mul_le_mul_right e.size (show j + 1 ≤ i from hl)
          rw [Nat.add_mul] at this; omega) (ps.map fun (i, x) => (i, Act.eval ⟨tmps, df⟩ x)).toList z.cells (by
        intro q hq
        simp only [Array.toList_map, List.mem_map] at hq
        obtain ⟨p, hp', rfl⟩ := hq
        have hlt := hk2 p hp'
        have hx := k3 p.1 xs[p.1] (List.getElem?_eq_getElem (by omega))
        rw [Nat.zero_add, look_nodup hk1 p hp'] at hx
        refine ⟨hlt, p.1 * e.size, by simp only [hx.1], ?_⟩
        simp only [hx.1]
        rw [← Array.length_toList, z3, hzl]
        have := Nat.mul_le_mul_right e.size (show p.1 + 1 ≤ m from hlt)
        rw [Nat.add_mul] at this; omega) (by rw [parts_keys]; exact hk1)
      have hcl : cells.toList.length = m * e.size := by
        rw [Array.length_toList, f2, ← Array.length_toList, z3, hzl]
      refine ⟨.agg cells, w, M, _, ?_, put_pure S hd (t := .arr m e) (x := xs) (cs := cells.toList) ?_ ⟨k2, ?_⟩⟩
      · simp only [Instr.build, Sem.run_bind, hzrun, Result.andThen_ok, run_underlying' hu, run_sizeOf hTe, f1, Sem.run_pure]
      · simp [ValC, Ty.ag]
      · refine groups_of_segs xs _ (by rw [hcl, k2]) fun j x hj => ?_
        have hlt : j < m := by rw [← k2]; exact (List.getElem?_eq_some_iff.1 hj).1
        have hx := k3 j x hj
        rw [f3 j _ _ hlt rfl, parts_look]
        rw [Nat.zero_add] at hx
        cases hlk : look ps.toList j with
        | some q => rw [hlk] at hx; exact hx.2
        | none =>
          rw [hlk] at hx
          simp only [Option.map_none]
          rw [hx, z3]
          exact Groups.get _ _ j _ e4 (by simp [dflt, hlt])
    · cases h
  · cases h

end
end Fw
