/- Walks of functions of the program: what each computes. Conditions: those that each contract names. -/
import Derived.Test.YtoccddagjnebbaaGreatW15T
import Derived.Test.YtoccddagjnebbaaGreatW15m1
namespace Fw
open Go Go.Proofs
set_option linter.unusedSimpArgs false
set_option maxRecDepth 100000
noncomputable def F37 : Fun := ⟨[.pair (.int .i64) Y48, .pair (.int .i64) Y48], [.pure (.bool)], fun _ => True, fun x => (eqC x.1 x.2.1, ())⟩
theorem F37_ok : Meets Tryz.prog 37 F37 := by
 refine meets_of_vc (C := mkC 40 [4] [0,1,2,3,4,9,15,21,27,33,39] [⟨94, _, F94_ok⟩, ⟨114, _, F114_ok⟩, ⟨101, _, F101_ok⟩, ⟨22, _, F22_ok⟩]) (mkC_ok _ _ _ _) (fnOf_ok _) Tryz.func37 rfl rfl rfl (by decide) rfl ?_
 rintro ⟨a0, a1, _⟩ hwf hpre ⟨P, C, B, X, w0, M0, pv⟩ hG rfl rfl
 show Vc _ _ [(0, ⟨0, 0, .c Z54 a0⟩), (1, ⟨0, 0, .c Z54 a1⟩)] _
 refine Vc.seq (Vc.region hG rfl (by trivial) (Vc.seq (Vc.seq ?_)))
 refine Vc.region hG rfl (by trivial) ?_
 refine Vc.cond rfl (fun h0 => ?_) (fun h0 => ?_)
 · refine Vc.seq (Vc.region hG rfl (by trivial) (Vc.ret ?_))
   refine ⟨?_, trivial⟩
   exact eqC_no (fun e => absurd (show (a0.1 != a1.1) = true from h0) (by have e : a0 = a1 := e; rw [e]; simp))
 · have g0 : a0.1 = a1.1 := bneI h0
   refine Vc.skip (Vc.seq (Vc.seq (Vc.region hG rfl (by trivial) ?_)))
   refine Vc.cond rfl (fun h1 => ?_) (fun h1 => ?_)
   · refine Vc.seq (Vc.region hG rfl (by trivial) (Vc.ret ?_))
     refine ⟨?_, trivial⟩
     exact eqC_no (fun e => absurd (show (!(eqC a0.2.1 a1.2.1)) = true from h1) (by have e : a0 = a1 := e; rw [e, eqC_self]; decide))
   · have g1 : a0.2.1 = a1.2.1 := notC h1
     refine Vc.skip (Vc.seq (Vc.seq (Vc.region hG rfl (by trivial) ?_)))
     refine Vc.cond rfl (fun h2 => ?_) (fun h2 => ?_)
     · refine Vc.seq (Vc.region hG rfl (by trivial) (Vc.ret ?_))
       refine ⟨?_, trivial⟩
       exact eqC_no (fun e => absurd (show (!(eqC a0.2.2.1 a1.2.2.1)) = true from h2) (by have e : a0 = a1 := e; rw [e, eqC_self]; decide))
     · have g2 : a0.2.2.1 = a1.2.2.1 := notC h2
       refine Vc.skip (Vc.seq (Vc.seq (Vc.region hG rfl (by trivial) ?_)))
       refine Vc.cond rfl (fun h3 => ?_) (fun h3 => ?_)
       · refine Vc.seq (Vc.region hG rfl (by trivial) (Vc.ret ?_))
         refine ⟨?_, trivial⟩
         exact eqC_no (fun e => absurd (show (!(eqC a0.2.2.2.1 a1.2.2.2.1)) = true from h3) (by have e : a0 = a1 := e; rw [e, eqC_self]; decide))
       · have g3 : a0.2.2.2.1 = a1.2.2.2.1 := notC h3
         refine Vc.skip (Vc.seq (Vc.seq (Vc.region hG rfl (by trivial) ?_)))
         refine Vc.cond rfl (fun h4 => ?_) (fun h4 => ?_)
         · refine Vc.seq (Vc.region hG rfl (by trivial) (Vc.ret ?_))
           refine ⟨?_, trivial⟩
           exact eqC_no (fun e => absurd (show (!(eqC a0.2.2.2.2.1 a1.2.2.2.2.1)) = true from h4) (by have e : a0 = a1 := e; rw [e, eqC_self]; decide))
         · have g4 : a0.2.2.2.2.1 = a1.2.2.2.2.1 := notC h4
           refine Vc.skip (Vc.seq (Vc.seq (Vc.region hG rfl (by trivial) ?_)))
           refine Vc.cond rfl (fun h5 => ?_) (fun h5 => ?_)
           · refine Vc.seq (Vc.region hG rfl (by trivial) (Vc.ret ?_))
             refine ⟨?_, trivial⟩
             exact eqC_no (fun e => absurd (show (!(eqC a0.2.2.2.2.2 a1.2.2.2.2.2)) = true from h5) (by have e : a0 = a1 := e; rw [e, eqC_self]; decide))
           · have g5 : a0.2.2.2.2.2 = a1.2.2.2.2.2 := notC h5
             refine Vc.skip (Vc.seq (Vc.region hG rfl (by trivial) (Vc.ret ?_)))
             refine ⟨?_, trivial⟩
             exact eqC_yes (Prod.ext g0 (Prod.ext g1 (Prod.ext g2 (Prod.ext g3 (Prod.ext g4 g5)))))
end Fw
