/- Walks of functions of the program: what each computes. Conditions: those that each contract names. -/
import Derived.Test.YtcfpjofohnaolaaGreatW41T
import Derived.Test.YtcfpjofohnaolaaGreatW41s0
import Derived.Test.YtcfpjofohnaolaaGreatW41s12
import Derived.Test.YtcfpjofohnaolaaGreatW41s13
namespace Fw
open Go Go.Proofs
set_option linter.unusedSimpArgs false
set_option maxRecDepth 100000
noncomputable def F12 : Fun := ⟨[.slice (.int .u8)], [.pair (.pure (.int .i64)) Z70, .pure (.int .i64)], fun _ => True, fun x => ((checkD x.1).1, (checkD x.1).2, ())⟩
theorem F12_ok : Meets Tryz.prog 12 F12 := by
 refine meets_of_vc (C := mkCP 58 [2, 3, 4] [0,2,3,4,5,6,7,8,9,29,30,36,40,45] [⟨22, _, F22_ok⟩, ⟨23, _, F23_ok⟩, ⟨37, _, F37_ok⟩] [] [] [⟨38, _, P38_ok⟩] []) (mkCP_ok _ _ _ _ _ _ _ _) (fnOf_ok _) Tryz.func12 rfl rfl rfl (by decide) rfl ?_
 rintro ⟨a0, _⟩ hwf hpre ⟨P, C, B, X, w0, M0, pv⟩ hG rfl rfl
 show Vc _ _ [(0, ⟨0, 0, .c Z1 a0⟩)] _
 have hb : List.length a0 ≤ bigLen := hwf.1.1
 refine Vc.seq (Vc.region hG rfl (by trivial) (Vc.seq (Vc.region hG rfl (by trivial) ?_)))
 refine Vc.seq (Vc.regionT hG rfl (by trivial) (Vc.seq ?_))
 refine Vc.region hG rfl ?_ ?_
 · exact ⟨(mp_sm hb).1, (mp_sm hb).2.2⟩
 refine Vc.seq (Vc.seq ?_)
 refine Vc.region hG rfl ?_ ?_
 · exact newCur_ok hb
 refine Vc.block (Vc.seq (Vc.region hG rfl (by trivial) ?_))
 refine Vc.cond rfl (fun h0 => ?_) (fun h0 => ?_)
 · refine Vc.region hG rfl (by trivial) (Vc.seq (Vc.region hG rfl (by trivial) (Vc.ret ?_)))
   have e : checkD a0 = _ := (cT h0)
   refine ⟨?_, ?_, trivial⟩
   · exact (congrArg (fun r => r.1) e).symm
   · exact (congrArg (fun r => r.2) e).symm
 · refine Vc.seq (Vc.region hG rfl (by trivial) ?_)
   refine Vc.cond rfl (fun h1 => ?_) (fun h1 => ?_)
   · refine Vc.region hG rfl (by trivial) (Vc.seq (Vc.region hG rfl (by trivial) (Vc.ret ?_)))
     have e : checkD a0 = _ := ((cF h0).trans (cT h1))
     refine ⟨?_, ?_, trivial⟩
     · exact (congrArg (fun r => r.1) e).symm
     · exact (congrArg (fun r => r.2) e).symm
   · refine Vc.seq (Vc.region hG rfl (by trivial) ?_)
     refine Vc.cond rfl (fun h2 => ?_) (fun h2 => ?_)
     · refine Vc.seq (Vc.region hG rfl (by trivial) ?_)
       refine Vc.cond rfl (fun h3 => ?_) (fun h3 => ?_)
       · refine Vc.regionD mixed hG rfl (by kernel_rfl) ?_ ?_
         · have hr : inRange 0 (List.length (cpP a0).2.2.1) := ⟨Int.le_refl 0, of_decide_eq_true h3⟩
           exact ⟨hr, hr⟩
         refine Vc.seq (Vc.region hG rfl (by trivial) (Vc.ret ?_))
         have e : checkD a0 = _ := ((cF h0).trans ((cF h1).trans ((cT h2).trans (cT h3))))
         refine ⟨?_, ?_, trivial⟩
         · exact (congrArg (fun r => r.1) e).symm
         · exact (congrArg (fun r => r.2) e).symm
       · refine Vc.skip (Vc.seq (Vc.region hG rfl (by trivial) (Vc.ret ?_)))
         have e : checkD a0 = _ := ((cF h0).trans ((cF h1).trans ((cT h2).trans (cF h3))))
         refine ⟨?_, ?_, trivial⟩
         · exact (congrArg (fun r => r.1) e).symm
         · exact (congrArg (fun r => r.2) e).symm
     · refine Vc.skip (Vc.seq (Vc.region hG rfl (by trivial) (Vc.ret ?_)))
       have e : checkD a0 = _ := ((cF h0).trans ((cF h1).trans (cF h2)))
       refine ⟨?_, ?_, trivial⟩
       · exact (congrArg (fun r => r.1) e).symm
       · exact (congrArg (fun r => r.2) e).symm
end Fw
