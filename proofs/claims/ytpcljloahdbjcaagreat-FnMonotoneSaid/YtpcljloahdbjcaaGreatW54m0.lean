/- Walks of functions of the program: what each computes. Conditions: those that each contract names. -/
import Derived.Test.YtpcljloahdbjcaaGreatW54T
set_option linter.unusedVariables false
namespace Fw
open Go Go.Proofs
set_option linter.unusedSimpArgs false
set_option maxRecDepth 100000
noncomputable def F10:Fun:=⟨[.slice (.int .u8)],[.pure (.bool)],fun _=>True,fun x=>((fun(code:List Int)=>decide (((List.length code:Nat):Int)>1048576)) x.1,())⟩
theorem F10_ok:Meets Tryz.prog 10 F10:=by
 refine mZ (C:=mkC 6 [2] [0,2] []) (mO _ _ _ _) (fO _) Tryz.func10 rfl rfl rfl (by decide) rfl ?_
 rintro⟨a0,_⟩ hwf hpre ⟨⟩ hG rfl rfl
 show Vc _ _ [(0,⟨0,0,.c Z1 a0⟩)] _
 refine Vm hG rfl (Vm hG rfl (Vt ?_))
 refine⟨?_,trivial⟩
 all_goals exact rfl
end Fw
