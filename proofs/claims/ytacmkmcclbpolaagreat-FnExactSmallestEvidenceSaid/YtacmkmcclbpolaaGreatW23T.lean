/- Walks of functions of the program: what each computes. Conditions: those that each contract names. -/
import Derived.Test.YtacmkmcclbpolaaGreatP4
import Derived.Test.YtacmkmcclbpolaaGreatProg
namespace Fw
open Go Go.Proofs
set_option linter.unusedSimpArgs false
abbrev Z0:Sh:=.own (.pure (.int .i64))
abbrev Y1:Ty:=.pair (.int .i64) (.bool)
abbrev Z2:Sh:=.pure (.slice (.int .i64))
abbrev Y3:Ty:=.slice (.slice (.int .i64))
abbrev Y4:Ty:=.pair (.int .i64) (.int .i64)
abbrev Z5:Sh:=.pure Y1
abbrev Y6:Ty:=.slice Y1
abbrev Z7:Sh:=.pure Y3
abbrev Z8:Sh:=.pure Y4
abbrev Y9:Ty:=.pair (.slice (.int .i64)) (.int .i64)
abbrev Y10:Ty:=.slice Y4
abbrev Z11:Sh:=.own Z5
abbrev Z12:Sh:=.pure Y6
abbrev Y13:Ty:=.pair (.slice (.str)) (.slice (.int .i64))
abbrev Z14:Sh:=.pure Y10
abbrev Y15:Ty:=.pair (.int .i64) Y4
abbrev Z16:Sh:=.pair Z0 (.pure (.int .i64))
abbrev Z17:Sh:=.pure Y15
abbrev Y18:Ty:=.slice Y15
abbrev Y19:Ty:=.pair (.int .i64) Y9
abbrev Y20:Ty:=.pair (.int .i64) Y13
abbrev Z21:Sh:=.pure Y18
abbrev Z22:Sh:=.pure Y19
abbrev Y23:Ty:=.slice Y19
abbrev Y24:Ty:=.pair (.int .i64) Y15
abbrev Z25:Sh:=.pure Y20
abbrev Z26:Sh:=.pure Y23
abbrev Z27:Sh:=.pure Y24
abbrev Y28:Ty:=.slice Y24
abbrev Z29:Sh:=.pair (.pure (.int .i64)) Z16
abbrev Z30:Sh:=.pure Y28
abbrev Z31:Sh:=.own Z29
abbrev Y32:Ty:=.pair (.int .i64) Y24
abbrev Z33:Sh:=.pure Y32
abbrev Y34:Ty:=.slice Y32
abbrev Z35:Sh:=.own Z33
abbrev Z36:Sh:=.pure Y34
abbrev Y37:Ty:=.slice Y34
abbrev Y38:Ty:=.pair (.int .i64) Y32
abbrev Z39:Sh:=.own Z35
abbrev Z40:Sh:=.pure Y37
abbrev Z41:Sh:=.pure Y38
abbrev Y42:Ty:=.pair Y28 Y4
abbrev Y43:Ty:=.slice Y38
abbrev Z44:Sh:=.pure Y43
abbrev Y45:Ty:=.pair (.int .i64) Y38
abbrev Z46:Sh:=.pure Y45
abbrev Y47:Ty:=.pair Y6 Y34
abbrev Y48:Ty:=.pair (.int .i64) Y45
abbrev Z49:Sh:=.pair Z11 Z35
abbrev Y50:Ty:=.pair (.int .i64) Y47
abbrev Y51:Ty:=.pair (.int .i64) Y48
abbrev Z52:Sh:=.pure Y51
abbrev Y53:Ty:=.pair (.int .i64) Y50
abbrev Z54:Sh:=.pair (.pure (.int .i64)) Z49
abbrev Y55:Ty:=.pair Y18 Y42
abbrev Y56:Ty:=.pair (.int .i64) Y53
abbrev Z57:Sh:=.pure Y56
abbrev Z58:Sh:=.pair (.pure (.int .i64)) Z54
abbrev Y59:Ty:=.slice Y56
abbrev Z60:Sh:=.pure Y59
abbrev Z61:Sh:=.pair (.pure (.int .i64)) Z58
abbrev Z62:Sh:=.own Z61
abbrev Y63:Ty:=.pair Y23 Y59
abbrev Y64:Ty:=.pair Y34 Y55
abbrev Z65:Sh:=.pure Y63
abbrev Y66:Ty:=.slice Y63
abbrev Z67:Sh:=.pure Y64
abbrev Z68:Sh:=.pure Y66
abbrev Z69:Sh:=.pair Z31 Z62
abbrev Z70:Sh:=.own Z69
abbrev Y71:Ty:=.pair Y66 Y37
abbrev Z72:Sh:=.pure Y71
def tys:List (Nat×Ty):=[(2,.int .i64),(3,.int .i64),(4,.bool),(5,.int .u8),(6,.int .u8),(8,.pair (.int .i64) (.pair (.int .i64) (.pair (.bool) (.int .u8)))),(9,.str),(10,.str),(11,.str),(12,.int .u64),(14,.pair (.str) (.int .u64)),(21,.int .i32),(22,.slice (.pair (.int .i64) (.pair (.int .i64) (.pair (.int .i64) (.pair (.int .i64) (.int .i64)))))),(23,.slice (.pair (.int .i64) (.pair (.int .i64) (.int .i64)))),(24,.slice (.pair (.int .i64) (.pair (.int .i64) (.pair (.int .i64) (.int .i64))))),(26,.pair (.slice (.pair (.int .i64) (.pair (.int .i64) (.pair (.int .i64) (.pair (.int .i64) (.int .i64)))))) (.pair (.slice (.pair (.int .i64) (.pair (.int .i64) (.int .i64)))) (.pair (.slice (.pair (.int .i64) (.pair (.int .i64) (.pair (.int .i64) (.int .i64))))) (.pair (.int .i64) (.int .i64))))),(27,.slice (.pair (.slice (.pair (.int .i64) (.pair (.slice (.int .i64)) (.int .i64)))) (.slice (.pair (.int .i64) (.pair (.int .i64) (.pair (.int .i64) (.pair (.slice (.pair (.int .i64) (.bool))) (.slice (.pair (.int .i64) (.pair (.int .i64) (.pair (.int .i64) (.pair (.int .i64) (.int .i64))))))))))))),(28,.slice (.slice (.pair (.int .i64) (.pair (.int .i64) (.pair (.int .i64) (.pair (.int .i64) (.int .i64))))))),(30,.pair (.slice (.pair (.slice (.pair (.int .i64) (.pair (.slice (.int .i64)) (.int .i64)))) (.slice (.pair (.int .i64) (.pair (.int .i64) (.pair (.int .i64) (.pair (.slice (.pair (.int .i64) (.bool))) (.slice (.pair (.int .i64) (.pair (.int .i64) (.pair (.int .i64) (.pair (.int .i64) (.int .i64))))))))))))) (.slice (.slice (.pair (.int .i64) (.pair (.int .i64) (.pair (.int .i64) (.pair (.int .i64) (.int .i64)))))))),(31,.slice (.str)),(32,.slice (.int .i64)),(34,.pair (.int .i64) (.pair (.slice (.str)) (.slice (.int .i64)))),(36,.pair (.int .i64) (.pair (.int .i64) (.pair (.int .i64) (.pair (.int .i64) (.pair (.int .i64) (.pair (.int .i64) (.pair (.int .i64) (.pair (.int .i64) (.int .i64))))))))),(40,.slice (.pair (.slice (.pair (.int .i64) (.pair (.slice (.int .i64)) (.int .i64)))) (.slice (.pair (.int .i64) (.pair (.int .i64) (.pair (.int .i64) (.pair (.slice (.pair (.int .i64) (.bool))) (.slice (.pair (.int .i64) (.pair (.int .i64) (.pair (.int .i64) (.pair (.int .i64) (.int .i64))))))))))))),(41,.slice (.slice (.pair (.int .i64) (.pair (.int .i64) (.pair (.int .i64) (.pair (.int .i64) (.int .i64))))))),(43,.pair (.slice (.pair (.slice (.pair (.int .i64) (.pair (.slice (.int .i64)) (.int .i64)))) (.slice (.pair (.int .i64) (.pair (.int .i64) (.pair (.int .i64) (.pair (.slice (.pair (.int .i64) (.bool))) (.slice (.pair (.int .i64) (.pair (.int .i64) (.pair (.int .i64) (.pair (.int .i64) (.int .i64))))))))))))) (.slice (.slice (.pair (.int .i64) (.pair (.int .i64) (.pair (.int .i64) (.pair (.int .i64) (.int .i64)))))))),(45,.slice (.pair (.int .i64) (.pair (.int .i64) (.pair (.int .i64) (.pair (.int .i64) (.int .i64)))))),(46,.slice (.pair (.int .i64) (.pair (.int .i64) (.int .i64)))),(47,.slice (.pair (.int .i64) (.pair (.int .i64) (.pair (.int .i64) (.int .i64))))),(49,.pair (.slice (.pair (.int .i64) (.pair (.int .i64) (.pair (.int .i64) (.pair (.int .i64) (.int .i64)))))) (.pair (.slice (.pair (.int .i64) (.pair (.int .i64) (.int .i64)))) (.pair (.slice (.pair (.int .i64) (.pair (.int .i64) (.pair (.int .i64) (.int .i64))))) (.pair (.int .i64) (.int .i64))))),(52,.pair (.int .i64) (.pair (.slice (.str)) (.slice (.int .i64)))),(54,.pair (.int .i64) (.pair (.int .i64) (.pair (.int .i64) (.pair (.int .i64) (.pair (.int .i64) (.pair (.int .i64) (.pair (.int .i64) (.pair (.int .i64) (.int .i64))))))))),(63,.slice (.int .u8)),(65,.slice (.pair (.int .i64) (.pair (.int .i64) (.pair (.int .i64) (.pair (.int .i64) (.int .i64)))))),(69,.pair (.int .i64) (.pair (.int .i64) (.pair (.int .i64) (.pair (.int .i64) (.int .i64))))),(71,.pair (.pair (.int .i64) (.pair (.int .i64) (.pair (.int .i64) (.pair (.int .i64) (.int .i64))))) (.pair (.int .i64) (.pair (.int .i64) (.pair (.int .i64) (.pair (.int .i64) (.int .i64)))))),(91,.pair (.int .i64) (.int .i64)),(93,.pair (.int .i64) (.pair (.int .i64) (.pair (.int .i64) (.int .i64)))),(120,.arr 100 (.bool)),(127,.slice (.pair (.int .i64) (.pair (.slice (.int .i64)) (.int .i64)))),(128,.slice (.pair (.int .i64) (.pair (.int .i64) (.pair (.int .i64) (.pair (.slice (.pair (.int .i64) (.bool))) (.slice (.pair (.int .i64) (.pair (.int .i64) (.pair (.int .i64) (.pair (.int .i64) (.int .i64))))))))))),(130,.pair (.slice (.pair (.int .i64) (.pair (.slice (.int .i64)) (.int .i64)))) (.slice (.pair (.int .i64) (.pair (.int .i64) (.pair (.int .i64) (.pair (.slice (.pair (.int .i64) (.bool))) (.slice (.pair (.int .i64) (.pair (.int .i64) (.pair (.int .i64) (.pair (.int .i64) (.int .i64)))))))))))),(131,.slice (.pair (.int .i64) (.bool))),(133,.pair (.int .i64) (.pair (.int .i64) (.pair (.int .i64) (.pair (.slice (.pair (.int .i64) (.bool))) (.slice (.pair (.int .i64) (.pair (.int .i64) (.pair (.int .i64) (.pair (.int .i64) (.int .i64)))))))))),(135,.slice (.pair (.int .i64) (.pair (.slice (.int .i64)) (.int .i64)))),(136,.slice (.pair (.int .i64) (.pair (.int .i64) (.pair (.int .i64) (.pair (.slice (.pair (.int .i64) (.bool))) (.slice (.pair (.int .i64) (.pair (.int .i64) (.pair (.int .i64) (.pair (.int .i64) (.int .i64))))))))))),(138,.pair (.slice (.pair (.int .i64) (.pair (.slice (.int .i64)) (.int .i64)))) (.slice (.pair (.int .i64) (.pair (.int .i64) (.pair (.int .i64) (.pair (.slice (.pair (.int .i64) (.bool))) (.slice (.pair (.int .i64) (.pair (.int .i64) (.pair (.int .i64) (.pair (.int .i64) (.int .i64)))))))))))),(140,.slice (.pair (.int .i64) (.pair (.int .i64) (.pair (.int .i64) (.pair (.int .i64) (.int .i64)))))),(143,.slice (.slice (.int .i64))),(147,.pair (.int .i64) (.pair (.int .i64) (.pair (.int .i64) (.pair (.int .i64) (.int .i64))))),(149,.pair (.int .i64) (.pair (.int .i64) (.pair (.int .i64) (.pair (.int .i64) (.int .i64))))),(151,.pair (.int .i64) (.pair (.int .i64) (.int .i64))),(153,.pair (.int .i64) (.pair (.int .i64) (.int .i64))),(155,.pair (.int .i64) (.pair (.int .i64) (.pair (.int .i64) (.int .i64)))),(157,.pair (.int .i64) (.pair (.int .i64) (.pair (.int .i64) (.int .i64)))),(171,.pair (.slice (.int .u8)) (.pair (.int .i64) (.int .i64))),(186,.pair (.int .i64) (.pair (.slice (.int .i64)) (.int .i64))),(191,.pair (.int .i64) (.pair (.int .i64) (.pair (.int .i64) (.pair (.int .i64) (.pair (.int .i64) (.pair (.int .i64) (.int .i64))))))),(195,.slice (.pair (.int .i64) (.pair (.int .i64) (.pair (.int .i64) (.pair (.int .i64) (.int .i64)))))),(199,.slice (.pair (.int .i64) (.pair (.int .i64) (.pair (.int .i64) (.pair (.int .i64) (.pair (.int .i64) (.int .i64))))))),(208,.pair (.int .i64) (.pair (.int .i64) (.pair (.int .i64) (.pair (.int .i64) (.int .i64))))),(216,.int .u64),(225,.pair (.int .i64) (.pair (.slice (.int .i64)) (.int .i64))),(227,.slice (.pair (.int .i64) (.bool))),(229,.pair (.int .i64) (.pair (.int .i64) (.pair (.int .i64) (.pair (.slice (.pair (.int .i64) (.bool))) (.slice (.pair (.int .i64) (.pair (.int .i64) (.pair (.int .i64) (.pair (.int .i64) (.int .i64)))))))))),(241,.pair (.int .i64) (.pair (.int .i64) (.pair (.int .i64) (.pair (.int .i64) (.int .i64))))),(245,.slice (.pair (.int .i64) (.int .i64))),(250,.pair (.int .i64) (.pair (.int .i64) (.pair (.int .i64) (.pair (.int .i64) (.pair (.int .i64) (.int .i64)))))),(271,.pair (.int .i64) (.bool)),(306,.slice (.pair (.int .i64) (.pair (.int .i64) (.pair (.int .i64) (.pair (.int .i64) (.pair (.int .i64) (.pair (.int .i64) (.int .i64)))))))),(325,.pair (.int .i64) (.bool)),(327,.arr 5 (.int .i64)),(359,.int .u32),(360,.int .u8),(361,.int .u8),(364,.int .i32),(365,.int .i32)]
def flds:List (Nat×List (Nat×Ty)):=[(8,[(0,.int .i64),(1,.int .i64),(2,.bool),(3,.int .u8)]),(14,[(0,.str),(1,.int .u64)]),(26,[(0,.slice (.pair (.int .i64) (.pair (.int .i64) (.pair (.int .i64) (.pair (.int .i64) (.int .i64)))))),(1,.slice (.pair (.int .i64) (.pair (.int .i64) (.int .i64)))),(2,.slice (.pair (.int .i64) (.pair (.int .i64) (.pair (.int .i64) (.int .i64))))),(3,.int .i64),(4,.int .i64)]),(30,[(0,.slice (.pair (.slice (.pair (.int .i64) (.pair (.slice (.int .i64)) (.int .i64)))) (.slice (.pair (.int .i64) (.pair (.int .i64) (.pair (.int .i64) (.pair (.slice (.pair (.int .i64) (.bool))) (.slice (.pair (.int .i64) (.pair (.int .i64) (.pair (.int .i64) (.pair (.int .i64) (.int .i64))))))))))))),(1,.slice (.slice (.pair (.int .i64) (.pair (.int .i64) (.pair (.int .i64) (.pair (.int .i64) (.int .i64)))))))]),(34,[(0,.int .i64),(1,.slice (.str)),(2,.slice (.int .i64))]),(36,[(0,.int .i64),(1,.int .i64),(2,.int .i64),(3,.int .i64),(4,.int .i64),(5,.int .i64),(6,.int .i64),(7,.int .i64),(8,.int .i64)]),(43,[(0,.slice (.pair (.slice (.pair (.int .i64) (.pair (.slice (.int .i64)) (.int .i64)))) (.slice (.pair (.int .i64) (.pair (.int .i64) (.pair (.int .i64) (.pair (.slice (.pair (.int .i64) (.bool))) (.slice (.pair (.int .i64) (.pair (.int .i64) (.pair (.int .i64) (.pair (.int .i64) (.int .i64))))))))))))),(1,.slice (.slice (.pair (.int .i64) (.pair (.int .i64) (.pair (.int .i64) (.pair (.int .i64) (.int .i64)))))))]),(49,[(0,.slice (.pair (.int .i64) (.pair (.int .i64) (.pair (.int .i64) (.pair (.int .i64) (.int .i64)))))),(1,.slice (.pair (.int .i64) (.pair (.int .i64) (.int .i64)))),(2,.slice (.pair (.int .i64) (.pair (.int .i64) (.pair (.int .i64) (.int .i64))))),(3,.int .i64),(4,.int .i64)]),(52,[(0,.int .i64),(1,.slice (.str)),(2,.slice (.int .i64))]),(54,[(0,.int .i64),(1,.int .i64),(2,.int .i64),(3,.int .i64),(4,.int .i64),(5,.int .i64),(6,.int .i64),(7,.int .i64),(8,.int .i64)]),(69,[(0,.int .i64),(1,.int .i64),(2,.int .i64),(3,.int .i64),(4,.int .i64)]),(71,[(0,.pair (.int .i64) (.pair (.int .i64) (.pair (.int .i64) (.pair (.int .i64) (.int .i64))))),(5,.pair (.int .i64) (.pair (.int .i64) (.pair (.int .i64) (.pair (.int .i64) (.int .i64)))))]),(91,[(0,.int .i64),(1,.int .i64)]),(93,[(0,.int .i64),(1,.int .i64),(2,.pair (.int .i64) (.int .i64))]),(130,[(0,.slice (.pair (.int .i64) (.pair (.slice (.int .i64)) (.int .i64)))),(1,.slice (.pair (.int .i64) (.pair (.int .i64) (.pair (.int .i64) (.pair (.slice (.pair (.int .i64) (.bool))) (.slice (.pair (.int .i64) (.pair (.int .i64) (.pair (.int .i64) (.pair (.int .i64) (.int .i64)))))))))))]),(133,[(0,.int .i64),(1,.int .i64),(2,.int .i64),(3,.slice (.pair (.int .i64) (.bool))),(4,.slice (.pair (.int .i64) (.pair (.int .i64) (.pair (.int .i64) (.pair (.int .i64) (.int .i64))))))]),(138,[(0,.slice (.pair (.int .i64) (.pair (.slice (.int .i64)) (.int .i64)))),(1,.slice (.pair (.int .i64) (.pair (.int .i64) (.pair (.int .i64) (.pair (.slice (.pair (.int .i64) (.bool))) (.slice (.pair (.int .i64) (.pair (.int .i64) (.pair (.int .i64) (.pair (.int .i64) (.int .i64)))))))))))]),(147,[(0,.int .i64),(1,.int .i64),(2,.int .i64),(3,.int .i64),(4,.int .i64)]),(149,[(0,.int .i64),(1,.int .i64),(2,.int .i64),(3,.int .i64),(4,.int .i64)]),(151,[(0,.int .i64),(1,.int .i64),(2,.int .i64)]),(153,[(0,.int .i64),(1,.int .i64),(2,.int .i64)]),(155,[(0,.int .i64),(1,.int .i64),(2,.int .i64),(3,.int .i64)]),(157,[(0,.int .i64),(1,.int .i64),(2,.int .i64),(3,.int .i64)]),(171,[(0,.slice (.int .u8)),(1,.int .i64),(2,.int .i64)]),(186,[(0,.int .i64),(1,.slice (.int .i64)),(2,.int .i64)]),(191,[(0,.int .i64),(1,.int .i64),(2,.int .i64),(3,.int .i64),(4,.int .i64),(5,.int .i64),(6,.int .i64)]),(208,[(0,.int .i64),(1,.int .i64),(2,.int .i64),(3,.int .i64),(4,.int .i64)]),(225,[(0,.int .i64),(1,.slice (.int .i64)),(2,.int .i64)]),(229,[(0,.int .i64),(1,.int .i64),(2,.int .i64),(3,.slice (.pair (.int .i64) (.bool))),(4,.slice (.pair (.int .i64) (.pair (.int .i64) (.pair (.int .i64) (.pair (.int .i64) (.int .i64))))))]),(241,[(0,.int .i64),(1,.int .i64),(2,.int .i64),(3,.int .i64),(4,.int .i64)]),(250,[(0,.int .i64),(1,.int .i64),(2,.int .i64),(3,.int .i64),(4,.int .i64),(5,.int .i64)]),(271,[(0,.int .i64),(1,.bool)]),(325,[(0,.int .i64),(1,.bool)])]
def eqs:List Nat:=[36,54,69,71,91,93,147,149,151,153,155,157,191,208,241,250,271,325]
set_option maxRecDepth 100000 in
theorem tys_ok:tysB Tryz.prog tys=true:=by kernel_rfl
set_option maxRecDepth 100000 in
theorem flds_ok:allFldsB Tryz.prog flds=true:=by kernel_rfl
set_option maxRecDepth 100000 in
theorem eqs_ok:eqsB Tryz.prog tys eqs=true:=by kernel_rfl
theorem mixed:Tryz.prog.follows .mixedOrders=true:=by kernel_rfl
noncomputable def mkC (n:Nat)(res keep:List Nat)(l:List (Known Tryz.prog)):Ctx:=⟨n,tys,flds,res,keep,fnOf l,eqs,fun _=>none,[],fun _=>none,false,fun _=>none,false,fun _=>none⟩
theorem mO (n:Nat)(res keep:List Nat)(l:List (Known Tryz.prog)):CtxOk Tryz.prog (mkC n res keep l):=ctxOk tys_ok flds_ok eqs_ok (fun _ _ h=>by cases h) (fun _ _ h=>by cases h)
noncomputable def mkCM (n:Nat)(res keep:List Nat)(l:List (Known Tryz.prog))(lm:List (KnownM Tryz.prog))(lt:List (KnownT Tryz.prog))(pins:List Nat):Ctx:=⟨n,tys,flds,res,keep,fnOf l,eqs,fnOfM lm,pins,fnOfT lt,false,fun _=>none,false,fun _=>none⟩
theorem mkCM_ok (n:Nat)(res keep:List Nat)(l:List (Known Tryz.prog))(lm:List (KnownM Tryz.prog))(lt:List (KnownT Tryz.prog))(pins:List Nat):CtxOk Tryz.prog (mkCM n res keep l lm lt pins):=ctxOk tys_ok flds_ok eqs_ok (fnOfM_ok lm) (fnOfT_ok lt)
noncomputable def mkCK (n:Nat)(res keep:List Nat)(l:List (Known Tryz.prog))(lm:List (KnownM Tryz.prog))(lt:List (KnownT Tryz.prog))(lk:List (KnownK Tryz.prog))(pins:List Nat):Ctx:=⟨n,tys,flds,res,keep,fnOf l,eqs,fnOfM lm,pins,fnOfT lt,false,fnOfK lk,false,fun _=>none⟩
theorem mkCK_ok (n:Nat)(res keep:List Nat)(l:List (Known Tryz.prog))(lm:List (KnownM Tryz.prog))(lt:List (KnownT Tryz.prog))(lk:List (KnownK Tryz.prog))(pins:List Nat):CtxOk Tryz.prog (mkCK n res keep l lm lt lk pins):=ctxOk tys_ok flds_ok eqs_ok (fnOfM_ok lm) (fnOfT_ok lt) (fnOfK_ok lk)
noncomputable def mkCP (n:Nat)(res keep:List Nat)(l:List (Known Tryz.prog))(lm:List (KnownM Tryz.prog))(lt:List (KnownT Tryz.prog))(lp:List (KnownP Tryz.prog))(pins:List Nat):Ctx:=⟨n,tys,flds,res,keep,fnOf l,eqs,fnOfM lm,pins,fnOfT lt,false,fun _=>none,false,fnOfP lp⟩
theorem mkCP_ok (n:Nat)(res keep:List Nat)(l:List (Known Tryz.prog))(lm:List (KnownM Tryz.prog))(lt:List (KnownT Tryz.prog))(lp:List (KnownP Tryz.prog))(pins:List Nat):CtxOk Tryz.prog (mkCP n res keep l lm lt lp pins):=ctxOk tys_ok flds_ok eqs_ok (fnOfM_ok lm) (fnOfT_ok lt) (fun _ _ h=>by cases h) (fnOfP_ok lp)
end Fw
