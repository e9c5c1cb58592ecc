/- Walks of functions of the program: what each computes. Conditions: those that each contract names. -/
import Derived.Test.YtpcljloahdbjcaaGreatP4
import Derived.Test.YtpcljloahdbjcaaGreatProg
set_option linter.unusedVariables false
namespace Fw
open Go Go.Proofs
set_option linter.unusedSimpArgs false
abbrev Z0:Sh:=.own (.pure (.int .i64))
abbrev Z1:Sh:=.pure (.slice (.int .u8))
abbrev Y2:Ty:=.pair (.int .i64) (.bool)
abbrev Z3:Sh:=.pure (.slice (.int .i64))
abbrev Y4:Ty:=.slice (.slice (.int .i64))
abbrev Y5:Ty:=.pair (.int .i64) (.int .i64)
abbrev Z6:Sh:=.pure Y2
abbrev Y7:Ty:=.slice Y2
abbrev Z8:Sh:=.pure Y4
abbrev Z9:Sh:=.pure Y5
abbrev Y10:Ty:=.pair (.slice (.int .i64)) (.int .i64)
abbrev Y11:Ty:=.slice Y5
abbrev Z12:Sh:=.own Z6
abbrev Y13:Ty:=.pair (.slice (.str)) (.slice (.int .i64))
abbrev Z14:Sh:=.pure Y11
abbrev Y15:Ty:=.pair (.int .i64) Y5
abbrev Z16:Sh:=.pair Z0 (.pure (.int .i64))
abbrev Z17:Sh:=.pair (.own (.pure (.str))) Z0
abbrev Y18:Ty:=.pair (.slice (.int .u8)) Y5
abbrev Y19:Ty:=.pair (.int .i64) Y10
abbrev Y20:Ty:=.slice Y15
abbrev Y21:Ty:=.pair (.int .i64) Y13
abbrev Z22:Sh:=.pure Y18
abbrev Z23:Sh:=.pure Y20
abbrev Z24:Sh:=.pure Y19
abbrev Y25:Ty:=.slice Y19
abbrev Y26:Ty:=.pair (.int .i64) Y15
abbrev Z27:Sh:=.pure Y21
abbrev Z28:Sh:=.pure Y25
abbrev Z29:Sh:=.pure Y26
abbrev Y30:Ty:=.slice Y26
abbrev Z31:Sh:=.pair (.pure (.int .i64)) Z16
abbrev Z32:Sh:=.pure Y30
abbrev Z33:Sh:=.own Z31
abbrev Y34:Ty:=.pair (.int .i64) Y26
abbrev Z35:Sh:=.pure Y34
abbrev Y36:Ty:=.slice Y34
abbrev Z37:Sh:=.own Z35
abbrev Z38:Sh:=.pure Y36
abbrev Y39:Ty:=.slice Y36
abbrev Y40:Ty:=.pair (.int .i64) Y34
abbrev Z41:Sh:=.own Z37
abbrev Z42:Sh:=.own Z38
abbrev Z43:Sh:=.pure Y40
abbrev Y44:Ty:=.pair Y30 Y5
abbrev Y45:Ty:=.slice Y40
abbrev Z46:Sh:=.pure Y45
abbrev Y47:Ty:=.pair (.int .i64) Y40
abbrev Z48:Sh:=.pure Y47
abbrev Y49:Ty:=.pair Y7 Y36
abbrev Y50:Ty:=.pair (.int .i64) Y47
abbrev Z51:Sh:=.pair Z12 Z37
abbrev Y52:Ty:=.pair (.int .i64) Y49
abbrev Y53:Ty:=.pair (.int .i64) Y50
abbrev Z54:Sh:=.pure Y53
abbrev Y55:Ty:=.pair (.int .i64) Y52
abbrev Z56:Sh:=.pair (.pure (.int .i64)) Z51
abbrev Y57:Ty:=.pair Y20 Y44
abbrev Y58:Ty:=.pair (.int .i64) Y55
abbrev Z59:Sh:=.pure Y58
abbrev Z60:Sh:=.pair (.pure (.int .i64)) Z56
abbrev Y61:Ty:=.slice Y58
abbrev Z62:Sh:=.pair (.pure (.int .i64)) Z60
abbrev Z63:Sh:=.own Z62
abbrev Y64:Ty:=.pair Y25 Y61
abbrev Y65:Ty:=.pair Y36 Y57
abbrev Z66:Sh:=.pure Y64
abbrev Y67:Ty:=.slice Y64
abbrev Z68:Sh:=.pure Y65
abbrev Z69:Sh:=.own Z66
abbrev Z70:Sh:=.pair Z33 Z63
abbrev Z71:Sh:=.own Z70
abbrev Y72:Ty:=.pair Y67 Y39
abbrev Z73:Sh:=.pure Y72
def tys:List (Nat×Ty):=[(2,.int .i64),(3,.int .i64),(4,.bool),(5,.int .u8),(6,.int .u8),(8,.pair (.int .i64) (.pair (.int .i64) (.pair (.bool) (.int .u8)))),(9,.str),(10,.str),(11,.str),(12,.int .u64),(14,.pair (.str) (.int .u64)),(21,.int .i32),(22,.slice (.int .u8)),(24,.slice (.pair (.int .i64) (.pair (.int .i64) (.pair (.pair (.int .i64) (.pair (.slice (.str)) (.slice (.int .i64)))) (.pair (.pair (.int .i64) (.pair (.int .i64) (.pair (.int .i64) (.pair (.int .i64) (.pair (.int .i64) (.pair (.int .i64) (.pair (.int .i64) (.pair (.int .i64) (.int .i64))))))))) (.pair (.slice (.pair (.int .i64) (.pair (.slice (.int .i64)) (.int .i64)))) (.slice (.pair (.int .i64) (.pair (.int .i64) (.pair (.int .i64) (.pair (.slice (.pair (.int .i64) (.bool))) (.slice (.pair (.int .i64) (.pair (.int .i64) (.pair (.int .i64) (.pair (.int .i64) (.int .i64))))))))))))))))),(26,.pair (.int .i64) (.slice (.pair (.int .i64) (.pair (.int .i64) (.pair (.pair (.int .i64) (.pair (.slice (.str)) (.slice (.int .i64)))) (.pair (.pair (.int .i64) (.pair (.int .i64) (.pair (.int .i64) (.pair (.int .i64) (.pair (.int .i64) (.pair (.int .i64) (.pair (.int .i64) (.pair (.int .i64) (.int .i64))))))))) (.pair (.slice (.pair (.int .i64) (.pair (.slice (.int .i64)) (.int .i64)))) (.slice (.pair (.int .i64) (.pair (.int .i64) (.pair (.int .i64) (.pair (.slice (.pair (.int .i64) (.bool))) (.slice (.pair (.int .i64) (.pair (.int .i64) (.pair (.int .i64) (.pair (.int .i64) (.int .i64)))))))))))))))))),(27,.slice (.pair (.int .i64) (.pair (.int .i64) (.pair (.int .i64) (.pair (.int .i64) (.int .i64)))))),(36,.slice (.str)),(37,.slice (.int .i64)),(39,.pair (.int .i64) (.pair (.slice (.str)) (.slice (.int .i64)))),(41,.pair (.int .i64) (.pair (.int .i64) (.pair (.int .i64) (.pair (.int .i64) (.pair (.int .i64) (.pair (.int .i64) (.pair (.int .i64) (.pair (.int .i64) (.int .i64))))))))),(42,.slice (.pair (.int .i64) (.pair (.slice (.int .i64)) (.int .i64)))),(43,.slice (.pair (.int .i64) (.pair (.int .i64) (.pair (.int .i64) (.pair (.slice (.pair (.int .i64) (.bool))) (.slice (.pair (.int .i64) (.pair (.int .i64) (.pair (.int .i64) (.pair (.int .i64) (.int .i64))))))))))),(45,.pair (.slice (.pair (.int .i64) (.pair (.slice (.int .i64)) (.int .i64)))) (.slice (.pair (.int .i64) (.pair (.int .i64) (.pair (.int .i64) (.pair (.slice (.pair (.int .i64) (.bool))) (.slice (.pair (.int .i64) (.pair (.int .i64) (.pair (.int .i64) (.pair (.int .i64) (.int .i64)))))))))))),(47,.pair (.int .i64) (.pair (.int .i64) (.pair (.pair (.int .i64) (.pair (.slice (.str)) (.slice (.int .i64)))) (.pair (.pair (.int .i64) (.pair (.int .i64) (.pair (.int .i64) (.pair (.int .i64) (.pair (.int .i64) (.pair (.int .i64) (.pair (.int .i64) (.pair (.int .i64) (.int .i64))))))))) (.pair (.slice (.pair (.int .i64) (.pair (.slice (.int .i64)) (.int .i64)))) (.slice (.pair (.int .i64) (.pair (.int .i64) (.pair (.int .i64) (.pair (.slice (.pair (.int .i64) (.bool))) (.slice (.pair (.int .i64) (.pair (.int .i64) (.pair (.int .i64) (.pair (.int .i64) (.int .i64)))))))))))))))),(48,.slice (.pair (.int .i64) (.bool))),(50,.pair (.int .i64) (.pair (.int .i64) (.pair (.int .i64) (.pair (.slice (.pair (.int .i64) (.bool))) (.slice (.pair (.int .i64) (.pair (.int .i64) (.pair (.int .i64) (.pair (.int .i64) (.int .i64)))))))))),(55,.slice (.pair (.int .i64) (.pair (.int .i64) (.pair (.int .i64) (.pair (.int .i64) (.int .i64)))))),(56,.slice (.pair (.int .i64) (.pair (.int .i64) (.int .i64)))),(57,.slice (.pair (.int .i64) (.pair (.int .i64) (.pair (.int .i64) (.int .i64))))),(59,.pair (.slice (.pair (.int .i64) (.pair (.int .i64) (.pair (.int .i64) (.pair (.int .i64) (.int .i64)))))) (.pair (.slice (.pair (.int .i64) (.pair (.int .i64) (.int .i64)))) (.pair (.slice (.pair (.int .i64) (.pair (.int .i64) (.pair (.int .i64) (.int .i64))))) (.pair (.int .i64) (.int .i64))))),(60,.slice (.pair (.slice (.pair (.int .i64) (.pair (.slice (.int .i64)) (.int .i64)))) (.slice (.pair (.int .i64) (.pair (.int .i64) (.pair (.int .i64) (.pair (.slice (.pair (.int .i64) (.bool))) (.slice (.pair (.int .i64) (.pair (.int .i64) (.pair (.int .i64) (.pair (.int .i64) (.int .i64))))))))))))),(61,.slice (.slice (.pair (.int .i64) (.pair (.int .i64) (.pair (.int .i64) (.pair (.int .i64) (.int .i64))))))),(63,.pair (.slice (.pair (.slice (.pair (.int .i64) (.pair (.slice (.int .i64)) (.int .i64)))) (.slice (.pair (.int .i64) (.pair (.int .i64) (.pair (.int .i64) (.pair (.slice (.pair (.int .i64) (.bool))) (.slice (.pair (.int .i64) (.pair (.int .i64) (.pair (.int .i64) (.pair (.int .i64) (.int .i64))))))))))))) (.slice (.slice (.pair (.int .i64) (.pair (.int .i64) (.pair (.int .i64) (.pair (.int .i64) (.int .i64)))))))),(67,.slice (.slice (.int .i64))),(70,.pair (.int .i64) (.pair (.slice (.int .i64)) (.int .i64))),(81,.pair (.int .i64) (.int .i64)),(83,.pair (.int .i64) (.pair (.int .i64) (.pair (.int .i64) (.int .i64)))),(87,.pair (.int .i64) (.pair (.int .i64) (.pair (.int .i64) (.pair (.int .i64) (.pair (.int .i64) (.pair (.int .i64) (.int .i64))))))),(94,.pair (.int .i64) (.pair (.int .i64) (.pair (.int .i64) (.pair (.int .i64) (.int .i64))))),(98,.slice (.pair (.int .i64) (.pair (.int .i64) (.pair (.int .i64) (.pair (.int .i64) (.int .i64)))))),(101,.slice (.pair (.int .i64) (.pair (.int .i64) (.pair (.int .i64) (.pair (.int .i64) (.pair (.int .i64) (.int .i64))))))),(120,.slice (.bool)),(122,.pair (.int .i64) (.pair (.slice (.int .i64)) (.pair (.slice (.bool)) (.pair (.slice (.str)) (.pair (.slice (.int .i64)) (.slice (.slice (.int .i64)))))))),(149,.pair (.int .i64) (.bool)),(153,.int .u64),(167,.pair (.int .i64) (.pair (.int .i64) (.pair (.int .i64) (.pair (.int .i64) (.int .i64))))),(171,.pair (.int .i64) (.pair (.int .i64) (.pair (.int .i64) (.pair (.int .i64) (.int .i64))))),(177,.pair (.int .i64) (.pair (.int .i64) (.pair (.int .i64) (.pair (.int .i64) (.pair (.int .i64) (.int .i64)))))),(198,.pair (.int .i64) (.pair (.int .i64) (.pair (.int .i64) (.int .i64)))),(203,.slice (.pair (.int .i64) (.int .i64))),(220,.pair (.slice (.int .u8)) (.pair (.int .i64) (.int .i64))),(224,.pair (.int .i64) (.pair (.int .i64) (.int .i64))),(239,.arr 5 (.int .i64)),(290,.slice (.pair (.int .i64) (.pair (.int .i64) (.pair (.int .i64) (.pair (.int .i64) (.pair (.int .i64) (.pair (.int .i64) (.int .i64)))))))),(331,.int .u32),(332,.int .u8),(333,.int .u8),(336,.int .i32),(337,.int .i32)]
def flds:List (Nat×List (Nat×Ty)):=[(8,[(0,.int .i64),(1,.int .i64),(2,.bool),(3,.int .u8)]),(14,[(0,.str),(1,.int .u64)]),(26,[(0,.int .i64),(1,.slice (.pair (.int .i64) (.pair (.int .i64) (.pair (.pair (.int .i64) (.pair (.slice (.str)) (.slice (.int .i64)))) (.pair (.pair (.int .i64) (.pair (.int .i64) (.pair (.int .i64) (.pair (.int .i64) (.pair (.int .i64) (.pair (.int .i64) (.pair (.int .i64) (.pair (.int .i64) (.int .i64))))))))) (.pair (.slice (.pair (.int .i64) (.pair (.slice (.int .i64)) (.int .i64)))) (.slice (.pair (.int .i64) (.pair (.int .i64) (.pair (.int .i64) (.pair (.slice (.pair (.int .i64) (.bool))) (.slice (.pair (.int .i64) (.pair (.int .i64) (.pair (.int .i64) (.pair (.int .i64) (.int .i64)))))))))))))))))]),(39,[(0,.int .i64),(1,.slice (.str)),(2,.slice (.int .i64))]),(41,[(0,.int .i64),(1,.int .i64),(2,.int .i64),(3,.int .i64),(4,.int .i64),(5,.int .i64),(6,.int .i64),(7,.int .i64),(8,.int .i64)]),(45,[(0,.slice (.pair (.int .i64) (.pair (.slice (.int .i64)) (.int .i64)))),(1,.slice (.pair (.int .i64) (.pair (.int .i64) (.pair (.int .i64) (.pair (.slice (.pair (.int .i64) (.bool))) (.slice (.pair (.int .i64) (.pair (.int .i64) (.pair (.int .i64) (.pair (.int .i64) (.int .i64)))))))))))]),(47,[(0,.int .i64),(1,.int .i64),(2,.pair (.int .i64) (.pair (.slice (.str)) (.slice (.int .i64)))),(5,.pair (.int .i64) (.pair (.int .i64) (.pair (.int .i64) (.pair (.int .i64) (.pair (.int .i64) (.pair (.int .i64) (.pair (.int .i64) (.pair (.int .i64) (.int .i64))))))))),(14,.pair (.slice (.pair (.int .i64) (.pair (.slice (.int .i64)) (.int .i64)))) (.slice (.pair (.int .i64) (.pair (.int .i64) (.pair (.int .i64) (.pair (.slice (.pair (.int .i64) (.bool))) (.slice (.pair (.int .i64) (.pair (.int .i64) (.pair (.int .i64) (.pair (.int .i64) (.int .i64))))))))))))]),(50,[(0,.int .i64),(1,.int .i64),(2,.int .i64),(3,.slice (.pair (.int .i64) (.bool))),(4,.slice (.pair (.int .i64) (.pair (.int .i64) (.pair (.int .i64) (.pair (.int .i64) (.int .i64))))))]),(59,[(0,.slice (.pair (.int .i64) (.pair (.int .i64) (.pair (.int .i64) (.pair (.int .i64) (.int .i64)))))),(1,.slice (.pair (.int .i64) (.pair (.int .i64) (.int .i64)))),(2,.slice (.pair (.int .i64) (.pair (.int .i64) (.pair (.int .i64) (.int .i64))))),(3,.int .i64),(4,.int .i64)]),(63,[(0,.slice (.pair (.slice (.pair (.int .i64) (.pair (.slice (.int .i64)) (.int .i64)))) (.slice (.pair (.int .i64) (.pair (.int .i64) (.pair (.int .i64) (.pair (.slice (.pair (.int .i64) (.bool))) (.slice (.pair (.int .i64) (.pair (.int .i64) (.pair (.int .i64) (.pair (.int .i64) (.int .i64))))))))))))),(1,.slice (.slice (.pair (.int .i64) (.pair (.int .i64) (.pair (.int .i64) (.pair (.int .i64) (.int .i64)))))))]),(70,[(0,.int .i64),(1,.slice (.int .i64)),(2,.int .i64)]),(81,[(0,.int .i64),(1,.int .i64)]),(83,[(0,.int .i64),(1,.int .i64),(2,.pair (.int .i64) (.int .i64))]),(87,[(0,.int .i64),(1,.int .i64),(2,.int .i64),(3,.int .i64),(4,.int .i64),(5,.int .i64),(6,.int .i64)]),(94,[(0,.int .i64),(1,.int .i64),(2,.int .i64),(3,.int .i64),(4,.int .i64)]),(122,[(0,.int .i64),(1,.slice (.int .i64)),(2,.slice (.bool)),(3,.slice (.str)),(4,.slice (.int .i64)),(5,.slice (.slice (.int .i64)))]),(149,[(0,.int .i64),(1,.bool)]),(167,[(0,.int .i64),(1,.int .i64),(2,.int .i64),(3,.int .i64),(4,.int .i64)]),(171,[(0,.int .i64),(1,.int .i64),(2,.int .i64),(3,.int .i64),(4,.int .i64)]),(177,[(0,.int .i64),(1,.int .i64),(2,.int .i64),(3,.int .i64),(4,.int .i64),(5,.int .i64)]),(198,[(0,.int .i64),(1,.int .i64),(2,.int .i64),(3,.int .i64)]),(220,[(0,.slice (.int .u8)),(1,.int .i64),(2,.int .i64)]),(224,[(0,.int .i64),(1,.int .i64),(2,.int .i64)])]
def eqs:List Nat:=[41,81,83,87,94,149,167,171,177,198,224]
set_option maxRecDepth 100000 in
theorem tys_ok:tysB Tryz.prog tys=true:=by kernel_rfl
set_option maxRecDepth 100000 in
theorem flds_ok:allFldsB Tryz.prog flds=true:=by kernel_rfl
set_option maxRecDepth 100000 in
theorem eqs_ok:eqsB Tryz.prog tys eqs=true:=by kernel_rfl
theorem mixed:Tryz.prog.follows .mixedOrders=true:=by kernel_rfl
noncomputable def mkC (n:Nat)(res keep:List Nat)(l:List (Known Tryz.prog)):Ctx:=⟨n,tys,flds,res,keep,fnOf l,eqs,fun _=>none,[],fun _=>none,false,fun _=>none,false,fun _=>none⟩
theorem mO (n:Nat)(res keep:List Nat)(l:List (Known Tryz.prog)):CtxOk Tryz.prog (mkC n res keep l):=ctxOk tys_ok flds_ok eqs_ok (fun _ _ h=>by cases h) (fun _ _ h=>by cases h)
noncomputable def mkCM (n:Nat)(res keep:List Nat)(l:List (Known Tryz.prog))(lm:List (KnownM Tryz.prog))(lt:List (KnownT Tryz.prog))(pins:List Nat):Ctx:=⟨n,tys,flds,res,keep,fnOf l,eqs,fnOfM lm,pins,fnOfT lt,false,fun _=>none,false,fun _=>none⟩
theorem mkCM_ok (n:Nat)(res keep:List Nat)(l:List (Known Tryz.prog))(lm:List (KnownM Tryz.prog))(lt:List (KnownT Tryz.prog))(pins:List Nat):CtxOk Tryz.prog (mkCM n res keep l lm lt pins):=ctxOk tys_ok flds_ok eqs_ok (fnOfM_ok lm) (fnOfT_ok lt)
noncomputable def mkCK (n:Nat)(res keep:List Nat)(l:List (Known Tryz.prog))(lm:List (KnownM Tryz.prog))(lt:List (KnownT Tryz.prog))(lk:List (KnownK Tryz.prog))(pins:List Nat):Ctx:=⟨n,tys,flds,res,keep,fnOf l,eqs,fnOfM lm,pins,fnOfT lt,false,fnOfK lk,false,fun _=>none⟩
theorem mkCK_ok (n:Nat)(res keep:List Nat)(l:List (Known Tryz.prog))(lm:List (KnownM Tryz.prog))(lt:List (KnownT Tryz.prog))(lk:List (KnownK Tryz.prog))(pins:List Nat):CtxOk Tryz.prog (mkCK n res keep l lm lt lk pins):=ctxOk tys_ok flds_ok eqs_ok (fnOfM_ok lm) (fnOfT_ok lt) (fnOfK_ok lk)
noncomputable def mkCP (n:Nat)(res keep:List Nat)(l:List (Known Tryz.prog))(lm:List (KnownM Tryz.prog))(lt:List (KnownT Tryz.prog))(lp:List (KnownP Tryz.prog))(pins:List Nat):Ctx:=⟨n,tys,flds,res,keep,fnOf l,eqs,fnOfM lm,pins,fnOfT lt,false,fun _=>none,false,fnOfP lp⟩
theorem mkCP_ok (n:Nat)(res keep:List Nat)(l:List (Known Tryz.prog))(lm:List (KnownM Tryz.prog))(lt:List (KnownT Tryz.prog))(lp:List (KnownP Tryz.prog))(pins:List Nat):CtxOk Tryz.prog (mkCP n res keep l lm lt lp pins):=ctxOk tys_ok flds_ok eqs_ok (fnOfM_ok lm) (fnOfT_ok lt) (fun _ _ h=>by cases h) (fnOfP_ok lp)
end Fw
