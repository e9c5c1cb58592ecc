/- Walks of functions of the program: what each computes. Conditions: those that each contract names. -/
import Derived.Test.YtajkcodhmabmnaaGreatP4
import Derived.Test.YtajkcodhmabmnaaGreatProg
namespace Fw
open Go Go.Proofs
set_option linter.unusedSimpArgs false
abbrev Z0:Sh:=.own (.pure (.int .i64))
abbrev Z1:Sh:=.pure (.slice (.int .u8))
abbrev Y2:Ty:=.pair (.int .i64) (.bool)
abbrev Z3:Sh:=.pure (.slice (.int .i64))
abbrev Y4:Ty:=.slice (.slice (.int .i64))
abbrev Y5:Ty:=.pair (.int .i64) (.int .i64)
abbrev Z6:Sh:=.own Z0
abbrev Z7:Sh:=.pure Y2
abbrev Y8:Ty:=.slice Y2
abbrev Z9:Sh:=.pure Y4
abbrev Z10:Sh:=.pure Y5
abbrev Y11:Ty:=.pair (.slice (.int .i64)) (.int .i64)
abbrev Y12:Ty:=.slice Y5
abbrev Z13:Sh:=.own Z7
abbrev Y14:Ty:=.pair (.slice (.str)) (.slice (.int .i64))
abbrev Z15:Sh:=.pure Y12
abbrev Y16:Ty:=.pair (.int .i64) Y5
abbrev Z17:Sh:=.pair Z0 (.pure (.int .i64))
abbrev Z18:Sh:=.pair (.own (.pure (.str))) Z0
abbrev Y19:Ty:=.pair (.slice (.int .i64)) Y4
abbrev Y20:Ty:=.pair (.slice (.int .u8)) Y5
abbrev Z21:Sh:=.pure Y16
abbrev Y22:Ty:=.pair (.int .i64) Y11
abbrev Y23:Ty:=.slice Y16
abbrev Y24:Ty:=.pair (.int .i64) Y14
abbrev Z25:Sh:=.pure Y20
abbrev Z26:Sh:=.pure Y22
abbrev Z27:Sh:=.pure Y23
abbrev Z28:Sh:=.pair Z0 Z6
abbrev Y29:Ty:=.slice Y22
abbrev Y30:Ty:=.pair (.int .i64) Y16
abbrev Z31:Sh:=.pure Y24
abbrev Z32:Sh:=.pure Y29
abbrev Z33:Sh:=.pure Y30
abbrev Y34:Ty:=.slice Y30
abbrev Z35:Sh:=.pair (.pure (.int .i64)) Z17
abbrev Y36:Ty:=.pair (.slice (.str)) Y19
abbrev Z37:Sh:=.pair (.pure (.int .i64)) Z18
abbrev Z38:Sh:=.pure Y34
abbrev Z39:Sh:=.own Z35
abbrev Y40:Ty:=.pair (.int .i64) Y30
abbrev Z41:Sh:=.pair (.own (.pure (.str))) Z28
abbrev Z42:Sh:=.pure Y40
abbrev Y43:Ty:=.slice Y40
abbrev Z44:Sh:=.own Z42
abbrev Y45:Ty:=.pair (.slice (.bool)) Y36
abbrev Z46:Sh:=.pure Y43
abbrev Y47:Ty:=.slice Y43
abbrev Y48:Ty:=.pair (.int .i64) Y40
abbrev Z49:Sh:=.pure Y48
abbrev Y50:Ty:=.pair Y34 Y5
abbrev Z51:Sh:=.pair (.own (.pure (.bool))) Z41
abbrev Y52:Ty:=.pair (.int .i64) Y48
abbrev Y53:Ty:=.pair (.slice (.int .i64)) Y45
abbrev Z54:Sh:=.pure Y52
abbrev Y55:Ty:=.pair Y8 Y43
abbrev Y56:Ty:=.pair (.int .i64) Y52
abbrev Y57:Ty:=.pair (.int .i64) Y53
abbrev Z58:Sh:=.pair Z13 Z44
abbrev Z59:Sh:=.pair Z0 Z51
abbrev Z60:Sh:=.pure Y57
abbrev Y61:Ty:=.pair (.int .i64) Y55
abbrev Y62:Ty:=.pair (.int .i64) Y56
abbrev Z63:Sh:=.pure Y62
abbrev Y64:Ty:=.pair (.int .i64) Y61
abbrev Z65:Sh:=.pair (.pure (.int .i64)) Z58
abbrev Y66:Ty:=.pair Y23 Y50
abbrev Y67:Ty:=.pair (.int .i64) Y64
abbrev Z68:Sh:=.pair (.pure (.int .i64)) Z65
abbrev Z69:Sh:=.pure Y67
abbrev Y70:Ty:=.slice Y67
abbrev Z71:Sh:=.pair (.pure (.int .i64)) Z68
abbrev Z72:Sh:=.own Z71
abbrev Y73:Ty:=.pair Y29 Y70
abbrev Y74:Ty:=.pair Y43 Y66
abbrev Z75:Sh:=.pure Y73
abbrev Y76:Ty:=.slice Y73
abbrev Z77:Sh:=.pure Y74
abbrev Z78:Sh:=.pair Z39 Z72
abbrev Y79:Ty:=.pair Y76 Y47
abbrev Z80:Sh:=.pure Y79
abbrev Y81:Ty:=.pair Y62 Y73
abbrev Z82:Sh:=.pair Z63 Z78
abbrev Y83:Ty:=.pair Y24 Y81
abbrev Y84:Ty:=.pair (.int .i64) Y83
abbrev Y85:Ty:=.pair (.int .i64) Y84
abbrev Z86:Sh:=.pure Y85
abbrev Y87:Ty:=.slice Y85
abbrev Y88:Ty:=.pair (.int .i64) Y87
abbrev Z89:Sh:=.pure Y88
abbrev Z90:Sh:=.pair Z37 Z82
abbrev Z91:Sh:=.pair (.pure (.int .i64)) Z90
abbrev Z92:Sh:=.pair (.pure (.int .i64)) Z91
abbrev Z93:Sh:=.own Z92
def tys:List (Nat×Ty):=[(2,.int .i64),(3,.int .i64),(4,.bool),(5,.int .u8),(6,.int .u8),(8,.pair (.int .i64) (.pair (.int .i64) (.pair (.bool) (.int .u8)))),(9,.str),(10,.str),(11,.str),(12,.int .u64),(14,.pair (.str) (.int .u64)),(21,.int .i32),(22,.slice (.int .u8)),(24,.slice (.pair (.int .i64) (.pair (.int .i64) (.pair (.pair (.int .i64) (.pair (.slice (.str)) (.slice (.int .i64)))) (.pair (.pair (.int .i64) (.pair (.int .i64) (.pair (.int .i64) (.pair (.int .i64) (.pair (.int .i64) (.pair (.int .i64) (.pair (.int .i64) (.pair (.int .i64) (.int .i64))))))))) (.pair (.slice (.pair (.int .i64) (.pair (.slice (.int .i64)) (.int .i64)))) (.slice (.pair (.int .i64) (.pair (.int .i64) (.pair (.int .i64) (.pair (.slice (.pair (.int .i64) (.bool))) (.slice (.pair (.int .i64) (.pair (.int .i64) (.pair (.int .i64) (.pair (.int .i64) (.int .i64))))))))))))))))),(26,.pair (.int .i64) (.slice (.pair (.int .i64) (.pair (.int .i64) (.pair (.pair (.int .i64) (.pair (.slice (.str)) (.slice (.int .i64)))) (.pair (.pair (.int .i64) (.pair (.int .i64) (.pair (.int .i64) (.pair (.int .i64) (.pair (.int .i64) (.pair (.int .i64) (.pair (.int .i64) (.pair (.int .i64) (.int .i64))))))))) (.pair (.slice (.pair (.int .i64) (.pair (.slice (.int .i64)) (.int .i64)))) (.slice (.pair (.int .i64) (.pair (.int .i64) (.pair (.int .i64) (.pair (.slice (.pair (.int .i64) (.bool))) (.slice (.pair (.int .i64) (.pair (.int .i64) (.pair (.int .i64) (.pair (.int .i64) (.int .i64)))))))))))))))))),(27,.slice (.pair (.int .i64) (.pair (.int .i64) (.pair (.int .i64) (.pair (.int .i64) (.int .i64)))))),(36,.slice (.str)),(37,.slice (.int .i64)),(39,.pair (.int .i64) (.pair (.slice (.str)) (.slice (.int .i64)))),(41,.pair (.int .i64) (.pair (.int .i64) (.pair (.int .i64) (.pair (.int .i64) (.pair (.int .i64) (.pair (.int .i64) (.pair (.int .i64) (.pair (.int .i64) (.int .i64))))))))),(42,.slice (.pair (.int .i64) (.pair (.slice (.int .i64)) (.int .i64)))),(43,.slice (.pair (.int .i64) (.pair (.int .i64) (.pair (.int .i64) (.pair (.slice (.pair (.int .i64) (.bool))) (.slice (.pair (.int .i64) (.pair (.int .i64) (.pair (.int .i64) (.pair (.int .i64) (.int .i64))))))))))),(45,.pair (.slice (.pair (.int .i64) (.pair (.slice (.int .i64)) (.int .i64)))) (.slice (.pair (.int .i64) (.pair (.int .i64) (.pair (.int .i64) (.pair (.slice (.pair (.int .i64) (.bool))) (.slice (.pair (.int .i64) (.pair (.int .i64) (.pair (.int .i64) (.pair (.int .i64) (.int .i64)))))))))))),(47,.pair (.int .i64) (.pair (.int .i64) (.pair (.pair (.int .i64) (.pair (.slice (.str)) (.slice (.int .i64)))) (.pair (.pair (.int .i64) (.pair (.int .i64) (.pair (.int .i64) (.pair (.int .i64) (.pair (.int .i64) (.pair (.int .i64) (.pair (.int .i64) (.pair (.int .i64) (.int .i64))))))))) (.pair (.slice (.pair (.int .i64) (.pair (.slice (.int .i64)) (.int .i64)))) (.slice (.pair (.int .i64) (.pair (.int .i64) (.pair (.int .i64) (.pair (.slice (.pair (.int .i64) (.bool))) (.slice (.pair (.int .i64) (.pair (.int .i64) (.pair (.int .i64) (.pair (.int .i64) (.int .i64)))))))))))))))),(48,.slice (.pair (.int .i64) (.bool))),(50,.pair (.int .i64) (.pair (.int .i64) (.pair (.int .i64) (.pair (.slice (.pair (.int .i64) (.bool))) (.slice (.pair (.int .i64) (.pair (.int .i64) (.pair (.int .i64) (.pair (.int .i64) (.int .i64)))))))))),(58,.slice (.pair (.int .i64) (.pair (.int .i64) (.pair (.int .i64) (.pair (.int .i64) (.int .i64)))))),(59,.slice (.pair (.int .i64) (.pair (.int .i64) (.int .i64)))),(60,.slice (.pair (.int .i64) (.pair (.int .i64) (.pair (.int .i64) (.int .i64))))),(62,.pair (.slice (.pair (.int .i64) (.pair (.int .i64) (.pair (.int .i64) (.pair (.int .i64) (.int .i64)))))) (.pair (.slice (.pair (.int .i64) (.pair (.int .i64) (.int .i64)))) (.pair (.slice (.pair (.int .i64) (.pair (.int .i64) (.pair (.int .i64) (.int .i64))))) (.pair (.int .i64) (.int .i64))))),(66,.pair (.int .i64) (.int .i64)),(68,.pair (.int .i64) (.pair (.int .i64) (.pair (.int .i64) (.int .i64)))),(72,.slice (.bool)),(73,.slice (.slice (.int .i64))),(75,.pair (.int .i64) (.pair (.slice (.int .i64)) (.pair (.slice (.bool)) (.pair (.slice (.str)) (.pair (.slice (.int .i64)) (.slice (.slice (.int .i64)))))))),(80,.slice (.pair (.slice (.pair (.int .i64) (.pair (.slice (.int .i64)) (.int .i64)))) (.slice (.pair (.int .i64) (.pair (.int .i64) (.pair (.int .i64) (.pair (.slice (.pair (.int .i64) (.bool))) (.slice (.pair (.int .i64) (.pair (.int .i64) (.pair (.int .i64) (.pair (.int .i64) (.int .i64))))))))))))),(81,.slice (.slice (.pair (.int .i64) (.pair (.int .i64) (.pair (.int .i64) (.pair (.int .i64) (.int .i64))))))),(83,.pair (.slice (.pair (.slice (.pair (.int .i64) (.pair (.slice (.int .i64)) (.int .i64)))) (.slice (.pair (.int .i64) (.pair (.int .i64) (.pair (.int .i64) (.pair (.slice (.pair (.int .i64) (.bool))) (.slice (.pair (.int .i64) (.pair (.int .i64) (.pair (.int .i64) (.pair (.int .i64) (.int .i64))))))))))))) (.slice (.slice (.pair (.int .i64) (.pair (.int .i64) (.pair (.int .i64) (.pair (.int .i64) (.int .i64)))))))),(109,.pair (.int .i64) (.bool)),(114,.int .u64),(133,.pair (.slice (.int .u8)) (.pair (.int .i64) (.int .i64))),(136,.pair (.int .i64) (.pair (.int .i64) (.pair (.int .i64) (.pair (.int .i64) (.int .i64))))),(140,.pair (.int .i64) (.pair (.int .i64) (.pair (.int .i64) (.pair (.int .i64) (.int .i64))))),(142,.pair (.int .i64) (.pair (.int .i64) (.int .i64))),(152,.pair (.int .i64) (.pair (.slice (.int .i64)) (.int .i64))),(173,.pair (.int .i64) (.pair (.int .i64) (.pair (.int .i64) (.pair (.int .i64) (.int .i64))))),(193,.pair (.int .i64) (.pair (.int .i64) (.pair (.int .i64) (.pair (.int .i64) (.pair (.int .i64) (.pair (.int .i64) (.int .i64))))))),(197,.slice (.pair (.int .i64) (.pair (.int .i64) (.pair (.int .i64) (.pair (.int .i64) (.int .i64)))))),(201,.slice (.pair (.int .i64) (.pair (.int .i64) (.pair (.int .i64) (.pair (.int .i64) (.pair (.int .i64) (.int .i64))))))),(213,.pair (.int .i64) (.pair (.int .i64) (.pair (.int .i64) (.int .i64)))),(226,.pair (.int .i64) (.pair (.int .i64) (.pair (.int .i64) (.pair (.int .i64) (.pair (.int .i64) (.int .i64)))))),(249,.slice (.pair (.int .i64) (.int .i64))),(262,.slice (.pair (.int .i64) (.pair (.int .i64) (.pair (.int .i64) (.pair (.int .i64) (.pair (.int .i64) (.pair (.int .i64) (.int .i64)))))))),(298,.arr 5 (.int .i64)),(319,.int .u32),(320,.int .u8),(321,.int .u8),(324,.int .i32),(325,.int .i32)]
def flds:List (Nat×List (Nat×Ty)):=[(8,[(0,.int .i64),(1,.int .i64),(2,.bool),(3,.int .u8)]),(14,[(0,.str),(1,.int .u64)]),(26,[(0,.int .i64),(1,.slice (.pair (.int .i64) (.pair (.int .i64) (.pair (.pair (.int .i64) (.pair (.slice (.str)) (.slice (.int .i64)))) (.pair (.pair (.int .i64) (.pair (.int .i64) (.pair (.int .i64) (.pair (.int .i64) (.pair (.int .i64) (.pair (.int .i64) (.pair (.int .i64) (.pair (.int .i64) (.int .i64))))))))) (.pair (.slice (.pair (.int .i64) (.pair (.slice (.int .i64)) (.int .i64)))) (.slice (.pair (.int .i64) (.pair (.int .i64) (.pair (.int .i64) (.pair (.slice (.pair (.int .i64) (.bool))) (.slice (.pair (.int .i64) (.pair (.int .i64) (.pair (.int .i64) (.pair (.int .i64) (.int .i64)))))))))))))))))]),(39,[(0,.int .i64),(1,.slice (.str)),(2,.slice (.int .i64))]),(41,[(0,.int .i64),(1,.int .i64),(2,.int .i64),(3,.int .i64),(4,.int .i64),(5,.int .i64),(6,.int .i64),(7,.int .i64),(8,.int .i64)]),(45,[(0,.slice (.pair (.int .i64) (.pair (.slice (.int .i64)) (.int .i64)))),(1,.slice (.pair (.int .i64) (.pair (.int .i64) (.pair (.int .i64) (.pair (.slice (.pair (.int .i64) (.bool))) (.slice (.pair (.int .i64) (.pair (.int .i64) (.pair (.int .i64) (.pair (.int .i64) (.int .i64)))))))))))]),(47,[(0,.int .i64),(1,.int .i64),(2,.pair (.int .i64) (.pair (.slice (.str)) (.slice (.int .i64)))),(5,.pair (.int .i64) (.pair (.int .i64) (.pair (.int .i64) (.pair (.int .i64) (.pair (.int .i64) (.pair (.int .i64) (.pair (.int .i64) (.pair (.int .i64) (.int .i64))))))))),(14,.pair (.slice (.pair (.int .i64) (.pair (.slice (.int .i64)) (.int .i64)))) (.slice (.pair (.int .i64) (.pair (.int .i64) (.pair (.int .i64) (.pair (.slice (.pair (.int .i64) (.bool))) (.slice (.pair (.int .i64) (.pair (.int .i64) (.pair (.int .i64) (.pair (.int .i64) (.int .i64))))))))))))]),(50,[(0,.int .i64),(1,.int .i64),(2,.int .i64),(3,.slice (.pair (.int .i64) (.bool))),(4,.slice (.pair (.int .i64) (.pair (.int .i64) (.pair (.int .i64) (.pair (.int .i64) (.int .i64))))))]),(62,[(0,.slice (.pair (.int .i64) (.pair (.int .i64) (.pair (.int .i64) (.pair (.int .i64) (.int .i64)))))),(1,.slice (.pair (.int .i64) (.pair (.int .i64) (.int .i64)))),(2,.slice (.pair (.int .i64) (.pair (.int .i64) (.pair (.int .i64) (.int .i64))))),(3,.int .i64),(4,.int .i64)]),(66,[(0,.int .i64),(1,.int .i64)]),(68,[(0,.int .i64),(1,.int .i64),(2,.pair (.int .i64) (.int .i64))]),(75,[(0,.int .i64),(1,.slice (.int .i64)),(2,.slice (.bool)),(3,.slice (.str)),(4,.slice (.int .i64)),(5,.slice (.slice (.int .i64)))]),(83,[(0,.slice (.pair (.slice (.pair (.int .i64) (.pair (.slice (.int .i64)) (.int .i64)))) (.slice (.pair (.int .i64) (.pair (.int .i64) (.pair (.int .i64) (.pair (.slice (.pair (.int .i64) (.bool))) (.slice (.pair (.int .i64) (.pair (.int .i64) (.pair (.int .i64) (.pair (.int .i64) (.int .i64))))))))))))),(1,.slice (.slice (.pair (.int .i64) (.pair (.int .i64) (.pair (.int .i64) (.pair (.int .i64) (.int .i64)))))))]),(109,[(0,.int .i64),(1,.bool)]),(133,[(0,.slice (.int .u8)),(1,.int .i64),(2,.int .i64)]),(136,[(0,.int .i64),(1,.int .i64),(2,.int .i64),(3,.int .i64),(4,.int .i64)]),(140,[(0,.int .i64),(1,.int .i64),(2,.int .i64),(3,.int .i64),(4,.int .i64)]),(142,[(0,.int .i64),(1,.int .i64),(2,.int .i64)]),(152,[(0,.int .i64),(1,.slice (.int .i64)),(2,.int .i64)]),(173,[(0,.int .i64),(1,.int .i64),(2,.int .i64),(3,.int .i64),(4,.int .i64)]),(193,[(0,.int .i64),(1,.int .i64),(2,.int .i64),(3,.int .i64),(4,.int .i64),(5,.int .i64),(6,.int .i64)]),(213,[(0,.int .i64),(1,.int .i64),(2,.int .i64),(3,.int .i64)]),(226,[(0,.int .i64),(1,.int .i64),(2,.int .i64),(3,.int .i64),(4,.int .i64),(5,.int .i64)])]
def eqs:List Nat:=[41,66,68,109,136,140,142,173,193,213,226]
set_option maxRecDepth 100000 in
theorem tys_ok:tysB Tryz.prog tys=true:=by kernel_rfl
set_option maxRecDepth 100000 in
theorem flds_ok:allFldsB Tryz.prog flds=true:=by kernel_rfl
set_option maxRecDepth 100000 in
theorem eqs_ok:eqsB Tryz.prog tys eqs=true:=by kernel_rfl
theorem mixed:Tryz.prog.follows .mixedOrders=true:=by kernel_rfl
noncomputable def mkC (n:Nat)(res keep:List Nat)(l:List (Known Tryz.prog)):Ctx:=⟨n,tys,flds,res,keep,fnOf l,eqs,fun _=>none,[],fun _=>none,false,fun _=>none,false,fun _=>none⟩
theorem mO (n:Nat)(res keep:List Nat)(l:List (Known Tryz.prog)):CtxOk Tryz.prog (mkC n res keep l):=ctxOk tys_ok flds_ok eqs_ok (fun _ _ h=>by cases h) (fun _ _ h=>by cases h)
noncomputable def mkCM (n:Nat)(res keep:List Nat)(l:List (Known Tryz.prog))(lm:List (KnownM Tryz.prog))(lt:List (KnownT Tryz.prog))(pins:List Nat):Ctx:=⟨n,tys,flds,res,keep,fnOf l,eqs,fnOfM lm,pins,fnOfT lt,false,fun _=>none,false,fun _=>none⟩
theorem mkCM_ok (n:Nat)(res keep:List Nat)(l:List (Known Tryz.prog))(lm:List (KnownM Tryz.prog))(lt:List (KnownT Tryz.prog))(pins:List Nat):CtxOk Tryz.prog (mkCM n res keep l lm lt pins):=ctxOk tys_ok flds_ok eqs_ok (fnOfM_ok lm) (fnOfT_ok lt)
noncomputable def mkCK (n:Nat)(res keep:List Nat)(l:List (Known Tryz.prog))(lm:List (KnownM Tryz.prog))(lt:List (KnownT Tryz.prog))(lk:List (KnownK Tryz.prog))(pins:List Nat):Ctx:=⟨n,tys,flds,res,keep,fnOf l,eqs,fnOfM lm,pins,fnOfT lt,false,fnOfK lk,false,fun _=>none⟩
theorem mkCK_ok (n:Nat)(res keep:List Nat)(l:List (Known Tryz.prog))(lm:List (KnownM Tryz.prog))(lt:List (KnownT Tryz.prog))(lk:List (KnownK Tryz.prog))(pins:List Nat):CtxOk Tryz.prog (mkCK n res keep l lm lt lk pins):=ctxOk tys_ok flds_ok eqs_ok (fnOfM_ok lm) (fnOfT_ok lt) (fnOfK_ok lk)
noncomputable def mkCP (n:Nat)(res keep:List Nat)(l:List (Known Tryz.prog))(lm:List (KnownM Tryz.prog))(lt:List (KnownT Tryz.prog))(lp:List (KnownP Tryz.prog))(pins:List Nat):Ctx:=⟨n,tys,flds,res,keep,fnOf l,eqs,fnOfM lm,pins,fnOfT lt,false,fun _=>none,false,fnOfP lp⟩
theorem mkCP_ok (n:Nat)(res keep:List Nat)(l:List (Known Tryz.prog))(lm:List (KnownM Tryz.prog))(lt:List (KnownT Tryz.prog))(lp:List (KnownP Tryz.prog))(pins:List Nat):CtxOk Tryz.prog (mkCP n res keep l lm lt lp pins):=ctxOk tys_ok flds_ok eqs_ok (fnOfM_ok lm) (fnOfT_ok lt) (fun _ _ h=>by cases h) (fnOfP_ok lp)
end Fw
