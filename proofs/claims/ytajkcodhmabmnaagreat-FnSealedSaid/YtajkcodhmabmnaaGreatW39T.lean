/- Walks of functions of the program: what each computes. Conditions: those that each contract names. -/
import Derived.Test.YtajkcodhmabmnaaGreatP4
import Derived.Test.YtajkcodhmabmnaaGreatProg
namespace Fw
open Go Go.Proofs
set_option linter.unusedSimpArgs false
abbrev Z0:Sh:=.own (.pure (.int .i64))
abbrev Z1:Sh:=.pure (.slice (.int .u8))
abbrev Y2:Ty:=.pair (.int .i64) (.bool)
abbrev Z3:Sh:=.pure (.slice (.int .i64))
abbrev Y4:Ty:=.pair (.int .i64) (.int .i64)
abbrev Z5:Sh:=.pure Y2
abbrev Y6:Ty:=.slice Y2
abbrev Y7:Ty:=.pair (.slice (.int .i64)) (.int .i64)
abbrev Z8:Sh:=.own Z5
abbrev Y9:Ty:=.pair (.slice (.str)) (.slice (.int .i64))
abbrev Y10:Ty:=.pair (.int .i64) Y4
abbrev Z11:Sh:=.pair Z0 (.pure (.int .i64))
abbrev Z12:Sh:=.pair (.own (.pure (.str))) Z0
abbrev Y13:Ty:=.pair (.slice (.int .u8)) Y4
abbrev Y14:Ty:=.pair (.int .i64) Y7
abbrev Y15:Ty:=.slice Y10
abbrev Y16:Ty:=.pair (.int .i64) Y9
abbrev Z17:Sh:=.pure Y13
abbrev Z18:Sh:=.pure Y14
abbrev Z19:Sh:=.pure Y15
abbrev Y20:Ty:=.slice Y14
abbrev Y21:Ty:=.pair (.int .i64) Y10
abbrev Z22:Sh:=.pure Y16
abbrev Z23:Sh:=.pure Y20
abbrev Z24:Sh:=.pair (.pure (.int .i64)) Z11
abbrev Z25:Sh:=.pair (.pure (.int .i64)) Z12
abbrev Z26:Sh:=.own Z24
abbrev Y27:Ty:=.pair (.int .i64) Y21
abbrev Z28:Sh:=.pure Y27
abbrev Y29:Ty:=.slice Y27
abbrev Z30:Sh:=.own Z28
abbrev Z31:Sh:=.pure Y29
abbrev Y32:Ty:=.pair (.int .i64) Y27
abbrev Z33:Sh:=.pure Y32
abbrev Y34:Ty:=.pair (.int .i64) Y32
abbrev Z35:Sh:=.pure Y34
abbrev Y36:Ty:=.pair Y6 Y29
abbrev Y37:Ty:=.pair (.int .i64) Y34
abbrev Z38:Sh:=.pair Z8 Z30
abbrev Y39:Ty:=.pair (.int .i64) Y36
abbrev Y40:Ty:=.pair (.int .i64) Y37
abbrev Z41:Sh:=.pure Y40
abbrev Y42:Ty:=.pair (.int .i64) Y39
abbrev Z43:Sh:=.pair (.pure (.int .i64)) Z38
abbrev Y44:Ty:=.pair (.int .i64) Y42
abbrev Z45:Sh:=.pair (.pure (.int .i64)) Z43
abbrev Z46:Sh:=.pure Y44
abbrev Y47:Ty:=.slice Y44
abbrev Z48:Sh:=.pair (.pure (.int .i64)) Z45
abbrev Z49:Sh:=.own Z48
abbrev Y50:Ty:=.pair Y20 Y47
abbrev Z51:Sh:=.pure Y50
abbrev Z52:Sh:=.pair Z26 Z49
abbrev Y53:Ty:=.pair Y40 Y50
abbrev Z54:Sh:=.pair Z41 Z52
abbrev Y55:Ty:=.pair Y16 Y53
abbrev Y56:Ty:=.pair (.int .i64) Y55
abbrev Y57:Ty:=.pair (.int .i64) Y56
abbrev Z58:Sh:=.pure Y57
abbrev Y59:Ty:=.slice Y57
abbrev Y60:Ty:=.pair (.int .i64) Y59
abbrev Z61:Sh:=.pure Y60
abbrev Z62:Sh:=.pair Z25 Z54
abbrev Z63:Sh:=.pair (.pure (.int .i64)) Z62
abbrev Z64:Sh:=.pair (.pure (.int .i64)) Z63
abbrev Z65:Sh:=.own Z64
def tys:List (Nat×Ty):=[(2,.int .i64),(3,.int .i64),(4,.bool),(5,.int .u8),(6,.int .u8),(8,.pair (.int .i64) (.pair (.int .i64) (.pair (.bool) (.int .u8)))),(9,.str),(10,.str),(11,.str),(12,.int .u64),(14,.pair (.str) (.int .u64)),(21,.int .i32),(22,.slice (.int .u8)),(24,.slice (.pair (.int .i64) (.pair (.int .i64) (.pair (.pair (.int .i64) (.pair (.slice (.str)) (.slice (.int .i64)))) (.pair (.pair (.int .i64) (.pair (.int .i64) (.pair (.int .i64) (.pair (.int .i64) (.pair (.int .i64) (.pair (.int .i64) (.pair (.int .i64) (.pair (.int .i64) (.int .i64))))))))) (.pair (.slice (.pair (.int .i64) (.pair (.slice (.int .i64)) (.int .i64)))) (.slice (.pair (.int .i64) (.pair (.int .i64) (.pair (.int .i64) (.pair (.slice (.pair (.int .i64) (.bool))) (.slice (.pair (.int .i64) (.pair (.int .i64) (.pair (.int .i64) (.pair (.int .i64) (.int .i64))))))))))))))))),(26,.pair (.int .i64) (.slice (.pair (.int .i64) (.pair (.int .i64) (.pair (.pair (.int .i64) (.pair (.slice (.str)) (.slice (.int .i64)))) (.pair (.pair (.int .i64) (.pair (.int .i64) (.pair (.int .i64) (.pair (.int .i64) (.pair (.int .i64) (.pair (.int .i64) (.pair (.int .i64) (.pair (.int .i64) (.int .i64))))))))) (.pair (.slice (.pair (.int .i64) (.pair (.slice (.int .i64)) (.int .i64)))) (.slice (.pair (.int .i64) (.pair (.int .i64) (.pair (.int .i64) (.pair (.slice (.pair (.int .i64) (.bool))) (.slice (.pair (.int .i64) (.pair (.int .i64) (.pair (.int .i64) (.pair (.int .i64) (.int .i64)))))))))))))))))),(27,.slice (.pair (.int .i64) (.pair (.int .i64) (.pair (.int .i64) (.pair (.int .i64) (.int .i64)))))),(36,.slice (.str)),(37,.slice (.int .i64)),(39,.pair (.int .i64) (.pair (.slice (.str)) (.slice (.int .i64)))),(41,.pair (.int .i64) (.pair (.int .i64) (.pair (.int .i64) (.pair (.int .i64) (.pair (.int .i64) (.pair (.int .i64) (.pair (.int .i64) (.pair (.int .i64) (.int .i64))))))))),(42,.slice (.pair (.int .i64) (.pair (.slice (.int .i64)) (.int .i64)))),(43,.slice (.pair (.int .i64) (.pair (.int .i64) (.pair (.int .i64) (.pair (.slice (.pair (.int .i64) (.bool))) (.slice (.pair (.int .i64) (.pair (.int .i64) (.pair (.int .i64) (.pair (.int .i64) (.int .i64))))))))))),(45,.pair (.slice (.pair (.int .i64) (.pair (.slice (.int .i64)) (.int .i64)))) (.slice (.pair (.int .i64) (.pair (.int .i64) (.pair (.int .i64) (.pair (.slice (.pair (.int .i64) (.bool))) (.slice (.pair (.int .i64) (.pair (.int .i64) (.pair (.int .i64) (.pair (.int .i64) (.int .i64)))))))))))),(47,.pair (.int .i64) (.pair (.int .i64) (.pair (.pair (.int .i64) (.pair (.slice (.str)) (.slice (.int .i64)))) (.pair (.pair (.int .i64) (.pair (.int .i64) (.pair (.int .i64) (.pair (.int .i64) (.pair (.int .i64) (.pair (.int .i64) (.pair (.int .i64) (.pair (.int .i64) (.int .i64))))))))) (.pair (.slice (.pair (.int .i64) (.pair (.slice (.int .i64)) (.int .i64)))) (.slice (.pair (.int .i64) (.pair (.int .i64) (.pair (.int .i64) (.pair (.slice (.pair (.int .i64) (.bool))) (.slice (.pair (.int .i64) (.pair (.int .i64) (.pair (.int .i64) (.pair (.int .i64) (.int .i64)))))))))))))))),(48,.slice (.pair (.int .i64) (.bool))),(50,.pair (.int .i64) (.pair (.int .i64) (.pair (.int .i64) (.pair (.slice (.pair (.int .i64) (.bool))) (.slice (.pair (.int .i64) (.pair (.int .i64) (.pair (.int .i64) (.pair (.int .i64) (.int .i64)))))))))),(58,.slice (.pair (.int .i64) (.pair (.int .i64) (.pair (.int .i64) (.pair (.int .i64) (.int .i64)))))),(59,.slice (.pair (.int .i64) (.pair (.int .i64) (.int .i64)))),(60,.slice (.pair (.int .i64) (.pair (.int .i64) (.pair (.int .i64) (.int .i64))))),(62,.pair (.slice (.pair (.int .i64) (.pair (.int .i64) (.pair (.int .i64) (.pair (.int .i64) (.int .i64)))))) (.pair (.slice (.pair (.int .i64) (.pair (.int .i64) (.int .i64)))) (.pair (.slice (.pair (.int .i64) (.pair (.int .i64) (.pair (.int .i64) (.int .i64))))) (.pair (.int .i64) (.int .i64))))),(66,.pair (.int .i64) (.int .i64)),(68,.pair (.int .i64) (.pair (.int .i64) (.pair (.int .i64) (.int .i64)))),(72,.slice (.bool)),(73,.slice (.slice (.int .i64))),(75,.pair (.int .i64) (.pair (.slice (.int .i64)) (.pair (.slice (.bool)) (.pair (.slice (.str)) (.pair (.slice (.int .i64)) (.slice (.slice (.int .i64)))))))),(80,.slice (.pair (.slice (.pair (.int .i64) (.pair (.slice (.int .i64)) (.int .i64)))) (.slice (.pair (.int .i64) (.pair (.int .i64) (.pair (.int .i64) (.pair (.slice (.pair (.int .i64) (.bool))) (.slice (.pair (.int .i64) (.pair (.int .i64) (.pair (.int .i64) (.pair (.int .i64) (.int .i64))))))))))))),(81,.slice (.slice (.pair (.int .i64) (.pair (.int .i64) (.pair (.int .i64) (.pair (.int .i64) (.int .i64))))))),(83,.pair (.slice (.pair (.slice (.pair (.int .i64) (.pair (.slice (.int .i64)) (.int .i64)))) (.slice (.pair (.int .i64) (.pair (.int .i64) (.pair (.int .i64) (.pair (.slice (.pair (.int .i64) (.bool))) (.slice (.pair (.int .i64) (.pair (.int .i64) (.pair (.int .i64) (.pair (.int .i64) (.int .i64))))))))))))) (.slice (.slice (.pair (.int .i64) (.pair (.int .i64) (.pair (.int .i64) (.pair (.int .i64) (.int .i64)))))))),(109,.pair (.int .i64) (.bool)),(114,.int .u64),(133,.pair (.slice (.int .u8)) (.pair (.int .i64) (.int .i64))),(136,.pair (.int .i64) (.pair (.int .i64) (.pair (.int .i64) (.pair (.int .i64) (.int .i64))))),(140,.pair (.int .i64) (.pair (.int .i64) (.pair (.int .i64) (.pair (.int .i64) (.int .i64))))),(142,.pair (.int .i64) (.pair (.int .i64) (.int .i64))),(152,.pair (.int .i64) (.pair (.slice (.int .i64)) (.int .i64))),(173,.pair (.int .i64) (.pair (.int .i64) (.pair (.int .i64) (.pair (.int .i64) (.int .i64))))),(193,.pair (.int .i64) (.pair (.int .i64) (.pair (.int .i64) (.pair (.int .i64) (.pair (.int .i64) (.pair (.int .i64) (.int .i64))))))),(197,.slice (.pair (.int .i64) (.pair (.int .i64) (.pair (.int .i64) (.pair (.int .i64) (.int .i64)))))),(201,.slice (.pair (.int .i64) (.pair (.int .i64) (.pair (.int .i64) (.pair (.int .i64) (.pair (.int .i64) (.int .i64))))))),(213,.pair (.int .i64) (.pair (.int .i64) (.pair (.int .i64) (.int .i64)))),(226,.pair (.int .i64) (.pair (.int .i64) (.pair (.int .i64) (.pair (.int .i64) (.pair (.int .i64) (.int .i64)))))),(249,.slice (.pair (.int .i64) (.int .i64))),(262,.slice (.pair (.int .i64) (.pair (.int .i64) (.pair (.int .i64) (.pair (.int .i64) (.pair (.int .i64) (.pair (.int .i64) (.int .i64)))))))),(298,.arr 5 (.int .i64)),(319,.int .u32),(320,.int .u8),(321,.int .u8),(324,.int .i32),(325,.int .i32)]
def flds:List (Nat×List (Nat×Ty)):=[(8,[(0,.int .i64),(1,.int .i64),(2,.bool),(3,.int .u8)]),(14,[(0,.str),(1,.int .u64)]),(26,[(0,.int .i64),(1,.slice (.pair (.int .i64) (.pair (.int .i64) (.pair (.pair (.int .i64) (.pair (.slice (.str)) (.slice (.int .i64)))) (.pair (.pair (.int .i64) (.pair (.int .i64) (.pair (.int .i64) (.pair (.int .i64) (.pair (.int .i64) (.pair (.int .i64) (.pair (.int .i64) (.pair (.int .i64) (.int .i64))))))))) (.pair (.slice (.pair (.int .i64) (.pair (.slice (.int .i64)) (.int .i64)))) (.slice (.pair (.int .i64) (.pair (.int .i64) (.pair (.int .i64) (.pair (.slice (.pair (.int .i64) (.bool))) (.slice (.pair (.int .i64) (.pair (.int .i64) (.pair (.int .i64) (.pair (.int .i64) (.int .i64)))))))))))))))))]),(39,[(0,.int .i64),(1,.slice (.str)),(2,.slice (.int .i64))]),(41,[(0,.int .i64),(1,.int .i64),(2,.int .i64),(3,.int .i64),(4,.int .i64),(5,.int .i64),(6,.int .i64),(7,.int .i64),(8,.int .i64)]),(45,[(0,.slice (.pair (.int .i64) (.pair (.slice (.int .i64)) (.int .i64)))),(1,.slice (.pair (.int .i64) (.pair (.int .i64) (.pair (.int .i64) (.pair (.slice (.pair (.int .i64) (.bool))) (.slice (.pair (.int .i64) (.pair (.int .i64) (.pair (.int .i64) (.pair (.int .i64) (.int .i64)))))))))))]),(47,[(0,.int .i64),(1,.int .i64),(2,.pair (.int .i64) (.pair (.slice (.str)) (.slice (.int .i64)))),(5,.pair (.int .i64) (.pair (.int .i64) (.pair (.int .i64) (.pair (.int .i64) (.pair (.int .i64) (.pair (.int .i64) (.pair (.int .i64) (.pair (.int .i64) (.int .i64))))))))),(14,.pair (.slice (.pair (.int .i64) (.pair (.slice (.int .i64)) (.int .i64)))) (.slice (.pair (.int .i64) (.pair (.int .i64) (.pair (.int .i64) (.pair (.slice (.pair (.int .i64) (.bool))) (.slice (.pair (.int .i64) (.pair (.int .i64) (.pair (.int .i64) (.pair (.int .i64) (.int .i64))))))))))))]),(50,[(0,.int .i64),(1,.int .i64),(2,.int .i64),(3,.slice (.pair (.int .i64) (.bool))),(4,.slice (.pair (.int .i64) (.pair (.int .i64) (.pair (.int .i64) (.pair (.int .i64) (.int .i64))))))]),(62,[(0,.slice (.pair (.int .i64) (.pair (.int .i64) (.pair (.int .i64) (.pair (.int .i64) (.int .i64)))))),(1,.slice (.pair (.int .i64) (.pair (.int .i64) (.int .i64)))),(2,.slice (.pair (.int .i64) (.pair (.int .i64) (.pair (.int .i64) (.int .i64))))),(3,.int .i64),(4,.int .i64)]),(66,[(0,.int .i64),(1,.int .i64)]),(68,[(0,.int .i64),(1,.int .i64),(2,.pair (.int .i64) (.int .i64))]),(75,[(0,.int .i64),(1,.slice (.int .i64)),(2,.slice (.bool)),(3,.slice (.str)),(4,.slice (.int .i64)),(5,.slice (.slice (.int .i64)))]),(83,[(0,.slice (.pair (.slice (.pair (.int .i64) (.pair (.slice (.int .i64)) (.int .i64)))) (.slice (.pair (.int .i64) (.pair (.int .i64) (.pair (.int .i64) (.pair (.slice (.pair (.int .i64) (.bool))) (.slice (.pair (.int .i64) (.pair (.int .i64) (.pair (.int .i64) (.pair (.int .i64) (.int .i64))))))))))))),(1,.slice (.slice (.pair (.int .i64) (.pair (.int .i64) (.pair (.int .i64) (.pair (.int .i64) (.int .i64)))))))]),(109,[(0,.int .i64),(1,.bool)]),(133,[(0,.slice (.int .u8)),(1,.int .i64),(2,.int .i64)]),(136,[(0,.int .i64),(1,.int .i64),(2,.int .i64),(3,.int .i64),(4,.int .i64)]),(140,[(0,.int .i64),(1,.int .i64),(2,.int .i64),(3,.int .i64),(4,.int .i64)]),(142,[(0,.int .i64),(1,.int .i64),(2,.int .i64)]),(152,[(0,.int .i64),(1,.slice (.int .i64)),(2,.int .i64)]),(173,[(0,.int .i64),(1,.int .i64),(2,.int .i64),(3,.int .i64),(4,.int .i64)]),(193,[(0,.int .i64),(1,.int .i64),(2,.int .i64),(3,.int .i64),(4,.int .i64),(5,.int .i64),(6,.int .i64)]),(213,[(0,.int .i64),(1,.int .i64),(2,.int .i64),(3,.int .i64)]),(226,[(0,.int .i64),(1,.int .i64),(2,.int .i64),(3,.int .i64),(4,.int .i64),(5,.int .i64)])]
def eqs:List Nat:=[41,66,68,109,136,140,142,173,193,213,226]
set_option maxRecDepth 100000 in
theorem tys_ok:tysB Tryz.prog tys=true:=by kernel_rfl
set_option maxRecDepth 100000 in
theorem flds_ok:allFldsB Tryz.prog flds=true:=by kernel_rfl
set_option maxRecDepth 100000 in
theorem eqs_ok:eqsB Tryz.prog tys eqs=true:=by kernel_rfl
theorem mixed:Tryz.prog.follows .mixedOrders=true:=by kernel_rfl
noncomputable def mkC (n:Nat)(res keep:List Nat)(l:List (Known Tryz.prog)):Ctx:=⟨n,tys,flds,res,keep,fnOf l,eqs,fun _=>none,[],fun _=>none,false,fun _=>none,false,fun _=>none⟩
theorem mO (n:Nat)(res keep:List Nat)(l:List (Known Tryz.prog)):CtxOk Tryz.prog (mkC n res keep l):=ctxOk tys_ok flds_ok eqs_ok (fun _ _ h=>by cases h) (fun _ _ h=>by cases h)
noncomputable def mkCM (n:Nat)(res keep:List Nat)(l:List (Known Tryz.prog))(lm:List (KnownM Tryz.prog))(lt:List (KnownT Tryz.prog))(pins:List Nat):Ctx:=⟨n,tys,flds,res,keep,fnOf l,eqs,fnOfM lm,pins,fnOfT lt,false,fun _=>none,false,fun _=>none⟩
theorem mkCM_ok (n:Nat)(res keep:List Nat)(l:List (Known Tryz.prog))(lm:List (KnownM Tryz.prog))(lt:List (KnownT Tryz.prog))(pins:List Nat):CtxOk Tryz.prog (mkCM n res keep l lm lt pins):=ctxOk tys_ok flds_ok eqs_ok (fnOfM_ok lm) (fnOfT_ok lt)
noncomputable def mkCK (n:Nat)(res keep:List Nat)(l:List (Known Tryz.prog))(lm:List (KnownM Tryz.prog))(lt:List (KnownT Tryz.prog))(lk:List (KnownK Tryz.prog))(pins:List Nat):Ctx:=⟨n,tys,flds,res,keep,fnOf l,eqs,fnOfM lm,pins,fnOfT lt,false,fnOfK lk,false,fun _=>none⟩
theorem mkCK_ok (n:Nat)(res keep:List Nat)(l:List (Known Tryz.prog))(lm:List (KnownM Tryz.prog))(lt:List (KnownT Tryz.prog))(lk:List (KnownK Tryz.prog))(pins:List Nat):CtxOk Tryz.prog (mkCK n res keep l lm lt lk pins):=ctxOk tys_ok flds_ok eqs_ok (fnOfM_ok lm) (fnOfT_ok lt) (fnOfK_ok lk)
noncomputable def mkCP (n:Nat)(res keep:List Nat)(l:List (Known Tryz.prog))(lm:List (KnownM Tryz.prog))(lt:List (KnownT Tryz.prog))(lp:List (KnownP Tryz.prog))(pins:List Nat):Ctx:=⟨n,tys,flds,res,keep,fnOf l,eqs,fnOfM lm,pins,fnOfT lt,false,fun _=>none,false,fnOfP lp⟩
theorem mkCP_ok (n:Nat)(res keep:List Nat)(l:List (Known Tryz.prog))(lm:List (KnownM Tryz.prog))(lt:List (KnownT Tryz.prog))(lp:List (KnownP Tryz.prog))(pins:List Nat):CtxOk Tryz.prog (mkCP n res keep l lm lt lp pins):=ctxOk tys_ok flds_ok eqs_ok (fnOfM_ok lm) (fnOfT_ok lt) (fun _ _ h=>by cases h) (fnOfP_ok lp)
end Fw
