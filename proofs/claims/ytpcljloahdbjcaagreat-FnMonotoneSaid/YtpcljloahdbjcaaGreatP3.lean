/- The rule for a region whose order is drawn. Conditions: none. -/
import Derived.Test.YtpcljloahdbjcaaGreatP2
set_option linter.unusedSimpArgs false
set_option linter.unusedVariables false
namespace Fw
open Go
def okRW (ops:List Oper)(rw:RW):Bool:=edgesOk 0 ops&&allOk (masks ops []) 0 rw
def rdF {R:Type}:List Nat→(List Nat→R)→R
 | [],k=>k []
 | x::r,k=>rdF r fun r'=>k (x::r')
theorem rdF_eq {R:Type}:∀ (l:List Nat) (k:List Nat→R),rdF l k=k l
 | [],_=>rfl
 | x::r,k=>by simp only[rdF,rdF_eq r]
def runD {R:Type}(C:Ctx)(ops:List Oper):List Oper→Env→(RW→RW→List Prop→Env→Option R)→Option R
 | [],ρ,k=>k [] [] [] ρ
 | o::r,ρ,k=>
   match step C ops ρ o with
   | some (ws,cs)=>putsK ρ ws fun ρ'=>rdF (readsOf ops ρ o) fun rd=>rdF (ws.map (·.slot)) fun sl=>rdF (prOf ops ρ o) fun pr=>rdF (bSl ws) fun bs=>runD C ops r ρ' fun rw rp cs' ρ2=>appK cs cs' fun cs''=>k ((rd,sl)::rw) ((pr,bs)::rp) cs'' ρ2
   | none=>none
theorem runD_ok {R:Type}{C:Ctx}{ops:List Oper}:∀ (l:List Oper) (ρ:Env) (k:RW→RW→List Prop→Env→Option R) (r:R),runD C ops l ρ k=some r→
   ∃ T ρ2,trace C ops l ρ=some (T,ρ2)∧k (rwOf T) (rpOf T) (condsL T) ρ2=some r
 | [],ρ,k,r,h=>⟨[],ρ,rfl,h⟩
 | o::l,ρ,k,r,h=>by
   simp only[runD]at h
   split at h
   · rename_i ws cs hs
     rw[putsK_eq,rdF_eq,rdF_eq,rdF_eq,rdF_eq]at h
     obtain⟨T,ρ2,h1,h2⟩:=runD_ok l _ _ r h
     rw[appK_eq]at h2
     refine⟨⟨readsOf ops ρ o,prOf ops ρ o,ws,cs⟩::T,ρ2,?_,h2⟩
     simp only[trace,hs,putsK_eq,h1]
   · cases h
section
variable {G:Cfg} {ρ:Env} {K:Exit→Env→Prop}
def regD (C:Ctx)(ops:List Oper)(ρ:Env):Option (RW×List Prop×Env):=
 if pinB C.pins ops=true then runD C ops ops ρ fun rw rp cs ρ2=>if ptrB ρ rp=true then keepK C.keep C.keep ρ2 (fun ρ'=>some (rw,cs,ρ'))else none else none
theorem VrD (hm:G.P.follows .mixedOrders=true)(hG:G.Ok){id:Nat}{ops:Array Oper}{rw:RW}{cs:List Prop}{ρ2:Env}(h:regD G.C ops.toList ρ=some (rw,cs,ρ2))
   (hok:okRW ops.toList rw=true) (hc:conj cs) (hK:K .normal ρ2):Vc G (.region id ops true) ρ K:=by
 intro a w hd hS
 unfold regD at h
 split at h
 case isFalse=>cases h
 rename_i hpin
 obtain⟨T,ρ',ht,h2⟩:=runD_ok _ _ _ _ h
 split at h2
 case isFalse=>cases h2
 rename_i hptr
 rw[keepK_eq]at h2
 simp only[Option.some.injEq,Prod.mk.injEq]at h2
 obtain⟨rfl,rfl,rfl⟩:=h2
 exact region_any hm hG.ctx hG.fn hG.base ht hok hptr (condsL_of T (conj_mem _ hc)) hS.1 (pinB_ok hpin) fun a' w' hd' hpn hS'=>⟨_,hK,hd'.trans hd,keep_ok _ hS',fun t ht=>(hpn t ht).trans (hS.2 t ht)⟩
def tkRb {R:Type}(ρ:Env)(j g ver:Nat)(t:Ty)(x:El t)(org:Option Nat)(b:Bx)(k:(s:Sh)→El s.ty→List Wr→Option R):Option R:=
 match b with
 | .tp i=>if (ρ.get j).g=g then tkTp j i (ρ.get j) k else none
 | b=>tkOwn ⟨none,noEnt,.bor j g ver t x org b,ρ.get j⟩ k
def settleK {R:Type}(res:List Nat):List Nat→Env→(Env→Option R)→Option R
 | [],ρ,k=>k ρ
 | d::r,ρ,k=>
   match (ρ.get d).a with
   | .rb j g ver t x org b=>
     tkRb ρ j g ver t x org b fun s y ws=>
       if s.ty=t∧s.noref=true∧noneIs d ws=true then putsK ρ (ws++[⟨d,true,.c (.ref s) y⟩]) fun ρ'=>settleK res r ρ' k else none
   | .bor _ _ _ _ _ _ b=>
     if (isTp (ρ.get d).a||(memb d res&&!b.isEl))=true then
       match exTake d (opd ρ none (.tmp d))with
       | some (ws,[])=>putsK ρ ws fun ρ'=>settleK res r ρ' k
       | _=>none
     else settleK res r ρ k
   | _=>settleK res r ρ k
theorem cutK_any {R:Type}{s:Sh}{x:El s.ty}{off:Nat}{t:Ty}{k:(s:Sh)→El s.ty→(s2:Sh)→El s2.ty→Option R}{r:R}(h:s.cutK x off t k=some r):∃ s' y s2 x2,k s' y s2 x2=some r:=by
 obtain⟨s',y,s2,x2,h1,_⟩:=Sh.cutK_ok s x off t k r h
 exact⟨s',y,s2,x2,h1⟩
theorem tkOwn_any {R:Type}{o:Opd}{k:(s:Sh)→El s.ty→List Wr→Option R}{r:R}(h:tkOwn o k=some r):∃ s y ws,k s y ws=some r:=by
 unfold tkOwn at h
 split at h
 · split at h
   · unfold tkCut at h
     split at h
     · obtain⟨s',y,s2,x2,h1⟩:=cutK_any h
       split at h1
       · exact⟨_,_,_,h1⟩
       · cases h1
     · obtain⟨s',y,s2,x2,h1⟩:=cutK_any h
       split at h1
       · exact⟨_,_,_,h1⟩
       · cases h1
     · cases h
   · cases h
 · split at h
   · unfold tkTp at h
     split at h
     · split at h
       · exact⟨_,_,_,h⟩
       · cases h
     · cases h
   · cases h
 · split at h
   · exact⟨_,_,_,h⟩
   · split at h
     · exact⟨_,_,_,h⟩
     · cases h
 · cases h
theorem tkRb_any {R:Type}{ρ:Env}{j g ver:Nat}{t:Ty}{x:El t}{org:Option Nat}{b:Bx}{k:(s:Sh)→El s.ty→List Wr→Option R}{r:R}(h:tkRb ρ j g ver t x org b k=some r):∃ s y ws,k s y ws=some r:=by
 unfold tkRb at h
 split at h
 · split at h
   · unfold tkTp at h
     split at h
     · split at h
       · exact⟨_,_,_,h⟩
       · cases h
     · cases h
   · cases h
 · exact tkOwn_any h
theorem settle_any {R:Type}{res:List Nat}:∀ (l:List Nat) (ρ:Env) (k:Env→Option R) (r:R),settleK res l ρ k=some r→∃ ρ',k ρ'=some r∧True
 | [],ρ,k,r,h=>⟨ρ,h,trivial⟩
 | d::l,ρ,k,r,h=>by
   unfold settleK at h
   split at h
   · obtain⟨s,y,ws,h1⟩:=tkRb_any h
     split at h1
     · rw[putsK_eq]at h1;exact settle_any l _ k r h1
     · cases h1
   · split at h
     · split at h
       · rw[putsK_eq]at h;exact settle_any l _ k r h
       · cases h
     · exact settle_any l ρ k r h
   · exact settle_any l ρ k r h
theorem tkRb_ok {n B:Nat}{X:List Nat}{w0:World}{M0 M:Mem}{ω:Own}{ρ:Env}{tmps:Array Value}{w:World}(S:St0 n B X w0 M0 M ω ρ tmps w){R:Type}{j g ver:Nat}{t:Ty}{x:El t}{org:Option Nat}{b:Bx}
   {k:(s:Sh)→El s.ty→List Wr→Option R} {r:R} (h:tkRb ρ j g ver t x org b k=some r) {v0:Value} (hq:OpdR n M ω w ρ (vl tmps) ⟨none,noEnt,.bor j g ver t x org b,ρ.get j⟩ v0)
   (h0:∀ i,b=.tp i→(ρ.get j).g=g→j<n∧∃ vs:List Value,vl tmps j=.tuple vs.toArray∧vs[i]?=some v0):
   ∃ s x ws,k s x ws=some r∧∃ M' ω',St0 n B X w0 M0 M' ω' (ρ.puts ws) tmps w∧Moved n M M' ω ω' w ρ tmps ws n∧Taken n M' ω' w n v0 s x:=by
 unfold tkRb at h
 split at h
 · rename_i i
   split at h
   · rename_i hg
     obtain⟨g1,g2⟩:=h0 i rfl hg
     exact tkTp_ok S n g1 h g2
   · cases h
 · exact tkOwn_ok S n h hq
theorem settle_ok {n B:Nat}{X:List Nat}{w0:World}{M0:Mem}{tmps:Array Value}{w:World}{R:Type}{res:List Nat}:∀ (l:List Nat) (ρ:Env) (k:Env→Option R) (r:R),Sim n B X w0 M0 ρ tmps w→settleK res l ρ k=some r→
   ∃ ρ',k ρ'=some r∧Sim n B X w0 M0 ρ' tmps w
 | [],ρ,k,r,hS,h=>⟨ρ,h,hS⟩
 | d::l,ρ,k,r,hS,h=>by
   have low:(ρ.get d).a≠.junk→d<n:=fun hne=>by
     obtain⟨_,_,S⟩:=hS
     rcases Nat.lt_or_ge d n with h' | h'
     · exact h'
     · exact(hne (S.high d h')).elim
   unfold settleK at h
   split at h
   · rename_i j g ver t x org b ha
     have hd:=low (by rw[ha];simp)
     obtain⟨M,ω,S⟩:=hS
     have hr:=S.slots d hd
     rw[ha]at hr
     obtain⟨b0,v0,cs,q1,q2,q3,q4,h1,h0,h2⟩:=hr
     have hq:OpdR n M ω w ρ (vl tmps) ⟨none,noEnt,.bor j g ver t x org b,ρ.get j⟩ v0:=⟨fun _=>⟨h1,h2⟩,fun k hk=>by cases hk;rfl,fun j hj=>by cases hj⟩
     have hk:∃ s x ws,_=some r∧∃ M' ω',St0 n B X w0 M0 M' ω' (ρ.puts ws) tmps w∧Moved n M M' ω ω' w ρ tmps ws n∧Taken n M' ω' w n v0 s x:=tkRb_ok S h hq (fun i he hg=>⟨h1.1,h0 i he hg⟩)
     obtain⟨s,y,ws,g1,M',ω',S',m1,t1⟩:=hk
     split at g1
     · rename_i hc
       obtain⟨c1,c2,c3⟩:=hc
       rw[putsK_eq]at g1
       obtain⟨cs2,bs,e1,e2,e3,e4⟩:=t1.enc
       have hag:s.ag=t.ag:=by rw[Sh.ag_ty s c2,c1]
       rw[hag]at e1
       have:=ValC.fun_ e1 q4
       subst this
       have hsame:=Env.puts_other ws ρ d (noneIs_ok c3)
       have hb0:=(m1.step.own d hd hsame b0 q2).1
       obtain⟨ω2,S2⟩:=put_cont S' hd hb0 (row:=cs2) (w':=w) ⟨rfl,rfl,rfl,rfl,q3,fun _ _=>rfl⟩ (A':=.c (.ref s) y) (by
         refine⟨[vl tmps d],b0::bs,rfl,⟨b0,cs2,bs,rfl,by rw[show vl tmps d=_ from q1],q3,e2⟩,?_,?_⟩
         · rw[List.nodup_cons]
           refine⟨fun hm=>?_,e3⟩
           rw[e4 b0 hm]at hb0
           simp at hb0;omega
         · intro i hi
           rcases List.mem_cons.1 hi with rfl | hi
           · show (if ω' i=some n then some d else ω' i)=some d
             rw[if_neg (by rw[hb0];simp;omega)];exact hb0
           · exact if_pos (e4 i hi))
       exact settle_ok l _ k r ⟨M',ω2,by rw[Env.puts_append];exact S2⟩ g1
     · cases g1
   · rename_i j g ver t x org b ha
     split at h
     · split at h
       · rename_i ws ht
         rw[putsK_eq]at h
         have hd:=low (by rw[ha];simp)
         obtain⟨M,ω,S⟩:=hS
         obtain⟨M',ω',S'⟩:=exTake_ok S hd ht (opd_rel S (gd:=none) (fun _ _ _ _ e=>by cases e) (.tmp d) [])
         have hset:tmps.setIfInBounds d (Act.eval ⟨tmps,[]⟩ (.tmp d))=tmps:=by
           have hsz:d<tmps.size:=by rw[S.size];exact hd
           apply Array.ext
           · simp
           · intro i h1 h2
             by_cases hi:i=d
             · subst hi
               simp[Act.eval,Array.getD_eq_getD_getElem?,Array.getElem?_eq_getElem hsz]
             · rw[Array.getElem_setIfInBounds_ne _ (fun e=>hi e.symm)]
         rw[hset]at S'
         exact settle_ok l _ k r ⟨M',ω',S'⟩ h
       · cases h
     · exact settle_ok l ρ k r hS h
   · exact settle_ok l ρ k r hS h
def regL (C:Ctx)(ops:List Oper)(ρ:Env):Option (RW×List Prop×Env):=
 if pinB C.pins ops=true then runD { C with late:=true } ops ops ρ fun rw rp cs ρ2=>if ptrB ρ rp=true then settleK C.res C.keep ρ2 fun ρ3=>keepK C.keep C.keep ρ3 (fun ρ'=>some (rw,cs,ρ'))else none else none
theorem CtxOk.late {P:Program}{C:Ctx}(h:CtxOk P C)(b:Bool):CtxOk P { C with late:=b }:=⟨h.eq,h.ty,h.flds,h.fnM,h.fnT,h.fnK,h.fnP⟩
theorem VrL (hm:G.P.follows .mixedOrders=true)(hG:G.Ok){id:Nat}{ops:Array Oper}{rw:RW}{cs:List Prop}{ρ2:Env}(h:regL G.C ops.toList ρ=some (rw,cs,ρ2))
   (hok:okRW ops.toList rw=true) (hc:conj cs) (hK:K .normal ρ2):Vc G (.region id ops true) ρ K:=by
 intro a w hd hS
 unfold regL at h
 split at h
 case isFalse=>cases h
 rename_i hpin
 obtain⟨T,ρ',ht,h2⟩:=runD_ok _ _ _ _ h
 split at h2
 case isFalse=>cases h2
 rename_i hptr
 obtain⟨ρ3,h3,_⟩:=settle_any _ _ _ _ h2
 rw[keepK_eq]at h3
 simp only[Option.some.injEq,Prod.mk.injEq]at h3
 obtain⟨rfl,rfl,_⟩:=h3
 refine region_any hm (hG.ctx.late true) hG.fn hG.base ht hok hptr (condsL_of T (conj_mem _ hc)) hS.1 (pinB_ok hpin) fun a' w' hd' hpn hS'=>?_
 obtain⟨ρ3,h3,hS3⟩:=settle_ok _ _ _ _ hS' h2
 rw[keepK_eq]at h3
 simp only[Option.some.injEq,Prod.mk.injEq]at h3
 obtain⟨_,_,rfl⟩:=h3
 exact⟨_,hK,hd'.trans hd,keep_ok _ hS3,fun t ht=>(hpn t ht).trans (hS.2 t ht)⟩
def regT (C:Ctx)(ops:List Oper)(ρ:Env):Option (List Prop×Env):=
 if pinB C.pins ops=true then runK { C with late:=true } ops ops ρ fun cs ρ2=>settleK C.res C.keep ρ2 fun ρ3=>keepK C.keep C.keep ρ3 (fun ρ'=>some (cs,ρ'))else none
theorem VrT (hG:G.Ok){id:Nat}{ops:Array Oper}{cs:List Prop}{ρ2:Env}(h:regT G.C ops.toList ρ=some (cs,ρ2))(hc:conj cs)(hK:K .normal ρ2):
   Vc G (.region id ops false) ρ K:=by
 intro a w hd hS
 unfold regT at h
 split at h
 case isFalse=>cases h
 rename_i hpin
 obtain⟨T,ρ',ht,h2⟩:=runK_ok _ _ _ _ h
 obtain⟨ρ3,h3,_⟩:=settle_any _ _ _ _ h2
 rw[keepK_eq]at h3
 simp only[Option.some.injEq,Prod.mk.injEq]at h3
 obtain⟨rfl,_⟩:=h3
 refine region_seq (hG.ctx.late true) hG.fn hG.base ht (condsL_of T (conj_mem _ hc)) hS.1 (pinB_ok hpin) fun a' w' hd' hpn hS'=>?_
 obtain⟨ρ3,h3,hS3⟩:=settle_ok _ _ _ _ hS' h2
 rw[keepK_eq]at h3
 simp only[Option.some.injEq,Prod.mk.injEq]at h3
 obtain⟨_,rfl⟩:=h3
 exact⟨_,hK,hd'.trans hd,keep_ok _ hS3,fun t ht=>(hpn t ht).trans (hS.2 t ht)⟩
def regB (C:Ctx)(ops:List Oper)(ρ:Env):Option (List Prop×Env):=
 if pinB C.pins ops=true then runK { C with lateB:=true } ops ops ρ fun cs ρ2=>keepK C.keep C.keep ρ2 (fun ρ'=>some (cs,ρ'))else none
theorem CtxOk.lateB {P:Program}{C:Ctx}(h:CtxOk P C)(b:Bool):CtxOk P { C with lateB:=b }:=⟨h.eq,h.ty,h.flds,h.fnM,h.fnT,h.fnK,h.fnP⟩
theorem VrB (hG:G.Ok){id:Nat}{ops:Array Oper}{cs:List Prop}{ρ2:Env}(h:regB G.C ops.toList ρ=some (cs,ρ2))(hc:conj cs)(hK:K .normal ρ2):
   Vc G (.region id ops false) ρ K:=by
 intro a w hd hS
 unfold regB at h
 split at h
 case isFalse=>cases h
 rename_i hpin
 obtain⟨T,ρ',ht,h2⟩:=runK_ok _ _ _ _ h
 rw[keepK_eq]at h2
 simp only[Option.some.injEq,Prod.mk.injEq]at h2
 obtain⟨rfl,rfl⟩:=h2
 refine region_seq (hG.ctx.lateB true) hG.fn hG.base ht (condsL_of T (conj_mem _ hc)) hS.1 (pinB_ok hpin) fun a' w' hd' hpn hS'=>?_
 exact⟨_,hK,hd'.trans hd,keep_ok _ hS',fun t ht=>(hpn t ht).trans (hS.2 t ht)⟩
end
end Fw
namespace Fw
open Go
section
variable {n B:Nat} {X:List Nat} {w0:World} {M0 M:Mem} {ω:Own} {ρ:Env} {tmps:Array Value} {w:World}
theorem keep_ok0 (ks:List Nat)(S:St0 n B X w0 M0 M ω ρ tmps w):St0 n B X w0 M0 M ω (keepE ks ks ρ) tmps w:=by
 have hg:=keepE_get ks ks ρ
 refine⟨S.size,S.fr,S.m0,S.old,S.mem,S.dis,fun t ht=>?_,fun t ht=>?_⟩
 · rw[hg]
   split
   · simp only[S.high t ht];rfl
   · rfl
 · rw[hg]
   split
   · simp only
     have hr:=S.slots t ht
     generalize (ρ.get t).a=a at hr
     have hent:∀ k,memb k ks=true→(((keepE ks ks ρ).get k).g=(ρ.get k).g∧((keepE ks ks ρ).get k).ver=(ρ.get k).ver∧((keepE ks ks ρ).get k).a=filt ks (ρ.get k).a):=by
       intro k hk
       rw[hg,if_pos (memb_mem hk)]
       exact⟨rfl,rfl,rfl⟩
     have hpl:∀ k cs,Place ω w k (ρ.get k).a (vl tmps k) cs→Place ω w k (filt ks (ρ.get k).a) (vl tmps k) cs:=by
       intro k cs h
       cases h':(ρ.get k).a<;>rw[h']at h<;>first | exact h | exact h.elim
     cases a with
     | junk=>exact trivial
     | c s x=>exact hr
     | ptr k g off=>
       by_cases hk:memb k ks=true
       · have ef:filt ks (.ptr k g off)=.ptr k g off:=by simp[filt,filtK,hk]
         rw[ef]
         obtain⟨e1,e2,e3⟩:=hent k hk
         obtain⟨h1,h2⟩:=hr
         exact⟨⟨h1.1,by rw[e1];exact h1.2⟩,fun h=>h2 (by rw[←e1];exact h)⟩
       · have ef:filt ks (.ptr k g off)=.junk:=by simp[filt,filtK,hk]
         rw[ef];exact trivial
     | bor k g ver u x org e=>
       by_cases hk:memb k ks=true
       · have ef:filt ks (.bor k g ver u x org e)=.bor k g ver u x org e:=by simp[filt,filtK,hk]
         rw[ef]
         obtain⟨e1,e2,e3⟩:=hent k hk
         obtain⟨h1,h2⟩:=hr
         refine⟨⟨h1.1,by rw[e1];exact h1.2.1,by rw[e1,e2];exact h1.2.2⟩,fun h=>?_⟩
         obtain⟨cs,g1,g2,g3,g4⟩:=h2 ⟨by rw[←e1];exact h.1,by rw[←e2];exact h.2⟩
         refine⟨cs,g1,g2,fun off ho=>?_,fun off et i eo he=>by
           obtain⟨pc,b,len,cap,row,q1,q⟩:=g4.1 off et i eo he
           exact⟨pc,b,len,cap,row,by rw[e3];exact hpl k pc q1,q⟩,by rw[e3];exact g4.2.place (hpl k)⟩
         obtain⟨pc,p1,p2⟩:=g3 off ho
         exact⟨pc,by rw[e3];exact hpl k pc p1,p2⟩
       · have ef:filt ks (.bor k g ver u x org e)=.junk:=by simp[filt,filtK,hk]
         rw[ef];exact trivial
     | elp k g ver off et i eo arr=>
       by_cases hk:memb k ks=true
       · have ef:filt ks (.elp k g ver off et i eo arr)=.elp k g ver off et i eo arr:=by simp[filt,filtK,hk]
         rw[ef]
         obtain⟨e1,e2,e3⟩:=hent k hk
         obtain⟨h1,h2⟩:=hr
         refine⟨⟨h1.1,by rw[e1];exact h1.2.1,by rw[e1,e2];exact h1.2.2⟩,fun h=>?_⟩
         have h3:=h2 ⟨by rw[←e1];exact h.1,by rw[←e2];exact h.2⟩
         unfold ElpR at *
         cases arr with
         | none=>
           simp only[Option.isSome_none,Bool.false_eq_true,if_false]at h3 ⊢
           obtain⟨pc,k1,k2⟩:=h3
           exact⟨pc,by rw[e3];exact hpl k pc k1,k2⟩
         | some m=>exact h3
       · have ef:filt ks (.elp k g ver off et i eo arr)=.junk:=by simp[filt,filtK,hk]
         rw[ef];exact trivial
     | al k g ag off=>
       by_cases hk:memb k ks=true
       · have ef:filt ks (.al k g ag off)=.al k g ag off:=by simp[filt,filtK,hk]
         rw[ef]
         obtain⟨e1,e2,e3⟩:=hent k hk
         obtain⟨h1,b,cs,h2,h3,h4⟩:=hr
         exact⟨⟨h1.1,by rw[e1];exact h1.2⟩,b,cs,h2,h3,fun h=>h4 (by rw[←e1];exact h)⟩
       · have ef:filt ks (.al k g ag off)=.junk:=by simp[filt,filtK,hk]
         rw[ef];exact trivial
     | eptr u x off=>exact hr
     | cond s g v b a=>exact trivial
     | tup l=>exact hr
     | fn f=>exact hr
     | br _ _ _ _ _ _ _=>exact trivial
     | lz _ _ _ _ _ _ _=>exact trivial
     | rb k g ver u x org e=>
       by_cases hk:memb k ks=true
       · have ef:filt ks (.rb k g ver u x org e)=.rb k g ver u x org e:=by simp[filt,filtK,hk]
         rw[ef]
         obtain⟨e1,e2,e3⟩:=hent k hk
         obtain⟨b,v0,cs,q1,q2,q3,q4,h1,h0,h2⟩:=hr
         refine⟨b,v0,cs,q1,q2,q3,q4,⟨h1.1,by rw[e1];exact h1.2.1,by rw[e1,e2];exact h1.2.2⟩,by rw[e1];exact h0,fun h=>?_⟩
         obtain⟨cs,g1,g2,g3,g4⟩:=h2 ⟨by rw[←e1];exact h.1,by rw[←e2];exact h.2⟩
         refine⟨cs,g1,g2,fun off ho=>?_,fun off et i eo he=>by
           obtain⟨pc,b,len,cap,row,q1,q⟩:=g4.1 off et i eo he
           exact⟨pc,b,len,cap,row,by rw[e3];exact hpl k pc q1,q⟩,by rw[e3];exact g4.2.place (hpl k)⟩
         obtain⟨pc,p1,p2⟩:=g3 off ho
         exact⟨pc,by rw[e3];exact hpl k pc p1,p2⟩
       · have ef:filt ks (.rb k g ver u x org e)=.junk:=by simp[filt,filtK,hk]
         rw[ef];exact trivial
     | clo f k g=>
       by_cases hk:memb k ks=true
       · have ef:filt ks (.clo f k g)=.clo f k g:=by simp[filt,filtK,hk]
         rw[ef]
         obtain⟨e1,e2,e3⟩:=hent k hk
         obtain⟨h1,h2⟩:=hr
         exact⟨⟨h1.1,by rw[e1];exact h1.2⟩,fun h=>h2 (by rw[←e1];exact h)⟩
       · have ef:filt ks (.clo f k g)=.junk:=by simp[filt,filtK,hk]
         rw[ef];exact trivial
   · exact trivial
theorem put_front (S:St0 n B X w0 M0 M ω ρ tmps w){s:Nat}{sh:Sh}{z:El sh.ty}(hs:s<n)(he:ρ.get s=noEnt)(ho:Owns M ω w s sh z (vl tmps s)):
   St0 n B X w0 M0 M ω ((s,⟨0,0,.c sh z⟩)::ρ) tmps w:=by
 have hget:∀ t,Env.get ((s,⟨0,0,.c sh z⟩)::ρ) t=if s=t then⟨0,0,.c sh z⟩else ρ.get t:=fun t=>rfl
 have hg:∀ t,(Env.get ((s,⟨0,0,.c sh z⟩)::ρ) t).g=(ρ.get t).g∧(Env.get ((s,⟨0,0,.c sh z⟩)::ρ) t).ver=(ρ.get t).ver:=by
   intro t
   rw[hget]
   split
   · rename_i e;subst e;rw[he];exact⟨rfl,rfl⟩
   · exact⟨rfl,rfl⟩
 have hpl:∀ k cs,Place ω w k (ρ.get k).a (vl tmps k) cs→Place ω w k (Env.get ((s,⟨0,0,.c sh z⟩)::ρ) k).a (vl tmps k) cs:=by
   intro k cs h
   rw[hget]
   split
   · rename_i e;subst e;rw[he]at h;exact h.elim
   · exact h
 refine⟨S.size,S.fr,S.m0,S.old,S.mem,S.dis,fun t ht=>?_,fun t ht=>?_⟩
 · rw[hget,if_neg (by omega)];exact S.high t ht
 · rw[hget]
   split
   · rename_i e;subst e;exact ho
   · have hr:=S.slots t ht
     revert hr
     generalize (ρ.get t).a=a
     intro hr
     have key:∀ a,Rel0 n M ω w ρ (fun t=>tmps.getD t undef) t (tmps.getD t undef) a→Rel0 n M ω w ((s,⟨0,0,.c sh z⟩)::ρ) (fun t=>tmps.getD t undef) t (tmps.getD t undef) a:=by
       intro a hr
       cases a with
       | ptr k g off=>exact⟨⟨hr.1.1,by rw[(hg k).1];exact hr.1.2⟩,fun h=>hr.2 (by rw[←(hg k).1];exact h)⟩
       | clo f k g=>exact⟨⟨hr.1.1,by rw[(hg k).1];exact hr.1.2⟩,fun h=>hr.2 (by rw[←(hg k).1];exact h)⟩
       | bor k g ver u x org e=>
         obtain⟨h1,h2⟩:=hr
         refine⟨⟨h1.1,by rw[(hg k).1];exact h1.2.1,by rw[(hg k).1,(hg k).2];exact h1.2.2⟩,fun h=>?_⟩
         obtain⟨cs,g1,g2,g3,g4⟩:=h2 ⟨by rw[←(hg k).1];exact h.1,by rw[←(hg k).2];exact h.2⟩
         refine⟨cs,g1,g2,fun off ho=>?_,fun off et i eo he=>by
           obtain⟨pc,b,len,cap,row,q1,q⟩:=g4.1 off et i eo he
           exact⟨pc,b,len,cap,row,hpl k pc q1,q⟩,g4.2.place (hpl k)⟩
         obtain⟨pc,p1,p2⟩:=g3 off ho
         exact⟨pc,hpl k pc p1,p2⟩
       | elp k g ver off et i eo arr=>
         obtain⟨h1,h2⟩:=hr
         refine⟨⟨h1.1,by rw[(hg k).1];exact h1.2.1,by rw[(hg k).1,(hg k).2];exact h1.2.2⟩,fun h=>?_⟩
         have h3:=h2 ⟨by rw[←(hg k).1];exact h.1,by rw[←(hg k).2];exact h.2⟩
         unfold ElpR at *
         cases arr with
         | none=>
           simp only[Option.isSome_none,Bool.false_eq_true,if_false]at h3 ⊢
           obtain⟨pc,k1,k2⟩:=h3
           exact⟨pc,hpl k pc k1,k2⟩
         | some m=>exact h3
       | al k g ag off=>
         obtain⟨h1,b,cs,h2,h3,h4⟩:=hr
         exact⟨⟨h1.1,by rw[(hg k).1];exact h1.2⟩,b,cs,h2,h3,fun h=>h4 (by rw[←(hg k).1];exact h)⟩
       | br k g ver off n1 s' ys=>
         obtain⟨h1,h2⟩:=hr
         refine⟨⟨h1.1,by rw[(hg k).1];exact h1.2.1,by rw[(hg k).1,(hg k).2];exact h1.2.2⟩,fun h=>?_⟩
         obtain⟨olds,news,bs,g1,g2,g3,g4⟩:=h2 ⟨by rw[←(hg k).1];exact h.1,by rw[←(hg k).2];exact h.2⟩
         refine⟨olds,news,bs,g1,g2,?_,g4⟩
         rcases g3 with g3 | ⟨pc,b,len,cap,row,q1,q⟩
         · exact .inl g3
         · exact .inr ⟨pc,b,len,cap,row,hpl k pc q1,q⟩
       | lz k g ver off n1 lo s'=>
         obtain⟨h1,h2⟩:=hr
         refine⟨⟨h1.1,by rw[(hg k).1];exact h1.2.1,by rw[(hg k).1,(hg k).2];exact h1.2.2⟩,fun h=>?_⟩
         obtain⟨pc,a,len,cap,lent,tls,q1,q⟩:=h2 ⟨by rw[←(hg k).1];exact h.1,by rw[←(hg k).2];exact h.2⟩
         exact⟨pc,a,len,cap,lent,tls,hpl k pc q1,q⟩
       | rb k g ver u x org e=>
         obtain⟨b,v0,cs0,q1,q2,q3,q4,h1,h0,h2⟩:=hr
         refine⟨b,v0,cs0,q1,q2,q3,q4,⟨h1.1,by rw[(hg k).1];exact h1.2.1,by rw[(hg k).1,(hg k).2];exact h1.2.2⟩,by rw[(hg k).1];exact h0,fun h=>?_⟩
         obtain⟨cs,g1,g2,g3,g4⟩:=h2 ⟨by rw[←(hg k).1];exact h.1,by rw[←(hg k).2];exact h.2⟩
         refine⟨cs,g1,g2,fun off ho=>?_,fun off et i eo he=>by
           obtain⟨pc,b,len,cap,row,q1,q⟩:=g4.1 off et i eo he
           exact⟨pc,b,len,cap,row,hpl k pc q1,q⟩,g4.2.place (hpl k)⟩
         obtain⟨pc,p1,p2⟩:=g3 off ho
         exact⟨pc,hpl k pc p1,p2⟩
       | _=>exact hr
     cases a with
     | cond s' g ver b a=>
       obtain⟨h1,h2⟩:=hr
       refine⟨⟨h1.1,by rw[(hg s').1];exact h1.2.1,by rw[(hg s').1,(hg s').2];exact h1.2.2⟩,fun h=>?_⟩
       have h3:=h2 ⟨by rw[←(hg s').1];exact h.1,by rw[←(hg s').2];exact h.2⟩
       exact⟨fun e=>key a (h3.1 e),h3.2⟩
     | junk=>exact trivial
     | c s' x=>exact key (.c s' x) hr
     | ptr k g off=>exact key (.ptr k g off) hr
     | bor k g ver u x org e=>exact key (.bor k g ver u x org e) hr
     | elp k g ver off et i eo arr=>exact key (.elp k g ver off et i eo arr) hr
     | eptr u x off=>exact key (.eptr u x off) hr
     | al k g ag off=>exact key (.al k g ag off) hr
     | tup l=>exact key (.tup l) hr
     | fn f=>exact key (.fn f) hr
     | br k g ver off n1 s ys=>exact key (.br k g ver off n1 s ys) hr
     | lz k g ver off n1 lo s=>exact key (.lz k g ver off n1 lo s) hr
     | rb k g ver u x org e=>exact key (.rb k g ver u x org e) hr
     | clo f k g=>exact key (.clo f k g) hr
abbrev LS:=List (Nat×Bool×Sh)
@[reducible] def LV:LS→Type
 | []=>Unit
 | q::r=>El q.2.2.ty×LV r
def envL:(L:LS)→LV L→Env→Env
 | [],_,ρ=>ρ
 | (s,true,sh)::L,v,ρ=>(s,⟨0,0,.c (.ref sh) v.1⟩)::envL L v.2 ρ
 | (s,false,sh)::L,v,ρ=>(s,⟨0,0,.c sh v.1⟩)::envL L v.2 ρ
def convA (r:Bool)(sh:Sh)(a:A)(k:El sh.ty→Prop):Prop:=
 match r,a with
 | true,.c (.ref s') x=>conv s' sh x k
 | true,_=>False
 | false,.c (.ref _) _=>False
 | false,.c s' x=>conv s' sh x k
 | false,_=>False
def loopK:(L:LS)→Env→(LV L→Prop)→Prop
 | [],_,k=>k ()
 | (s,r,sh)::L,ρ,k=>convA r sh (ρ.get s).a fun z=>loopK L ρ fun v=>k (z,v)
theorem convA_ok {r:Bool}{sh:Sh}{a:A}{k:El sh.ty→Prop}(h:convA r sh a k){n t:Nat}{vals:Vl}{v:Value}(hr:Rel n M ω w ρ vals t v a):
   ∃ z,k z∧Owns M ω w t (if r=true then .ref sh else sh) (cast (by cases r<;>rfl) z) v:=by
 cases a with
 | c s x=>
   have hr:Owns M ω w t s x v:=hr
   cases r with
   | true=>
     cases s with
     | ref s'=>
       have h:conv s' sh x k:=h
       obtain⟨z,h1,h2,h3⟩:=conv_ok (M:=M) (R:=rows w) s' sh x k h
       obtain⟨cs,bs,g1,⟨b,row,bss,g2,g3,g4,g5⟩,g6,g7⟩:=hr
       exact⟨z,h1,cs,bs,g1,⟨b,row,bss,g2,g3,g4,h3 row bss g5⟩,g6,g7⟩
     | _=>exact h.elim
   | false=>
     have h:conv s sh x k:=by cases s<;>first | exact h | exact h.elim
     obtain⟨z,h1,h2,h3⟩:=conv_ok (M:=M) (R:=rows w) s sh x k h
     obtain⟨cs,bs,g1,g2,g3,g4⟩:=hr
     exact⟨z,h1,cs,bs,by simp only[Bool.false_eq_true,if_false];rw[←h2];exact g1,h3 cs bs g2,g3,g4⟩
 | _=>cases r<;>exact h.elim
def noneOf (ks:List Nat):LS→Bool
 | []=>true
 | q::L=>!(memb q.1 ks)&&noneOf (q.1::ks) L
theorem loopK_ok (S:St0 n B X w0 M0 M ω ρ tmps w):∀ (L:LS) (ks:List Nat) (σ:Env) (k:LV L→Prop),noneOf ks L=true→loopK L ρ k→
   (∀ t,t∉ks→σ.get t=noEnt)→St0 n B X w0 M0 M ω σ tmps w→∃ v,k v∧St0 n B X w0 M0 M ω (envL L v σ) tmps w
 | [],ks,σ,k,_,h,_,S'=>⟨(),h,S'⟩
 | (s,r,sh)::L,ks,σ,k,hn,h,hks,S'=>by
   simp only[noneOf,Bool.and_eq_true,Bool.not_eq_true']at hn
   have hnot:∀ {x:Nat} {l:List Nat},memb x l=false→x∉l:=fun hm hx=>by rw[memb_of_mem hx]at hm;cases hm
   have hsn:s<n:=by
     rcases Nat.lt_or_ge s n with h' | h'
     · exact h'
     · simp only[loopK]at h
       rw[S.high s h']at h
       cases r<;>exact h.elim
   obtain⟨z,h1,h2⟩:=convA_ok h (S.slots s hsn)
   -- the rest first
   obtain⟨v,h3,S2⟩:=loopK_ok S L (s::ks) σ _ hn.2 h1 (fun t ht=>hks t (fun e=>ht (List.mem_cons_of_mem _ e))) S'
   have hge:∀ (L:LS) (ks:List Nat) (v:LV L),noneOf ks L=true→s∈ks→(envL L v σ).get s=σ.get s:=by
     intro L
     induction L with
     | nil=>intro ks v _ _;rfl
     | cons q L ih=>
       intro ks v hn hs
       obtain⟨s',r',sh'⟩:=q
       simp only[noneOf,Bool.and_eq_true,Bool.not_eq_true']at hn
       have hne:s'≠s:=fun e=>hnot hn.1 (e ▸ hs)
       have:=ih (s'::ks) v.2 hn.2 (List.mem_cons_of_mem _ hs)
       cases r'<;>(show (if s'=s then _ else Env.get (envL L v.2 σ) s)=_)<;>rw[if_neg hne]<;>exact this
   have he:(envL L v σ).get s=noEnt:=by
     rw[hge L (s::ks) v hn.2 (by simp)]
     exact hks s (hnot hn.1)
   refine⟨(z,v),h3,?_⟩
   cases r with
   | true=>exact put_front (sh:=.ref sh) (z:=z) S2 hsn he h2
   | false=>exact put_front (sh:=sh) (z:=z) S2 hsn he h2
end
section
variable {G:Cfg} {ρ:Env} {K:Exit→Env→Prop}
theorem Vc.loopF {c:Code}(L:LS)(F:List Nat)(I:LV L→Prop)(μ:LV L→Nat)(hn:noneOf F L=true)(h0:loopK L ρ I)
   (round:∀ v,I v→Vc G c (envL L v (keepE F F ρ)) (fun e ρ'=>match e with
     | .normal=>keepE F F ρ'=keepE F F ρ∧loopK L ρ' (fun v'=>I v'∧μ v'<μ v)
     | e=>K e ρ')):Vc G (.loop c) ρ K:=by
 have enter:∀ {ρ':Env} {k:LV L→Prop} {tmps:Array Value} {w:World},G.Sim ρ' tmps w→loopK L ρ' k→∃ v,k v∧G.Sim (envL L v (keepE F F ρ')) tmps w:=by
   intro ρ' k tmps w ⟨⟨M,ω,S⟩,hpn⟩ h
   obtain⟨v,h1,h2⟩:=loopK_ok S L F (keepE F F ρ') k hn h (fun t ht=>by rw[keepE_get,if_neg ht]) (keep_ok0 F S)
   exact⟨v,h1,⟨M,ω,h2⟩,hpn⟩
 intro a w hd hS
 obtain⟨v0,hI0,hS0⟩:=enter hS h0
 have key:∀ (m:Nat) (v:LV L) (a:Act) (w:World),μ v=m→I v→a.defers=[]→G.Sim (envL L v (keepE F F ρ)) a.tmps w→
     ∀ (b:Frame) (k:List Item) (cs:List Frame),∃ e a' w',(∃ ρ',K e ρ'∧a'.defers=[]∧G.Sim ρ' a'.tmps w')∧
       Arrives G.P (lone (b.at a (.code c::.inLoop c::k)) cs w) b k cs e a' w':=by
   intro m
   induction m using Nat.strongRecOn with
   | _ m ih=>
     intro v a w hm hI hd hS b k cs
     obtain⟨e,a₁,w₁,⟨ρ',hq,hd',hS'⟩,harr⟩:=round v hI a w hd hS b (.inLoop c::k) cs
     cases e with
     | normal=>
       obtain⟨hF,hq⟩:=hq
       obtain⟨v',⟨hI',hlt⟩,hS2⟩:=enter hS' hq
       rw[hF]at hS2
       obtain⟨e₂,a₂,w₂,hq₂,harr₂⟩:=ih (μ v') (hm ▸ hlt) v' a₁ w₁ rfl hI' hd' hS2 b k cs
       exact⟨e₂,a₂,w₂,hq₂,.of_steps (Steps.trans harr (.one step_inLoop)) harr₂⟩
     | exit id=>exact⟨_,a₁,w₁,⟨ρ',hq,hd',hS'⟩,.pass (x:=.inLoop c) rfl (fun _ _=>.inl (by simp)) harr⟩
     | goto l=>exact⟨_,a₁,w₁,⟨ρ',hq,hd',hS'⟩,.pass (x:=.inLoop c) rfl (fun _ _=>.inl (by simp)) harr⟩
     | ret=>exact⟨_,a₁,w₁,⟨ρ',hq,hd',hS'⟩,.pass (x:=.inLoop c) rfl (fun _ _=>.inl (by simp)) harr⟩
     | panic ch=>exact⟨_,a₁,w₁,⟨ρ',hq,hd',hS'⟩,.pass (x:=.inLoop c) rfl (fun _ _=>.inl (by simp)) harr⟩
     | outgrown=>exact⟨_,a₁,w₁,⟨ρ',hq,hd',hS'⟩,.pass (x:=.inLoop c) rfl (fun _ _=>.inl (by simp)) harr⟩
 intro b k cs
 obtain⟨e,a',w',hq,harr⟩:=key _ v0 a w rfl hI0 hd hS0 b k cs
 exact⟨e,a',w',hq,.of_steps (.one step_loop) harr⟩
end
def apart:List Nat→List Nat→Bool
 | [],_=>true
 | j::r,F=>!(memb j F)&&apart r F
section
variable {n B:Nat} {X:List Nat} {w0:World} {M0:Mem} {tmps:Array Value} {w:World}
end
section
variable {G:Cfg} {ρ:Env} {K:Exit→Env→Prop}
end
end Fw
namespace Fw
open Go
section
variable {n B:Nat} {X:List Nat} {w0:World} {M0 M:Mem} {ω:Own} {ρ:Env} {tmps:Array Value} {w:World}
end
section
variable {G:Cfg} {ρ:Env} {K:Exit→Env→Prop}
end
end Fw
namespace Fw
open Go
abbrev TI:Ty:=.int .i64
def inRangeF (a b c:Int):Bool:=pick2 (decide (b≤a)) (decide (a≤c)) false
def isTimeF (a:Int):Bool:=inRangeF a 0 10000
def isSpanF (s:Int×Int):Bool:=pick2 (pick2 (isTimeF s.1) (isTimeF s.2) false) (decide (s.1≤s.2)) false
def isInsideF (a b:Int×Int):Bool:=pick2 (pick2 (pick2 (isSpanF a) (isSpanF b) false) (decide (b.1≤a.1)) false) (decide (a.2≤b.2)) false
def isNarrowerF (a b:Int×Int×Int×Int):Bool:=isInsideF a.2.2 b.2.2
def isKept2 (a b:Int×Int×Int×Int):Bool:=pick2 (a.1==(3:Int)) true (b.1==a.1)
end Fw
namespace Fw
open Go
theorem w64 {x:Int}(h1:-9223372036854775808≤x)(h2:x≤9223372036854775807):IntKind.i64.wrap x=x:=by
 rw[IntKind.wrap_i64];omega
def Sm (n:Nat):(t:Ty)→El t→Prop
 | .slice e,xs=>xs.length≤n∧∀ x∈xs,Sm n e x
 | .pair a b,x=>Sm n a x.1∧Sm n b x.2
 | _,_=>True
def big20:Nat:=1048576
noncomputable def eqC {α:Type}(x y:α):Bool:=@decide (x=y) (Classical.propDecidable _)
theorem eqC_iff {α:Type}{x y:α}:eqC x y=true↔x=y:=by unfold eqC;simp
theorem eqC_self {α:Type}(x:α):eqC x x=true:=eqC_iff.2 rfl
theorem eqC_no {α:Type}{x y:α}(h:x=y→False):false=eqC x y:=by
 cases he:eqC x y with
 | false=>rfl
 | true=>exact(h (eqC_iff.1 he)).elim
theorem eqC_yes {α:Type}{x y:α}(h:x=y):true=eqC x y:=(eqC_iff.2 h).symm
theorem bneI {x y:Int}(h:(x != y)=false):x=y:=by simpa using h
theorem lenEq {m n:Nat}(h:((m:Int) != (n:Int))=false):m=n:=by
 have:(m:Int)=(n:Int):=bneI h
 omega
theorem notE {t:Ty}{x y:El t}(h:(!(El.eq t x y))=false)(hc:t.cmp=true):x=y:=by
 have key:∀ (t:Ty) (x y:El t),t.cmp=true→El.eq t x y=true→x=y:=by
   intro t
   induction t with
   | int k=>intro x y _ h;exact of_decide_eq_true (by simpa [El.eq] using h)
   | bool=>intro x y _ h;simpa [El.eq] using h
   | str=>intro x y _ h;simpa [El.eq] using h
   | slice e=>intro x y h;simp[Ty.cmp]at h
   | arr m e=>intro x y h;simp[Ty.cmp]at h
   | pair a b iha ihb=>
     intro x y hc h
     simp only[Ty.cmp,Bool.and_eq_true]at hc
     simp only[El.eq,Bool.and_eq_true]at h
     exact Prod.ext (iha x.1 y.1 hc.1 h.1) (ihb x.2 y.2 hc.2 h.2)
 exact key t x y hc (by simpa using h)
theorem El.eq_self:∀ (t:Ty) (x:El t),t.cmp=true→El.eq t x x=true:=by
 intro t
 induction t with
 | int k=>intro x _;simp[El.eq]
 | bool=>intro x _;simp[El.eq]
 | str=>intro x _;simp[El.eq]
 | slice e=>intro x h;simp[Ty.cmp]at h
 | arr m e=>intro x h;simp[Ty.cmp]at h
 | pair a b iha ihb=>
   intro x hc
   simp only[Ty.cmp,Bool.and_eq_true]at hc
   simp only[El.eq,Bool.and_eq_true]
   exact⟨iha x.1 hc.1,ihb x.2 hc.2⟩
def upInv {α:Type}(a:List α)(i:Int):Prop:=∃ k:Nat,k≤a.length∧i=k
theorem upStart {α:Type}{a:List α}:upInv a 0:=⟨0,Nat.zero_le _,rfl⟩
theorem upStep {α:Type}{a:List α}{i:Int}(h:upInv a i)(hl:i<a.length)(hb:a.length≤bigLen):upInv a (IntKind.i64.wrap (i+1))∧IntKind.i64.wrap (i+1)=i+1∧(a.length-(IntKind.i64.wrap (i+1))).toNat<(a.length-i).toNat:=by
 obtain⟨k,hk,rfl⟩:=h
 unfold bigLen at hb
 rw[w64 (by omega) (by omega)]
 exact⟨⟨k+1,by omega,by omega⟩,rfl,by omega⟩
theorem upRange {α:Type}{a:List α}{i:Int}(h:upInv a i)(hl:i<a.length):inRange i a.length:=by
 obtain⟨k,hk,rfl⟩:=h
 unfold inRange;omega
theorem upElem {α:Type}{a:List α}{d:α}{i:Int}(h:upInv a i)(hl:i<a.length):a.getD i.toNat d∈a:=by
 obtain⟨k,hk,rfl⟩:=h
 have:((k:Int)).toNat<a.length:=by omega
 rw[List.getD_eq_getElem?_getD,List.getElem?_eq_getElem this]
 simp
theorem take_snoc {α:Type}{a:List α}{d:α}{i:Int}(h:upInv a i)(hl:i<a.length):a.take (i+1).toNat=a.take i.toNat++[a.getD i.toNat d]:=by
 obtain⟨k,hk,rfl⟩:=h
 have h1:((k:Int)).toNat=k:=by omega
 have h2:((k:Int)+1).toNat=k+1:=by omega
 rw[h1,h2,List.take_succ_eq_append_getElem (by omega),List.getD_eq_getElem?_getD,List.getElem?_eq_getElem (by omega)]
 rfl
theorem up_end {α:Type}{a:List α}{i:Int}(h:upInv a i)(hl:¬i<a.length):i.toNat=a.length:=by
 obtain⟨k,hk,rfl⟩:=h;omega
def eqInv {α:Type}(a b:List α)(i:Int):Prop:=upInv a i∧a.length=b.length∧a.take i.toNat=b.take i.toNat
theorem eqStart {α:Type}{a b:List α}(h:a.length=b.length):eqInv a b 0:=⟨upStart,h,rfl⟩
theorem eqStep {α:Type}{a b:List α}{d:α}{i:Int}(h:eqInv a b i)(hl:i<a.length)(hb:a.length≤bigLen)(he:a.getD i.toNat d=b.getD i.toNat d):eqInv a b (IntKind.i64.wrap (i+1)):=by
 obtain⟨h1,h2,h3⟩:=h
 obtain⟨u1,u2,_⟩:=upStep h1 hl hb
 refine⟨u1,h2,?_⟩
 have hb1:upInv b i:=by obtain⟨k,hk,rfl⟩:=h1;exact⟨k,by omega,rfl⟩
 rw[u2,take_snoc (d:=d) h1 hl,take_snoc (d:=d) hb1 (by omega),h3,he]
theorem eqEnd {α:Type}{a b:List α}{i:Int}(h:eqInv a b i)(hl:¬i<a.length):a=b:=by
 obtain⟨h1,h2,h3⟩:=h
 have e:=up_end h1 hl
 rw[e,List.take_length]at h3
 rw[h3,h2,List.take_length]
theorem eqRange {α:Type}{a b:List α}{i:Int}(h:eqInv a b i)(hl:i<a.length):inRange i a.length∧inRange i b.length:=by
 obtain⟨⟨k,hk,rfl⟩,h2,_⟩:=h
 unfold inRange;omega
end Fw
namespace Fw
open Go
def findI {α:Type}(p:α→Bool)(l:List α):Int:=match l.findIdx? p with | some k=>k | none=>-1
def fInv {α:Type}(p:α→Bool)(a:List α)(i:Int):Prop:=upInv a i∧∀ x∈a.take i.toNat,p x=false
theorem fStart {α:Type}{p:α→Bool}{a:List α}:fInv p a 0:=⟨upStart,fun x hx=>by simp at hx⟩
theorem fStep {α:Type}{p:α→Bool}{a:List α}{d:α}{i:Int}(h:fInv p a i)(hl:i<a.length)(hb:a.length≤bigLen)(he:p (a.getD i.toNat d)=false):
   fInv p a (IntKind.i64.wrap (i+1))∧(a.length-(IntKind.i64.wrap (i+1))).toNat<(a.length-i).toNat:=by
 obtain⟨h1,h2⟩:=h
 obtain⟨u1,u2,u3⟩:=upStep h1 hl hb
 refine⟨⟨u1,?_⟩,u3⟩
 rw[u2,take_snoc (d:=d) h1 hl]
 intro x hx
 rcases List.mem_append.1 hx with hx | hx
 · exact h2 x hx
 · rw[List.mem_singleton.1 hx];exact he
theorem fHit {α:Type}{p:α→Bool}{a:List α}{d:α}{i:Int}(h:fInv p a i)(hl:i<a.length)(he:p (a.getD i.toNat d)=true):i=findI p a:=by
 obtain⟨⟨k,hk,rfl⟩,h2⟩:=h
 have h1:((k:Int)).toNat=k:=by omega
 rw[h1]at h2 he
 have hk':k<a.length:=by omega
 have:a.findIdx? p=some k:=by
   rw[List.findIdx?_eq_some_iff_getElem]
   refine⟨hk',?_,fun j hj=>?_⟩
   · rw[List.getD_eq_getElem?_getD,List.getElem?_eq_getElem hk']at he;exact he
   · have:=h2 (a[j]) (List.mem_take_iff_getElem.2 ⟨j,by omega,rfl⟩)
     simp[this]
 unfold findI;rw[this]
theorem fEnd {α:Type}{p:α→Bool}{a:List α}{i:Int}(h:fInv p a i)(hl:¬i<a.length):(-1:Int)=findI p a:=by
 obtain⟨h1,h2⟩:=h
 rw[up_end h1 hl,List.take_length]at h2
 have:a.findIdx? p=none:=by rw[List.findIdx?_eq_none_iff];exact h2
 unfold findI;rw[this]
theorem fRange {α:Type}{p:α→Bool}{a:List α}{i:Int}(h:fInv p a i)(hl:i<a.length):inRange i a.length:=upRange h.1 hl
theorem findI_lt {α:Type}{p:α→Bool}(a:List α):findI p a=-1∨(0≤findI p a∧findI p a<a.length):=by
 unfold findI
 split
 · rename_i k h
   have:=(List.findIdx?_eq_some_iff_getElem.1 h).1
   right;omega
 · exact .inl rfl
end Fw
namespace Fw
open Go
def foInv {α β:Type}(f:β→α→β)(z:β)(a:List α)(acc:β)(i:Int):Prop:=upInv a i∧acc=(a.take i.toNat).foldl f z
theorem foStart {α β:Type}{f:β→α→β}{z:β}{a:List α}:foInv f z a z 0:=⟨upStart,by simp⟩
theorem foStep {α β:Type}{f:β→α→β}{z:β}{a:List α}{acc:β}{d:α}{i:Int}(h:foInv f z a acc i)(hl:i<a.length)(hb:a.length≤bigLen):
   foInv f z a (f acc (a.getD i.toNat d)) (IntKind.i64.wrap (i+1))∧(a.length-(IntKind.i64.wrap (i+1))).toNat<(a.length-i).toNat:=by
 obtain⟨h1,h2⟩:=h
 obtain⟨u1,u2,u3⟩:=upStep h1 hl hb
 refine⟨⟨u1,?_⟩,u3⟩
 rw[u2,take_snoc (d:=d) h1 hl,List.foldl_append,h2];rfl
theorem foEnd {α β:Type}{f:β→α→β}{z:β}{a:List α}{acc:β}{i:Int}(h:foInv f z a acc i)(hl:¬i<a.length):acc=a.foldl f z:=by
 obtain⟨h1,h2⟩:=h
 rw[up_end h1 hl,List.take_length]at h2;exact h2
theorem foRange {α β:Type}{f:β→α→β}{z:β}{a:List α}{acc:β}{i:Int}(h:foInv f z a acc i)(hl:i<a.length):inRange i a.length:=upRange h.1 hl
def modF (p q:Int):Int:=if inRangeF q 1 1000000000000=true then(IntKind.i64.wrap (p.tmod q+q)).tmod q else 0
theorem inR_pos {q:Int}(h:(!(inRangeF q 1 1000000000000))=false):q≠0:=by
 unfold inRangeF pick2 at h
 intro e;subst e;simp at h
def hstep (h v:Int):Int:=(IntKind.i64.wrap (IntKind.i64.wrap (IntKind.i64.wrap (h*1000003)+modF v 2147483647)+13)).tmod 2147483647
def hashF (l:List Int):Int:=l.foldl hstep 11
def keyedF (k:Int)(l:List Int):Int:=hashF ([k]++l++[k])
theorem digestEx:∃ f:Int→List Int→Int,∀ id l,f id l=hashF ([7,id]++l):=⟨fun id l=>hashF ([7,id]++l),fun _ _=>rfl⟩
noncomputable def digestF (id:Int)(l:List Int):Int:=Classical.choose digestEx id l
theorem digest_eq (id:Int)(l:List Int):digestF id l=hashF ([7,id]++l):=Classical.choose_spec digestEx id l
theorem maxT {a b:Int}(h:decide (b>a)=true):b=max a b:=by have:=of_decide_eq_true h;omega
theorem maxE {a b:Int}(h:decide (b>a)=false):a=max a b:=by have:=of_decide_eq_false h;omega
theorem minT {a b:Int}(h:decide (b<a)=true):b=min a b:=by have:=of_decide_eq_true h;omega
theorem minE {a b:Int}(h:decide (b<a)=false):a=min a b:=by have:=of_decide_eq_false h;omega
end Fw
namespace Fw
open Go
theorem pick2_or (c b:Bool):pick2 c true b=(c||b):=by cases c<;>rfl
theorem pick2_and (c a:Bool):pick2 c a false=(c&&a):=by cases c<;>rfl
abbrev Key:=Int×Int×Int×Int×Int
abbrev Stamp:=Int×Int×Int×Int×Int
abbrev Authority:=Int×Int×Int
abbrev TStamp:Ty:=.pair TI (.pair TI (.pair TI (.pair TI TI)))
theorem findRange {α:Type}{p:α→Bool}{l:List α}(h:¬findI p l<0):inRange (findI p l) l.length:=by
 rcases findI_lt (p:=p) l with h' | h'
 · omega
 · exact h'
def smallL (l:List Int):Prop:=l.length≤1000000000
theorem smallLit {l:List Int}{n:Nat}(h:l.length=n)(hn:n≤1000000000):smallL l:=by unfold smallL;omega
def markWithF (k:Key)(l:List Int):Int:=keyedF k.2.2.2.2 ([k.2.2.1]++l)
def keyI (keys:List Key)(n:Int):Int:=findI (fun(x:Key)=>x.1==n) keys
def keyAt (keys:List Key)(n:Int):Key:=keys.getD (keyI keys n).toNat (dflt (.pair TI (.pair TI (.pair TI (.pair TI TI)))))
def markByF (keys:List Key)(n:Int)(l:List Int):Int×Bool:=if keyI keys n<0 then(0,false)else(markWithF (keyAt keys n) l,true)
theorem markBy_no {keys:List Key}{n:Int}{l:List Int}(h:keyI keys n<0):markByF keys n l=(0,false):=if_pos h
theorem markBy_yes {keys:List Key}{n:Int}{l:List Int}(h:¬keyI keys n<0):markByF keys n l=(markWithF (keyAt keys n) l,true):=if_neg h
def checkMarkF (keys:List Key)(n:Int)(l:List Int)(m:Int):Bool:=pick2 (decide (keyI keys n≥0)) (markWithF (keyAt keys n) l==m) false
theorem checkMark_by (keys:List Key)(n:Int)(l:List Int)(m:Int):pick2 (markByF keys n l).2 ((markByF keys n l).1==m) false=checkMarkF keys n l m:=by
 unfold checkMarkF
 by_cases h:keyI keys n<0
 · rw[markBy_no h]
   have:decide (keyI keys n≥0)=false:=by simp;omega
   simp only[this,pick2_and,Bool.false_and]
 · rw[markBy_yes h]
   have:decide (keyI keys n≥0)=true:=by simp;omega
   simp only[this,pick2_and,Bool.true_and]
def stampIntsF (s:Stamp):List Int:=[103,s.1,s.2.1,s.2.2.1,s.2.2.2.1]
def authI (l:List Authority)(n:Int):Int:=findI (fun(x:Authority)=>x.1==n) l
def authAt (l:List Authority)(n:Int):Authority:=l.getD (authI l n).toNat (dflt (.pair TI (.pair TI TI)))
def stampBad (l:List Authority)(s:Stamp):Bool:=pick2 (pick2 (decide (authI l s.1<0)) true (decide (s.2.1<0))) true (!(isTimeF s.2.2.1))
def makeStampF (keys:List Key)(l:List Authority)(s:Stamp):Stamp×Bool:=
 if stampBad l s=true then((0,0,0,0,0),false)
 else if keyI keys (authAt l s.1).2.1<0 then((0,0,0,0,0),false)
 else((s.1,s.2.1,s.2.2.1,s.2.2.2.1,markWithF (keyAt keys (authAt l s.1).2.1) (stampIntsF s)),true)
theorem ms_1 {keys:List Key}{l:List Authority}{s:Stamp}(h:stampBad l s=true):makeStampF keys l s=((0,0,0,0,0),false):=if_pos h
theorem ms_2 {keys:List Key}{l:List Authority}{s:Stamp}(h:stampBad l s=false)(h2:keyI keys (authAt l s.1).2.1<0):makeStampF keys l s=((0,0,0,0,0),false):=by
 unfold makeStampF;rw[if_neg (by rw[h];decide),if_pos h2]
theorem ms_3 {keys:List Key}{l:List Authority}{s:Stamp}(h:stampBad l s=false)(h2:¬keyI keys (authAt l s.1).2.1<0):
   makeStampF keys l s=((s.1,s.2.1,s.2.2.1,s.2.2.2.1,markWithF (keyAt keys (authAt l s.1).2.1) (stampIntsF s)),true):=by
 unfold makeStampF;rw[if_neg (by rw[h];decide),if_neg h2]
theorem mb_ok {keys:List Key}{n:Int}{l:List Int}(h:(!(markByF keys n l).2)=false):¬keyI keys n<0:=by
 intro h2;rw[markBy_no h2]at h;cases h
theorem mb_no {keys:List Key}{n:Int}{l:List Int}(h:(!(markByF keys n l).2)=true):keyI keys n<0:=by
 by_cases h2:keyI keys n<0
 · exact h2
 · rw[markBy_yes h2]at h;cases h
theorem bad_idx {l:List Authority}{s:Stamp}(h:stampBad l s=false):inRange (authI l s.1) l.length:=by
 refine findRange fun h2=>?_
 unfold stampBad authI at h
 simp only[pick2_or,Bool.or_eq_false_iff,decide_eq_false_iff_not]at h
 exact h.1.1 h2
def checkStampF (keys:List Key)(l:List Authority)(s:Stamp):Bool:=pick2 (makeStampF keys l s).2 (El.eq TStamp (makeStampF keys l s).1 s) false
end Fw
namespace Fw
open Go
theorem orF {a b:Bool}(h:pick2 a true b=false):a=false∧b=false:=by rw[pick2_or]at h;simpa using h
theorem andT {a b:Bool}(h:pick2 a b false=true):a=true∧b=true:=by rw[pick2_and]at h;simpa using h
theorem notF {a:Bool}(h:(!a)=false):a=true:=by simpa using h
theorem beqI2 {x y:Int}(h:(x==y)=true):x=y:=by simpa using h
theorem noOr {a b:Bool}(ha:a=true→False)(hb:b=true→False)(h:pick2 a true b=true):False:=by
 rw[pick2_or]at h
 rcases (Bool.or_eq_true _ _).mp h with h | h
 · exact ha h
 · exact hb h
theorem bself {x:Int}(h:(x != x)=true):False:=by simp at h
theorem eself {t:Ty}{x:El t}(hc:t.cmp=true)(h:(!(El.eq t x x))=true):False:=by rw[El.eq_self t x hc]at h;cases h
theorem nself {a:Bool}(ha:a=true)(h:(!a)=true):False:=by rw[ha]at h;cases h
theorem yesAnd {a b:Bool}(ha:a=true)(hb:b=true):pick2 a b false=true:=by rw[pick2_and,ha,hb];rfl
theorem beqSelf {x:Int}:(x==x)=true:=by simp
theorem eqC_by {α:Type}{x y:α}{b:Bool}(h1:b=true→x=y)(h2:x=y→b=true):b=eqC x y:=by
 cases hb:b with
 | true=>exact eqC_yes (h1 hb)
 | false=>exact eqC_no fun e=>by rw[h2 e]at hb;cases hb
end Fw
namespace Fw
open Go
theorem fFindEnd {α:Type}{p:α→Bool}{a:List α}{i:Int}(h:fInv p a i)(hl:¬i<a.length):a.find? p=none:=by
 obtain⟨h1,h2⟩:=h
 rw[up_end h1 hl,List.take_length]at h2
 exact List.find?_eq_none.2 (fun x hx=>by rw[h2 x hx];decide)
end Fw
namespace Fw
open Go
noncomputable def boolC (P:Prop):Bool:=@decide P (Classical.propDecidable _)
theorem boolC_iff {P:Prop}:boolC P=true↔P:=by unfold boolC;simp
theorem boolC_yes {P:Prop}(h:P):true=boolC P:=(boolC_iff.2 h).symm
theorem boolC_no {P:Prop}(h:P→False):false=boolC P:=by
 cases he:boolC P with
 | false=>rfl
 | true=>exact(h (boolC_iff.1 he)).elim
theorem boolC_by {P:Prop}{b:Bool}(h1:b=true→P)(h2:P→b=true):b=boolC P:=by
 cases hb:b with
 | true=>exact boolC_yes (h1 hb)
 | false=>exact boolC_no fun e=>by rw[h2 e]at hb;cases hb
def kInv {α:Type}(P:Nat→Prop)(L:List α)(i:Int):Prop:=upInv L i∧∀ k,k<i.toNat→P k
theorem kStart {α:Type}{P:Nat→Prop}{L:List α}:kInv P L 0:=⟨upStart,fun k hk=>by simp at hk⟩
theorem kStep {α:Type}{P:Nat→Prop}{L:List α}{i:Int}(h:kInv P L i)(hl:i<L.length)(hb:L.length≤bigLen)(hP:P i.toNat):
   kInv P L (IntKind.i64.wrap (i+1))∧(L.length-(IntKind.i64.wrap (i+1))).toNat<(L.length-i).toNat:=by
 obtain⟨u1,u2,u3⟩:=upStep h.1 hl hb
 refine⟨⟨u1,fun k hk=>?_⟩,u3⟩
 obtain⟨n,hn,e⟩:=h.1
 rw[u2]at hk
 by_cases hk2:k<i.toNat
 · exact h.2 k hk2
 · have:k=i.toNat:=by omega
   rw[this];exact hP
theorem kEnd {α:Type}{P:Nat→Prop}{L:List α}{i:Int}(h:kInv P L i)(hl:¬i<L.length):∀ k,k<L.length→P k:=by
 intro k hk
 exact h.2 k (by omega)
theorem kLt {α:Type}{P:Nat→Prop}{L:List α}{i:Int}(h:kInv P L i)(hl:i<L.length):i.toNat<L.length:=by
 obtain⟨n,hn,e⟩:=h.1;omega
theorem kRange {α:Type}{P:Nat→Prop}{L:List α}{i:Int}(h:kInv P L i)(hl:i<L.length):inRange i L.length:=upRange h.1 hl
theorem lenBeq {m n:Nat}(h:m=n):((m:Int)==(n:Int))=true:=by rw[h];simp
theorem lenNe {m n:Nat}(h:m=n)(h2:((m:Int) != (n:Int))=true):False:=by rw[h]at h2;simp at h2
theorem lenBeqI {m n:Nat}(h:((m:Int)==(n:Int))=true):m=n:=by have:=beqI2 h;omega
abbrev Doc:=Int×List (List UInt8)×List Int
abbrev Piece:=Int×List Int×Int
abbrev Renewal:=Int×Int×Int×List (Int×Bool)×List Stamp
abbrev Strand:=List Piece×List Renewal
abbrev Sig:=Int×Int×Int×Int×Int×Int×Int×Int×Int
abbrev Item:=Int×Int×Doc×Sig×Strand
abbrev TPiece:Ty:=.pair TI (.pair (.slice TI) TI)
abbrev TRen:Ty:=.pair TI (.pair TI (.pair TI (.pair (.slice (.pair TI .bool)) (.slice TStamp))))
def docP (a:Doc):Prop:=inRangeF a.1 0 999=true∧inRangeF (List.length a.2.1:Int) 1 6=true∧List.length a.2.2=List.length a.2.1∧
 (∀ k,k<List.length a.2.1→(List.length (List.getD a.2.1 k (dflt .str)):Int)≤40)∧(∀ k,k<List.length a.2.2→inRangeF (List.getD a.2.2 k (dflt (.int .i64))) 1 1000000000000=true)
noncomputable def docF (a:Doc):Bool:=boolC (docP a)
noncomputable def findPieceF (s:Strand)(p:Piece):Int:=findI (fun x=>eqC x p) s.1
noncomputable def hasF (l:List Piece)(p:Piece):Bool:=boolC (∃ x∈l,x=p)
def pieceAt (s:Strand)(k:Nat):Piece:=List.getD s.1 k (dflt TPiece)
def renAt (s:Strand)(k:Nat):Renewal:=List.getD s.2 k (dflt TRen)
def newP (s:Strand)(k:Nat):Prop:=∀ j,j<k→pieceAt s j≠pieceAt s k
def renP (s:Strand)(k:Nat):Prop:=inRangeF (renAt s k).1 1 (List.length s.1:Int)=true∧(0<k→(renAt s (k-1)).1≤(renAt s k).1)
def strandP (s:Strand):Prop:=inRangeF (List.length s.1:Int) 1 12=true∧(List.length s.2:Int)≤8∧(∀ k,k<List.length s.1→newP s k)∧(∀ k,k<List.length s.2→renP s k)
noncomputable def strandF (s:Strand):Bool:=boolC (strandP s)
theorem findLt {s:Strand}{k:Nat}(hk:k<s.1.length):findPieceF s (pieceAt s k)<(k:Int)↔¬newP s k:=by
 unfold findPieceF findI newP
 have hp:∀ j (hj:j<s.1.length),pieceAt s j=s.1[j]:=fun j hj=>by unfold pieceAt;rw[List.getD_eq_getElem?_getD,List.getElem?_eq_getElem hj];rfl
 split
 · rename_i m hm
   obtain⟨h1,h2,h3⟩:=List.findIdx?_eq_some_iff_getElem.1 hm
   have h2:=eqC_iff.1 h2
   constructor
   · intro hlt hn
     exact hn m (by omega) (by rw[hp m h1];exact h2)
   · intro hn
     by_cases hlt:(m:Int)<k
     · exact hlt
     · exfalso;apply hn
       intro j hj e
       have:=h3 j (by omega)
       rw[←hp j (by omega),e,eqC_self]at this
       exact absurd rfl this
 · rename_i hm
   have:=List.findIdx?_eq_none_iff.1 hm (pieceAt s k) (by rw[hp k hk];exact List.getElem_mem hk)
   rw[eqC_self]at this;cases this
theorem backW {α:Type}{L:List α}{i:Int}(h:upInv L i)(hb:L.length≤bigLen)(h0:i>0):IntKind.i64.wrap (i-1)=i-1:=by
 obtain⟨k,hk,rfl⟩:=h
 unfold bigLen at hb
 exact w64 (by omega) (by omega)
theorem backRange {α:Type}{P:Nat→Prop}{L:List α}{i:Int}(h:kInv P L i)(hl:i<L.length)(hb:L.length≤bigLen)(h0:i>0):inRange (IntKind.i64.wrap (i-1)) L.length:=by
 rw[backW h.1 hb h0]
 exact upRange (i:=i-1) ⟨(i-1).toNat,by omega,by omega⟩ (by omega)
theorem hasYes {l:List Piece}{p d:Piece}{i:Int}(h:fInv (fun x=>eqC x p) l i)(hl:i<l.length)(he:(fun x=>eqC x p) (l.getD i.toNat d)=true):true=hasF l p:=
 boolC_yes ⟨l.getD i.toNat d,upElem h.1 hl,eqC_iff.1 he⟩
theorem hasNo {l:List Piece}{p:Piece}{i:Int}(h:fInv (fun x=>eqC x p) l i)(hl:¬i<l.length):false=hasF l p:=by
 refine boolC_no ?_
 rintro⟨x,hx,e⟩
 have:=List.find?_eq_none.1 (fFindEnd h hl) x hx
 exact this (eqC_iff.2 e)
theorem newBad {s:Strand}{P:Nat→Prop}{i:Int}(h:kInv P s.1 i)(hl:i<s.1.length)(he:findPieceF s (pieceAt s i.toNat)<i):¬newP s i.toNat:=by
 obtain⟨k,hk,e⟩:=h.1
 have h1:i.toNat=k:=by omega
 rw[h1]at he ⊢
 exact(findLt (by omega)).1 (by omega)
theorem newGood {s:Strand}{P:Nat→Prop}{i:Int}(h:kInv P s.1 i)(hl:i<s.1.length)(he:¬findPieceF s (pieceAt s i.toNat)<i):newP s i.toNat:=by
 obtain⟨k,hk,e⟩:=h.1
 have h1:i.toNat=k:=by omega
 rw[h1]at he ⊢
 exact Classical.byContradiction fun hc=>he (by have:=(findLt (by omega)).2 hc;omega)
def renBadF (s:Strand)(i:Int):Bool:=pick2 (!(inRangeF (renAt s i.toNat).1 1 (List.length s.1:Int))) true (pick2 (decide (i>0)) (decide ((renAt s (IntKind.i64.wrap (i-1)).toNat).1>(renAt s i.toNat).1)) false)
theorem renIff {s:Strand}{P:Nat→Prop}{i:Int}(h:kInv P s.2 i)(_:i<s.2.length)(hb:s.2.length≤bigLen):renBadF s i=false↔renP s i.toNat:=by
 unfold renBadF renP
 by_cases h0:i>0
 · rw[backW h.1 hb h0]
   have e:(i-1).toNat=i.toNat-1:=by omega
   have e2:decide (i>0)=true:=by simpa using h0
   rw[e,e2,pick2_or,pick2_and]
   simp only[Bool.or_eq_false_iff,Bool.true_and,Bool.not_eq_false',decide_eq_false_iff_not]
   constructor
   · rintro⟨h1,h2⟩;exact⟨h1,fun _=>by omega⟩
   · rintro⟨h1,h2⟩;exact⟨h1,by have:=h2 (by omega);omega⟩
 · have e2:decide (i>0)=false:=by simpa using h0
   rw[e2,pick2_or,pick2_and]
   simp only[Bool.or_eq_false_iff,Bool.false_and,Bool.not_eq_false',and_true]
   constructor
   · intro h1;exact⟨h1,fun _=>by omega⟩
   · rintro⟨h1,h2⟩;exact h1
theorem renGood {s:Strand}{P:Nat→Prop}{i:Int}(h:kInv P s.2 i)(hl:i<s.2.length)(hb:s.2.length≤bigLen)(he:renBadF s i=false):renP s i.toNat:=(renIff h hl hb).1 he
theorem renBad {s:Strand}{P:Nat→Prop}{i:Int}(h:kInv P s.2 i)(hl:i<s.2.length)(hb:s.2.length≤bigLen)(he:renBadF s i=true)(hr:renP s i.toNat):False:=by
 rw[(renIff h hl hb).2 hr]at he;cases he
def sigIntsF (s:Sig):List Int:=[104,s.1,s.2.1,s.2.2.1,s.2.2.2.1,s.2.2.2.2.1,s.2.2.2.2.2.1,s.2.2.2.2.2.2.1,s.2.2.2.2.2.2.2.1]
def signPieceF (s:Sig):Piece:=(s.1,sigIntsF s,s.2.2.2.2.2.2.2.2)
end Fw
namespace Fw
open Go
def gsInv {α:Type}(g:Nat→List Int)(z:List Int)(L:List α)(acc:List Int)(i:Int):Prop:=upInv L i∧acc=z++(List.range i.toNat).flatMap g
theorem gsStart {α:Type}{g:Nat→List Int}{z:List Int}{L:List α}:gsInv g z L z 0:=⟨upStart,by simp⟩
theorem gsStep {α:Type}{g:Nat→List Int}{z:List Int}{L:List α}{acc acc':List Int}{i:Int}(h:gsInv g z L acc i)(hl:i<L.length)(hb:L.length≤bigLen)
   (e:acc'=acc++g i.toNat):gsInv g z L acc' (IntKind.i64.wrap (i+1))∧(L.length-(IntKind.i64.wrap (i+1))).toNat<(L.length-i).toNat:=by
 obtain⟨u1,u2,u3⟩:=upStep h.1 hl hb
 obtain⟨k,hk,e1⟩:=h.1
 refine⟨⟨u1,?_⟩,u3⟩
 have e2:(IntKind.i64.wrap (i+1)).toNat=i.toNat+1:=by rw[u2];omega
 rw[e,h.2,e2,List.range_succ,List.flatMap_append,List.append_assoc]
 simp
theorem gsEnd {α:Type}{g:Nat→List Int}{z:List Int}{L:List α}{acc:List Int}{i:Int}(h:gsInv g z L acc i)(hl:¬i<L.length):acc=z++(List.range L.length).flatMap g:=by
 obtain⟨k,hk,e1⟩:=h.1
 have:i.toNat=L.length:=by omega
 rw[h.2,this]
theorem flatLen {g:Nat→List Int}{c:Nat}(hc:∀ k,(g k).length≤c):∀ n,((List.range n).flatMap g).length≤c*n
 | 0=>by simp
 | n+1=>by
   rw[List.range_succ,List.flatMap_append,List.length_append]
   have h1:=flatLen hc n
   have h2:=hc n
   have h3:(List.flatMap g [n]).length≤c:=by simpa using h2
   rw[Nat.mul_succ];omega
theorem gsLen {α:Type}{g:Nat→List Int}{z:List Int}{L:List α}{acc:List Int}{i:Int}{c m n:Nat}(h:gsInv g z L acc i)(hc:∀ k,(g k).length≤c)(hL:L.length≤m)(hn:z.length+c*m≤n):acc.length≤n:=by
 obtain⟨k,hk,e1⟩:=h.1
 rw[h.2,List.length_append]
 have h1:=flatLen hc i.toNat
 have h2:c*i.toNat≤c*m:=Nat.mul_le_mul_left c (by omega)
 omega
theorem gsRange {α:Type}{g:Nat→List Int}{z:List Int}{L:List α}{acc:List Int}{i:Int}(h:gsInv g z L acc i)(hl:i<L.length):inRange i L.length:=upRange h.1 hl
def partG (s:List UInt8)(k:Nat):List Int:=[IntKind.i64.wrap (((s.getD k 0).toNat:Int))]
noncomputable def partF (id:Int)(s:List UInt8)(x:Int):Int:=digestF id ([x]++(List.range s.length).flatMap (partG s))
def byteG (l:List Int)(k:Nat):List Int:=[IntKind.i64.wrap (l.getD k (dflt (.int .u8)))]
def bytesF (l:List Int):List Int:=[]++(List.range l.length).flatMap (byteG l)
theorem flatCongr {g h:Nat→List Int}:∀ n,(∀ k,k<n→g k=h k)→(List.range n).flatMap g=(List.range n).flatMap h
 | 0,_=>rfl
 | n+1,e=>by
   rw[List.range_succ,List.flatMap_append,List.flatMap_append,flatCongr n (fun k hk=>e k (by omega))]
   simp[e n (by omega)]
theorem bytesEq (s:List UInt8):bytesF (bytesOf s)=(List.range s.length).flatMap (partG s):=by
 unfold bytesF
 have hl:(bytesOf s).length=s.length:=by unfold bytesOf;rw[List.length_map]
 rw[List.nil_append,hl]
 refine flatCongr _ fun k hk=>?_
 unfold byteG partG bytesOf
 rw[List.getD_eq_getElem?_getD,List.getElem?_map,List.getD_eq_getElem?_getD,List.getElem?_eq_getElem hk]
 rfl
theorem bytesLen (s:List UInt8):(bytesF (bytesOf s)).length=s.length:=by
 unfold bytesF bytesOf
 have:∀ (l:List Int) n,((List.range n).flatMap (byteG l)).length=n:=fun l n=>by
   induction n with
   | zero=>rfl
   | succ n ih=>rw[List.range_succ,List.flatMap_append,List.length_append,ih];simp[byteG]
 rw[List.nil_append,this,List.length_map]
noncomputable def docG (id:Int)(d:Doc)(k:Nat):List Int:=[partF id (d.2.1.getD k (dflt .str)) (d.2.2.getD k (dflt (.int .i64)))]
noncomputable def docDigF (id:Int)(d:Doc):Int:=if docF d=true then digestF id ([d.1]++(List.range d.2.1.length).flatMap (docG id d))else -1
theorem docDig0 {id:Int}{d:Doc}(h:(!(docF d))=true):(-1:Int)=docDigF id d:=by
 unfold docDigF;rw[if_neg (by intro e;rw[e]at h;cases h)]
theorem docDig1 {id:Int}{d:Doc}{acc:List Int}{i:Int}(h:(!(docF d))=false)(hI:gsInv (docG id d) [d.1] d.2.1 acc i)(hl:¬i<d.2.1.length):digestF id acc=docDigF id d:=by
 unfold docDigF;rw[if_pos (notF h),gsEnd hI hl]
theorem docP_of {d:Doc}(h:(!(docF d))=false):docP d:=boolC_iff.1 (notF h)
theorem docN {d:Doc}(h:docP d):d.2.1.length≤6:=by
 have h1:=h.2.1
 unfold inRangeF at h1
 have:=of_decide_eq_true (andT h1).2
 omega
theorem doc40 {d:Doc}(h:docP d){i:Int}{acc:List Int}{g:Nat→List Int}{z:List Int}(hI:gsInv g z d.2.1 acc i)(hl:i<d.2.1.length):(d.2.1.getD i.toNat (dflt .str)).length≤40:=by
 obtain⟨k,hk,e⟩:=hI.1
 have:=h.2.2.2.1 i.toNat (by omega)
 omega
theorem docX {d:Doc}(h:docP d){i:Int}{acc:List Int}{g:Nat→List Int}{z:List Int}(hI:gsInv g z d.2.1 acc i)(hl:i<d.2.1.length):inRange i d.2.2.length:=by
 rw[h.2.2.1];exact gsRange hI hl
noncomputable def piecesG (id:Int)(l:List Piece)(k:Nat):List Int:=[digestF id ([(l.getD k (dflt TPiece)).1,(l.getD k (dflt TPiece)).2.2]++(l.getD k (dflt TPiece)).2.1)]
noncomputable def piecesF (id:Int)(l:List Piece):Int:=digestF id ([2]++(List.range l.length).flatMap (piecesG id l))
abbrev TStep:Ty:=.pair TI .bool
def stepG (r:Renewal)(k:Nat):List Int:=[(r.2.2.2.1.getD k (dflt TStep)).1,if (r.2.2.2.1.getD k (dflt TStep)).2=true then 1 else 0]
def stmpG (r:Renewal)(k:Nat):List Int:=stampIntsF (r.2.2.2.2.getD k (dflt TStamp))++[(r.2.2.2.2.getD k (dflt TStamp)).2.2.2.2]
def renMid (r:Renewal):List Int:=([4,r.1,r.2.1,r.2.2.1]++(List.range r.2.2.2.1.length).flatMap (stepG r))++[(r.2.2.2.2.length:Int)]
noncomputable def renDigF (id:Int)(r:Renewal):Int:=digestF id (renMid r++(List.range r.2.2.2.2.length).flatMap (stmpG r))
theorem stepYes {r:Renewal}{acc:List Int}{k:Nat}(h:(r.2.2.2.1.getD k (dflt TStep)).2=true):(acc++[(r.2.2.2.1.getD k (dflt TStep)).1])++[1]=acc++stepG r k:=by
 unfold stepG;rw[if_pos h,List.append_assoc];rfl
theorem stepNo {r:Renewal}{acc:List Int}{k:Nat}(h:(r.2.2.2.1.getD k (dflt TStep)).2=false):(acc++[(r.2.2.2.1.getD k (dflt TStep)).1])++[0]=acc++stepG r k:=by
 unfold stepG;rw[if_neg (by rw[h];decide),List.append_assoc];rfl
theorem stepYesI {r:Renewal}{acc:List Int}{k:Nat}(h:(r.2.2.2.1.getD k (dflt TStep)).2=true):acc++[(r.2.2.2.1.getD k (dflt TStep)).1,1]=acc++stepG r k:=by
 unfold stepG;rw[if_pos h]
theorem stepNoI {r:Renewal}{acc:List Int}{k:Nat}(h:(r.2.2.2.1.getD k (dflt TStep)).2=false):acc++[(r.2.2.2.1.getD k (dflt TStep)).1,0]=acc++stepG r k:=by
 unfold stepG;rw[if_neg (by rw[h];decide)]
theorem stmpEq {r:Renewal}{acc:List Int}{k:Nat}:(acc++stampIntsF (r.2.2.2.2.getD k (dflt TStamp)))++[(r.2.2.2.2.getD k (dflt TStamp)).2.2.2.2]=acc++stmpG r k:=by
 unfold stmpG;rw[List.append_assoc]
theorem gsStart2 {α:Type}{g:Nat→List Int}{z acc:List Int}{L:List α}(e:acc=z):gsInv g z L acc 0:=by rw[e];exact gsStart
theorem renMidEq {r:Renewal}{acc:List Int}{i:Int}(h:gsInv (stepG r) [4,r.1,r.2.1,r.2.2.1] r.2.2.2.1 acc i)(hl:¬i<r.2.2.2.1.length):acc++[(r.2.2.2.2.length:Int)]=renMid r:=by
 unfold renMid;rw[←gsEnd h hl]
theorem midLen {r:Renewal}(h:r.2.2.2.1.length≤1048576):(renMid r).length≤2097157:=by
 unfold renMid
 rw[List.length_append,List.length_append]
 have h1:=flatLen (g:=stepG r) (c:=2) (fun _=>Nat.le_refl _) r.2.2.2.1.length
 simp only[List.length_cons,List.length_nil]
 omega
end Fw
namespace Fw
open Go
set_option linter.unusedSimpArgs false
set_option linter.unusedVariables false
end Fw
namespace Fw
open Go
theorem bneI' {x y:Int}(h:(x==y)=false):x≠y:=by simpa using h
theorem bneT {x y:Int}(h:(x != y)=true):x≠y:=by simpa using h
end Fw
namespace Fw
open Go
end Fw
namespace Fw
end Fw
namespace Fw
open Go
set_option linter.unusedSimpArgs false
def bnd:Int:=1152921504606846976
def cellsL {α:Type}(c:α→Nat):List α→Nat
 | []=>0
 | x::xs=>c x+cellsL c xs
def cellsC:(t:Ty)→El t→Nat
 | .slice e,xs=>cellsL (cellsC e) xs
 | .pair a b,x=>cellsC a x.1+cellsC b x.2
 | .arr _ _,_=>0
 | .int _,_=>1
 | .bool,_=>1
 | .str,_=>1
theorem cellsL_append {α:Type}(c:α→Nat):∀ (a b:List α),cellsL c (a++b)=cellsL c a+cellsL c b
 | [],b=>by simp[cellsL]
 | x::a,b=>by show c x+cellsL c (a++b)=c x+cellsL c a+_;rw[cellsL_append c a b];omega
theorem take_succD {α:Type}{xs:List α}{i:Nat}(h:i<xs.length)(d:α):xs.take (i+1)=xs.take i++[xs.getD i d]:=by
 rw[List.take_add_one,List.getD_eq_getElem?_getD,List.getElem?_eq_getElem h];rfl
end Fw
namespace Fw
open Go
end Fw
namespace Fw
open Go
def hdP (p:Piece):Int:=List.getD p.2.1 0 (dflt TI)
def tblP (p:Piece):Int:=List.getD [7,5,5,9,6] (IntKind.i64.wrap (hdP p-101)).toNat (dflt TI)
def kb1 (p:Piece):Bool:=pick2 ((List.length p.2.1:Int)==0) true (!(inRangeF (hdP p) 101 105))
def kb2 (p:Piece):Bool:=((List.length p.2.1:Int) != tblP p)
def kindF (p:Piece):Int:=if pick2 (kb1 p) true (kb2 p)=true then 0 else hdP p
theorem kLen {l:List Int}(h:((List.length l:Int)==0)=false):inRange 0 l.length:=by
 have h1:¬((List.length l:Int)=0):=by simpa using h
 exact upRange (a:=l) ⟨0,Nat.zero_le _,rfl⟩ (by omega)
theorem kLen1 {p:Piece}(h:kb1 p=false):inRange 0 p.2.1.length:=kLen (orF h).1
theorem kHd {p:Piece}(h:kb1 p=false):101≤hdP p∧hdP p≤105:=by
 have h2:=notF (orF h).2
 unfold inRangeF at h2
 exact⟨of_decide_eq_true (andT h2).1,of_decide_eq_true (andT h2).2⟩
theorem kIdx {p:Piece}(h:kb1 p=false):inRange (IntKind.i64.wrap (hdP p-101)) 5:=by
 have:=kHd h
 rw[w64 (by omega) (by omega)]
 exact upRange (a:=[0,0,0,0,0]) ⟨(hdP p-101).toNat,by simp;omega,by omega⟩ (by simp;omega)
theorem kind0 {p:Piece}(h:kb1 p=true):(0:Int)=kindF p:=by
 unfold kindF;rw[if_pos (by rw[h];rfl)]
theorem kind1 {p:Piece}(h:kb2 p=true):(0:Int)=kindF p:=by
 unfold kindF;rw[if_pos (by rw[h,pick2_or,Bool.or_true])]
theorem kind2 {p:Piece}(h:kb1 p=false)(h2:kb2 p=false):hdP p=kindF p:=by
 unfold kindF;rw[if_neg (by rw[h,h2];decide)]
theorem kindI {p:Piece}(h:pick2 (kb1 p) true (kb2 p)=true):(0:Int)=kindF p:=by
 unfold kindF;rw[if_pos h]
theorem kind7 {p:Piece}(h:(kindF p != 101)=false):List.length p.2.1=7:=by
 have h1:=bneI h
 unfold kindF at h1
 split at h1
 · cases h1
 · rename_i hh
   have hh:pick2 (kb1 p) true (kb2 p)=false:=by simpa using hh
   have e:=bneI (orF hh).2
   unfold tblP at e
   rw[h1]at e
   have e2:(IntKind.i64.wrap (101-101)).toNat=0:=by decide
   rw[e2]at e
   have e3:(List.length p.2.1:Int)=7:=e
   omega
theorem seven {l:List Int}(h:List.length l=7)(j:Nat)(hj:j<7):inRange (j:Int) l.length:=
 upRange (a:=l) ⟨j,by omega,rfl⟩ (by omega)
abbrev Cert:=Int×Int×Int×Int×Int×Int×Int
def nth (p:Piece)(j:Nat):Int:=List.getD p.2.1 j (dflt TI)
def pcBad (p:Piece):Bool:=pick2 (kindF p != 101) true (nth p 6 != p.1)
def pieceCertF (p:Piece):Cert×Bool:=if pcBad p=true then((0,0,0,0,0,0,0),false)else((nth p 1,nth p 2,nth p 3,nth p 4,nth p 5,nth p 6,p.2.2),true)
theorem pc0 {p:Piece}(h:pcBad p=true):pieceCertF p=((0,0,0,0,0,0,0),false):=by unfold pieceCertF;rw[if_pos h]
theorem pc1 {p:Piece}(h:pcBad p=false):pieceCertF p=((nth p 1,nth p 2,nth p 3,nth p 4,nth p 5,nth p 6,p.2.2),true):=by unfold pieceCertF;rw[if_neg (by rw[h];decide)]
theorem pc7 {p:Piece}(h:pcBad p=false):List.length p.2.1=7:=kind7 (orF h).1
def certSpanF (c:Cert):Int×Int:=(c.2.2.2.1,c.2.2.2.2.1)
def certIntsF (c:Cert):List Int:=[101,c.1,c.2.1,c.2.2.1,c.2.2.2.1,c.2.2.2.2.1,c.2.2.2.2.2.1]
def isCertF (c:Cert):Bool:=
 pick2 (pick2 (pick2 (pick2 (pick2 (inRangeF c.1 1 999) (inRangeF c.2.1 1 99) false) (inRangeF c.2.2.2.2.2.1 1 99) false) (c.2.1 != c.2.2.2.2.2.1) false) (inRangeF c.2.2.1 0 99) false) (isSpanF (certSpanF c)) false
def ownerF (keys:List Key)(n:Int):Int:=if keyI keys n<0 then -1 else(keyAt keys n).2.1
theorem owner0 {keys:List Key}{n:Int}(h:keyI keys n<0):(-1:Int)=ownerF keys n:=by unfold ownerF;rw[if_pos h]
theorem owner1 {keys:List Key}{n:Int}(h:¬keyI keys n<0):(keyAt keys n).2.1=ownerF keys n:=by unfold ownerF;rw[if_neg h]
def checkCertF (keys:List Key)(c:Cert):Bool:=
 pick2 (pick2 (isCertF c) (checkMarkF keys c.2.2.2.2.2.1 (certIntsF c) c.2.2.2.2.2.2) false) (ownerF keys c.2.1==c.2.2.1) false
theorem checkCertI (keys:List Key)(c:Cert):pick2 (pick2 (isCertF c) (checkMarkF keys c.2.2.2.2.2.1 (certIntsF c) c.2.2.2.2.2.2) false) (c.2.2.1==ownerF keys c.2.1) false=checkCertF keys c:=by
 unfold checkCertF
 have:(c.2.2.1==ownerF keys c.2.1)=(ownerF keys c.2.1==c.2.2.1):=by rw[Bool.eq_iff_iff];simp;exact eq_comm
 rw[this]
def cfTest (keys:List Key)(g:Sig)(p:Piece):Bool:=
 pick2 (pick2 (pick2 (pieceCertF p).2 (checkCertF keys (pieceCertF p).1) false) ((pieceCertF p).1.1==g.2.1) false) ((pieceCertF p).1.2.1==g.1) false
def cfStep (keys:List Key)(g:Sig)(acc:Cert×Int)(p:Piece):Cert×Int:=if cfTest keys g p=true then((pieceCertF p).1,IntKind.i64.wrap (acc.2+1))else acc
def cfAll (keys:List Key)(l:List Piece)(g:Sig):Cert×Int:=l.foldl (cfStep keys g) ((0,0,0,0,0,0,0),0)
def certForF (keys:List Key)(l:List Piece)(g:Sig):Cert×Bool:=if ((cfAll keys l g).2 != 1)=true then((0,0,0,0,0,0,0),false)else((cfAll keys l g).1,true)
theorem cfYes {keys:List Key}{g:Sig}{acc:Cert×Int}{p:Piece}(h:cfTest keys g p=true):cfStep keys g acc p=((pieceCertF p).1,IntKind.i64.wrap (acc.2+1)):=by unfold cfStep;rw[if_pos h]
theorem cfNo {keys:List Key}{g:Sig}{acc:Cert×Int}{p:Piece}(h:cfTest keys g p=false):cfStep keys g acc p=acc:=by unfold cfStep;rw[if_neg (by rw[h];decide)]
def cfInv (keys:List Key)(g:Sig)(l:List Piece)(c:Cert)(n:Int)(i:Int):Prop:=foInv (cfStep keys g) ((0,0,0,0,0,0,0),0) l (c,n) i
theorem cfStart {keys:List Key}{g:Sig}{l:List Piece}:cfInv keys g l (0,0,0,0,0,0,0) 0 0:=foStart
theorem cfRange {keys:List Key}{g:Sig}{l:List Piece}{c:Cert}{n i:Int}(h:cfInv keys g l c n i)(hl:i<l.length):inRange i l.length:=foRange h hl
theorem cfGo1 {keys:List Key}{g:Sig}{l:List Piece}{c:Cert}{n i:Int}{d:Piece}(h:cfInv keys g l c n i)(hl:i<l.length)(hb:l.length≤bigLen)(ht:cfTest keys g (l.getD i.toNat d)=true):
   cfInv keys g l (pieceCertF (l.getD i.toNat d)).1 (IntKind.i64.wrap (n+1)) (IntKind.i64.wrap (i+1))∧(l.length-(IntKind.i64.wrap (i+1))).toNat<(l.length-i).toNat:=by
 have:=foStep (d:=d) h hl hb
 rw[cfYes ht]at this;exact this
theorem cfGo0 {keys:List Key}{g:Sig}{l:List Piece}{c:Cert}{n i:Int}{d:Piece}(h:cfInv keys g l c n i)(hl:i<l.length)(hb:l.length≤bigLen)(ht:cfTest keys g (l.getD i.toNat d)=false):
   cfInv keys g l c n (IntKind.i64.wrap (i+1))∧(l.length-(IntKind.i64.wrap (i+1))).toNat<(l.length-i).toNat:=by
 have:=foStep (d:=d) h hl hb
 rw[cfNo ht]at this;exact this
theorem cfEnd0 {keys:List Key}{g:Sig}{l:List Piece}{c:Cert}{n i:Int}(h:cfInv keys g l c n i)(hl:¬i<l.length)(hn:(n != 1)=true):certForF keys l g=((0,0,0,0,0,0,0),false):=by
 have e:(c,n)=cfAll keys l g:=foEnd h hl
 unfold certForF;rw[←e,if_pos hn]
theorem cfEnd1 {keys:List Key}{g:Sig}{l:List Piece}{c:Cert}{n i:Int}(h:cfInv keys g l c n i)(hl:¬i<l.length)(hn:(n != 1)=false):certForF keys l g=(c,true):=by
 have e:(c,n)=cfAll keys l g:=foEnd h hl
 unfold certForF;rw[←e,if_neg (by rw[hn];decide)]
end Fw
namespace Fw
open Go
def efF {α β:Type}(bad:α→Bool)(g:β→α→β)(e:β):List α→β→β
 | [],m=>m
 | x::t,m=>if bad x=true then e else efF bad g e t (g m x)
def efInv {α β:Type}(bad:α→Bool)(g:β→α→β)(e z:β)(L:List α)(m:β)(i:Int):Prop:=upInv L i∧efF bad g e L z=efF bad g e (L.drop i.toNat) m
theorem efStart {α β:Type}{bad:α→Bool}{g:β→α→β}{e z:β}{L:List α}:efInv bad g e z L z 0:=⟨upStart,rfl⟩
theorem efRange {α β:Type}{bad:α→Bool}{g:β→α→β}{e z m:β}{L:List α}{i:Int}(h:efInv bad g e z L m i)(hl:i<L.length):inRange i L.length:=upRange h.1 hl
theorem efCons {α β:Type}{bad:α→Bool}{g:β→α→β}{e z m:β}{L:List α}{d:α}{i:Int}(h:efInv bad g e z L m i)(hl:i<L.length):
   efF bad g e L z=if bad (L.getD i.toNat d)=true then e else efF bad g e (L.drop (i.toNat+1)) (g m (L.getD i.toNat d)):=by
 obtain⟨⟨k,hk,rfl⟩,h2⟩:=h
 have h1:((k:Int)).toNat=k:=by omega
 rw[h1]at h2 ⊢
 have hk':k<L.length:=by omega
 rw[h2,List.drop_eq_getElem_cons hk']
 have:L.getD k d=L[k]:=by rw[List.getD_eq_getElem?_getD,List.getElem?_eq_getElem hk'];rfl
 rw[this,efF]
theorem efStop {α β:Type}{bad:α→Bool}{g:β→α→β}{e z m:β}{L:List α}{d:α}{i:Int}(h:efInv bad g e z L m i)(hl:i<L.length)(hb:bad (L.getD i.toNat d)=true):e=efF bad g e L z:=by
 rw[efCons (d:=d) h hl,if_pos hb]
theorem efStep {α β:Type}{bad:α→Bool}{g:β→α→β}{e z m:β}{L:List α}{d:α}{i:Int}(h:efInv bad g e z L m i)(hl:i<L.length)(hb:L.length≤bigLen)(hx:bad (L.getD i.toNat d)=false):
   efInv bad g e z L (g m (L.getD i.toNat d)) (IntKind.i64.wrap (i+1))∧(L.length-(IntKind.i64.wrap (i+1))).toNat<(L.length-i).toNat:=by
 obtain⟨u1,u2,u3⟩:=upStep h.1 hl hb
 obtain⟨k,hk,e1⟩:=h.1
 refine⟨⟨u1,?_⟩,u3⟩
 have e2:(IntKind.i64.wrap (i+1)).toNat=i.toNat+1:=by rw[u2];omega
 rw[e2,efCons (d:=d) h hl,if_neg (by rw[hx];decide)]
theorem efEnd {α β:Type}{bad:α→Bool}{g:β→α→β}{e z m:β}{L:List α}{i:Int}(h:efInv bad g e z L m i)(hl:¬i<L.length):m=efF bad g e L z:=by
 obtain⟨k,hk,e1⟩:=h.1
 rw[h.2,List.drop_eq_nil_of_le (by omega)];rfl
abbrev Method:=Int×Int×Int×Int
abbrev TMethod:Ty:=.pair TI (.pair TI (.pair TI TI))
abbrev Frame:=List Key×List Authority×List Method×Int×Int
def methI (l:List Method)(n:Int):Int:=findI (fun(x:Method)=>x.1==n) l
def methAt (l:List Method)(n:Int):Method:=l.getD (methI l n).toNat (dflt TMethod)
def stampKeyF (l:List Authority)(s:Stamp):Int:=if authI l s.1<0 then 0 else(authAt l s.1).2.1
theorem stampKey0 {l:List Authority}{s:Stamp}(h:authI l s.1<0):(0:Int)=stampKeyF l s:=by unfold stampKeyF;rw[if_pos h]
theorem stampKey1 {l:List Authority}{s:Stamp}(h:¬authI l s.1<0):(authAt l s.1).2.1=stampKeyF l s:=by unfold stampKeyF;rw[if_neg h]
end Fw
namespace Fw
open Go
set_option linter.unusedSimpArgs false
set_option linter.unusedVariables false
def pickF {α β:Type}(f:α→β×Bool)(L:List α):List β:=L.filterMap (fun x=>if (f x).2=true then some (f x).1 else none)
def pkInv {α β:Type}(f:α→β×Bool)(L:List α)(acc:List β)(i:Int):Prop:=upInv L i∧acc=pickF f (L.take i.toNat)
theorem pkStart {α β:Type}{f:α→β×Bool}{L:List α}:pkInv f L [] 0:=⟨upStart,by simp[pickF]⟩
theorem pkRange {α β:Type}{f:α→β×Bool}{L:List α}{acc:List β}{i:Int}(h:pkInv f L acc i)(hl:i<L.length):inRange i L.length:=upRange h.1 hl
theorem pick_len {α β:Type}(f:α→β×Bool)(L:List α):(pickF f L).length≤L.length:=List.length_filterMap_le _ _
theorem pkLen {α β:Type}{f:α→β×Bool}{L:List α}{acc:List β}{i:Int}(h:pkInv f L acc i)(hs:L.length≤1048576):acc.length+1≤maxApp:=by
 have:=pick_len f (L.take i.toNat)
 rw[←h.2,List.length_take]at this
 unfold maxApp;omega
theorem pick_app {α β:Type}(f:α→β×Bool)(L:List α)(x:α):pickF f (L++[x])=pickF f L++(if (f x).2=true then [(f x).1]else []):=by
 unfold pickF
 rw[List.filterMap_append]
 congr 1
 split
 · rename_i h;simp[h]
 · rename_i h;simp[h]
theorem pkStep {α β:Type}{f:α→β×Bool}{L:List α}{acc acc':List β}{d:α}{i:Int}(h:pkInv f L acc i)(hl:i<L.length)(hb:L.length≤bigLen)
   (e:acc'=acc++(if (f (L.getD i.toNat d)).2=true then [(f (L.getD i.toNat d)).1]else [])):
   pkInv f L acc' (IntKind.i64.wrap (i+1))∧(L.length-(IntKind.i64.wrap (i+1))).toNat<(L.length-i).toNat:=by
 obtain⟨u1,u2,u3⟩:=upStep h.1 hl hb
 obtain⟨k,hk,e1⟩:=h.1
 refine⟨⟨u1,?_⟩,u3⟩
 have e2:(IntKind.i64.wrap (i+1)).toNat=i.toNat+1:=by rw[u2];omega
 have hi:i.toNat<L.length:=by omega
 rw[e2,take_succD hi d,pick_app,e,h.2]
theorem pkYes {α β:Type}{f:α→β×Bool}{L:List α}{acc:List β}{d:α}{i:Int}(h:pkInv f L acc i)(hl:i<L.length)(hb:L.length≤bigLen)(g:(f (L.getD i.toNat d)).2=true):
   pkInv f L (acc++[(f (L.getD i.toNat d)).1]) (IntKind.i64.wrap (i+1))∧(L.length-(IntKind.i64.wrap (i+1))).toNat<(L.length-i).toNat:=
 pkStep (d:=d) h hl hb (by rw[if_pos g])
theorem pkNo {α β:Type}{f:α→β×Bool}{L:List α}{acc:List β}{d:α}{i:Int}(h:pkInv f L acc i)(hl:i<L.length)(hb:L.length≤bigLen)(g:(f (L.getD i.toNat d)).2=false):
   pkInv f L acc (IntKind.i64.wrap (i+1))∧(L.length-(IntKind.i64.wrap (i+1))).toNat<(L.length-i).toNat:=
 pkStep (d:=d) h hl hb (by rw[if_neg (by rw[g];decide),List.append_nil])
theorem pkEnd {α β:Type}{f:α→β×Bool}{L:List α}{acc:List β}{i:Int}(h:pkInv f L acc i)(hl:¬i<L.length):acc=pickF f L:=by
 obtain⟨k,hk,e1⟩:=h.1
 rw[h.2,List.take_of_length_le (by omega)]
theorem kindK {p:Piece}{k:Int}(h:(kindF p != k)=false)(hk:k≠0){n:Nat}(hn:List.getD [7,5,5,9,6] (IntKind.i64.wrap (k-101)).toNat (dflt TI)=(n:Int)):List.length p.2.1=n:=by
 have h1:=bneI h
 unfold kindF at h1
 split at h1
 · exact(hk h1.symm).elim
 · rename_i hh
   have hh:pick2 (kb1 p) true (kb2 p)=false:=by simpa using hh
   have e:=bneI (orF hh).2
   unfold tblP at e
   rw[h1,hn]at e
   omega
theorem nIdx {l:List Int}{n:Nat}(h:List.length l=n)(j:Nat)(hj:j<n):inRange (j:Int) l.length:=
 upRange (a:=l) ⟨j,by omega,rfl⟩ (by omega)
abbrev Mandate:=Int×Int×Int×Int×Int×Int
abbrev Status:=Int×Int×Int×Int×Int
def pmBad (p:Piece):Bool:=pick2 (kindF p != 105) true (nth p 5 != p.1)
def pieceMandF (p:Piece):Mandate×Bool:=if pmBad p=true then((0,0,0,0,0,0),false)else((nth p 1,nth p 2,nth p 3,nth p 4,nth p 5,p.2.2),true)
theorem pm0 {p:Piece}(h:pmBad p=true):pieceMandF p=((0,0,0,0,0,0),false):=by unfold pieceMandF;rw[if_pos h]
theorem pm1 {p:Piece}(h:pmBad p=false):pieceMandF p=((nth p 1,nth p 2,nth p 3,nth p 4,nth p 5,p.2.2),true):=by unfold pieceMandF;rw[if_neg (by rw[h];decide)]
theorem pmN {p:Piece}(h:(kindF p != 105)=false):List.length p.2.1=6:=kindK h (by decide) rfl
def psBad (p:Piece):Bool:=pick2 (kindF p != 102) true (nth p 4 != p.1)
def pieceStatF (p:Piece):Status×Bool:=if psBad p=true then((0,0,0,0,0),false)else((nth p 1,nth p 2,nth p 3,nth p 4,p.2.2),true)
theorem ps0 {p:Piece}(h:psBad p=true):pieceStatF p=((0,0,0,0,0),false):=by unfold pieceStatF;rw[if_pos h]
theorem ps1 {p:Piece}(h:psBad p=false):pieceStatF p=((nth p 1,nth p 2,nth p 3,nth p 4,p.2.2),true):=by unfold pieceStatF;rw[if_neg (by rw[h];decide)]
theorem psN {p:Piece}(h:(kindF p != 102)=false):List.length p.2.1=5:=kindK h (by decide) rfl
def mandatesF (l:List Piece):List Mandate:=pickF pieceMandF l
def statFor (c:Cert)(p:Piece):Status×Bool:=((pieceStatF p).1,pick2 (pick2 (pieceStatF p).2 ((pieceStatF p).1.1==c.1) false) ((pieceStatF p).1.2.2.2.1==c.2.2.2.2.2.1) false)
def statusesF (l:List Piece)(c:Cert):List Status:=pickF (statFor c) l
theorem andLt {i m n:Int}(h:pick2 (decide (i<m)) (decide (i<n)) false=true):i<m∧i<n:=by
 unfold pick2 at h
 cases h1:decide (i<m)<;>rw[h1]at h
 · cases h
 · exact⟨of_decide_eq_true h1,of_decide_eq_true h⟩
theorem andGe {i m n:Int}(h:pick2 (decide (i<m)) (decide (i<n)) false=false):¬(i<m∧i<n):=by
 rintro⟨h1,h2⟩
 unfold pick2 at h
 rw[decide_eq_true h1,decide_eq_true h2]at h
 cases h
theorem geNot {x:Int}(h:decide (x≥0)=true):¬x<0:=by have:=of_decide_eq_true h;omega
end Fw
namespace Fw
open Go
noncomputable def pairDF (m a b:Int):Int:=digestF m [1,a,b]
noncomputable def upF (m:Int):List Int→List Int
 | []=>[]
 | [a]=>[a]
 | a::b::r=>pairDF m a b::upF m r
theorem upF_len (m:Int):∀ l:List Int,(upF m l).length≤l.length∧(2≤l.length→(upF m l).length<l.length)∧(1≤l.length→1≤(upF m l).length)
 | []=>by simp[upF]
 | [a]=>by simp[upF]
 | a::b::r=>by
   have:=upF_len m r
   simp only[upF,List.length_cons]
   omega
noncomputable def rootL (m:Int)(l:List Int):List Int:=if _h:2≤l.length then rootL m (upF m l)else l
termination_by l.length
decreasing_by exact(upF_len m l).2.1 _h
theorem rootL_up {m:Int}{l:List Int}(h:2≤l.length):rootL m l=rootL m (upF m l):=by rw[rootL,dif_pos h]
theorem rootL_end {m:Int}{l:List Int}(h:¬2≤l.length):rootL m l=l:=by rw[rootL,dif_neg h]
noncomputable def treeF (m:Int)(l:List Int):Int:=if inRangeF (l.length:Int) 1 16=true then(rootL m l).getD 0 (dflt TI)else -1
theorem tree0 {m:Int}{l:List Int}(h:(!(inRangeF (l.length:Int) 1 16))=true):(-1:Int)=treeF m l:=by
 unfold treeF;rw[if_neg]
 intro e;rw[e]at h;cases h
def trInv (m:Int)(l0 l:List Int):Prop:=rootL m l=rootL m l0∧1≤l.length∧l.length≤16
theorem rg {x a b:Int}(h:(!(inRangeF x a b))=false):a≤x∧x≤b:=by
 unfold inRangeF pick2 at h
 cases h1:decide (a≤x)<;>rw[h1]at h
 · cases h
 · cases h2:decide (x≤b)<;>rw[h2]at h
   · cases h
   · exact⟨of_decide_eq_true h1,of_decide_eq_true h2⟩
theorem trStart {m:Int}{l:List Int}(h:1≤(l.length:Int)∧(l.length:Int)≤16):trInv m l l:=⟨rfl,by omega,by omega⟩
theorem trStep {m:Int}{l0 l:List Int}(h:trInv m l0 l)(g:(l.length:Int)>1):trInv m l0 (upF m l)∧(upF m l).length<l.length:=by
 have hl:=upF_len m l
 have h2:2≤l.length:=by omega
 exact⟨⟨by rw[←rootL_up h2];exact h.1,hl.2.2 h.2.1,by have:=hl.1;have:=h.2.2;omega⟩,hl.2.1 h2⟩
theorem trEnd {m:Int}{l0 l:List Int}(h:trInv m l0 l)(g:¬(l.length:Int)>1)(hr:(!(inRangeF (l0.length:Int) 1 16))=false):l.getD 0 (dflt TI)=treeF m l0:=by
 unfold treeF
 rw[if_pos (by simpa using hr),←h.1,rootL_end (by omega)]
theorem trIdx {m:Int}{l0 l:List Int}(h:trInv m l0 l):inRange 0 l.length:=⟨by omega,by have:=h.2.1;omega⟩
theorem trSmall {m:Int}{l0 l:List Int}(h:trInv m l0 l):l.length≤1048576:=by have:=h.2.2;omega
def liInv (m:Int)(l out:List Int)(i:Int):Prop:=0≤i∧upF m l=out++upF m (l.drop i.toNat)∧(out.length:Int)≤i
theorem liStart {m:Int}{l:List Int}:liInv m l [] 0:=⟨by omega,by simp,by simp⟩
theorem liRange {m:Int}{l out:List Int}{i:Int}(h:liInv m l out i)(hl:i<(l.length:Int)):inRange i l.length:=⟨h.1,hl⟩
theorem liRange1 {m:Int}{l out:List Int}{i:Int}(h:liInv m l out i)(g:IntKind.i64.wrap (i+1)<(l.length:Int))(hs:l.length≤1048576)(hl:i<(l.length:Int)):inRange (IntKind.i64.wrap (i+1)) l.length:=by
 refine⟨?_,g⟩
 rw[w64 (by have:=h.1;omega) (by omega)]
 have:=h.1;omega
theorem liLen {m:Int}{l out:List Int}{i:Int}(h:liInv m l out i)(hs:l.length≤1048576)(hl:i<(l.length:Int)):out.length+1≤maxApp:=by
 have:=h.2.2;unfold maxApp;omega
theorem li2 {m:Int}{l out:List Int}{i:Int}(h:liInv m l out i)(hl:i<(l.length:Int))(hs:l.length≤1048576)(g:IntKind.i64.wrap (i+1)<(l.length:Int)):
   liInv m l (out++[pairDF m (l.getD i.toNat (dflt TI)) (l.getD (IntKind.i64.wrap (i+1)).toNat (dflt TI))]) (IntKind.i64.wrap (i+2))∧((l.length:Int)-IntKind.i64.wrap (i+2)).toNat<((l.length:Int)-i).toNat:=by
 obtain⟨h0,h1,h2⟩:=h
 rw[w64 (x:=i+1) (by omega) (by omega)]at g ⊢
 rw[w64 (x:=i+2) (by omega) (by omega)]
 have a1:i.toNat<l.length:=by omega
 have a2:i.toNat+1<l.length:=by omega
 have e1:(i+1).toNat=i.toNat+1:=by omega
 have e2:(i+2).toNat=i.toNat+2:=by omega
 refine⟨⟨by omega,?_,by simp only[List.length_append,List.length_singleton];omega⟩,by omega⟩
 rw[h1,e1,e2,List.drop_eq_getElem_cons a1,List.drop_eq_getElem_cons a2]
 have g1:l.getD i.toNat (dflt TI)=l[i.toNat]:=by rw[List.getD_eq_getElem?_getD,List.getElem?_eq_getElem a1];rfl
 have g2:l.getD (i.toNat+1) (dflt TI)=l[i.toNat+1]:=by rw[List.getD_eq_getElem?_getD,List.getElem?_eq_getElem a2];rfl
 rw[g1,g2,upF,List.append_assoc];rfl
theorem li1 {m:Int}{l out:List Int}{i:Int}(h:liInv m l out i)(hl:i<(l.length:Int))(hs:l.length≤1048576)(g:¬IntKind.i64.wrap (i+1)<(l.length:Int)):
   liInv m l (out++[l.getD i.toNat (dflt TI)]) (IntKind.i64.wrap (i+2))∧((l.length:Int)-IntKind.i64.wrap (i+2)).toNat<((l.length:Int)-i).toNat:=by
 obtain⟨h0,h1,h2⟩:=h
 rw[w64 (x:=i+1) (by omega) (by omega)]at g
 rw[w64 (x:=i+2) (by omega) (by omega)]
 have a1:i.toNat<l.length:=by omega
 refine⟨⟨by omega,?_,by simp only[List.length_append,List.length_singleton];omega⟩,by omega⟩
 have g1:l.getD i.toNat (dflt TI)=l[i.toNat]:=by rw[List.getD_eq_getElem?_getD,List.getElem?_eq_getElem a1];rfl
 rw[h1,List.drop_eq_getElem_cons a1,List.drop_eq_nil_of_le (by omega),List.drop_eq_nil_of_le (by omega),g1]
 simp[upF]
theorem liEnd {m:Int}{l out:List Int}{i:Int}(h:liInv m l out i)(hl:¬i<(l.length:Int)):out=upF m l:=by
 rw[h.2.1,List.drop_eq_nil_of_le (by omega)];simp[upF]
end Fw
namespace Fw
open Go
def cpInv {α:Type}(L:List α)(acc:List α)(i:Int):Prop:=upInv L i∧acc=L.take i.toNat
theorem cpStart {α:Type}{L:List α}:cpInv L [] 0:=⟨upStart,by simp⟩
theorem cpRange {α:Type}{L acc:List α}{i:Int}(h:cpInv L acc i)(hl:i<L.length):inRange i L.length:=upRange h.1 hl
theorem cpStep {α:Type}{L acc acc':List α}{d:α}{i:Int}(h:cpInv L acc i)(hl:i<L.length)(hb:L.length≤bigLen)(e:acc'=acc++[L.getD i.toNat d]):
   cpInv L acc' (IntKind.i64.wrap (i+1))∧(L.length-(IntKind.i64.wrap (i+1))).toNat<(L.length-i).toNat:=by
 obtain⟨u1,u2,u3⟩:=upStep h.1 hl hb
 obtain⟨k,hk,e1⟩:=h.1
 refine⟨⟨u1,?_⟩,u3⟩
 have e2:(IntKind.i64.wrap (i+1)).toNat=i.toNat+1:=by rw[u2];omega
 rw[e2,take_succD (by omega) d,e,h.2]
theorem cpEnd {α:Type}{L acc:List α}{i:Int}(h:cpInv L acc i)(hl:¬i<L.length):acc=L:=by
 obtain⟨k,hk,e1⟩:=h.1
 rw[h.2,List.take_of_length_le (by omega)]
theorem cpLen {α:Type}{L acc:List α}{i:Int}(h:cpInv L acc i)(_:i<L.length)(hs:L.length≤big20):acc.length+1≤maxApp:=by
 rw[h.2,List.length_take]
 unfold big20 at hs;unfold maxApp;omega
theorem appOk {α:Type}{l:List α}(h:l.length≤big20):0+l.length≤maxApp:=by
 unfold big20 at h;unfold maxApp;omega
end Fw
namespace Fw
open Go
noncomputable def leafOfF (m doc:Int)(l:List Piece)(b:Int):Int:=digestF m [3,doc,piecesF m l,b]
noncomputable def beforeF (m:Int)(ch:List Renewal)(k:Int):Int:=if k>0 then renDigF m (ch.getD (IntKind.i64.wrap (k-1)).toNat (dflt TRen))else 0
def chAt (s:Strand)(k:Int):Renewal:=s.2.getD k.toNat (dflt TRen)
def leafAtBad (s:Strand)(docs:List Int)(k:Int):Bool:=
 pick2 (pick2 (!(inRangeF k 0 (IntKind.i64.wrap ((s.2.length:Int)-1)))) true ((docs.length:Int) != (s.2.length:Int))) true (!(inRangeF (chAt s k).1 0 (s.1.length:Int)))
noncomputable def leafAtF (s:Strand)(docs:List Int)(k:Int):Int:=
 if leafAtBad s docs k=true then -1 else leafOfF (chAt s k).2.1 (docs.getD k.toNat (dflt TI)) (subL s.1 0 (chAt s k).1) (beforeF (chAt s k).2.1 s.2 k)
theorem la0 {s:Strand}{docs:List Int}{k:Int}(h:leafAtBad s docs k=true):(-1:Int)=leafAtF s docs k:=by unfold leafAtF;rw[if_pos h]
theorem la1 {s:Strand}{docs:List Int}{k:Int}(h:leafAtBad s docs k=false)(g:k>0):
   leafOfF (chAt s k).2.1 (docs.getD k.toNat (dflt TI)) (subL s.1 0 (chAt s k).1) (renDigF (chAt s k).2.1 (s.2.getD (IntKind.i64.wrap (k-1)).toNat (dflt TRen)))=leafAtF s docs k:=by
 unfold leafAtF beforeF;rw[if_neg (by rw[h];decide),if_pos g]
theorem la2 {s:Strand}{docs:List Int}{k:Int}(h:leafAtBad s docs k=false)(g:¬k>0):
   leafOfF (chAt s k).2.1 (docs.getD k.toNat (dflt TI)) (subL s.1 0 (chAt s k).1) 0=leafAtF s docs k:=by
 unfold leafAtF beforeF;rw[if_neg (by rw[h];decide),if_neg g]
theorem laIdx {k:Int}{n:Nat}(h:(!(inRangeF k 0 (IntKind.i64.wrap ((n:Int)-1))))=false)(hb:n≤bigLen):inRange k n:=by
 have:=rg h
 unfold bigLen at hb
 rw[w64 (by omega) (by omega)]at this
 exact⟨this.1,by omega⟩
theorem prevIdx {k:Int}{n:Nat}(h:inRange k n)(g:k>0)(hb:n≤bigLen):inRange (IntKind.i64.wrap (k-1)) n:=by
 obtain⟨h1,h2⟩:=h
 unfold bigLen at hb
 rw[w64 (by omega) (by omega)]
 exact⟨by omega,by omega⟩
theorem getD_mem {α:Type}{l:List α}{k:Int}(h:inRange k l.length)(d:α):l.getD k.toNat d∈l:=by
 obtain⟨h1,h2⟩:=h
 rw[List.getD_eq_getElem?_getD,List.getElem?_eq_getElem (by omega)]
 exact List.getElem_mem _
theorem subL_sm {l:List Piece}{a b:Int}(h:Sm big20 (.slice TPiece) l):Sm big20 (.slice TPiece) (subL l a b):=by
 refine⟨?_,fun x hx=>h.2 x (List.mem_of_mem_take (List.mem_of_mem_drop hx))⟩
 have:=h.1
 unfold subL
 rw[List.length_drop,List.length_take];omega
noncomputable def ddF (d:Doc)(r:Renewal):Int×Bool:=(docDigF r.2.1 d,true)
noncomputable def docDigsF (s:Strand)(d:Doc):List Int:=pickF (ddF d) s.2
theorem pick_true {α β:Type}(g:α→β)(L:List α):pickF (fun x=>(g x,true)) L=L.map g:=by
 unfold pickF
 induction L with
 | nil=>rfl
 | cons x r ih=>simp
theorem pkLen2 {α β:Type}{f:α→β×Bool}{L:List α}{acc:List β}{i:Int}(h:pkInv f L acc i)(hs:L.length≤2000000):acc.length+1≤maxApp:=by
 have:=pick_len f (L.take i.toNat)
 rw[←h.2,List.length_take]at this
 unfold maxApp;omega
end Fw
namespace Fw
open Go
end Fw
namespace Fw
open Go
noncomputable def addPieceF (s:Strand)(p:Piece):Strand×Bool:=if strandF (s.1++[p],s.2)=true then((s.1++[p],s.2),true)else(s,false)
theorem ap0 {s:Strand}{p:Piece}(h:(!(strandF (s.1++[p],s.2)))=true):addPieceF s p=(s,false):=by
 unfold addPieceF;rw[if_neg (by intro e;rw[e]at h;cases h)]
theorem ap1 {s:Strand}{p:Piece}(h:(!(strandF (s.1++[p],s.2)))=false):addPieceF s p=((s.1++[p],s.2),true):=by
 unfold addPieceF;rw[if_pos (by simpa using h)]
theorem apLen {l:List Piece}(h:l.length≤big20):l.length+1≤maxApp:=by unfold big20 at h;unfold maxApp;omega
end Fw
namespace Fw
open Go
end Fw
namespace Fw
open Go
end Fw
namespace Fw
open Go
theorem appMore {α:Type}{l:List α}(h:l.length≤4000000):0+l.length≤maxApp:=by unfold maxApp;omega
abbrev TStrand:Ty:=.pair (.slice TPiece) (.slice TRen)
end Fw
namespace Fw
open Go
end Fw
namespace Fw
open Go
end Fw
namespace Fw
open Go
end Fw
namespace Fw
open Go
end Fw
namespace Fw
open Go
end Fw
namespace Fw
open Go
def tkInv {α:Type}(p:α→Bool)(l:List α)(i:Int):Prop:=0≤i∧i≤l.length∧∀ y∈l.take i.toNat,p y=true
section
variable {α:Type} {p:α→Bool} {l:List α} {i:Int} {d x:α}
theorem tkStart:tkInv p l 0:=⟨by omega,by omega,by simp⟩
theorem tkRange (h:tkInv p l i)(hl:i<(l.length:Int)):inRange i l.length:=⟨h.1,hl⟩
theorem tkEnd (h:tkInv p l i)(g:pick2 (decide (i<(l.length:Int))) (p (l.getD i.toNat d)) false=false):i.toNat=(l.takeWhile p).length:=by
 obtain⟨h1,h2,h3⟩:=h
 have e:l.takeWhile p=l.take i.toNat:=by
   have e1:l=l.take i.toNat++l.drop i.toNat:=(List.take_append_drop _ _).symm
   rw[e1,List.takeWhile_append_of_pos h3]
   have e2:(l.drop i.toNat).takeWhile p=[]:=by
     by_cases hl:i.toNat<l.length
     · rw[List.drop_eq_getElem_cons hl,List.takeWhile_cons_of_neg]
       have hd:decide (i<(l.length:Int))=true:=decide_eq_true (by omega)
       rw[hd]at g
       have g:p (l.getD i.toNat d)=false:=g
       rw[List.getD_eq_getElem?_getD,List.getElem?_eq_getElem hl]at g
       simp only[Option.getD_some]at g
       rw[g];simp
     · rw[List.drop_eq_nil_of_le (by omega)];rfl
   rw[e2,List.append_nil,←e1]
 rw[e,List.length_take];omega
def insP (p:α→Bool)(x:α)(l:List α):List α:=l.takeWhile p++x::l.dropWhile p
theorem tw_take:l.take (l.takeWhile p).length=l.takeWhile p:=by
 have e:=List.takeWhile_append_dropWhile (p:=p) (l:=l)
 have:(l.takeWhile p++l.dropWhile p).take (l.takeWhile p).length=l.takeWhile p:=List.take_left
 rwa [e]at this
theorem tw_drop:l.drop (l.takeWhile p).length=l.dropWhile p:=by
 have e:=List.takeWhile_append_dropWhile (p:=p) (l:=l)
 have:(l.takeWhile p++l.dropWhile p).drop (l.takeWhile p).length=l.dropWhile p:=List.drop_left
 rwa [e]at this
theorem insP_len:(insP p x l).length=l.length+1:=by
 have e:=congrArg List.length (List.takeWhile_append_dropWhile (p:=p) (l:=l))
 rw[List.length_append]at e
 unfold insP;rw[List.length_append,List.length_cons];omega
theorem insP_eq {m k:Nat}(hm:m=(l.takeWhile p).length)(hk:k=(l.takeWhile p).length):l.take m++([]++[x])++l.drop k=insP p x l:=by
 subst hm;subst hk
 rw[tw_take,tw_drop];simp[insP]
theorem sub0_len (h:tkInv p l i):(subL l 0 i).length=i.toNat:=by
 unfold subL;rw[List.length_drop,List.length_take];have:=h.2.1;have:=h.1;simp;omega
end
end Fw
namespace Fw
open Go
end Fw
namespace Fw
open Go
abbrev Red:=Int×List Int×List Bool×List (List UInt8)×List Int×List (List Int)
end Fw
namespace Fw
open Go
end Fw
namespace Fw
open Go
end Fw
namespace Fw
open Go
theorem upF_half (m:Int):∀ l:List Int,(upF m l).length=(l.length+1) / 2
 | []=>rfl
 | [a]=>by simp[upF]
 | a::b::r=>by
   have:=upF_half m r
   simp only[upF,List.length_cons,this]
   omega
abbrev Step1:=Int×Bool
def stepF (l:List Int)(i:Int):List Step1:=if i.tmod 2=1 then [(l.getD (i-1).toNat (dflt TI),true)]else if i+1<(l.length:Int)then [(l.getD (i+1).toNat (dflt TI),false)]else []
noncomputable def pathL (m:Int)(l:List Int)(i:Int):List Step1:=if _h:2≤l.length then stepF l i++pathL m (upF m l) (i.tdiv 2)else []
termination_by l.length
decreasing_by exact(upF_len m l).2.1 _h
noncomputable def pathF (m:Int)(l:List Int)(i:Int):List Step1:=if 0≤i∧i<(l.length:Int)∧l.length≤16 then pathL m l i else []
def ptInv (m:Int)(l0:List Int)(i0:Int)(l:List Int)(i:Int)(out:List Step1):Prop:=out++pathL m l i=pathL m l0 i0∧0≤i∧i<(l.length:Int)∧l.length≤16∧out.length+l.length≤16
theorem ptBadI {l:List Int}{i:Int}(hb:l.length≤bigLen)(h:(!(inRangeF i 0 (IntKind.i64.wrap ((l.length:Int)-1))))=true):¬(0≤i∧i<(l.length:Int)):=by
 rintro⟨h1,h2⟩
 have e:IntKind.i64.wrap ((l.length:Int)-1)=(l.length:Int)-1:=w64 (by omega) (by unfold bigLen at hb;omega)
 rw[e]at h
 have:inRangeF i 0 ((l.length:Int)-1)=true:=by
   unfold inRangeF pick2
   rw[decide_eq_true h1,decide_eq_true (show i≤(l.length:Int)-1 by omega)];rfl
 rw[this]at h;cases h
theorem ptGoodI {l:List Int}{i:Int}(hb:l.length≤bigLen)(h:(!(inRangeF i 0 (IntKind.i64.wrap ((l.length:Int)-1))))=false):0≤i∧i<(l.length:Int):=by
 have e:IntKind.i64.wrap ((l.length:Int)-1)=(l.length:Int)-1:=w64 (by omega) (by unfold bigLen at hb;omega)
 rw[e]at h
 have:=rg h
 omega
theorem pt0s {m i:Int}{l:List Int}(hb:l.length≤bigLen)(h:pick2 (decide ((l.length:Int)>16)) true (!(inRangeF i 0 (IntKind.i64.wrap ((l.length:Int)-1))))=true):([]:List Step1)=pathF m l i:=by
 unfold pathF
 rw[if_neg]
 rintro⟨h1,h2,h3⟩
 rw[decide_eq_false (by omega)]at h
 exact ptBadI hb h ⟨h1,h2⟩
theorem ptGos {i:Int}{l:List Int}(hb:l.length≤bigLen)(h:pick2 (decide ((l.length:Int)>16)) true (!(inRangeF i 0 (IntKind.i64.wrap ((l.length:Int)-1))))=false):0≤i∧i<(l.length:Int)∧l.length≤16:=by
 have h1:=ptGoodI hb (orF h).2
 have h2:=of_decide_eq_false (orF h).1
 exact⟨h1.1,h1.2,by omega⟩
theorem ptStart {m i:Int}{l:List Int}(h:0≤i∧i<(l.length:Int)∧l.length≤16):ptInv m l i l i []:=⟨rfl,h.1,h.2.1,h.2.2,by simpa using h.2.2⟩
theorem ptNext {m i0 i:Int}{l0 l:List Int}{out out':List Step1}(h:ptInv m l0 i0 l i out)(g:(l.length:Int)>1)(e:out'=out++stepF l i)(hs:(stepF l i).length≤1):
   ptInv m l0 i0 (upF m l) (IntKind.i64.wrap (i.tdiv 2)) out'∧(upF m l).length<l.length:=by
 obtain⟨h1,h2,h3,h4,h5⟩:=h
 have hh:=upF_half m l
 have h2l:2≤l.length:=by omega
 have ed:i.tdiv 2=i / 2:=Int.tdiv_eq_ediv_of_nonneg h2
 have e0:IntKind.i64.wrap (i.tdiv 2)=i.tdiv 2:=w64 (by omega) (by omega)
 refine⟨⟨?_,?_,?_,by omega,?_⟩,by omega⟩
 · rw[e0,e,List.append_assoc,←h1]
   congr 1
   conv=>rhs;rw[pathL,dif_pos h2l]
 · rw[e0];omega
 · rw[e0,hh];omega
 · rw[e,List.length_append];omega
theorem ptOdd {l:List Int}{i:Int}(h:0≤i)(h3:i<(l.length:Int))(h16:l.length≤16)(g:(i.tmod 2==1)=true):stepF l i=[(l.getD (IntKind.i64.wrap (i-1)).toNat (dflt TI),true)]∧inRange (IntKind.i64.wrap (i-1)) l.length:=by
 have g:i.tmod 2=1:=by simpa using g
 have e:IntKind.i64.wrap (i-1)=i-1:=w64 (by omega) (by omega)
 have h1:1≤i:=by
   by_cases q:i<1
   · have:i=0:=by omega
     subst this;simp at g
   · omega
 rw[e]
 refine⟨by unfold stepF;rw[if_pos g],by omega,by omega⟩
theorem ptEven {l:List Int}{i:Int}(h:0≤i)(h3:i<(l.length:Int))(h16:l.length≤16)(g:(i.tmod 2==1)=false)(g2:IntKind.i64.wrap (i+1)<(l.length:Int)):stepF l i=[(l.getD (IntKind.i64.wrap (i+1)).toNat (dflt TI),false)]∧inRange (IntKind.i64.wrap (i+1)) l.length:=by
 have g:¬i.tmod 2=1:=by simpa using g
 have e:IntKind.i64.wrap (i+1)=i+1:=w64 (by omega) (by omega)
 rw[e]at g2 ⊢
 refine⟨by unfold stepF;rw[if_neg g,if_pos g2],by omega,g2⟩
theorem ptLast {l:List Int}{i:Int}(h:0≤i)(h3:i<(l.length:Int))(h16:l.length≤16)(g:(i.tmod 2==1)=false)(g2:¬IntKind.i64.wrap (i+1)<(l.length:Int)):stepF l i=[]:=by
 have g:¬i.tmod 2=1:=by simpa using g
 have e:IntKind.i64.wrap (i+1)=i+1:=w64 (by omega) (by omega)
 rw[e]at g2
 unfold stepF;rw[if_neg g,if_neg g2]
theorem ptA {m i0 i:Int}{l0 l:List Int}{out:List Step1}(h:ptInv m l0 i0 l i out)(g:(l.length:Int)>1)(g2:(i.tmod 2==1)=true):
   ptInv m l0 i0 (upF m l) (IntKind.i64.wrap (i.tdiv 2)) (out++[(l.getD (IntKind.i64.wrap (i-1)).toNat (dflt TI),true)])∧(upF m l).length<l.length:=by
 have e:=(ptOdd h.2.1 h.2.2.1 h.2.2.2.1 g2).1
 exact ptNext h g (by rw[e]) (by rw[e];simp)
theorem ptB {m i0 i:Int}{l0 l:List Int}{out:List Step1}(h:ptInv m l0 i0 l i out)(g:(l.length:Int)>1)(g2:(i.tmod 2==1)=false)(g3:IntKind.i64.wrap (i+1)<(l.length:Int)):
   ptInv m l0 i0 (upF m l) (IntKind.i64.wrap (i.tdiv 2)) (out++[(l.getD (IntKind.i64.wrap (i+1)).toNat (dflt TI),false)])∧(upF m l).length<l.length:=by
 have e:=(ptEven h.2.1 h.2.2.1 h.2.2.2.1 g2 g3).1
 exact ptNext h g (by rw[e]) (by rw[e];simp)
theorem ptC {m i0 i:Int}{l0 l:List Int}{out:List Step1}(h:ptInv m l0 i0 l i out)(g:(l.length:Int)>1)(g2:(i.tmod 2==1)=false)(g3:¬IntKind.i64.wrap (i+1)<(l.length:Int)):
   ptInv m l0 i0 (upF m l) (IntKind.i64.wrap (i.tdiv 2)) out∧(upF m l).length<l.length:=by
 have e:=ptLast h.2.1 h.2.2.1 h.2.2.2.1 g2 g3
 exact ptNext h g (by rw[e,List.append_nil]) (by rw[e];simp)
theorem ptLen {m i0 i:Int}{l0 l:List Int}{out:List Step1}(h:ptInv m l0 i0 l i out):out.length+1≤maxApp:=by
 have:=h.2.2.2.2;unfold maxApp;omega
theorem ptSm {m i0 i:Int}{l0 l:List Int}{out:List Step1}(h:ptInv m l0 i0 l i out):l.length≤1048576:=by have:=h.2.2.2.1;omega
theorem ptEnd {m i0 i:Int}{l0 l:List Int}{out:List Step1}(h:ptInv m l0 i0 l i out)(g:¬(l.length:Int)>1)(g0:0≤i0∧i0<(l0.length:Int)∧l0.length≤16):out=pathF m l0 i0:=by
 have e:=h.1
 rw[pathL,dif_neg (by omega),List.append_nil]at e
 unfold pathF
 rw[if_pos g0,e]
theorem stepF_len (l:List Int)(i:Int):(stepF l i).length≤1:=by
 unfold stepF
 split
 · exact Nat.le_refl _
 · split
   · exact Nat.le_refl _
   · exact Nat.zero_le _
theorem pathL_len (m:Int):∀ (n:Nat) (l:List Int) (i:Int),l.length≤n→(pathL m l i).length≤n
 | 0,l,i,h=>by rw[pathL,dif_neg (by omega)];exact Nat.le_refl _
 | n+1,l,i,h=>by
   rw[pathL]
   split
   · rename_i h2
     have:=pathL_len m n (upF m l) (i.tdiv 2) (by have:=(upF_len m l).2.1 h2;omega)
     have:=stepF_len l i
     rw[List.length_append];omega
   · exact Nat.zero_le _
noncomputable def addRenF (s:Strand)(r:Renewal):Strand×Bool:=if strandF (s.1,s.2++[r])=true then((s.1,s.2++[r]),true)else(s,false)
theorem ar0 {s:Strand}{r:Renewal}(h:(!(strandF (s.1,s.2++[r])))=true):addRenF s r=(s,false):=by
 unfold addRenF;rw[if_neg (by intro e;rw[e]at h;cases h)]
theorem ar1 {s:Strand}{r:Renewal}(h:(!(strandF (s.1,s.2++[r])))=false):addRenF s r=((s.1,s.2++[r]),true):=by
 unfold addRenF;rw[if_pos (by simpa using h)]
theorem arLen {l:List Renewal}(h:l.length≤big20):l.length+1≤maxApp:=by unfold big20 at h;unfold maxApp;omega
end Fw
namespace Fw
open Go
section
variable {con:Stamp→Stamp→Bool} {st:List Stamp}
end
end Fw
namespace Fw
open Go
abbrev Span:=Int×Int
def makeSpanF (a b:Int):Span×Bool:=if max 0 a>min 10000 b then((0,0),false)else((max 0 a,min 10000 b),true)
theorem mkSp0 {a b:Int}(h:max 0 a>min 10000 b):makeSpanF a b=((0,0),false):=by unfold makeSpanF;rw[if_pos h]
theorem mkSp1 {a b:Int}(h:¬max 0 a>min 10000 b):makeSpanF a b=((max 0 a,min 10000 b),true):=by unfold makeSpanF;rw[if_neg h]
theorem isSpan_iff (s:Span):isSpanF s=true↔0≤s.1∧s.1≤s.2∧s.2≤10000:=by
 unfold isSpanF isTimeF inRangeF
 simp only[pick2_and,Bool.and_eq_true,decide_eq_true_eq]
 omega
theorem mkSpI {a b:Int}:pick2 (decide (a>b)) true (!(isSpanF (max a 0,min b 10000)))=true↔max 0 a>min 10000 b:=by
 have h:=isSpan_iff (max a 0,min b 10000)
 rw[pick2_or,Bool.or_eq_true,decide_eq_true_eq,Bool.not_eq_true',←Bool.not_eq_true,h]
 simp only[]
 omega
theorem mkSpI0 {a b:Int}(h:pick2 (decide (a>b)) true (!(isSpanF (max a 0,min b 10000)))=true):makeSpanF a b=((0,0),false):=mkSp0 (mkSpI.1 h)
theorem mkSpI1 {a b:Int}(h:pick2 (decide (a>b)) true (!(isSpanF (max a 0,min b 10000)))=false):makeSpanF a b=((max a 0,min b 10000),true):=by
 rw[mkSp1 (fun h2=>by rw[mkSpI.2 h2]at h;cases h),Int.max_comm,Int.min_comm]
def ssBad (l:List Authority)(s:Stamp):Bool:=pick2 (pick2 (decide (authI l s.1<0)) true (decide ((authAt l s.1).2.2<0))) true (!(isTimeF s.2.2.1))
def stampSpanF (l:List Authority)(s:Stamp):Span×Bool:=
 if ssBad l s=true then((0,0),false)else makeSpanF (IntKind.i64.wrap (s.2.2.1-(authAt l s.1).2.2)) (IntKind.i64.wrap (s.2.2.1+(authAt l s.1).2.2))
theorem ss0 {l:List Authority}{s:Stamp}(h:ssBad l s=true):stampSpanF l s=((0,0),false):=by unfold stampSpanF;rw[if_pos h]
theorem ss1 {l:List Authority}{s:Stamp}(h:ssBad l s=false):stampSpanF l s=makeSpanF (IntKind.i64.wrap (s.2.2.1-(authAt l s.1).2.2)) (IntKind.i64.wrap (s.2.2.1+(authAt l s.1).2.2)):=by
 unfold stampSpanF;rw[if_neg (by rw[h];decide)]
theorem ssIdx {l:List Authority}{s:Stamp}(h:ssBad l s=false):inRange (authI l s.1) l.length:=by
 refine findRange fun h2=>?_
 have h1:=(orF (orF h).1).1
 exact of_decide_eq_false h1 h2
def inSp (t:Int)(s:Span):Bool:=pick2 (isSpanF s) (inRangeF t s.1 s.2) false
def cntStep (t:Int)(n:Int)(s:Span):Int:=if inSp t s=true then IntKind.i64.wrap (n+1)else n
def countAtF (l:List Span)(t:Int):Int:=l.foldl (cntStep t) 0
theorem inSp_iff {t:Int}{s:Span}:inSp t s=true↔0≤s.1∧s.1≤t∧t≤s.2∧s.2≤10000:=by
 have h:=isSpan_iff s
 unfold inSp
 rw[pick2_and,Bool.and_eq_true,h]
 unfold inRangeF
 rw[pick2_and,Bool.and_eq_true,decide_eq_true_eq,decide_eq_true_eq]
 omega
theorem cntSpec {t:Int}{s:Span}:pick2 (pick2 (isSpanF s) (decide (s.1≤t)) false) (decide (t≤s.2)) false=inSp t s:=by
 unfold inSp inRangeF
 cases isSpanF s<;>cases decide (s.1≤t)<;>rfl
theorem cntY {t n:Int}{s:Span}(h:inSp t s=true):cntStep t n s=IntKind.i64.wrap (n+1):=if_pos h
theorem cntN {t n:Int}{s:Span}(h:inSp t s=false):cntStep t n s=n:=if_neg (by rw[h];decide)
theorem countAux (t:Int):∀ (l:List Span) (k:Nat),k+l.length≤bigLen→l.foldl (cntStep t) (k:Int)=((k+l.countP (inSp t):Nat):Int)
 | [],k,_=>rfl
 | s::r,k,h=>by
   have hb:k+1+r.length≤bigLen:=by rw[List.length_cons]at h;omega
   rw[List.foldl_cons,List.countP_cons]
   cases hs:inSp t s with
   | true=>
     rw[cntY hs]
     have e:IntKind.i64.wrap ((k:Int)+1)=((k+1:Nat):Int):=by
       rw[w64 (by omega) (by unfold bigLen at hb;omega)];omega
     rw[e,countAux t r (k+1) hb]
     simp only[if_true]
     omega
   | false=>
     rw[cntN hs,countAux t r k (by omega)]
     simp
theorem countAt_eq {l:List Span}(h:l.length≤bigLen)(t:Int):countAtF l t=((l.countP (inSp t):Nat):Int):=by
 have:=countAux t l 0 (by omega)
 unfold countAtF
 rw[Nat.zero_add]at this
 exact this
def supF (l:List Span)(t liars:Int):Bool:=pick2 (inRangeF liars 0 (IntKind.i64.wrap ((l.length:Int)-1))) (decide (countAtF l t≥IntKind.i64.wrap ((l.length:Int)-liars))) false
theorem sup_iff {l:List Span}(hb:l.length≤bigLen)(t liars:Int):supF l t liars=true↔0≤liars∧liars<l.length∧(l.length:Int)-liars≤((l.countP (inSp t):Nat):Int):=by
 unfold supF
 rw[countAt_eq hb,pick2_and,Bool.and_eq_true,decide_eq_true_eq]
 have e1:IntKind.i64.wrap ((l.length:Int)-1)=(l.length:Int)-1:=w64 (by omega) (by unfold bigLen at hb;omega)
 rw[e1]
 unfold inRangeF
 rw[pick2_and,Bool.and_eq_true,decide_eq_true_eq,decide_eq_true_eq]
 constructor
 · rintro⟨⟨h1,h2⟩,h3⟩
   rw[w64 (by unfold bigLen at hb;omega) (by unfold bigLen at hb;omega)]at h3
   omega
 · rintro⟨h1,h2,h3⟩
   rw[w64 (by unfold bigLen at hb;omega) (by unfold bigLen at hb;omega)]
   omega
theorem cntMono {l:List Span}{t u:Int}(h:∀ s∈l,inSp t s=true→inSp u s=true):l.countP (inSp t)≤l.countP (inSp u):=
 List.countP_mono_left h
theorem lastFrom (t:Int):∀ l:List Span,(∃ s∈l,inSp t s=true)→∃ s∈l,inSp t s=true∧∀ x∈l,inSp t x=true→x.1≤s.1
 | [],h=>by obtain⟨s,hs,_⟩:=h;cases hs
 | a::r,h=>by
   by_cases hr:∃ s∈r,inSp t s=true
   · obtain⟨s,hs,h1,h2⟩:=lastFrom t r hr
     by_cases ha:inSp t a=true∧s.1≤a.1
     · refine⟨a,List.mem_cons_self,ha.1,fun x hx hi=>?_⟩
       rcases List.mem_cons.1 hx with e | e
       · rw[e];exact Int.le_refl _
       · exact Int.le_trans (h2 x e hi) ha.2
     · refine⟨s,List.mem_cons_of_mem _ hs,h1,fun x hx hi=>?_⟩
       rcases List.mem_cons.1 hx with e | e
       · rw[e]at hi ⊢
         exact Int.le_of_lt (Int.not_le.1 fun hh=>ha ⟨hi,hh⟩)
       · exact h2 x e hi
   · obtain⟨s,hs,h1⟩:=h
     rcases List.mem_cons.1 hs with e | e
     · refine⟨s,hs,h1,fun x hx hi=>?_⟩
       rcases List.mem_cons.1 hx with e2 | e2
       · rw[e,e2];exact Int.le_refl _
       · exact(hr ⟨x,e2,hi⟩).elim
     · exact(hr ⟨s,e,h1⟩).elim
theorem firstTo (t:Int):∀ l:List Span,(∃ s∈l,inSp t s=true)→∃ s∈l,inSp t s=true∧∀ x∈l,inSp t x=true→s.2≤x.2
 | [],h=>by obtain⟨s,hs,_⟩:=h;cases hs
 | a::r,h=>by
   by_cases hr:∃ s∈r,inSp t s=true
   · obtain⟨s,hs,h1,h2⟩:=firstTo t r hr
     by_cases ha:inSp t a=true∧a.2≤s.2
     · refine⟨a,List.mem_cons_self,ha.1,fun x hx hi=>?_⟩
       rcases List.mem_cons.1 hx with e | e
       · rw[e];exact Int.le_refl _
       · exact Int.le_trans ha.2 (h2 x e hi)
     · refine⟨s,List.mem_cons_of_mem _ hs,h1,fun x hx hi=>?_⟩
       rcases List.mem_cons.1 hx with e | e
       · rw[e]at hi ⊢
         exact Int.le_of_lt (Int.not_le.1 fun hh=>ha ⟨hi,hh⟩)
       · exact h2 x e hi
   · obtain⟨s,hs,h1⟩:=h
     rcases List.mem_cons.1 hs with e | e
     · refine⟨s,hs,h1,fun x hx hi=>?_⟩
       rcases List.mem_cons.1 hx with e2 | e2
       · rw[e,e2];exact Int.le_refl _
       · exact(hr ⟨x,e2,hi⟩).elim
     · exact(hr ⟨s,e,h1⟩).elim
theorem supSome {l:List Span}(hb:l.length≤bigLen){t liars:Int}(h:supF l t liars=true):∃ s∈l,inSp t s=true:=by
 obtain⟨h1,h2,h3⟩:=(sup_iff hb t liars).1 h
 exact List.countP_pos_iff.1 (by omega)
theorem supFrom {l:List Span}(hb:l.length≤bigLen){t liars:Int}(h:supF l t liars=true):∃ s∈l,isSpanF s=true∧s.1≤t∧supF l s.1 liars=true:=by
 obtain⟨s,hs,h1,h2⟩:=lastFrom t l (supSome hb h)
 have hi:=inSp_iff.1 h1
 refine⟨s,hs,(isSpan_iff s).2 ⟨hi.1,by omega,hi.2.2.2⟩,hi.2.1,?_⟩
 obtain⟨g1,g2,g3⟩:=(sup_iff hb t liars).1 h
 refine(sup_iff hb s.1 liars).2 ⟨g1,g2,?_⟩
 have:=cntMono (l:=l) (t:=t) (u:=s.1) (fun x hx hx2=>by
   have hx3:=inSp_iff.1 hx2
   have hx4:=h2 x hx hx2
   exact inSp_iff.2 ⟨hx3.1,hx4,by omega,hx3.2.2.2⟩)
 omega
theorem supTo {l:List Span}(hb:l.length≤bigLen){t liars:Int}(h:supF l t liars=true):∃ s∈l,isSpanF s=true∧t≤s.2∧supF l s.2 liars=true:=by
 obtain⟨s,hs,h1,h2⟩:=firstTo t l (supSome hb h)
 have hi:=inSp_iff.1 h1
 refine⟨s,hs,(isSpan_iff s).2 ⟨hi.1,by omega,hi.2.2.2⟩,hi.2.2.1,?_⟩
 obtain⟨g1,g2,g3⟩:=(sup_iff hb t liars).1 h
 refine(sup_iff hb s.2 liars).2 ⟨g1,g2,?_⟩
 have:=cntMono (l:=l) (t:=t) (u:=s.2) (fun x hx hx2=>by
   have hx3:=inSp_iff.1 hx2
   have hx4:=h2 x hx hx2
   exact inSp_iff.2 ⟨hx3.1,by omega,hx4,hx3.2.2.2⟩)
 omega
def agP (P:Int→Bool):Nat→Span×Bool
 | 0=>((0,0),false)
 | k+1=>if P (k:Int)=true then((if (agP P k).2=true then(agP P k).1.1 else(k:Int),(k:Int)),true)else agP P k
def agreedF (l:List Span)(liars:Int):Span×Bool:=agP (fun t=>supF l t liars) 10001
theorem agNone {P:Int→Bool}:∀ k:Nat,(∀ t:Nat,t<k→P (t:Int)=false)→agP P k=((0,0),false)
 | 0,_=>rfl
 | k+1,h=>by
   rw[agP,if_neg (by rw[h k (by omega)];decide)]
   exact agNone k fun t ht=>h t (by omega)
theorem agSome {P:Int→Bool}{a b:Nat}(ha:P (a:Int)=true)(hb:P (b:Int)=true)(hA:∀ t:Nat,t<a→P (t:Int)=false):∀ k:Nat,a<k→b<k→(∀ t:Nat,b<t→t<k→P (t:Int)=false)→
   agP P k=(((a:Int),(b:Int)),true)
 | 0,h,_,_=>by omega
 | k+1,h1,h2,h3=>by
   rw[agP]
   by_cases e:b=k
   · subst e
     rw[if_pos hb]
     by_cases e2:a=b
     · subst e2
       rw[agNone a hA];rfl
     · -- below b there is a last one: what is told of the beginning is a
       have hab:a<b:=by omega
       have:(agP P b).2=true∧(agP P b).1.1=(a:Int):=by
         clear h1 h2 h3 e2
         have go:∀ n:Nat,a<n→(agP P n).2=true∧(agP P n).1.1=(a:Int):=by
           intro n
           induction n with
           | zero=>intro h;omega
           | succ n ih=>
             intro h
             rw[agP]
             by_cases hn:a=n
             · subst hn
               rw[if_pos ha,agNone a hA];exact⟨rfl,rfl⟩
             · have:=ih (by omega)
               split
               · exact⟨rfl,by show (if _ then _ else _)=_;rw[if_pos this.1];exact this.2⟩
               · exact this
         exact go b hab
       rw[if_pos this.1,this.2]
   · rw[if_neg (by rw[h3 k (by omega) (by omega)];decide)]
     exact agSome ha hb hA k (by
       by_cases e2:a=k
       · exact(e (by
           have:¬b<a:=fun hh=>by rw[hA b hh]at hb;cases hb
           omega)).elim
       · omega) (by omega) fun t ht1 ht2=>h3 t ht1 (by omega)
def agInv (l:List Span)(liars:Int)(s:Span)(found:Bool)(t:Int):Prop:=∃ k:Nat,k≤10001∧t=k∧(s,found)=agP (fun t=>supF l t liars) k
theorem agStart {l:List Span}{liars:Int}:agInv l liars (0,0) false 0:=⟨0,by omega,rfl,rfl⟩
theorem agStep {l:List Span}{liars t:Int}{s s':Span}{found found':Bool}(h:agInv l liars s found t)(hl:t≤10000)
   (e:(s',found')=if supF l t liars=true then((if found=true then s.1 else t,t),true)else(s,found)):
   agInv l liars s' found' (IntKind.i64.wrap (t+1))∧(10001-(IntKind.i64.wrap (t+1))).toNat<(10001-t).toNat:=by
 obtain⟨k,hk,rfl,e2⟩:=h
 have ew:IntKind.i64.wrap ((k:Int)+1)=((k+1:Nat):Int):=by rw[w64 (by omega) (by omega)];omega
 rw[ew]
 refine⟨⟨k+1,by omega,rfl,?_⟩,by omega⟩
 rw[e,agP]
 have e3:s=(agP (fun t=>supF l t liars) k).1:=congrArg Prod.fst e2
 have e4:found=(agP (fun t=>supF l t liars) k).2:=congrArg Prod.snd e2
 split
 · rw[←e3,←e4]
 · exact e2
theorem agEnd {l:List Span}{liars t:Int}{s:Span}{found:Bool}(h:agInv l liars s found t)(hl:¬t≤10000):(s,found)=agreedF l liars:=by
 obtain⟨k,hk,rfl,e2⟩:=h
 have:k=10001:=by omega
 subst this
 exact e2
def aeInv (l:List Span)(liars f t i:Int):Prop:=upInv l i∧
 ((f=-1∧∀ x∈l.take i.toNat,isSpanF x=true→supF l x.1 liars=false)∨(0≤f∧f≤10000∧supF l f liars=true∧∀ x∈l.take i.toNat,isSpanF x=true→supF l x.1 liars=true→f≤x.1))∧
 ((t=-1∧∀ x∈l.take i.toNat,isSpanF x=true→supF l x.2 liars=false)∨(0≤t∧t≤10000∧supF l t liars=true∧∀ x∈l.take i.toNat,isSpanF x=true→supF l x.2 liars=true→x.2≤t))
theorem aeStart {l:List Span}{liars:Int}:aeInv l liars (-1) (-1) 0:=
 ⟨upStart,.inl ⟨rfl,fun x hx=>by simp at hx⟩,.inl ⟨rfl,fun x hx=>by simp at hx⟩⟩
def aeA (l:List Span)(liars f:Int)(x:Span):Bool:=pick2 (pick2 (isSpanF x) (supF l x.1 liars) false) (pick2 (decide (f<0)) true (decide (x.1<f))) false
def aeB (l:List Span)(liars:Int)(x:Span):Bool:=pick2 (isSpanF x) (supF l x.2 liars) false
theorem aeStep {l:List Span}{liars f t f' t' i:Int}{d:Span}(h:aeInv l liars f t i)(hl:i<l.length)(hb:l.length≤bigLen)
   (ef:f'=if aeA l liars f (l.getD i.toNat d)=true then(l.getD i.toNat d).1 else f) (et:t'=if aeB l liars (l.getD i.toNat d)=true then max t (l.getD i.toNat d).2 else t):
   aeInv l liars f' t' (IntKind.i64.wrap (i+1))∧(l.length-(IntKind.i64.wrap (i+1))).toNat<(l.length-i).toNat:=by
 obtain⟨h1,h2,h3⟩:=h
 obtain⟨u1,u2,u3⟩:=upStep h1 hl hb
 refine⟨⟨u1,?_,?_⟩,u3⟩<;>rw[u2,take_snoc (d:=d) h1 hl]
 · generalize l.getD i.toNat d=x at ef et
   have hx:=isSpan_iff x
   unfold aeA at ef
   simp only[pick2_and,pick2_or]at ef
   cases hs:isSpanF x with
   | false=>
     rw[hs]at ef
     simp at ef
     subst ef
     rcases h2 with⟨h2,h4⟩ | ⟨h2,h5,h6,h4⟩
     · refine .inl ⟨h2,fun y hy hy2=>?_⟩
       rcases List.mem_append.1 hy with hy | hy
       · exact h4 y hy hy2
       · rw[List.mem_singleton.1 hy,hs]at hy2;cases hy2
     · refine .inr ⟨h2,h5,h6,fun y hy hy2 hy3=>?_⟩
       rcases List.mem_append.1 hy with hy | hy
       · exact h4 y hy hy2 hy3
       · rw[List.mem_singleton.1 hy,hs]at hy2;cases hy2
   | true=>
     have hx2:=hx.1 hs
     rw[hs]at ef
     cases hp:supF l x.1 liars with
     | false=>
       rw[hp]at ef
       simp at ef
       subst ef
       rcases h2 with⟨h2,h4⟩ | ⟨h2,h5,h6,h4⟩
       · refine .inl ⟨h2,fun y hy hy2=>?_⟩
         rcases List.mem_append.1 hy with hy | hy
         · exact h4 y hy hy2
         · rw[List.mem_singleton.1 hy];exact hp
       · refine .inr ⟨h2,h5,h6,fun y hy hy2 hy3=>?_⟩
         rcases List.mem_append.1 hy with hy | hy
         · exact h4 y hy hy2 hy3
         · rw[List.mem_singleton.1 hy,hp]at hy3;cases hy3
     | true=>
       rw[hp]at ef
       simp at ef
       rcases h2 with⟨h2,h4⟩ | ⟨h2,h5,h6,h4⟩
       · rw[if_pos (.inl (by omega))]at ef
         subst ef
         refine .inr ⟨hx2.1,by omega,hp,fun y hy hy2 hy3=>?_⟩
         rcases List.mem_append.1 hy with hy | hy
         · rw[h4 y hy hy2]at hy3;cases hy3
         · rw[List.mem_singleton.1 hy];exact Int.le_refl _
       · split at ef
         · subst ef
           refine .inr ⟨hx2.1,by omega,hp,fun y hy hy2 hy3=>?_⟩
           rcases List.mem_append.1 hy with hy | hy
           · have:=h4 y hy hy2 hy3;omega
           · rw[List.mem_singleton.1 hy];exact Int.le_refl _
         · subst ef
           refine .inr ⟨h2,h5,h6,fun y hy hy2 hy3=>?_⟩
           rcases List.mem_append.1 hy with hy | hy
           · exact h4 y hy hy2 hy3
           · rw[List.mem_singleton.1 hy];omega
 · generalize l.getD i.toNat d=x at ef et
   have hx:=isSpan_iff x
   unfold aeB at et
   simp only[pick2_and]at et
   cases hs:isSpanF x with
   | false=>
     rw[hs]at et
     simp at et
     subst et
     rcases h3 with⟨h2,h4⟩ | ⟨h2,h5,h6,h4⟩
     · refine .inl ⟨h2,fun y hy hy2=>?_⟩
       rcases List.mem_append.1 hy with hy | hy
       · exact h4 y hy hy2
       · rw[List.mem_singleton.1 hy,hs]at hy2;cases hy2
     · refine .inr ⟨h2,h5,h6,fun y hy hy2 hy3=>?_⟩
       rcases List.mem_append.1 hy with hy | hy
       · exact h4 y hy hy2 hy3
       · rw[List.mem_singleton.1 hy,hs]at hy2;cases hy2
   | true=>
     have hx2:=hx.1 hs
     rw[hs]at et
     cases hp:supF l x.2 liars with
     | false=>
       rw[hp]at et
       simp at et
       subst et
       rcases h3 with⟨h2,h4⟩ | ⟨h2,h5,h6,h4⟩
       · refine .inl ⟨h2,fun y hy hy2=>?_⟩
         rcases List.mem_append.1 hy with hy | hy
         · exact h4 y hy hy2
         · rw[List.mem_singleton.1 hy];exact hp
       · refine .inr ⟨h2,h5,h6,fun y hy hy2 hy3=>?_⟩
         rcases List.mem_append.1 hy with hy | hy
         · exact h4 y hy hy2 hy3
         · rw[List.mem_singleton.1 hy,hp]at hy3;cases hy3
     | true=>
       rw[hp]at et
       simp at et
       rcases h3 with⟨h2,h4⟩ | ⟨h2,h5,h6,h4⟩
       · have e:t'=x.2:=by omega
         subst e
         refine .inr ⟨by omega,by omega,hp,fun y hy hy2 hy3=>?_⟩
         rcases List.mem_append.1 hy with hy | hy
         · rw[h4 y hy hy2]at hy3;cases hy3
         · rw[List.mem_singleton.1 hy];exact Int.le_refl _
       · refine .inr ⟨by omega,by omega,?_,fun y hy hy2 hy3=>?_⟩
         · rcases Int.le_total t x.2 with g | g
           · rw[et,Int.max_eq_right g];exact hp
           · rw[et,Int.max_eq_left g];exact h6
         · rcases List.mem_append.1 hy with hy | hy
           · have:=h4 y hy hy2 hy3;omega
           · rw[List.mem_singleton.1 hy];omega
theorem aeNone {l:List Span}{liars f t i:Int}(hb:l.length≤bigLen)(h:aeInv l liars f t i)(hl:¬i<l.length)(hf:f<0):agreedF l liars=((0,0),false):=by
 obtain⟨h1,h2,h3⟩:=h
 rw[up_end h1 hl,List.take_length]at h2
 refine agNone _ fun n _=>?_
 cases hn:supF l (n:Int) liars with
 | false=>rfl
 | true=>
   obtain⟨s,hs,g1,g2,g3⟩:=supFrom hb hn
   rcases h2 with⟨_,h4⟩ | ⟨h4,_⟩
   · rw[h4 s hs g1]at g3;cases g3
   · omega
theorem aeSome {l:List Span}{liars f t i:Int}(hb:l.length≤bigLen)(h:aeInv l liars f t i)(hl:¬i<l.length)(hf:¬f<0):agreedF l liars=((f,t),true):=by
 obtain⟨h1,h2,h3⟩:=h
 rw[up_end h1 hl,List.take_length]at h2 h3
 rcases h2 with⟨h2,_⟩ | ⟨h2,h4,h5,h6⟩
 · omega
 · rcases h3 with⟨_,h7⟩ | ⟨h3,h8,h9,h7⟩
   · obtain⟨s,hs,g1,g2,g3⟩:=supTo hb h5
     rw[h7 s hs g1]at g3;cases g3
   · have ef:f=((f.toNat:Nat):Int):=by omega
     have et:t=((t.toNat:Nat):Int):=by omega
     unfold agreedF
     rw[ef,et]
     rw[ef]at h5
     rw[et]at h9
     refine agSome (P:=fun t=>supF l t liars) h5 h9 (fun n hn=>?_) 10001 (by omega) (by omega) (fun n hn hn2=>?_)
     · show supF l (n:Int) liars=false
       cases hc:supF l (n:Int) liars with
       | false=>rfl
       | true=>
         obtain⟨s,hs,g1,g2,g3⟩:=supFrom hb hc
         have:=h6 s hs g1 g3
         omega
     · show supF l (n:Int) liars=false
       cases hc:supF l (n:Int) liars with
       | false=>rfl
       | true=>
         obtain⟨s,hs,g1,g2,g3⟩:=supTo hb hc
         have:=h7 s hs g1 g3
         omega
theorem agBad {l:List Span}{liars:Int}(h:(!(inRangeF liars 0 (IntKind.i64.wrap ((l.length:Int)-1))))=true):agreedF l liars=((0,0),false):=by
 refine agNone _ fun n _=>?_
 show supF l (n:Int) liars=false
 unfold supF
 rw[Bool.not_eq_true']at h
 rw[h];rfl
end Fw
namespace Fw
open Go
def breakF (l:List Method)(n:Int):Int:=if methI l n<0 then 0 else(methAt l n).2.2.2
theorem brk0 {l:List Method}{n:Int}(h:methI l n<0):(0:Int)=breakF l n:=by unfold breakF;rw[if_pos h]
theorem brk1 {l:List Method}{n:Int}(h:¬methI l n<0):(methAt l n).2.2.2=breakF l n:=by unfold breakF;rw[if_neg h]
noncomputable def flStep (m x:Int)(s:Step1):Int:=if s.2=true then pairDF m s.1 x else pairDF m x s.1
theorem flL {m x:Int}{s:Step1}(h:s.2=true):flStep m x s=pairDF m s.1 x:=if_pos h
theorem flR {m x:Int}{s:Step1}(h:s.2=false):flStep m x s=pairDF m x s.1:=if_neg (by rw[h];decide)
noncomputable def followF (m leaf:Int)(path:List Step1):Int:=path.foldl (flStep m) leaf
def stmAt (r:Renewal)(k:Nat):Stamp:=List.getD r.2.2.2.2 k (dflt TStamp)
def riseP (l:List Stamp)(k:Nat):Prop:=0<k→(List.getD l (k-1) (dflt TStamp)).1<(List.getD l k (dflt TStamp)).1
noncomputable def riseF (l:List Stamp):Bool:=boolC (∀ k,k<l.length→riseP l k)
def crPre (r:Renewal)(leaf:Int):Prop:=(List.length r.2.2.2.1:Int)≤4∧followF r.2.1 leaf r.2.2.2.1=r.2.2.1∧1≤(List.length r.2.2.2.2:Int)∧(List.length r.2.2.2.2:Int)≤6
def crG (keys:List Key)(l:List Authority)(r:Renewal)(k:Nat):Prop:=(stmAt r k).2.2.2.1=r.2.2.1∧checkStampF keys l (stmAt r k)=true
def crP (keys:List Key)(l:List Authority)(r:Renewal)(leaf:Int):Prop:=
 crPre r leaf∧(∀ k,k<List.length r.2.2.2.2→riseP r.2.2.2.2 k)∧∀ k,k<List.length r.2.2.2.2→crG keys l r k
noncomputable def checkRenF (keys:List Key)(l:List Authority)(r:Renewal)(leaf:Int):Bool:=boolC (crP keys l r leaf)
theorem riseBad {l:List Stamp}{i:Int}(h0:1≤i)(hl:i<l.length)(hb:l.length≤bigLen)
   (he:decide ((List.getD l (IntKind.i64.wrap (i-1)).toNat (dflt TStamp)).1≥(List.getD l i.toNat (dflt TStamp)).1)=true):¬riseP l i.toNat:=by
 intro hp
 unfold bigLen at hb
 rw[w64 (by omega) (by omega),show (i-1).toNat=i.toNat-1 by omega]at he
 have:=hp (by omega)
 have:=of_decide_eq_true he
 omega
theorem riseGood {l:List Stamp}{i:Int}(h0:1≤i)(hl:i<l.length)(hb:l.length≤bigLen)
   (he:decide ((List.getD l (IntKind.i64.wrap (i-1)).toNat (dflt TStamp)).1≥(List.getD l i.toNat (dflt TStamp)).1)=false):riseP l i.toNat:=by
 intro _
 unfold bigLen at hb
 rw[w64 (by omega) (by omega),show (i-1).toNat=i.toNat-1 by omega]at he
 have:=of_decide_eq_false he
 omega
def riInv (l:List Stamp)(i:Int):Prop:=1≤i∧(i≤l.length∨i=1)∧∀ k,k<i.toNat→riseP l k
theorem riStart {l:List Stamp}:riInv l 1:=⟨Int.le_refl _,.inr rfl,fun k hk h0=>by
 have:(1:Int).toNat=1:=rfl
 omega⟩
theorem riRange {l:List Stamp}{i:Int}(h:riInv l i)(hl:i<l.length):inRange i l.length:=⟨by have:=h.1;omega,hl⟩
theorem riPrev {l:List Stamp}{i:Int}(h:riInv l i)(hl:i<l.length)(hb:l.length≤bigLen):inRange (IntKind.i64.wrap (i-1)) l.length:=prevIdx (riRange h hl) (by have:=h.1;omega) hb
theorem riStep {l:List Stamp}{i:Int}(h:riInv l i)(hl:i<l.length)(hb:l.length≤bigLen)(hP:riseP l i.toNat):
   riInv l (IntKind.i64.wrap (i+1))∧((l.length:Int)-(IntKind.i64.wrap (i+1))).toNat<((l.length:Int)-i).toNat:=by
 obtain⟨h1,h2,h3⟩:=h
 have ew:IntKind.i64.wrap (i+1)=i+1:=w64 (by omega) (by unfold bigLen at hb;omega)
 rw[ew]
 refine⟨⟨by omega,.inl (by omega),fun k hk=>?_⟩,by omega⟩
 by_cases hk2:k<i.toNat
 · exact h3 k hk2
 · have:k=i.toNat:=by omega
   rw[this];exact hP
theorem riEnd {l:List Stamp}{i:Int}(h:riInv l i)(hl:¬i<l.length):true=riseF l:=boolC_yes fun k hk=>h.2.2 k (by omega)
theorem riBad {l:List Stamp}{i:Int}(h:riInv l i)(hl:i<l.length)(hn:¬riseP l i.toNat):false=riseF l:=boolC_no fun e=>hn (e _ (by have:=h.1;omega))
theorem crPreI {r:Renewal}{leaf:Int}{b:Bool}(hb:b=riseF r.2.2.2.2):
   pick2 (pick2 (pick2 (decide ((List.length r.2.2.2.1:Int)>4)) true (followF r.2.1 leaf r.2.2.2.1 != r.2.2.1)) true (!(inRangeF (List.length r.2.2.2.2:Int) 1 6))) true (!b)=false↔
   (crPre r leaf∧∀ k,k<List.length r.2.2.2.2→riseP r.2.2.2.2 k):=by
 subst hb
 unfold crPre riseF inRangeF
 simp only[pick2_or,pick2_and,Bool.or_eq_false_iff,decide_eq_false_iff_not,Bool.not_eq_false',bne_eq_false_iff_eq,boolC_iff,Bool.and_eq_true,decide_eq_true_eq]
 constructor
 · rintro⟨⟨⟨h1,h2⟩,h3,h4⟩,h5⟩
   exact⟨⟨by omega,h2,h3,h4⟩,h5⟩
 · rintro⟨⟨h1,h2,h3,h4⟩,h5⟩
   exact⟨⟨⟨by omega,h2⟩,h3,h4⟩,h5⟩
theorem crPreS {r:Renewal}{leaf:Int}:
   pick2 (pick2 (decide ((List.length r.2.2.2.1:Int)>4)) true (followF r.2.1 leaf r.2.2.2.1 != r.2.2.1)) true (!(inRangeF (List.length r.2.2.2.2:Int) 1 6))=false↔crPre r leaf:=by
 unfold crPre inRangeF
 simp only[pick2_or,pick2_and,Bool.or_eq_false_iff,decide_eq_false_iff_not,Bool.not_eq_false',bne_eq_false_iff_eq,Bool.and_eq_true,decide_eq_true_eq]
 constructor
 · rintro⟨⟨h1,h2⟩,h3,h4⟩
   exact⟨by omega,h2,h3,h4⟩
 · rintro⟨h1,h2,h3,h4⟩
   exact⟨⟨by omega,h2⟩,h3,h4⟩
def crS (keys:List Key)(l:List Authority)(r:Renewal)(k:Nat):Prop:=riseP r.2.2.2.2 k∧crG keys l r k
def crTestS (keys:List Key)(l:List Authority)(r:Renewal)(i:Int):Bool:=
 pick2 (pick2 ((stmAt r i.toNat).2.2.2.1 != r.2.2.1) true (pick2 (decide (i>0)) (decide ((stmAt r (IntKind.i64.wrap (i-1)).toNat).1≥(stmAt r i.toNat).1)) false)) true (!(checkStampF keys l (stmAt r i.toNat)))
theorem crTest_iff {keys:List Key}{l:List Authority}{r:Renewal}{i:Int}(h0:0≤i)(hl:i<r.2.2.2.2.length)(hb:r.2.2.2.2.length≤bigLen):crTestS keys l r i=false↔crS keys l r i.toNat:=by
 unfold crTestS crS crG
 simp only[pick2_or,pick2_and,Bool.or_eq_false_iff,Bool.not_eq_false',bne_eq_false_iff_eq,Bool.and_eq_false_iff,decide_eq_false_iff_not]
 have key:(¬i>0∨¬(stmAt r (IntKind.i64.wrap (i-1)).toNat).1≥(stmAt r i.toNat).1)↔riseP r.2.2.2.2 i.toNat:=by
   unfold riseP
   show _↔(0<i.toNat→(stmAt r (i.toNat-1)).1<(stmAt r i.toNat).1)
   unfold bigLen at hb
   rw[w64 (by omega) (by omega),show (i-1).toNat=i.toNat-1 by omega]
   constructor
   · rintro(h | h) hh
     · omega
     · omega
   · intro h
     by_cases hi:i>0
     · right;have:=h (by omega);omega
     · left;exact hi
 rw[key]
 constructor
 · rintro⟨⟨h1,h2⟩,h3⟩;exact⟨h2,h1,h3⟩
 · rintro⟨h2,h1,h3⟩;exact⟨⟨h1,h2⟩,h3⟩
def crTestI (keys:List Key)(l:List Authority)(r:Renewal)(i:Int):Bool:=pick2 ((stmAt r i.toNat).2.2.2.1 != r.2.2.1) true (!(checkStampF keys l (stmAt r i.toNat)))
theorem crTestI_iff {keys:List Key}{l:List Authority}{r:Renewal}{i:Int}:crTestI keys l r i=false↔crG keys l r i.toNat:=by
 unfold crTestI crG
 simp only[pick2_or,Bool.or_eq_false_iff,Bool.not_eq_false',bne_eq_false_iff_eq]
theorem cr0I {keys:List Key}{l:List Authority}{r:Renewal}{leaf:Int}
   (h:pick2 (pick2 (pick2 (decide ((List.length r.2.2.2.1:Int)>4)) true (followF r.2.1 leaf r.2.2.2.1 != r.2.2.1)) true (!(inRangeF (List.length r.2.2.2.2:Int) 1 6))) true (!(riseF r.2.2.2.2))=true):false=checkRenF keys l r leaf:=
 boolC_no fun e=>by rw[(crPreI rfl).2 ⟨e.1,e.2.1⟩]at h;cases h
theorem cr0S {keys:List Key}{l:List Authority}{r:Renewal}{leaf:Int}
   (h:pick2 (pick2 (decide ((List.length r.2.2.2.1:Int)>4)) true (followF r.2.1 leaf r.2.2.2.1 != r.2.2.1)) true (!(inRangeF (List.length r.2.2.2.2:Int) 1 6))=true):false=checkRenF keys l r leaf:=
 boolC_no fun e=>by rw[crPreS.2 e.1]at h;cases h
theorem crBadI {keys:List Key}{l:List Authority}{r:Renewal}{leaf i:Int}{P:Nat→Prop}(h:kInv P r.2.2.2.2 i)(hl:i<r.2.2.2.2.length)(ht:crTestI keys l r i=true):false=checkRenF keys l r leaf:=
 boolC_no fun e=>by rw[crTestI_iff.2 (e.2.2 _ (kLt h hl))]at ht;cases ht
theorem crBadS {keys:List Key}{l:List Authority}{r:Renewal}{leaf i:Int}{P:Nat→Prop}(h:kInv P r.2.2.2.2 i)(hl:i<r.2.2.2.2.length)(hb:r.2.2.2.2.length≤bigLen)(ht:crTestS keys l r i=true):false=checkRenF keys l r leaf:=
 boolC_no fun e=>by
   have h0:0≤i:=by obtain⟨k,_,e⟩:=h.1;omega
   rw[(crTest_iff h0 hl hb).2 ⟨e.2.1 _ (kLt h hl),e.2.2 _ (kLt h hl)⟩]at ht;cases ht
theorem crEndI {keys:List Key}{l:List Authority}{r:Renewal}{leaf i:Int}(hp:crPre r leaf∧∀ k,k<List.length r.2.2.2.2→riseP r.2.2.2.2 k)(h:kInv (crG keys l r) r.2.2.2.2 i)(hl:¬i<r.2.2.2.2.length):true=checkRenF keys l r leaf:=
 boolC_yes ⟨hp.1,hp.2,kEnd h hl⟩
theorem crEndS {keys:List Key}{l:List Authority}{r:Renewal}{leaf i:Int}(hp:crPre r leaf)(h:kInv (crS keys l r) r.2.2.2.2 i)(hl:¬i<r.2.2.2.2.length):true=checkRenF keys l r leaf:=
 boolC_yes ⟨hp,fun k hk=>(kEnd h hl k hk).1,fun k hk=>(kEnd h hl k hk).2⟩
theorem crGoodS {keys:List Key}{l:List Authority}{r:Renewal}{i:Int}{P:Nat→Prop}(h:kInv P r.2.2.2.2 i)(hl:i<r.2.2.2.2.length)(hb:r.2.2.2.2.length≤bigLen)(ht:crTestS keys l r i=false):crS keys l r i.toNat:=by
 have h0:0≤i:=by obtain⟨k,_,e⟩:=h.1;omega
 exact(crTest_iff h0 hl hb).1 ht
def rsP (l:List Authority)(s:Stamp):Prop:=(stampSpanF l s).2=true
noncomputable def rsF (l:List Authority)(st:List Stamp)(liars:Int):Span×Bool:=
 if boolC (∀ s∈st,rsP l s)=true then agreedF (st.map fun s=>(stampSpanF l s).1) liars else((0,0),false)
def rsInv (l:List Authority)(st:List Stamp)(acc:List Span)(i:Int):Prop:=upInv st i∧acc=(st.take i.toNat).map (fun s=>(stampSpanF l s).1)∧∀ s∈st.take i.toNat,rsP l s
theorem rsStart {l:List Authority}{st:List Stamp}:rsInv l st [] 0:=⟨upStart,by simp,fun s hs=>by simp at hs⟩
theorem rsRange {l:List Authority}{st:List Stamp}{acc:List Span}{i:Int}(h:rsInv l st acc i)(hl:i<st.length):inRange i st.length:=upRange h.1 hl
theorem rsLen {l:List Authority}{st:List Stamp}{acc:List Span}{i:Int}(h:rsInv l st acc i):acc.length≤st.length:=by
 rw[h.2.1,List.length_map,List.length_take];omega
theorem rsStep {l:List Authority}{st:List Stamp}{acc:List Span}{d:Stamp}{i:Int}(h:rsInv l st acc i)(hl:i<st.length)(hb:st.length≤bigLen)(hP:rsP l (st.getD i.toNat d)):
   rsInv l st (acc++[(stampSpanF l (st.getD i.toNat d)).1]) (IntKind.i64.wrap (i+1))∧(st.length-(IntKind.i64.wrap (i+1))).toNat<(st.length-i).toNat:=by
 obtain⟨h1,h2,h3⟩:=h
 obtain⟨u1,u2,u3⟩:=upStep h1 hl hb
 refine⟨⟨u1,?_,?_⟩,u3⟩<;>rw[u2,take_snoc (d:=d) h1 hl]
 · rw[h2,List.map_append];rfl
 · intro s hs
   rcases List.mem_append.1 hs with hs | hs
   · exact h3 s hs
   · rw[List.mem_singleton.1 hs];exact hP
theorem rsEnd {l:List Authority}{st:List Stamp}{acc:List Span}{i liars:Int}(h:rsInv l st acc i)(hl:¬i<st.length):agreedF acc liars=rsF l st liars:=by
 obtain⟨h1,h2,h3⟩:=h
 rw[up_end h1 hl,List.take_length]at h2 h3
 unfold rsF
 rw[if_pos (boolC_iff.2 h3),h2]
theorem rsBad {l:List Authority}{st:List Stamp}{acc:List Span}{d:Stamp}{i liars:Int}(h:rsInv l st acc i)(hl:i<st.length)(hP:¬rsP l (st.getD i.toNat d)):((0,0),false)=rsF l st liars:=by
 unfold rsF
 rw[if_neg]
 intro e
 exact hP (boolC_iff.1 e _ (getD_mem (upRange h.1 hl) d))
def rbBad (keys:List Key)(l:List Authority)(s:Stamp):Bool:=decide (keyI keys (stampKeyF l s)<0)
def rbG (keys:List Key)(l:List Authority)(ms:List Method)(m:Int)(s:Stamp):Int:=min m (breakF ms (keyAt keys (stampKeyF l s)).2.2.1)
def rbF (keys:List Key)(l:List Authority)(ms:List Method)(r:Renewal):Int:=efF (rbBad keys l) (rbG keys l ms) 0 r.2.2.2.2 (breakF ms r.2.1)
noncomputable def spanOfF (f:Frame)(r:Renewal):Span×Bool:=rsF f.2.1 r.2.2.2.2 f.2.2.2.1
noncomputable def linkF (f:Frame)(s:Strand)(k:Int):Bool:=
 if inRangeF k 0 (IntKind.i64.wrap ((s.2.length:Int)-1))=true then
   if k=IntKind.i64.wrap ((s.2.length:Int)-1)then decide (f.2.2.2.2<rbF f.1 f.2.1 f.2.2.1 (chAt s k))
   else pick2 (spanOfF f (chAt s (IntKind.i64.wrap (k+1)))).2 (decide ((spanOfF f (chAt s (IntKind.i64.wrap (k+1)))).1.2<rbF f.1 f.2.1 f.2.2.1 (chAt s k))) false
 else false
theorem lk0 {f:Frame}{s:Strand}{k:Int}(h:(!(inRangeF k 0 (IntKind.i64.wrap ((s.2.length:Int)-1))))=true):false=linkF f s k:=by
 unfold linkF;rw[if_neg];intro e;rw[e]at h;cases h
theorem lk1 {f:Frame}{s:Strand}{k:Int}(h:(!(inRangeF k 0 (IntKind.i64.wrap ((s.2.length:Int)-1))))=false)(g:(k==IntKind.i64.wrap ((s.2.length:Int)-1))=true):
   decide (f.2.2.2.2<rbF f.1 f.2.1 f.2.2.1 (chAt s k))=linkF f s k:=by
 unfold linkF;rw[if_pos (notF h),if_pos (beqI2 g)]
theorem lk2 {f:Frame}{s:Strand}{k:Int}(h:(!(inRangeF k 0 (IntKind.i64.wrap ((s.2.length:Int)-1))))=false)(g:(k==IntKind.i64.wrap ((s.2.length:Int)-1))=false):
   pick2 (spanOfF f (chAt s (IntKind.i64.wrap (k+1)))).2 (decide ((spanOfF f (chAt s (IntKind.i64.wrap (k+1)))).1.2<rbF f.1 f.2.1 f.2.2.1 (chAt s k))) false=linkF f s k:=by
 unfold linkF;rw[if_pos (notF h),if_neg (bneI' g)]
theorem lkNext {k:Int}{n:Nat}(h:(!(inRangeF k 0 (IntKind.i64.wrap ((n:Int)-1))))=false)(g:(k==IntKind.i64.wrap ((n:Int)-1))=false)(hb:n≤bigLen):inRange (IntKind.i64.wrap (k+1)) n:=by
 have h1:=laIdx h hb
 have h2:=bneI' g
 obtain⟨a1,a2⟩:=h1
 unfold bigLen at hb
 rw[w64 (by omega) (by omega)]at h2
 rw[w64 (by omega) (by omega)]
 exact⟨by omega,by omega⟩
noncomputable def keptF (f:Frame)(s:Strand)(docs:List Int)(k:Int):Bool:=
 pick2 (pick2 (spanOfF f (chAt s k)).2 (linkF f s k) false) (checkRenF f.1 f.2.1 (chAt s k) (leafAtF s docs k)) false
theorem keptI {f:Frame}{s:Strand}{docs:List Int}{k:Int}:
   pick2 (pick2 (!(spanOfF f (chAt s k)).2) true (!(checkRenF f.1 f.2.1 (chAt s k) (leafAtF s docs k)))) true (!(linkF f s k))=!(keptF f s docs k):=by
 unfold keptF
 cases (spanOfF f (chAt s k)).2<;>cases checkRenF f.1 f.2.1 (chAt s k) (leafAtF s docs k)<;>cases linkF f s k<;>rfl
noncomputable def fkGo (f:Frame)(s:Strand)(docs:List Int):Nat→Nat
 | 0=>0
 | j+1=>if keptF f s docs (j:Int)=true then fkGo f s docs j else j+1
noncomputable def firstKeptF (f:Frame)(s:Strand)(docs:List Int):Int:=(fkGo f s docs s.2.length:Nat)
def fkInv (f:Frame)(s:Strand)(docs:List Int)(j:Int):Prop:=∃ k:Nat,k≤s.2.length∧j=k∧fkGo f s docs s.2.length=fkGo f s docs k
theorem fkStart {f:Frame}{s:Strand}{docs:List Int}:fkInv f s docs (s.2.length:Int):=⟨s.2.length,Nat.le_refl _,rfl,rfl⟩
theorem fkPrev {f:Frame}{s:Strand}{docs:List Int}{j:Int}(h:fkInv f s docs j)(g:j>0)(hb:s.2.length≤bigLen):IntKind.i64.wrap (j-1)=j-1∧inRange (j-1) s.2.length:=by
 obtain⟨k,h1,rfl,h2⟩:=h
 unfold bigLen at hb
 exact⟨w64 (by omega) (by omega),by omega,by omega⟩
theorem fkIdx {f:Frame}{s:Strand}{docs:List Int}{j:Int}(h:fkInv f s docs j)(g:j>0)(hb:s.2.length≤bigLen):inRange (IntKind.i64.wrap (j-1)) s.2.length:=by
 have:=fkPrev h g hb
 rw[this.1];exact this.2
theorem fkStep {f:Frame}{s:Strand}{docs:List Int}{j:Int}(h:fkInv f s docs j)(g:j>0)(hb:s.2.length≤bigLen)(hk:keptF f s docs (IntKind.i64.wrap (j-1))=true):
   fkInv f s docs (IntKind.i64.wrap (j-1))∧(IntKind.i64.wrap (j-1)).toNat<j.toNat:=by
 have hp:=fkPrev h g hb
 rw[hp.1]at hk ⊢
 obtain⟨k,h1,rfl,h2⟩:=h
 obtain⟨n,rfl⟩:∃ n,k=n+1:=⟨k - 1,by omega⟩
 have e:((n+1:Nat):Int)-1=(n:Int):=by omega
 rw[e]at hk ⊢
 refine⟨⟨n,by omega,rfl,?_⟩,by omega⟩
 rw[h2,fkGo,if_pos hk]
theorem fkStop {f:Frame}{s:Strand}{docs:List Int}{j:Int}(h:fkInv f s docs j)(g:j>0)(hb:s.2.length≤bigLen)(hk:keptF f s docs (IntKind.i64.wrap (j-1))=false):j=firstKeptF f s docs:=by
 have hp:=fkPrev h g hb
 rw[hp.1]at hk
 obtain⟨k,h1,rfl,h2⟩:=h
 obtain⟨n,rfl⟩:∃ n,k=n+1:=⟨k - 1,by omega⟩
 have e:((n+1:Nat):Int)-1=(n:Int):=by omega
 rw[e]at hk
 unfold firstKeptF
 rw[h2,fkGo,if_neg (by rw[hk];decide)]
theorem fkZero {f:Frame}{s:Strand}{docs:List Int}{j:Int}(h:fkInv f s docs j)(g:¬j>0):j=firstKeptF f s docs:=by
 obtain⟨k,h1,rfl,h2⟩:=h
 have:k=0:=by omega
 subst this
 unfold firstKeptF
 rw[h2];rfl
theorem fkGo_le (f:Frame)(s:Strand)(docs:List Int):∀ n,fkGo f s docs n≤n
 | 0=>Nat.le_refl _
 | n+1=>by
   rw[fkGo]
   split
   · exact Nat.le_trans (fkGo_le f s docs n) (by omega)
   · exact Nat.le_refl _
noncomputable def boG (f:Frame)(p:Int)(t:Int)(r:Renewal):Int:=if r.1>p then min t (spanOfF f r).1.2 else t
theorem boY {f:Frame}{p t:Int}{r:Renewal}(h:decide (r.1>p)=true):boG f p t r=min t (spanOfF f r).1.2:=if_pos (of_decide_eq_true h)
theorem boN {f:Frame}{p t:Int}{r:Renewal}(h:decide (r.1>p)=false):boG f p t r=t:=if_neg (of_decide_eq_false h)
noncomputable def boundOfF (f:Frame)(s:Strand)(docs:List Int)(p:Int):Int:=(s.2.drop (firstKeptF f s docs).toNat).foldl (boG f p) f.2.2.2.2
def boInv (f:Frame)(s:Strand)(docs:List Int)(p:Int)(t j:Int):Prop:=upInv s.2 j∧boundOfF f s docs p=(s.2.drop j.toNat).foldl (boG f p) t
theorem boStart {f:Frame}{s:Strand}{docs:List Int}{p:Int}:boInv f s docs p f.2.2.2.2 (firstKeptF f s docs):=⟨⟨_,fkGo_le f s docs _,rfl⟩,rfl⟩
theorem boRange {f:Frame}{s:Strand}{docs:List Int}{p t j:Int}(h:boInv f s docs p t j)(hl:j<s.2.length):inRange j s.2.length:=upRange h.1 hl
theorem boStep {f:Frame}{s:Strand}{docs:List Int}{p t t' j:Int}(h:boInv f s docs p t j)(hl:j<s.2.length)(hb:s.2.length≤bigLen)(e:t'=boG f p t (chAt s j)):
   boInv f s docs p t' (IntKind.i64.wrap (j+1))∧(s.2.length-(IntKind.i64.wrap (j+1))).toNat<(s.2.length-j).toNat:=by
 obtain⟨u1,u2,u3⟩:=upStep h.1 hl hb
 obtain⟨⟨k,hk,rfl⟩,h2⟩:=h
 refine⟨⟨u1,?_⟩,u3⟩
 have hk':k<s.2.length:=by omega
 have e2:(IntKind.i64.wrap ((k:Int)+1)).toNat=k+1:=by rw[u2];omega
 have e3:((k:Int)).toNat=k:=by omega
 rw[e2,h2,e3,List.drop_eq_getElem_cons hk',List.foldl_cons,e]
 have:chAt s (k:Int)=s.2[k]:=by unfold chAt;rw[e3,List.getD_eq_getElem?_getD,List.getElem?_eq_getElem hk'];rfl
 rw[this]
theorem boEnd {f:Frame}{s:Strand}{docs:List Int}{p t j:Int}(h:boInv f s docs p t j)(hl:¬j<s.2.length):t=boundOfF f s docs p:=by
 obtain⟨k,hk,e1⟩:=h.1
 rw[h.2,List.drop_eq_nil_of_le (by omega)];rfl
noncomputable def pieceBoundF (f:Frame)(s:Strand)(docs:List Int)(p:Piece):Int:=if findPieceF s p<0 then f.2.2.2.2 else boundOfF f s docs (findPieceF s p)
theorem pb0 {f:Frame}{s:Strand}{docs:List Int}{p:Piece}(h:findPieceF s p<0):f.2.2.2.2=pieceBoundF f s docs p:=by unfold pieceBoundF;rw[if_pos h]
theorem pb1 {f:Frame}{s:Strand}{docs:List Int}{p:Piece}(h:¬findPieceF s p<0):boundOfF f s docs (findPieceF s p)=pieceBoundF f s docs p:=by unfold pieceBoundF;rw[if_neg h]
abbrev Evidence:=List Strand×List (List Stamp)
noncomputable def ebG (f:Frame)(p:Piece)(t:Int)(x:Strand×List Int):Int:=min t (pieceBoundF f x.1 x.2 p)
noncomputable def evBoundF (f:Frame)(e:Evidence)(docs:List (List Int))(p:Piece):Int:=(e.1.zip docs).foldl (ebG f p) f.2.2.2.2
def ebInv (f:Frame)(e:Evidence)(docs:List (List Int))(p:Piece)(t i:Int):Prop:=upInv e.1 i∧t=((e.1.zip docs).take i.toNat).foldl (ebG f p) f.2.2.2.2
theorem ebStart {f:Frame}{e:Evidence}{docs:List (List Int)}{p:Piece}:ebInv f e docs p f.2.2.2.2 0:=⟨upStart,by simp⟩
theorem ebRange {f:Frame}{e:Evidence}{docs:List (List Int)}{p:Piece}{t i:Int}(h:ebInv f e docs p t i)(hl:i<e.1.length):inRange i e.1.length:=upRange h.1 hl
theorem ebRangeD {f:Frame}{e:Evidence}{docs:List (List Int)}{p:Piece}{t i:Int}(h:ebInv f e docs p t i)(hl:i<docs.length):inRange i docs.length:=by
 obtain⟨k,hk,e1⟩:=h.1
 exact⟨by omega,hl⟩
theorem ebYes {f:Frame}{e:Evidence}{docs:List (List Int)}{p:Piece}{t i:Int}(d1:Strand)(d2:List Int)(h:ebInv f e docs p t i)(hl:i<e.1.length)(h2:i<docs.length)(hb:e.1.length≤bigLen){t':Int}
   (et:t'=min t (pieceBoundF f (e.1.getD i.toNat d1) (docs.getD i.toNat d2) p)):
   ebInv f e docs p t' (IntKind.i64.wrap (i+1))∧(e.1.length-(IntKind.i64.wrap (i+1))).toNat<(e.1.length-i).toNat:=by
 obtain⟨u1,u2,u3⟩:=upStep h.1 hl hb
 obtain⟨⟨k,hk,rfl⟩,h3⟩:=h
 refine⟨⟨u1,?_⟩,u3⟩
 have e2:(IntKind.i64.wrap ((k:Int)+1)).toNat=k+1:=by rw[u2];omega
 have e3:((k:Int)).toNat=k:=by omega
 rw[e3]at et h3
 have g1:k<e.1.length:=by omega
 have g2:k<docs.length:=by omega
 have g3:k<(e.1.zip docs).length:=by rw[List.length_zip];omega
 rw[e2,take_succD g3 (d1,d2),List.foldl_append,←h3,et]
 show _=ebG f p t ((e.1.zip docs).getD k (d1,d2))
 unfold ebG
 rw[List.getD_eq_getElem?_getD (l:=e.1.zip docs),List.getElem?_eq_getElem g3,List.getElem_zip,List.getD_eq_getElem?_getD,List.getElem?_eq_getElem g1,List.getD_eq_getElem?_getD,List.getElem?_eq_getElem g2]
 rfl
theorem ebNo {f:Frame}{e:Evidence}{docs:List (List Int)}{p:Piece}{t i:Int}(h:ebInv f e docs p t i)(hl:i<e.1.length)(h2:¬i<docs.length)(hb:e.1.length≤bigLen):
   ebInv f e docs p t (IntKind.i64.wrap (i+1))∧(e.1.length-(IntKind.i64.wrap (i+1))).toNat<(e.1.length-i).toNat:=by
 obtain⟨u1,u2,u3⟩:=upStep h.1 hl hb
 obtain⟨⟨k,hk,rfl⟩,h3⟩:=h
 refine⟨⟨u1,?_⟩,u3⟩
 have e2:(IntKind.i64.wrap ((k:Int)+1)).toNat=k+1:=by rw[u2];omega
 rw[e2,h3,List.take_of_length_le (by rw[List.length_zip];omega),List.take_of_length_le (by rw[List.length_zip];omega)]
theorem ebEnd {f:Frame}{e:Evidence}{docs:List (List Int)}{p:Piece}{t i:Int}(h:ebInv f e docs p t i)(hl:¬(i<e.1.length∧i<docs.length)):t=evBoundF f e docs p:=by
 obtain⟨⟨k,hk,rfl⟩,h3⟩:=h
 rw[h3,List.take_of_length_le (by rw[List.length_zip];omega)];rfl
end Fw
namespace Fw
open Go
def ltL:List Int→List Int→Bool
 | [],[]=>false
 | [],_::_=>true
 | _::_,[]=>false
 | x::xs,y::ys=>if x=y then ltL xs ys else decide (x<y)
theorem ltL_irr:∀ a,ltL a a=false
 | []=>rfl
 | x::xs=>by rw[ltL,if_pos rfl];exact ltL_irr xs
theorem ltL_tri:∀ a b,ltL a b=false→a≠b→ltL b a=true
 | [],[],_,h=>(h rfl).elim
 | [],_::_,h,_=>by cases h
 | _::_,[],_,_=>rfl
 | x::xs,y::ys,h,hn=>by
   rw[ltL]at h ⊢
   by_cases e:x=y
   · subst e
     rw[if_pos rfl]at h ⊢
     exact ltL_tri xs ys h fun e2=>hn (by rw[e2])
   · rw[if_neg e]at h
     rw[if_neg (Ne.symm e)]
     have:=of_decide_eq_false h
     exact decide_eq_true (by omega)
theorem ltL_trans:∀ a b c,ltL a b=true→ltL b c=true→ltL a c=true
 | [],[],_,h,_=>by cases h
 | [],_::_,[],_,h=>by cases h
 | [],_::_,_::_,_,_=>rfl
 | _::_,[],_,h,_=>by cases h
 | _::_,_::_,[],_,h=>by cases h
 | x::xs,y::ys,z::zs,h1,h2=>by
   rw[ltL]at h1 h2 ⊢
   by_cases e1:x=y
   · subst e1
     rw[if_pos rfl]at h1
     by_cases e2:x=z
     · rw[if_pos e2]at h2 ⊢
       exact ltL_trans xs ys zs h1 h2
     · rw[if_neg e2]at h2 ⊢
       exact h2
   · rw[if_neg e1]at h1
     have g1:=of_decide_eq_true h1
     by_cases e2:y=z
     · subst e2
       rw[if_neg e1];exact h1
     · rw[if_neg e2]at h2
       have g2:=of_decide_eq_true h2
       rw[if_neg (by omega)]
       exact decide_eq_true (by omega)
def pbF (a b:Piece):Bool:=if a.2.1=b.2.1 then(if a.1=b.1 then decide (a.2.2<b.2.2)else decide (a.1<b.1))else ltL a.2.1 b.2.1
theorem pb_irr (a:Piece):pbF a a=false:=by unfold pbF;rw[if_pos rfl,if_pos rfl];exact decide_eq_false (by omega)
theorem pb_tri {a b:Piece}(h:pbF a b=false)(hn:a≠b):pbF b a=true:=by
 unfold pbF at h ⊢
 by_cases e1:a.2.1=b.2.1
 · rw[if_pos e1]at h
   rw[if_pos e1.symm]
   by_cases e2:a.1=b.1
   · rw[if_pos e2]at h
     rw[if_pos e2.symm]
     have g:=of_decide_eq_false h
     by_cases e3:a.2.2=b.2.2
     · exact(hn (Prod.ext e2 (Prod.ext e1 e3))).elim
     · exact decide_eq_true (by omega)
   · rw[if_neg e2]at h
     rw[if_neg (Ne.symm e2)]
     have g:=of_decide_eq_false h
     exact decide_eq_true (by omega)
 · rw[if_neg e1]at h
   rw[if_neg (Ne.symm e1)]
   exact ltL_tri _ _ h e1
theorem pb_trans {a b c:Piece}(h1:pbF a b=true)(h2:pbF b c=true):pbF a c=true:=by
 unfold pbF at h1 h2 ⊢
 by_cases e1:a.2.1=b.2.1
 · rw[if_pos e1]at h1
   by_cases e2:b.2.1=c.2.1
   · rw[if_pos e2]at h2
     rw[if_pos (e1.trans e2)]
     by_cases f1:a.1=b.1
     · rw[if_pos f1]at h1
       by_cases f2:b.1=c.1
       · rw[if_pos f2]at h2
         rw[if_pos (f1.trans f2)]
         have:=of_decide_eq_true h1
         have:=of_decide_eq_true h2
         exact decide_eq_true (by omega)
       · rw[if_neg f2]at h2
         have:=of_decide_eq_true h2
         rw[if_neg (by omega)]
         exact decide_eq_true (by omega)
     · rw[if_neg f1]at h1
       have:=of_decide_eq_true h1
       by_cases f2:b.1=c.1
       · rw[if_neg (by omega)]
         exact decide_eq_true (by omega)
       · rw[if_neg f2]at h2
         have:=of_decide_eq_true h2
         rw[if_neg (by omega)]
         exact decide_eq_true (by omega)
   · rw[if_neg e2]at h2
     rw[e1,if_neg e2]
     exact h2
 · rw[if_neg e1]at h1
   by_cases e2:b.2.1=c.2.1
   · rw[←e2,if_neg e1];exact h1
   · rw[if_neg e2]at h2
     have h3:=ltL_trans _ _ _ h1 h2
     by_cases e3:a.2.1=c.2.1
     · rw[e3,ltL_irr]at h3;cases h3
     · rw[if_neg e3];exact h3
def pbInv (a b:Piece)(i:Int):Prop:=0≤i∧i≤a.2.1.length∧i≤b.2.1.length∧a.2.1.take i.toNat=b.2.1.take i.toNat∧ltL a.2.1 b.2.1=ltL (a.2.1.drop i.toNat) (b.2.1.drop i.toNat)
theorem pbStart {a b:Piece}:pbInv a b 0:=⟨by omega,by omega,by omega,by simp,rfl⟩
theorem pbRangeA {a b:Piece}{i:Int}(h:pbInv a b i)(hl:i<a.2.1.length):inRange i a.2.1.length:=⟨h.1,hl⟩
theorem pbRangeB {a b:Piece}{i:Int}(h:pbInv a b i)(hl:i<b.2.1.length):inRange i b.2.1.length:=⟨h.1,hl⟩
theorem dropD {l:List Int}{i:Int}(h0:0≤i)(hl:i<(l.length:Int)):l.drop i.toNat=l.getD i.toNat (dflt TI)::l.drop (i.toNat+1):=by
 have h:i.toNat<l.length:=by omega
 rw[List.drop_eq_getElem_cons h,List.getD_eq_getElem?_getD,List.getElem?_eq_getElem h];rfl
theorem pbStep {a b:Piece}{i:Int}(h:pbInv a b i)(hl:i<a.2.1.length)(hm:i<b.2.1.length)(hb:a.2.1.length≤bigLen)(e:a.2.1.getD i.toNat (dflt TI)=b.2.1.getD i.toNat (dflt TI)):
   pbInv a b (IntKind.i64.wrap (i+1))∧((a.2.1.length:Int)-IntKind.i64.wrap (i+1)).toNat<((a.2.1.length:Int)-i).toNat:=by
 obtain⟨h0,h1,h2,h3,h4⟩:=h
 rw[w64 (by omega) (by unfold bigLen at hb;omega)]
 have e1:(i+1).toNat=i.toNat+1:=by omega
 refine⟨⟨by omega,by omega,by omega,?_,?_⟩,by omega⟩
 · rw[e1,take_succD (by omega) (dflt TI),take_succD (by omega) (dflt TI),h3,e]
 · rw[h4,dropD h0 hl,dropD h0 hm,e1,ltL,if_pos e]
theorem pbHit {a b:Piece}{i:Int}(h:pbInv a b i)(hl:i<a.2.1.length)(hm:i<b.2.1.length)(e:a.2.1.getD i.toNat (dflt TI)≠b.2.1.getD i.toNat (dflt TI)):
   decide (a.2.1.getD i.toNat (dflt TI)<b.2.1.getD i.toNat (dflt TI))=pbF a b:=by
 obtain⟨h0,h1,h2,h3,h4⟩:=h
 unfold pbF
 rw[if_neg (fun he=>e (by rw[he])),h4,dropD h0 hl,dropD h0 hm,ltL,if_neg e]
theorem pbLen {a b:Piece}{i:Int}(h:pbInv a b i)(hl:¬(i<a.2.1.length∧i<b.2.1.length))(e:((a.2.1.length:Int) != (b.2.1.length:Int))=true):
   decide ((a.2.1.length:Int)<(b.2.1.length:Int))=pbF a b:=by
 obtain⟨h0,h1,h2,h3,h4⟩:=h
 have en:=bneT e
 unfold pbF
 rw[if_neg (fun he=>en (by rw[he])),h4]
 by_cases g:(a.2.1.length:Int)<b.2.1.length
 · rw[decide_eq_true g,List.drop_eq_nil_of_le (by omega),dropD h0 (by omega)];rfl
 · rw[decide_eq_false g,List.drop_eq_nil_of_le (as:=b.2.1) (by omega),dropD h0 (by omega)];rfl
theorem pbSame {a b:Piece}{i:Int}(h:pbInv a b i)(hl:¬(i<a.2.1.length∧i<b.2.1.length))(e:((a.2.1.length:Int) != (b.2.1.length:Int))=false):a.2.1=b.2.1:=by
 obtain⟨h0,h1,h2,h3,h4⟩:=h
 have en:=bneI e
 rw[List.take_of_length_le (by omega),List.take_of_length_le (by omega)]at h3
 exact h3
theorem pbKey {a b:Piece}{i:Int}(h:pbInv a b i)(hl:¬(i<a.2.1.length∧i<b.2.1.length))(e:((a.2.1.length:Int) != (b.2.1.length:Int))=false)(g:(a.1 != b.1)=true):decide (a.1<b.1)=pbF a b:=by
 unfold pbF;rw[if_pos (pbSame h hl e),if_neg (bneT g)]
theorem pbMark {a b:Piece}{i:Int}(h:pbInv a b i)(hl:¬(i<a.2.1.length∧i<b.2.1.length))(e:((a.2.1.length:Int) != (b.2.1.length:Int))=false)(g:(a.1 != b.1)=false):decide (a.2.2<b.2.2)=pbF a b:=by
 unfold pbF;rw[if_pos (pbSame h hl e),if_pos (bneI g)]
def AscP (l:List Piece):Prop:=l.Pairwise (fun a b=>pbF a b=true)
def putP (p:Piece)(l:List Piece):List Piece:=insP (fun y=>pbF y p) p l
open Classical in
noncomputable def usPut (p:Piece)(l:List Piece):List Piece:=if p∈l then l else putP p l
theorem twP {p:Piece}{l:List Piece}:∀ y∈l.takeWhile (fun y=>pbF y p),pbF y p=true:=by
 induction l with
 | nil=>intro y hy;simp at hy
 | cons a r ih=>
   intro y hy
   rw[List.takeWhile_cons]at hy
   cases h:pbF a p with
   | true=>
     rw[h]at hy
     rcases List.mem_cons.1 hy with e | e
     · rw[e];exact h
     · exact ih y e
   | false=>rw[h]at hy;simp at hy
theorem dwP {p:Piece}:∀ {l:List Piece},AscP l→p∉l→∀ y∈l.dropWhile (fun y=>pbF y p),pbF p y=true
 | [],_,_,y,hy=>by simp at hy
 | a::r,h,hn,y,hy=>by
   obtain⟨h1,h2⟩:=List.pairwise_cons.1 h
   rw[List.dropWhile_cons]at hy
   cases hc:pbF a p with
   | true=>
     rw[hc]at hy
     exact dwP h2 (fun e=>hn (List.mem_cons_of_mem _ e)) y hy
   | false=>
     rw[hc]at hy
     have ha:pbF p a=true:=pb_tri hc fun e=>hn (by rw[e];exact List.mem_cons_self)
     rcases List.mem_cons.1 hy with e | e
     · rw[e];exact ha
     · exact pb_trans ha (h1 y e)
theorem ascPut {p:Piece}{l:List Piece}(h:AscP l)(hn:p∉l):AscP (putP p l):=by
 have e:=List.takeWhile_append_dropWhile (p:=fun y=>pbF y p) (l:=l)
 have h':=h
 rw[←e]at h'
 obtain⟨a1,a2,a3⟩:=List.pairwise_append.1 h'
 unfold putP insP
 refine List.pairwise_append.2 ⟨a1,List.pairwise_cons.2 ⟨dwP h hn,a2⟩,fun x hx y hy=>?_⟩
 rcases List.mem_cons.1 hy with e2 | e2
 · rw[e2];exact twP x hx
 · exact a3 x hx y e2
theorem ascUs {p:Piece}{l:List Piece}(h:AscP l):AscP (usPut p l):=by
 unfold usPut
 split
 · exact h
 · rename_i hn;exact ascPut h hn
theorem atP {p:Piece}:∀ {l:List Piece},AscP l→p∈l→(l.takeWhile (fun y=>pbF y p)).length<l.length∧l.getD (l.takeWhile (fun y=>pbF y p)).length (dflt TPiece)=p
 | [],_,h=>by cases h
 | a::r,h,hm=>by
   obtain⟨h1,h2⟩:=List.pairwise_cons.1 h
   rcases List.mem_cons.1 hm with e | e
   · subst e
     rw[List.takeWhile_cons,pb_irr]
     exact⟨by simp,rfl⟩
   · rw[List.takeWhile_cons,h1 p e]
     obtain⟨g1,g2⟩:=atP h2 e
     refine⟨?_,?_⟩
     · show (a::r.takeWhile _).length<_
       simp only[List.length_cons]
       omega
     · show List.getD (a::r) (a::r.takeWhile _).length _=p
       rw[List.length_cons]
       exact g2
theorem putYes {p:Piece}{l:List Piece}{k:Int}(h0:0≤k)(g:pick2 (decide (k<(l.length:Int))) (eqC (l.getD k.toNat (dflt TPiece)) p) false=true):l=usPut p l:=by
 have g1:=of_decide_eq_true (andT g).1
 have g2:=eqC_iff.1 (andT g).2
 unfold usPut
 rw[if_pos]
 rw[←g2]
 exact getD_mem ⟨h0,g1⟩ _
theorem putNo {p:Piece}{l:List Piece}{k:Int}(ha:AscP l)(hk:k.toNat=(l.takeWhile (fun y=>pbF y p)).length)(h0:0≤k)(g:pick2 (decide (k<(l.length:Int))) (eqC (l.getD k.toNat (dflt TPiece)) p) false=false):usPut p l=putP p l:=by
 unfold usPut
 rw[if_neg]
 intro hm
 obtain⟨g1,g2⟩:=atP ha hm
 rw[←hk]at g1 g2
 rw[decide_eq_true (show k<(l.length:Int) by omega),eqC_iff.2 g2]at g
 cases g
theorem putHas {p:Piece}{l:List Piece}(h:hasF l p=true):usPut p l=l:=by
 obtain⟨x,hx,e⟩:=boolC_iff.1 h
 unfold usPut
 rw[if_pos (by rw[←e];exact hx)]
theorem putHasNo {p:Piece}{l:List Piece}(h:hasF l p=false):usPut p l=putP p l:=by
 unfold usPut
 rw[if_neg]
 intro hm
 have:hasF l p=true:=boolC_iff.2 ⟨p,hm,rfl⟩
 rw[this]at h;cases h
theorem usPut_len (p:Piece)(l:List Piece):(usPut p l).length≤l.length+1:=by
 unfold usPut
 split
 · omega
 · have:(putP p l).length=l.length+1:=insP_len
   omega
def pstBad (p:Piece):Bool:=kindF p != 103
def pieceStampF (p:Piece):Stamp×Bool:=if pstBad p=true then((0,0,0,0,0),false)else((nth p 1,nth p 2,nth p 3,nth p 4,p.2.2),true)
theorem pst0 {p:Piece}(h:pstBad p=true):pieceStampF p=((0,0,0,0,0),false):=by unfold pieceStampF;rw[if_pos h]
theorem pst1 {p:Piece}(h:pstBad p=false):pieceStampF p=((nth p 1,nth p 2,nth p 3,nth p 4,p.2.2),true):=by unfold pieceStampF;rw[if_neg (by rw[h];decide)]
theorem pstN {p:Piece}(h:(kindF p != 103)=false):List.length p.2.1=5:=kindK h (by decide) rfl
def psgBad (p:Piece):Bool:=pick2 (kindF p != 104) true (nth p 1 != p.1)
def pieceSignF (p:Piece):Sig×Bool:=if psgBad p=true then((0,0,0,0,0,0,0,0,0),false)else((nth p 1,nth p 2,nth p 3,nth p 4,nth p 5,nth p 6,nth p 7,nth p 8,p.2.2),true)
theorem psg0 {p:Piece}(h:psgBad p=true):pieceSignF p=((0,0,0,0,0,0,0,0,0),false):=by unfold pieceSignF;rw[if_pos h]
theorem psg1 {p:Piece}(h:psgBad p=false):pieceSignF p=((nth p 1,nth p 2,nth p 3,nth p 4,nth p 5,nth p 6,nth p 7,nth p 8,p.2.2),true):=by unfold pieceSignF;rw[if_neg (by rw[h];decide)]
theorem psgN {p:Piece}(h:(kindF p != 104)=false):List.length p.2.1=9:=kindK h (by decide) rfl
def shapeF (p:Piece):Bool:=pick2 (pick2 (pick2 (pick2 (pieceCertF p).2 true (pieceStatF p).2) true (pieceStampF p).2) true (pieceSignF p).2) true (pieceMandF p).2
theorem certK {p:Piece}(h:kindF p≠101):(pieceCertF p).2=false:=by
 rw[pc0];show pcBad p=true
 unfold pcBad;rw[bne_iff_ne.2 h];rfl
theorem statK {p:Piece}(h:kindF p≠102):(pieceStatF p).2=false:=by
 rw[ps0];show psBad p=true
 unfold psBad;rw[bne_iff_ne.2 h];rfl
theorem stampK {p:Piece}(h:kindF p≠103):(pieceStampF p).2=false:=by
 rw[pst0];show pstBad p=true
 unfold pstBad;exact bne_iff_ne.2 h
theorem signK {p:Piece}(h:kindF p≠104):(pieceSignF p).2=false:=by
 rw[psg0];show psgBad p=true
 unfold psgBad;rw[bne_iff_ne.2 h];rfl
theorem mandK {p:Piece}(h:kindF p≠105):(pieceMandF p).2=false:=by
 rw[pm0];show pmBad p=true
 unfold pmBad;rw[bne_iff_ne.2 h];rfl
theorem sh101 {p:Piece}(h:kindF p=101):shapeF p=(pieceCertF p).2:=by
 unfold shapeF;rw[statK (by omega),stampK (by omega),signK (by omega),mandK (by omega)];cases (pieceCertF p).2<;>rfl
theorem sh102 {p:Piece}(h:kindF p=102):shapeF p=(pieceStatF p).2:=by
 unfold shapeF;rw[certK (by omega),stampK (by omega),signK (by omega),mandK (by omega)];cases (pieceStatF p).2<;>rfl
theorem sh103 {p:Piece}(h:kindF p=103):shapeF p=(pieceStampF p).2:=by
 unfold shapeF;rw[certK (by omega),statK (by omega),signK (by omega),mandK (by omega)];cases (pieceStampF p).2<;>rfl
theorem sh104 {p:Piece}(h:kindF p=104):shapeF p=(pieceSignF p).2:=by
 unfold shapeF;rw[certK (by omega),statK (by omega),stampK (by omega),mandK (by omega)];cases (pieceSignF p).2<;>rfl
theorem sh105 {p:Piece}(h:kindF p=105):shapeF p=(pieceMandF p).2:=by
 unfold shapeF;rw[certK (by omega),statK (by omega),stampK (by omega),signK (by omega)];cases (pieceMandF p).2<;>rfl
theorem shNo {p:Piece}(h1:kindF p≠101)(h2:kindF p≠102)(h3:kindF p≠103)(h4:kindF p≠104)(h5:kindF p≠105):shapeF p=false:=by
 unfold shapeF;rw[certK h1,statK h2,stampK h3,signK h4,mandK h5];rfl
theorem shapeSmall {p:Piece}(h:shapeF p=true):smallL p.2.1:=by
 have k:∀ (k:Int) (n:Nat),kindF p=k→k≠0→List.getD [7,5,5,9,6] (IntKind.i64.wrap (k-101)).toNat (dflt TI)=(n:Int)→n≤9→smallL p.2.1:=by
   intro k n hk h0 ht hn
   exact smallLit (kindK (bne_eq_false_iff_eq.2 hk) h0 ht) (by omega)
 by_cases h1:kindF p=101
 · exact k 101 7 h1 (by decide) rfl (by decide)
 by_cases h2:kindF p=102
 · exact k 102 5 h2 (by decide) rfl (by decide)
 by_cases h3:kindF p=103
 · exact k 103 5 h3 (by decide) rfl (by decide)
 by_cases h4:kindF p=104
 · exact k 104 9 h4 (by decide) rfl (by decide)
 by_cases h5:kindF p=105
 · exact k 105 6 h5 (by decide) rfl (by decide)
 rw[shNo h1 h2 h3 h4 h5]at h;cases h
def checkPieceF (keys:List Key)(p:Piece):Bool:=pick2 (shapeF p) (checkMarkF keys p.1 p.2.1 p.2.2) false
theorem checkPieceKey {keys:List Key}{p:Piece}(h:checkPieceF keys p=true):¬keyI keys p.1<0:=by
 have h1:=(andT h).2
 unfold checkMarkF at h1
 have:=of_decide_eq_true (andT h1).1
 omega
def brkKeyF (f:Frame)(n:Int):Int:=if keyI f.1 n<0 then 0 else breakF f.2.2.1 (keyAt f.1 n).2.2.1
theorem bk0 {f:Frame}{n:Int}(h:keyI f.1 n<0):(0:Int)=brkKeyF f n:=by unfold brkKeyF;rw[if_pos h]
theorem bk1 {f:Frame}{n:Int}(h:¬keyI f.1 n<0):breakF f.2.2.1 (keyAt f.1 n).2.2.1=brkKeyF f n:=by unfold brkKeyF;rw[if_neg h]
noncomputable def usableF (f:Frame)(e:Evidence)(docs:List (List Int))(p:Piece):Bool:=pick2 (checkPieceF f.1 p) (decide (evBoundF f e docs p<brkKeyF f p.1)) false
theorem usS {f:Frame}{e:Evidence}{docs:List (List Int)}{p:Piece}:
   pick2 (pick2 (decide (keyI f.1 p.1≥0)) (checkPieceF f.1 p) false) (decide (evBoundF f e docs p<breakF f.2.2.1 (keyAt f.1 p.1).2.2.1)) false=usableF f e docs p:=by
 unfold usableF
 cases hc:checkPieceF f.1 p with
 | false=>cases decide (keyI f.1 p.1≥0)<;>rfl
 | true=>
   have hk:=checkPieceKey hc
   rw[decide_eq_true (show keyI f.1 p.1≥0 by omega),←bk1 hk]
   rfl
noncomputable def usG (f:Frame)(e:Evidence)(docs:List (List Int))(out:List Piece)(p:Piece):List Piece:=if usableF f e docs p=true then usPut p out else out
theorem usSkip {f:Frame}{e:Evidence}{docs:List (List Int)}{out:List Piece}{p:Piece}
   (h:pick2 (pick2 (hasF out p) true (!(checkPieceF f.1 p))) true (decide (evBoundF f e docs p≥brkKeyF f p.1))=true):out=usG f e docs out p:=by
 unfold usG
 split
 · rename_i hu
   rw[putHas]
   have h1:=(andT hu).1
   have h2:=of_decide_eq_true (andT hu).2
   rw[h1,decide_eq_false (by omega:¬evBoundF f e docs p≥brkKeyF f p.1)]at h
   cases hh:hasF out p with
   | true=>rfl
   | false=>rw[hh]at h;cases h
 · rfl
theorem usTake {f:Frame}{e:Evidence}{docs:List (List Int)}{out:List Piece}{p:Piece}
   (h:pick2 (pick2 (hasF out p) true (!(checkPieceF f.1 p))) true (decide (evBoundF f e docs p≥brkKeyF f p.1))=false):putP p out=usG f e docs out p:=by
 have h1:=orF h
 have h2:=orF h1.1
 have h3:=of_decide_eq_false h1.2
 have hu:usableF f e docs p=true:=yesAnd (notF h2.2) (decide_eq_true (by omega))
 unfold usG
 rw[if_pos hu,putHasNo h2.1]
theorem usYes {f:Frame}{e:Evidence}{docs:List (List Int)}{out:List Piece}{p:Piece}(h:usableF f e docs p=true):usPut p out=usG f e docs out p:=by unfold usG;rw[if_pos h]
theorem usNo {f:Frame}{e:Evidence}{docs:List (List Int)}{out:List Piece}{p:Piece}(h:usableF f e docs p=false):out=usG f e docs out p:=by unfold usG;rw[if_neg (by rw[h];decide)]
def strG {β:Type}(g:β→Piece→β)(out:β)(s:Strand):β:=s.1.foldl g out
noncomputable def usablePiecesF (f:Frame)(e:Evidence)(docs:List (List Int)):List Piece:=e.1.foldl (strG (usG f e docs)) []
theorem ascG {f:Frame}{e:Evidence}{docs:List (List Int)}:∀ {l:List Piece} {out:List Piece},AscP out→AscP (l.foldl (usG f e docs) out)
 | [],_,h=>h
 | p::r,out,h=>by
   rw[List.foldl_cons]
   refine ascG ?_
   unfold usG
   split
   · exact ascUs h
   · exact h
theorem ascS {f:Frame}{e:Evidence}{docs:List (List Int)}:∀ {l:List Strand} {out:List Piece},AscP out→AscP (l.foldl (strG (usG f e docs)) out)
 | [],_,h=>h
 | s::r,out,h=>by rw[List.foldl_cons];exact ascS (ascG h)
theorem lenG {f:Frame}{e:Evidence}{docs:List (List Int)}:∀ {l:List Piece} {out:List Piece},(l.foldl (usG f e docs) out).length≤out.length+l.length
 | [],_=>by simp
 | p::r,out=>by
   rw[List.foldl_cons,List.length_cons]
   have h1:=lenG (f:=f) (e:=e) (docs:=docs) (l:=r) (out:=usG f e docs out p)
   have h2:(usG f e docs out p).length≤out.length+1:=by
     unfold usG
     split
     · exact usPut_len _ _
     · omega
   omega
def pieces (l:List Strand):Nat:=cellsL (fun s=>s.1.length) l
theorem lenS {f:Frame}{e:Evidence}{docs:List (List Int)}:∀ {l:List Strand} {out:List Piece},(l.foldl (strG (usG f e docs)) out).length≤out.length+pieces l
 | [],_=>by simp[pieces,cellsL]
 | s::r,out=>by
   rw[List.foldl_cons]
   have h1:=lenS (f:=f) (e:=e) (docs:=docs) (l:=r) (out:=strG (usG f e docs) out s)
   have h2:(strG (usG f e docs) out s).length≤out.length+s.1.length:=lenG
   have h3:pieces (s::r)=s.1.length+pieces r:=rfl
   omega
theorem piecesCells:∀ l:List Strand,pieces l≤cellsC (.slice (.pair (.slice TPiece) (.slice TRen))) l
 | []=>Nat.zero_le _
 | s::r=>by
   have h1:=piecesCells r
   have h2:pieces (s::r)=s.1.length+pieces r:=rfl
   have h3:cellsC (.slice (.pair (.slice TPiece) (.slice TRen))) (s::r)=(cellsC (.slice TPiece) s.1+cellsC (.slice TRen) s.2)+cellsC (.slice (.pair (.slice TPiece) (.slice TRen))) r:=rfl
   have h4:∀ m:List Piece,m.length≤cellsC (.slice TPiece) m:=by
     intro m
     induction m with
     | nil=>exact Nat.zero_le _
     | cons p t ih=>
       have:cellsC (.slice TPiece) (p::t)=(1+(cellsL (cellsC TI) p.2.1+1))+cellsC (.slice TPiece) t:=rfl
       rw[List.length_cons,this];omega
   have:=h4 s.1
   omega
end Fw
namespace Fw
open Go
def uoInv (f:Frame)(e:Evidence)(docs:List (List Int))(out:List Piece)(i:Int):Prop:=foInv (strG (usG f e docs)) [] e.1 out i
def uiInv (f:Frame)(e:Evidence)(docs:List (List Int))(i:Int)(out:List Piece)(k:Int):Prop:=
 foInv (usG f e docs) ((e.1.take i.toNat).foldl (strG (usG f e docs)) []) (e.1.getD i.toNat (dflt (.pair (.slice TPiece) (.slice TRen)))).1 out k
theorem uoStart {f:Frame}{e:Evidence}{docs:List (List Int)}:uoInv f e docs [] 0:=foStart
theorem uoRange {f:Frame}{e:Evidence}{docs:List (List Int)}{out:List Piece}{i:Int}(h:uoInv f e docs out i)(hl:i<e.1.length):inRange i e.1.length:=foRange h hl
theorem uiStart {f:Frame}{e:Evidence}{docs:List (List Int)}{out:List Piece}{i:Int}(h:uoInv f e docs out i):uiInv f e docs i out 0:=by
 unfold uiInv
 rw[←h.2]
 exact foStart
theorem uiRange {f:Frame}{e:Evidence}{docs:List (List Int)}{out:List Piece}{i k:Int}(h:uiInv f e docs i out k)(hl:k<(e.1.getD i.toNat (dflt (.pair (.slice TPiece) (.slice TRen)))).1.length):
   inRange k (e.1.getD i.toNat (dflt (.pair (.slice TPiece) (.slice TRen)))).1.length:=foRange h hl
theorem uiAsc {f:Frame}{e:Evidence}{docs:List (List Int)}{out:List Piece}{i k:Int}(h:uiInv f e docs i out k):AscP out:=by
 rw[h.2]
 exact ascG (ascS List.Pairwise.nil)
theorem pieces_app (a b:List Strand):pieces (a++b)=pieces a+pieces b:=cellsL_append _ a b
theorem uiLen {f:Frame}{e:Evidence}{docs:List (List Int)}{out:List Piece}{i k:Int}(ho:inRange i e.1.length)(h:uiInv f e docs i out k)
   (hc:((cellsC (.slice (.pair (.slice TPiece) (.slice TRen))) e.1:Nat):Int)≤2000000000):out.length≤2000000000:=by
 have h0:=piecesCells e.1
 obtain⟨o1,o2⟩:=ho
 have hi:i.toNat<e.1.length:=by omega
 have h1:out.length≤((e.1.take i.toNat).foldl (strG (usG f e docs)) []).length+((e.1.getD i.toNat (dflt (.pair (.slice TPiece) (.slice TRen)))).1.take k.toNat).length:=by
   rw[h.2];exact lenG
 have h2:((e.1.take i.toNat).foldl (strG (usG f e docs)) []).length≤([]:List Piece).length+pieces (e.1.take i.toNat):=lenS
 have h3:pieces e.1=pieces (e.1.take (i.toNat+1))+pieces (e.1.drop (i.toNat+1)):=by rw[←pieces_app,List.take_append_drop]
 have h4:pieces (e.1.take (i.toNat+1))=pieces (e.1.take i.toNat)+(e.1.getD i.toNat (dflt (.pair (.slice TPiece) (.slice TRen)))).1.length:=by
   rw[take_succD hi (dflt (.pair (.slice TPiece) (.slice TRen))),pieces_app]
   rfl
 rw[List.length_take]at h1
 simp only[List.length_nil]at h2
 omega
theorem uiStep {f:Frame}{e:Evidence}{docs:List (List Int)}{out out':List Piece}{i k:Int}(h:uiInv f e docs i out k)(hl:k<(e.1.getD i.toNat (dflt (.pair (.slice TPiece) (.slice TRen)))).1.length)
   (hb:(e.1.getD i.toNat (dflt (.pair (.slice TPiece) (.slice TRen)))).1.length≤bigLen) (g:out'=usG f e docs out ((e.1.getD i.toNat (dflt (.pair (.slice TPiece) (.slice TRen)))).1.getD k.toNat (dflt TPiece))):
   uiInv f e docs i out' (IntKind.i64.wrap (k+1))∧(((e.1.getD i.toNat (dflt (.pair (.slice TPiece) (.slice TRen)))).1.length:Int)-IntKind.i64.wrap (k+1)).toNat<(((e.1.getD i.toNat (dflt (.pair (.slice TPiece) (.slice TRen)))).1.length:Int)-k).toNat:=by
 rw[g]
 exact foStep (d:=dflt TPiece) h hl hb
theorem uoStep {f:Frame}{e:Evidence}{docs:List (List Int)}{out0 out:List Piece}{i k:Int}(h:uoInv f e docs out0 i)(hl:i<e.1.length)(hb:e.1.length≤bigLen)
   (hi:uiInv f e docs i out k) (hk:¬k<(e.1.getD i.toNat (dflt (.pair (.slice TPiece) (.slice TRen)))).1.length):
   uoInv f e docs out (IntKind.i64.wrap (i+1))∧(e.1.length-(IntKind.i64.wrap (i+1))).toNat<(e.1.length-i).toNat:=by
 have e1:=foEnd hi hk
 have s:=foStep (d:=dflt (.pair (.slice TPiece) (.slice TRen))) h hl hb
 refine⟨?_,s.2⟩
 have e2:out=strG (usG f e docs) out0 (e.1.getD i.toNat (dflt (.pair (.slice TPiece) (.slice TRen)))):=by
   rw[e1,h.2];rfl
 rw[e2]
 exact s.1
theorem uoEnd {f:Frame}{e:Evidence}{docs:List (List Int)}{out:List Piece}{i:Int}(h:uoInv f e docs out i)(hl:¬i<e.1.length):out=usablePiecesF f e docs:=foEnd h hl
theorem usStrand {e:Evidence}(hs:Sm big20 (.slice (.pair (.slice TPiece) (.slice TRen))) e.1){i:Int}(hi:inRange i e.1.length):
   Sm big20 (.slice TPiece) (e.1.getD i.toNat (dflt (.pair (.slice TPiece) (.slice TRen)))).1∧∀ r∈(e.1.getD i.toNat (dflt (.pair (.slice TPiece) (.slice TRen)))).2,Sm big20 TRen r:=by
 have:=hs.2 _ (getD_mem hi (dflt (.pair (.slice TPiece) (.slice TRen))))
 exact⟨this.1,this.2.2⟩
theorem usPieceLen {f:Frame}{e:Evidence}{docs:List (List Int)}(hc:((cellsC (.slice (.pair (.slice TPiece) (.slice TRen))) e.1:Nat):Int)≤2000000000):(usablePiecesF f e docs).length≤2000000000:=by
 have h0:=piecesCells e.1
 have h1:(usablePiecesF f e docs).length≤([]:List Piece).length+pieces e.1:=lenS
 simp only[List.length_nil]at h1
 omega
section
variable {α:Type} {p:α→Bool} {l:List α} {i:Int} {d x:α}
theorem tkStepW (h:tkInv p l i)(hs:l.length≤2000000000)(g:pick2 (decide (i<(l.length:Int))) (p (l.getD i.toNat d)) false=true):
   tkInv p l (IntKind.i64.wrap (i+1))∧((l.length:Int)-IntKind.i64.wrap (i+1)).toNat<((l.length:Int)-i).toNat:=by
 obtain⟨h1,h2,h3⟩:=h
 have g1:=of_decide_eq_true (andT g).1
 have g2:=(andT g).2
 rw[w64 (by omega) (by omega)]
 refine⟨⟨by omega,by omega,fun y hy=>?_⟩,by omega⟩
 rw[show (i+1).toNat=i.toNat+1 by omega,take_succD (by omega) d]at hy
 rcases List.mem_append.1 hy with hy | hy
 · exact h3 y hy
 · rw[List.mem_singleton.1 hy];exact g2
end
def mkG (l:List Stamp)(k:Nat):List Int:=[(l.getD k (dflt TStamp)).2.2.2.2]
def stampPieceF (key:Int)(s:Stamp):Piece:=(key,stampIntsF s,s.2.2.2.2)
def afHas (f:Frame)(s:Stamp):Piece:=stampPieceF (stampKeyF f.2.1 s) s
noncomputable def afP (f:Frame)(us:List Piece)(s:Stamp):Bool:=hasF us (afHas f s)
noncomputable def bornF (f:Frame)(x:Sig):Int:=if keyI f.1 x.1<0 then 0 else(keyAt f.1 x.1).2.2.2.1
end Fw
namespace Fw
open Go
theorem foStepE {α β:Type}{f:β→α→β}{z:β}{a:List α}{acc acc':β}{d:α}{i:Int}(h:foInv f z a acc i)(hl:i<a.length)(hb:a.length≤bigLen)(e:acc'=f acc (a.getD i.toNat d)):
   foInv f z a acc' (IntKind.i64.wrap (i+1))∧(a.length-(IntKind.i64.wrap (i+1))).toNat<(a.length-i).toNat:=by
 rw[e];exact foStep h hl hb
theorem fkEndS {f:Frame}{s:Strand}{docs:List Int}{j:Int}(h:fkInv f s docs j)(hb:s.2.length≤bigLen)
   (g:pick2 (decide (j>0)) (keptF f s docs (IntKind.i64.wrap (j-1))) false=false):j=firstKeptF f s docs:=by
 by_cases h0:j>0
 · rw[decide_eq_true h0]at g
   exact fkStop h h0 hb g
 · exact fkZero h h0
end Fw
namespace Fw
open Go
def lsS (n:Int)(a:Int)(x:Status):Int:=if x.1=n∧0≤x.2.2.1∧(a<0∨x.2.2.1<a)then x.2.2.1 else a
def msS (n:Int)(a:Int)(x:Status):Int:=if x.1=n∧0≤x.2.2.1 then max a x.2.2.1 else a
def gsS (n:Int)(a:Int)(x:Status):Int:=if x.1=n∧x.2.2.1<0 then max a x.2.1 else a
def leastF (l:List Status)(n:Int):Int:=l.foldl (lsS n) (-1)
def mostF (l:List Status)(n:Int):Int:=l.foldl (msS n) (-1)
def goodF (l:List Status)(n:Int):Int:=l.foldl (gsS n) (-1)
theorem lsN1 {n a:Int}{x:Status}(h:(x.1 != n)=true):a=lsS n a x:=by unfold lsS;rw[if_neg (fun q=>bneT h q.1)]
theorem msN1 {n a:Int}{x:Status}(h:(x.1 != n)=true):a=msS n a x:=by unfold msS;rw[if_neg (fun q=>bneT h q.1)]
theorem gsN1 {n a:Int}{x:Status}(h:(x.1 != n)=true):a=gsS n a x:=by unfold gsS;rw[if_neg (fun q=>bneT h q.1)]
theorem lsN2 {n a:Int}{x:Status}(h:x.2.2.1<0):a=lsS n a x:=by unfold lsS;rw[if_neg (fun q=>by omega)]
theorem msN2 {n a:Int}{x:Status}(h:x.2.2.1<0):a=msS n a x:=by unfold msS;rw[if_neg (fun q=>by omega)]
theorem gsY {n a:Int}{x:Status}(h1:(x.1 != n)=false)(h:x.2.2.1<0):max a x.2.1=gsS n a x:=by unfold gsS;rw[if_pos ⟨bneI h1,h⟩]
theorem gsN2 {n a:Int}{x:Status}(h:¬x.2.2.1<0):a=gsS n a x:=by unfold gsS;rw[if_neg (fun q=>h q.2)]
theorem msY {n a:Int}{x:Status}(h1:(x.1 != n)=false)(h:¬x.2.2.1<0):max a x.2.2.1=msS n a x:=by unfold msS;rw[if_pos ⟨bneI h1,by omega⟩]
theorem lsY {n a:Int}{x:Status}(h1:(x.1 != n)=false)(h:¬x.2.2.1<0)(g:pick2 (decide (a<0)) true (decide (x.2.2.1<a))=true):x.2.2.1=lsS n a x:=by
 unfold lsS
 rw[if_pos]
 refine⟨bneI h1,by omega,?_⟩
 rw[pick2_or,Bool.or_eq_true,decide_eq_true_eq,decide_eq_true_eq]at g
 exact g
theorem lsN3 {n a:Int}{x:Status}(g:pick2 (decide (a<0)) true (decide (x.2.2.1<a))=false):a=lsS n a x:=by
 unfold lsS
 rw[if_neg]
 rintro⟨_,_,h⟩
 have g1:=of_decide_eq_false (orF g).1
 have g2:=of_decide_eq_false (orF g).2
 rcases h with h | h
 · exact g1 h
 · exact g2 h
def goodUntilF (l:List Status)(n:Int):Int:=if leastF l n≥0 then IntKind.i64.wrap (leastF l n-1)else goodF l n
def badFromF (l:List Status)(n:Int):Int:=if mostF l n<0 then 10001 else max (mostF l n) (IntKind.i64.wrap (goodF l n+1))
def isAgreedF (l:List Status)(n:Int):Bool:=pick2 (badFromF l n==10001) true (badFromF l n==IntKind.i64.wrap (goodUntilF l n+1))
theorem gu1 {l:List Status}{n:Int}(h:leastF l n≥0):IntKind.i64.wrap (leastF l n-1)=goodUntilF l n:=by unfold goodUntilF;rw[if_pos h]
theorem gu0 {l:List Status}{n:Int}(h:¬leastF l n≥0):goodF l n=goodUntilF l n:=by unfold goodUntilF;rw[if_neg h]
theorem bf0 {l:List Status}{n:Int}(h:mostF l n<0):(10001:Int)=badFromF l n:=by unfold badFromF;rw[if_pos h]
theorem bf1 {l:List Status}{n:Int}(h:¬mostF l n<0):max (mostF l n) (IntKind.i64.wrap (goodF l n+1))=badFromF l n:=by unfold badFromF;rw[if_neg h]
def l23S (f:Frame)(us:List Piece)(l:List Stamp)(k:Nat):Prop:=riseP l k∧afP f us (l.getD k (dflt TStamp))=true∧rsP f.2.1 (l.getD k (dflt TStamp))
def l23Inv (f:Frame)(us:List Piece)(l:List Stamp)(acc:List Span)(i:Int):Prop:=rsInv f.2.1 l acc i∧∀ k,k<i.toNat→l23S f us l k
theorem l23Start {f:Frame}{us:List Piece}{l:List Stamp}:l23Inv f us l [] 0:=⟨rsStart,fun k hk=>by simp at hk⟩
theorem l23Step {f:Frame}{us:List Piece}{l:List Stamp}{acc:List Span}{i:Int}(h:l23Inv f us l acc i)(hl:i<l.length)(hb:l.length≤bigLen)(hP:l23S f us l i.toNat):
   l23Inv f us l (acc++[(stampSpanF f.2.1 (l.getD i.toNat (dflt TStamp))).1]) (IntKind.i64.wrap (i+1))∧(l.length-(IntKind.i64.wrap (i+1))).toNat<(l.length-i).toNat:=by
 have s:=rsStep (d:=dflt TStamp) h.1 hl hb hP.2.2
 obtain⟨u1,u2,u3⟩:=upStep h.1.1 hl hb
 refine⟨⟨s.1,fun k hk=>?_⟩,s.2⟩
 obtain⟨n,hn,e⟩:=h.1.1
 rw[u2]at hk
 by_cases hk2:k<i.toNat
 · exact h.2 k hk2
 · have:k=i.toNat:=by omega
   rw[this];exact hP
noncomputable def l23Bad (f:Frame)(us:List Piece)(l:List Stamp)(i:Int):Bool:=
 pick2 (pick2 (!(stampSpanF f.2.1 (l.getD i.toNat (dflt TStamp))).2) true (pick2 (decide (i>0)) (decide ((l.getD (IntKind.i64.wrap (i-1)).toNat (dflt TStamp)).1≥(l.getD i.toNat (dflt TStamp)).1)) false)) true (!(afP f us (l.getD i.toNat (dflt TStamp))))
theorem l23_iff {f:Frame}{us:List Piece}{l:List Stamp}{i:Int}(h0:0≤i)(hl:i<l.length)(hb:l.length≤bigLen):l23Bad f us l i=false↔l23S f us l i.toNat:=by
 unfold l23Bad l23S rsP
 simp only[pick2_or,pick2_and,Bool.or_eq_false_iff,Bool.not_eq_false',Bool.and_eq_false_iff,decide_eq_false_iff_not]
 have key:(¬i>0∨¬(l.getD (IntKind.i64.wrap (i-1)).toNat (dflt TStamp)).1≥(l.getD i.toNat (dflt TStamp)).1)↔riseP l i.toNat:=by
   unfold riseP
   unfold bigLen at hb
   rw[w64 (by omega) (by omega),show (i-1).toNat=i.toNat-1 by omega]
   constructor
   · rintro(h | h) hh
     · omega
     · omega
   · intro h
     by_cases hi:i>0
     · right;have:=h (by omega);omega
     · left;exact hi
 rw[key]
 constructor
 · rintro⟨⟨h1,h2⟩,h3⟩;exact⟨h2,h3,h1⟩
 · rintro⟨h2,h3,h1⟩;exact⟨⟨h1,h2⟩,h3⟩
noncomputable def l23F (f:Frame)(us:List Piece)(l:List Stamp):Int×Bool:=
 if boolC (∀ k,k<l.length→l23S f us l k)=true then((rsF f.2.1 l f.2.2.2.1).1.1,(rsF f.2.1 l f.2.2.2.1).2)else(0,false)
theorem l23Stop {f:Frame}{us:List Piece}{l:List Stamp}{acc:List Span}{i:Int}(h:l23Inv f us l acc i)(hl:i<l.length)(hb:l.length≤bigLen)(g:l23Bad f us l i=true):(0,false)=l23F f us l:=by
 have h0:0≤i:=by obtain⟨n,hn,e⟩:=h.1.1;omega
 unfold l23F
 rw[if_neg]
 intro e
 have:=boolC_iff.1 e i.toNat (by omega)
 rw[(l23_iff h0 hl hb).2 this]at g
 cases g
theorem l23End {f:Frame}{us:List Piece}{l:List Stamp}{acc:List Span}{i:Int}(h:l23Inv f us l acc i)(hl:¬i<l.length):((agreedF acc f.2.2.2.1).1.1,(agreedF acc f.2.2.2.1).2)=l23F f us l:=by
 unfold l23F
 obtain⟨n,hn,e⟩:=h.1.1
 rw[if_pos (boolC_iff.2 fun k hk=>h.2 k (by omega)),←rsEnd h.1 hl]
theorem l23_ok {f:Frame}{us:List Piece}{l:List Stamp}:((l23F f us l).2=true↔((∀ k,k<l.length→riseP l k)∧(∀ s∈l,afP f us s=true)∧(rsF f.2.1 l f.2.2.2.1).2=true))∧((l23F f us l).2=true→(l23F f us l).1=(rsF f.2.1 l f.2.2.2.1).1.1):=by
 have all:∀ P:Stamp→Prop,(∀ k,k<l.length→P (l.getD k (dflt TStamp)))↔∀ s∈l,P s:=by
   intro P
   constructor
   · intro h s hs
     obtain⟨k,hk,e⟩:=List.getElem_of_mem hs
     have:=h k hk
     rw[List.getD_eq_getElem?_getD,List.getElem?_eq_getElem hk]at this
     rw[←e];exact this
   · intro h k hk
     have:l.getD k (dflt TStamp)∈l:=by
       rw[List.getD_eq_getElem?_getD,List.getElem?_eq_getElem hk];exact List.getElem_mem hk
     exact h _ this
 unfold l23F
 by_cases h:∀ k,k<l.length→l23S f us l k
 · rw[if_pos (boolC_iff.2 h)]
   refine⟨⟨fun e=>⟨fun k hk=>(h k hk).1,(all _).1 fun k hk=>(h k hk).2.1,e⟩,fun e=>e.2.2⟩,fun _=>rfl⟩
 · rw[if_neg (fun e=>h (boolC_iff.1 e))]
   refine⟨⟨fun e=>(by cases e),fun e=>(h fun k hk=>?_).elim⟩,fun e=>(by cases e)⟩
   refine⟨e.1 k hk,(all (fun s=>afP f us s=true)).2 e.2.1 k hk,?_⟩
   have e3:=e.2.2
   unfold rsF at e3
   split at e3
   · rename_i hc
     exact(all (rsP f.2.1)).2 (boolC_iff.1 hc) k hk
   · cases e3
end Fw
namespace Fw
open Go
theorem insConds2W {α:Type}{p:α→Bool}{l:List α}{i:Int}{Q:Prop}(h:tkInv p l i)(hs:l.length≤2000000000)(hQ:Q):
   conj [(0:Int)≤0,(0:Int)≤i,i≤(l.length:Int),(subL l 0 i).length≤maxApp,Q,(subL l 0 i).length+0+1≤maxApp,0≤i,i≤(l.length:Int),(l.length:Int)≤(l.length:Int),(subL l 0 i).length≤i.toNat,(subL l 0 i).length+(0+1)+(l.length-i.toNat)≤maxApp]:=by
 have e:=sub0_len h
 obtain⟨h1,h2,_⟩:=h
 rw[e]
 unfold maxApp
 refine⟨Int.le_refl _,h1,h2,by omega,hQ,by omega,h1,h2,Int.le_refl _,Nat.le_refl _,?_⟩
 show i.toNat+(0+1)+(l.length-i.toNat)≤4294967296
 omega
theorem evdCells {e:Evidence}(h:((cellsC (.pair (.slice (.pair (.slice TPiece) (.slice TRen))) (.slice (.slice TStamp))) e:Nat):Int)≤2000000000):((cellsC (.slice (.pair (.slice TPiece) (.slice TRen))) e.1:Nat):Int)≤2000000000:=by
 have:cellsC (.pair (.slice (.pair (.slice TPiece) (.slice TRen))) (.slice (.slice TStamp))) e=cellsC (.slice (.pair (.slice TPiece) (.slice TRen))) e.1+cellsC (.slice (.slice TStamp)) e.2:=rfl
 omega
theorem putEq {p:Piece}{l:List Piece}{i:Int}(h:tkInv (fun y=>pbF y p) l i)(hk:i.toNat=(l.takeWhile (fun y=>pbF y p)).length):
   l.take (subL l 0 i).length++([]++[p])++l.drop i.toNat=putP p l:=insP_eq (by rw[sub0_len h];exact hk) hk
end Fw
namespace Fw
open Go
noncomputable def adF (d:Doc)(s:Strand):List Int×Bool:=(docDigsF s d,true)
noncomputable def allDigsF (e:Evidence)(d:Doc):List (List Int):=pickF (adF d) e.1
noncomputable def stampsDgF (m:Int)(l:List Stamp):Int:=if (l.length:Int)=0 then 0 else max 1 (digestF m ([]++(List.range l.length).flatMap (mkG l)))
theorem sd0 {m:Int}{l:List Stamp}(h:(l.length:Int)=0):(0:Int)=stampsDgF m l:=by unfold stampsDgF;rw[if_pos h]
theorem sd1 {m:Int}{l:List Stamp}(h:¬(l.length:Int)=0):max 1 (digestF m ([]++(List.range l.length).flatMap (mkG l)))=stampsDgF m l:=by unfold stampsDgF;rw[if_neg h]
theorem pkLenW {α β:Type}{f:α→β×Bool}{L:List α}{acc:List β}{i:Int}(h:pkInv f L acc i)(hs:L.length≤2000000000):acc.length+1≤maxApp:=by
 have:=pick_len f (L.take i.toNat)
 rw[←h.2,List.length_take]at this
 unfold maxApp;omega
noncomputable def frG (f:Frame)(us:List Piece)(x:Sig)(t:Int)(l:List Stamp):Int:=
 if x.2.2.2.2.2.2.2.1≠0∧stampsDgF x.2.2.1 l=x.2.2.2.2.2.2.2.1∧(l23F f us l).2=true then max t (l23F f us l).1 else t
noncomputable def freshG (f:Frame)(e:Evidence)(us:List Piece)(x:Sig):Int:=e.2.foldl (frG f us x) (bornF f x)
theorem frZero {f:Frame}{us:List Piece}{x:Sig}(h:x.2.2.2.2.2.2.2.1=0):∀ (l:List (List Stamp)) (t:Int),l.foldl (frG f us x) t=t
 | [],_=>rfl
 | a::r,t=>by
   have:frG f us x t a=t:=by unfold frG;rw[if_neg (fun hh=>hh.1 h)]
   rw[List.foldl_cons,this]
   exact frZero h r t
theorem born1 {f:Frame}{x:Sig}(h:keyI f.1 x.1≥0):(keyAt f.1 x.1).2.2.2.1=bornF f x:=by unfold bornF;rw[if_neg (by omega)]
theorem born0 {f:Frame}{x:Sig}(h:¬keyI f.1 x.1≥0):(0:Int)=bornF f x:=by unfold bornF;rw[if_pos (by omega)]
theorem frStart {f:Frame}{e:Evidence}{us:List Piece}{x:Sig}{t:Int}(h:t=bornF f x):foInv (frG f us x) (bornF f x) e.2 t 0:=by rw[h];exact foStart
theorem frEnd {f:Frame}{e:Evidence}{us:List Piece}{x:Sig}{t i:Int}(h:foInv (frG f us x) (bornF f x) e.2 t i)
   (g:pick2 (decide (i<(e.2.length:Int))) (x.2.2.2.2.2.2.2.1 != 0) false=false):t=freshG f e us x:=by
 by_cases hl:i<(e.2.length:Int)
 · rw[decide_eq_true hl]at g
   have g2:(x.2.2.2.2.2.2.2.1 != 0)=false:=g
   have hz:=bneI g2
   rw[h.2,frZero hz]
   unfold freshG
   rw[frZero hz]
 · exact foEnd h hl
theorem frNo1 {f:Frame}{us:List Piece}{x:Sig}{t:Int}{l:List Stamp}(h:(stampsDgF x.2.2.1 l != x.2.2.2.2.2.2.2.1)=true):t=frG f us x t l:=by
 unfold frG;rw[if_neg (fun hh=>bneT h hh.2.1)]
theorem frNo2 {f:Frame}{us:List Piece}{x:Sig}{t:Int}{l:List Stamp}(h:(l23F f us l).2=false):t=frG f us x t l:=by
 unfold frG;rw[if_neg (fun hh=>by rw[hh.2.2]at h;cases h)]
theorem frYes {f:Frame}{us:List Piece}{x:Sig}{t:Int}{l:List Stamp}(h0:(x.2.2.2.2.2.2.2.1 != 0)=true)(h1:(stampsDgF x.2.2.1 l != x.2.2.2.2.2.2.2.1)=false)(h:(l23F f us l).2=true):
   max t (l23F f us l).1=frG f us x t l:=by
 unfold frG;rw[if_pos ⟨bneT h0,bneI h1,h⟩]
theorem frSkip {f:Frame}{us:List Piece}{x:Sig}{t:Int}{l:List Stamp}(h:pick2 (pick2 (x.2.2.2.2.2.2.2.1==0) true (!(riseF l))) true (stampsDgF x.2.2.1 l != x.2.2.2.2.2.2.2.1)=true):t=frG f us x t l:=by
 unfold frG
 rw[if_neg]
 rintro⟨h0,h1,h2⟩
 have h3:=(l23_ok.1.1 h2).1
 have h4:riseF l=true:=boolC_iff.2 h3
 rw[h4,h1,beq_eq_false_iff_ne.2 h0]at h
 simp[pick2]at h
def hbInv (f:Frame)(us:List Piece)(l:List Stamp)(b:Bool)(k:Int):Prop:=upInv l k∧b=boolC (∀ s∈l.take k.toNat,afP f us s=true)
theorem hbStart {f:Frame}{us:List Piece}{l:List Stamp}:hbInv f us l true 0:=⟨upStart,boolC_yes fun s hs=>by simp at hs⟩
theorem hbRange {f:Frame}{us:List Piece}{l:List Stamp}{b:Bool}{k:Int}(h:hbInv f us l b k)(hl:k<l.length):inRange k l.length:=upRange h.1 hl
theorem hbStep {f:Frame}{us:List Piece}{l:List Stamp}{b b':Bool}{k:Int}(h:hbInv f us l b k)(hl:k<l.length)(hb:l.length≤bigLen)(e:b'=pick2 b (afP f us (l.getD k.toNat (dflt TStamp))) false):
   hbInv f us l b' (IntKind.i64.wrap (k+1))∧(l.length-(IntKind.i64.wrap (k+1))).toNat<(l.length-k).toNat:=by
 obtain⟨u1,u2,u3⟩:=upStep h.1 hl hb
 refine⟨⟨u1,?_⟩,u3⟩
 rw[u2,take_snoc (d:=dflt TStamp) h.1 hl]
 refine boolC_by (fun hb'=>?_) (fun hall=>?_)
 · rw[e]at hb'
   obtain⟨q1,q2⟩:=andT hb'
   have q3:=boolC_iff.1 (h.2.symm.trans q1)
   intro s hs
   rcases List.mem_append.1 hs with hs | hs
   · exact q3 s hs
   · rw[List.mem_singleton.1 hs];exact q2
 · rw[e]
   refine yesAnd ?_ (hall _ (List.mem_append.2 (.inr (List.mem_singleton.2 rfl))))
   rw[h.2]
   exact boolC_iff.2 fun s hs=>hall s (List.mem_append.2 (.inl hs))
theorem hbEnd {f:Frame}{us:List Piece}{l:List Stamp}{b:Bool}{k:Int}(h:hbInv f us l b k)(hl:¬k<l.length):b=true↔∀ s∈l,afP f us s=true:=by
 obtain⟨h1,h2⟩:=h
 rw[up_end h1 hl,List.take_length]at h2
 rw[h2]
 exact boolC_iff
theorem frMax {f:Frame}{us:List Piece}{x:Sig}{t:Int}{l:List Stamp}{b:Bool}(g:pick2 (pick2 (x.2.2.2.2.2.2.2.1==0) true (!(riseF l))) true (stampsDgF x.2.2.1 l != x.2.2.2.2.2.2.2.1)=false)
   (hb:b=true↔∀ s∈l,afP f us s=true) (h:pick2 b (rsF f.2.1 l f.2.2.2.1).2 false=true):max t (rsF f.2.1 l f.2.2.2.1).1.1=frG f us x t l:=by
 obtain⟨g1,g2⟩:=orF g
 obtain⟨g3,g4⟩:=orF g1
 obtain⟨q1,q2⟩:=andT h
 have hk:(l23F f us l).2=true:=l23_ok.1.2 ⟨boolC_iff.1 (notF g4),hb.1 q1,q2⟩
 have hv:=l23_ok.2 hk
 unfold frG
 rw[if_pos ⟨bneI' g3,bneI g2,hk⟩,hv]
theorem frKeep {f:Frame}{us:List Piece}{x:Sig}{t:Int}{l:List Stamp}{b:Bool}(hb:b=true↔∀ s∈l,afP f us s=true)(h:pick2 b (rsF f.2.1 l f.2.2.2.1).2 false=false):t=frG f us x t l:=by
 unfold frG
 rw[if_neg]
 rintro⟨_,_,h2⟩
 obtain⟨_,h4,h5⟩:=l23_ok.1.1 h2
 rw[hb.2 h4,h5]at h
 cases h
noncomputable def consF (f:Frame)(e:Evidence)(d:Doc)(x:Sig):Bool:=
 pick2 (pick2 (certForF f.1 (usablePiecesF f e (allDigsF e d)) x).2
   (isAgreedF (statusesF (usablePiecesF f e (allDigsF e d)) (certForF f.1 (usablePiecesF f e (allDigsF e d)) x).1) (certForF f.1 (usablePiecesF f e (allDigsF e d)) x).1.1) false)
   (decide (freshG f e (usablePiecesF f e (allDigsF e d)) x≤evBoundF f e (allDigsF e d) (signPieceF x))) false
end Fw
namespace Fw
open Go
theorem fo2 {α β γ:Type}{f:β→α→β}{g:γ→α→γ}{z:β}{w:γ}{a:List α}{x x':β}{y y':γ}{d:α}{i:Int}(h:foInv f z a x i∧foInv g w a y i)(hl:i<a.length)(hb:a.length≤bigLen)
   (e1:x'=f x (a.getD i.toNat d)) (e2:y'=g y (a.getD i.toNat d)):(foInv f z a x' (IntKind.i64.wrap (i+1))∧foInv g w a y' (IntKind.i64.wrap (i+1)))∧(a.length-(IntKind.i64.wrap (i+1))).toNat<(a.length-i).toNat:=by
 have s1:=foStepE (d:=d) h.1 hl hb e1
 have s2:=foStepE (d:=d) h.2 hl hb e2
 exact⟨⟨s1.1,s2.1⟩,s1.2⟩
theorem fo3 {α β γ δ:Type}{f:β→α→β}{g:γ→α→γ}{k:δ→α→δ}{z:β}{w:γ}{v:δ}{a:List α}{x x':β}{y y':γ}{u u':δ}{d:α}{i:Int}(h:foInv f z a x i∧foInv g w a y i∧foInv k v a u i)(hl:i<a.length)(hb:a.length≤bigLen)
   (e1:x'=f x (a.getD i.toNat d)) (e2:y'=g y (a.getD i.toNat d)) (e3:u'=k u (a.getD i.toNat d)):
   (foInv f z a x' (IntKind.i64.wrap (i+1))∧foInv g w a y' (IntKind.i64.wrap (i+1))∧foInv k v a u' (IntKind.i64.wrap (i+1)))∧(a.length-(IntKind.i64.wrap (i+1))).toNat<(a.length-i).toNat:=by
 have s1:=foStepE (d:=d) h.1 hl hb e1
 have s2:=foStepE (d:=d) h.2.1 hl hb e2
 have s3:=foStepE (d:=d) h.2.2 hl hb e3
 exact⟨⟨s1.1,s2.1,s3.1⟩,s1.2⟩
theorem guA {l:List Status}{n a:Int}(e:a=leastF l n)(h:decide (a≥0)=true):IntKind.i64.wrap (a-1)=goodUntilF l n:=by subst e;exact gu1 (of_decide_eq_true h)
theorem guB {l:List Status}{n a c:Int}(e:a=leastF l n)(e2:c=goodF l n)(h:decide (a≥0)=false):c=goodUntilF l n:=by subst e;subst e2;exact gu0 (of_decide_eq_false h)
theorem bfA {l:List Status}{n m:Int}(e:m=mostF l n)(h:decide (m<0)=true):(10001:Int)=badFromF l n:=by subst e;exact bf0 (of_decide_eq_true h)
theorem bfB {l:List Status}{n m c:Int}(e:m=mostF l n)(e2:c=goodF l n)(h:decide (m<0)=false):max m (IntKind.i64.wrap (c+1))=badFromF l n:=by subst e;subst e2;exact bf1 (of_decide_eq_false h)
end Fw
namespace Fw
open Go
def jApart (x s:Span):Bool:=pick2 (decide (IntKind.i64.wrap (x.2+1)<s.1)) true (decide (IntKind.i64.wrap (s.2+1)<x.1))
def jG (q:List Span×Span)(x:Span):List Span×Span:=if jApart x q.2=true then(q.1++[x],q.2)else(q.1,(min q.2.1 x.1,max q.2.2 x.2))
theorem jY {n:List Span}{s x:Span}(h:jApart x s=true):(n++[x],s)=jG (n,s) x:=(if_pos h).symm
theorem jN {n:List Span}{s x:Span}(h:jApart x s=false):(n,(min s.1 x.1,max s.2 x.2))=jG (n,s) x:=(if_neg (by rw[h];decide)).symm
theorem jLen:∀ (l:List Span) (q:List Span×Span),(l.foldl jG q).1.length≤q.1.length+l.length
 | [],_=>by simp
 | x::r,q=>by
   rw[List.foldl_cons,List.length_cons]
   have h1:=jLen r (jG q x)
   have h2:(jG q x).1.length≤q.1.length+1:=by
     unfold jG
     split
     · simp
     · simp
   omega
theorem jLenI {l:List Span}{s:Span}{q:List Span×Span}{i:Int}(h:foInv jG ([],s) l q i)(hs:l.length≤2000000000):q.1.length≤2000000000:=by
 have h1:=jLen (l.take i.toNat) ([],s)
 rw[←h.2,List.length_take]at h1
 have:([]:List Span).length=0:=rfl
 simp only[]at h1
 omega
def jP (s:Span)(y:Span):Bool:=decide (y.1<s.1)
def jEndF (q:List Span×Span):List Span:=insP (jP q.2) q.2 q.1
def jPut (out:List Span)(s:Span):List Span:=jEndF (out.foldl jG ([],s))
theorem jPut_len (out:List Span)(s:Span):(jPut out s).length≤out.length+1:=by
 have h:=jLen out ([],s)
 unfold jPut jEndF
 rw[insP_len]
 simp only[List.length_nil]at h
 omega
theorem jDone {out n:List Span}{s s0:Span}{i k:Int}(h:foInv jG ([],s0) out (n,s) i)(hl:¬i<out.length)(hk:tkInv (jP s) n k)(he:k.toNat=(n.takeWhile (jP s)).length):
   []++subL n 0 k++[s]++subL n k (n.length:Int)=jPut out s0:=by
 have e:=foEnd h hl
 unfold jPut
 rw[←e]
 have e1:subL n 0 k=n.take (subL n 0 k).length:=by
   rw[sub0_len hk]
   unfold subL
   simp
 have e2:subL n k (n.length:Int)=n.drop k.toNat:=by
   unfold subL
   simp
 have e3:=insP_eq (p:=jP s) (x:=s) (l:=n) (m:=(subL n 0 k).length) (k:=k.toNat) (by rw[sub0_len hk];exact he) he
 rw[←e1,←e2]at e3
 have e4:[]++subL n 0 k++[s]++subL n k (n.length:Int)=subL n 0 k++([]++[s])++subL n k (n.length:Int):=by simp
 rw[e4]
 exact e3
theorem jConds {s:Span}{l:List Span}{i:Int}(h:tkInv (jP s) l i)(hs:l.length≤2000000000):
   conj [(0:Int)≤0,(0:Int)≤i,i≤(l.length:Int),([]:List Span).length+(subL l 0 i).length≤maxApp,([]++subL l 0 i).length+[s].length≤maxApp,0≤i,i≤(l.length:Int),(l.length:Int)≤(l.length:Int),
     ([]++subL l 0 i++[s]).length+(subL l i (l.length:Int)).length≤maxApp]:=by
 have e:=sub0_len h
 have e2:(subL l i (l.length:Int)).length≤l.length:=by unfold subL;rw[List.length_drop,List.length_take];omega
 obtain⟨h1,h2,_⟩:=h
 unfold maxApp
 simp only[List.nil_append,List.length_append,List.length_nil,List.length_singleton,e]
 refine⟨Int.le_refl _,h1,h2,by omega,by omega,h1,h2,Int.le_refl _,?_⟩
 show i.toNat+1+(subL l i (l.length:Int)).length≤4294967296
 omega
theorem one1 {α:Type}{x:α}:List.length [x]≤1000:=by simp
theorem notT' {a:Bool}(h:(!a)=true):a=false:=by simpa using h
def joinG (out:List Span)(s:Span):List Span:=if isSpanF s=true then jPut out s else out
theorem joinY {out:List Span}{s:Span}(h:isSpanF s=true):jPut out s=joinG out s:=(if_pos h).symm
theorem joinN {out:List Span}{s:Span}(h:isSpanF s=false):out=joinG out s:=(if_neg (by rw[h];decide)).symm
def joinF (l:List Span):List Span:=l.foldl joinG []
theorem joinLenG:∀ (l:List Span) (acc:List Span),(l.foldl joinG acc).length≤acc.length+l.length
 | [],_=>by simp
 | x::r,acc=>by
   rw[List.foldl_cons,List.length_cons]
   have h1:=joinLenG r (joinG acc x)
   have h2:(joinG acc x).length≤acc.length+1:=by
     unfold joinG
     split
     · exact jPut_len _ _
     · omega
   omega
theorem joinLen (l:List Span):(joinF l).length≤l.length:=by
 have h:=joinLenG l []
 simp only[List.length_nil,Nat.zero_add]at h
 exact h
theorem joinLenI {l acc:List Span}{i:Int}(h:foInv joinG [] l acc i)(hs:l.length≤2000000000):acc.length≤2000000000:=by
 have h1:=joinLenG (l.take i.toNat) []
 rw[←h.2,List.length_take]at h1
 simp only[List.length_nil]at h1
 omega
def meetF (a b:Span):Span×Bool:=if pick2 (pick2 (!(isSpanF a)) true (!(isSpanF b))) true (!(isSpanF (max a.1 b.1,min a.2 b.2)))=true then((0,0),false)else((max a.1 b.1,min a.2 b.2),true)
theorem meI0 {a b:Span}(h:pick2 (pick2 (!(isSpanF a)) true (!(isSpanF b))) true (!(isSpanF (max a.1 b.1,min a.2 b.2)))=true):meetF a b=((0,0),false):=if_pos h
theorem meI1 {a b:Span}(h:pick2 (pick2 (!(isSpanF a)) true (!(isSpanF b))) true (!(isSpanF (max a.1 b.1,min a.2 b.2)))=false):meetF a b=((max a.1 b.1,min a.2 b.2),true):=if_neg (by rw[h];decide)
theorem meS0 {a b:Span}(h:pick2 (!(isSpanF a)) true (!(isSpanF b))=true):meetF a b=((0,0),false):=if_pos (by rw[h];rfl)
theorem meS1 {a b:Span}(h:pick2 (!(isSpanF a)) true (!(isSpanF b))=false):meetF a b=makeSpanF (max a.1 b.1) (min a.2 b.2):=by
 have h1:=(isSpan_iff a).1 (notF (orF h).1)
 have h2:=(isSpan_iff b).1 (notF (orF h).2)
 have e1:max 0 (max a.1 b.1)=max a.1 b.1:=by omega
 have e2:min 10000 (min a.2 b.2)=min a.2 b.2:=by omega
 unfold meetF makeSpanF
 rw[h,e1,e2]
 have h3:=isSpan_iff (max a.1 b.1,min a.2 b.2)
 by_cases hg:max a.1 b.1>min a.2 b.2
 · rw[if_pos hg,if_pos]
   cases he:isSpanF (max a.1 b.1,min a.2 b.2)with
   | false=>rfl
   | true=>
     have:=h3.1 he
     simp only[]at this
     omega
 · rw[if_neg hg,if_neg]
   rw[h3.2 ⟨by simp only[];omega,by simp only[];omega,by simp only[];omega⟩]
   decide
def meG (x:Span)(acc:List Span)(y:Span):List Span:=if (meetF x y).2=true then acc++[(meetF x y).1]else acc
theorem meY {x y:Span}{acc:List Span}(h:(meetF x y).2=true):acc++[(meetF x y).1]=meG x acc y:=(if_pos h).symm
theorem meN {x y:Span}{acc:List Span}(h:(meetF x y).2=false):acc=meG x acc y:=(if_neg (by rw[h];decide)).symm
def meR (b acc:List Span)(x:Span):List Span:=b.foldl (meG x) acc
theorem meLen (x:Span):∀ (b acc:List Span),(b.foldl (meG x) acc).length≤acc.length+b.length
 | [],_=>by simp
 | y::r,acc=>by
   rw[List.foldl_cons,List.length_cons]
   have h1:=meLen x r (meG x acc y)
   have h2:(meG x acc y).length≤acc.length+1:=by
     unfold meG
     split
     · simp
     · omega
   omega
theorem meLenR (b:List Span):∀ (a acc:List Span),(a.foldl (meR b) acc).length≤acc.length+a.length*b.length
 | [],_=>by simp
 | x::r,acc=>by
   rw[List.foldl_cons,List.length_cons,Nat.succ_mul]
   have h1:=meLenR b r (meR b acc x)
   have h2:(meR b acc x).length≤acc.length+b.length:=meLen x b acc
   omega
theorem meLenI {a b acc:List Span}{i:Int}(h:foInv (meR b) [] a acc i)(ha:a.length≤1000)(hb:b.length≤1000):acc.length≤1000000:=by
 have h1:=meLenR b (a.take i.toNat) []
 rw[←h.2,List.length_take]at h1
 have h2:min i.toNat a.length*b.length≤1000*1000:=Nat.mul_le_mul (by omega) hb
 simp only[List.length_nil]at h1
 omega
theorem meLenJ {b acc acc2:List Span}{x:Span}{k:Int}(h:foInv (meG x) acc b acc2 k)(ha:acc.length≤1000000)(hb:b.length≤1000):acc2.length≤2000000:=by
 have h1:=meLen x (b.take k.toNat) acc
 rw[←h.2,List.length_take]at h1
 omega
theorem meApp {l:List Span}(h:l.length≤2000000):l.length+1≤maxApp:=by unfold maxApp;omega
def meetAllF (a b:List Span):List Span:=joinF (a.foldl (meR b) [])
noncomputable def coversF (l:List Span)(s:Span):Bool:=boolC (∃ x∈joinF l,isInsideF s x=true)
theorem cvHit {l a:List Span}{s d:Span}{i:Int}(e:a=joinF l)(h:fInv (fun x=>isInsideF s x) a i)(hl:i<a.length)(he:isInsideF s (a.getD i.toNat d)=true):true=coversF l s:=by
 subst e
 exact boolC_yes ⟨_,getD_mem (upRange h.1 hl) d,he⟩
theorem cvEnd {l a:List Span}{s:Span}{i:Int}(e:a=joinF l)(h:fInv (fun x=>isInsideF s x) a i)(hl:¬i<a.length):false=coversF l s:=by
 subst e
 refine boolC_no ?_
 rintro⟨x,hx,hp⟩
 have h2:=h.2
 rw[up_end h.1 hl,List.take_length]at h2
 have e:isInsideF s x=false:=h2 x hx
 rw[e]at hp
 cases hp
def goodSpansF (x:Cert)(l:List Status):List Span:=meetAllF [certSpanF x] [(0,goodUntilF l x.1)]
theorem meetBad {c:Span}{u:Int}(h:¬(0≤u∧u≤10000)):meetAllF [c] [(0,u)]=[]:=by
 have e:isSpanF (0,u)=false:=by
   cases he:isSpanF (0,u)with
   | false=>rfl
   | true=>
     have:=(isSpan_iff (0,u)).1 he
     simp only[]at this
     omega
 have e2:meetF c (0,u)=((0,0),false):=meS0 (by rw[e,pick2_or];simp)
 show joinF (meG c [] (0,u))=[]
 have:meG c [] (0,u)=[]:=by unfold meG;rw[e2];rfl
 rw[this];rfl
theorem mkOk {u:Int}:(makeSpanF 0 u).2=true↔0≤u:=by
 unfold makeSpanF
 constructor
 · intro h
   by_cases hc:max 0 0>min 10000 u
   · rw[if_pos hc]at h;cases h
   · omega
 · intro h
   rw[if_neg (by omega)]
theorem gsNone {x:Cert}{l:List Status}(h:pick2 (!(makeSpanF 0 (goodUntilF l x.1)).2) true (decide (goodUntilF l x.1>10000))=true):[]=goodSpansF x l:=by
 refine(meetBad ?_).symm
 rintro⟨h1,h2⟩
 rw[mkOk.2 h1,decide_eq_false (by omega)]at h
 cases h
theorem gsSome {x:Cert}{l:List Status}(h:pick2 (!(makeSpanF 0 (goodUntilF l x.1)).2) true (decide (goodUntilF l x.1>10000))=false):meetAllF [certSpanF x] [(makeSpanF 0 (goodUntilF l x.1)).1]=goodSpansF x l:=by
 have h1:=mkOk.1 (notF (orF h).1)
 have h2:=of_decide_eq_false (orF h).2
 have e:(makeSpanF 0 (goodUntilF l x.1)).1=(0,goodUntilF l x.1):=by
   unfold makeSpanF
   rw[if_neg (by omega)]
   show (max 0 0,min 10000 (goodUntilF l x.1))=(0,goodUntilF l x.1)
   rw[Int.min_eq_right (by omega)];rfl
 rw[e];rfl
def bPut (l:List Span)(a b:Int):List Span:=if (makeSpanF a b).2=true then l++[(makeSpanF a b).1]else l
theorem bpY {l:List Span}{a b:Int}(h:(makeSpanF a b).2=true):l++[(makeSpanF a b).1]=bPut l a b:=(if_pos h).symm
theorem bpN {l:List Span}{a b:Int}(h:(makeSpanF a b).2=false):l=bPut l a b:=(if_neg (by rw[h];decide)).symm
theorem bPut_len (l:List Span)(a b:Int):(bPut l a b).length≤l.length+1:=by
 unfold bPut
 split
 · simp
 · omega
theorem bp1 {a b:Int}:(bPut [] a b).length≤1000:=by have:=bPut_len [] a b;simp only[List.length_nil]at this;omega
theorem bp2 {a b c d:Int}:(bPut (bPut [] a b) c d).length≤1000:=by have:=bPut_len [] a b;have:=bPut_len (bPut [] a b) c d;simp only[List.length_nil]at *;omega
theorem bp3 {a b c d e f:Int}:(bPut (bPut (bPut [] a b) c d) e f).length≤1000:=by have:=bPut_len [] a b;have:=bPut_len (bPut [] a b) c d;have:=bPut_len (bPut (bPut [] a b) c d) e f;simp only[List.length_nil]at *;omega
def badA (x:Cert):List Span:=if decide (x.2.2.2.1>0)=true then bPut [] 0 (IntKind.i64.wrap (x.2.2.2.1-1))else []
def badB (x:Cert):List Span:=if decide (x.2.2.2.2.1<10000)=true then bPut (badA x) (IntKind.i64.wrap (x.2.2.2.2.1+1)) 10000 else badA x
def badSpansF (x:Cert)(l:List Status):List Span:=joinF (bPut (badB x) (badFromF l x.1) 10000)
theorem bdYY {x:Cert}{l:List Status}(h:decide (x.2.2.2.1>0)=true)(g:decide (x.2.2.2.2.1<10000)=true):
   joinF (bPut (bPut (bPut [] 0 (IntKind.i64.wrap (x.2.2.2.1-1))) (IntKind.i64.wrap (x.2.2.2.2.1+1)) 10000) (badFromF l x.1) 10000)=badSpansF x l:=by unfold badSpansF badB badA;rw[if_pos h,if_pos g]
theorem bdYN {x:Cert}{l:List Status}(h:decide (x.2.2.2.1>0)=true)(g:decide (x.2.2.2.2.1<10000)=false):
   joinF (bPut (bPut [] 0 (IntKind.i64.wrap (x.2.2.2.1-1))) (badFromF l x.1) 10000)=badSpansF x l:=by unfold badSpansF badB badA;rw[if_pos h,if_neg (show ¬decide (x.2.2.2.2.1<10000)=true by rw[g];decide)]
theorem bdNY {x:Cert}{l:List Status}(h:decide (x.2.2.2.1>0)=false)(g:decide (x.2.2.2.2.1<10000)=true):
   joinF (bPut (bPut [] (IntKind.i64.wrap (x.2.2.2.2.1+1)) 10000) (badFromF l x.1) 10000)=badSpansF x l:=by unfold badSpansF badB badA;rw[if_neg (show ¬decide (x.2.2.2.1>0)=true by rw[h];decide),if_pos g]
theorem bdNN {x:Cert}{l:List Status}(h:decide (x.2.2.2.1>0)=false)(g:decide (x.2.2.2.2.1<10000)=false):
   joinF (bPut [] (badFromF l x.1) 10000)=badSpansF x l:=by unfold badSpansF badB badA;rw[if_neg (show ¬decide (x.2.2.2.1>0)=true by rw[h];decide),if_neg (show ¬decide (x.2.2.2.2.1<10000)=true by rw[g];decide)]
theorem goodLen (x:Cert)(l:List Status):(goodSpansF x l).length≤1000:=by
 refine Nat.le_trans (joinLen _) ?_
 have:=meLenR [(0,goodUntilF l x.1)] [certSpanF x] []
 simp only[List.length_nil,List.length_cons]at this
 omega
theorem badLen (x:Cert)(l:List Status):(badSpansF x l).length≤1000:=by
 refine Nat.le_trans (joinLen _) ?_
 unfold badB badA
 split<;>split
 · exact bp3
 · exact bp2
 · exact bp2
 · exact bp1
end Fw
namespace Fw
open Go
def areG {α:Type}(g:α→Bool)(f:α→Int)(d:α)(l:List α)(k:Nat):Prop:=g (l.getD k d)=true∧(0<k→f (l.getD (k-1) d)<f (l.getD k d))
noncomputable def areF {α:Type}(g:α→Bool)(f:α→Int)(d:α)(m:Int)(l:List α):Bool:=boolC ((∀ k,k<l.length→areG g f d l k)∧(l.length:Int)≤m)
def areT {α:Type}(g:α→Bool)(f:α→Int)(d:α)(l:List α)(i:Int):Bool:=
 pick2 (!(g (l.getD i.toNat d))) true (pick2 (decide (i>0)) (decide (f (l.getD (IntKind.i64.wrap (i-1)).toNat d)≥f (l.getD i.toNat d))) false)
section
variable {α:Type} {g:α→Bool} {f:α→Int} {d:α} {l:List α} {i m:Int}
theorem areT_iff (h0:0≤i)(hl:i<l.length)(hb:l.length≤bigLen):areT g f d l i=false↔areG g f d l i.toNat:=by
 unfold areT areG
 simp only[pick2_or,pick2_and,Bool.or_eq_false_iff,Bool.not_eq_false',Bool.and_eq_false_iff,decide_eq_false_iff_not]
 unfold bigLen at hb
 rw[w64 (by omega) (by omega),show (i-1).toNat=i.toNat-1 by omega]
 constructor
 · rintro⟨h1,h2⟩
   refine⟨h1,fun h=>?_⟩
   rcases h2 with h2 | h2
   · omega
   · omega
 · rintro⟨h1,h2⟩
   refine⟨h1,?_⟩
   by_cases hi:i>0
   · right;have:=h2 (by omega);omega
   · left;exact hi
theorem areStep (h:kInv (areG g f d l) l i)(hl:i<l.length)(hb:l.length≤bigLen)(ht:areT g f d l i=false):
   kInv (areG g f d l) l (IntKind.i64.wrap (i+1))∧(l.length-(IntKind.i64.wrap (i+1))).toNat<(l.length-i).toNat:=
 kStep h hl hb ((areT_iff (by obtain⟨k,_,e⟩:=h.1;omega) hl hb).1 ht)
theorem areBad (h:kInv (areG g f d l) l i)(hl:i<l.length)(hb:l.length≤bigLen)(ht:areT g f d l i=true):false=areF g f d m l:=
 boolC_no fun e=>by rw[(areT_iff (by obtain⟨k,_,e⟩:=h.1;omega) hl hb).2 (e.1 _ (kLt h hl))]at ht;cases ht
theorem areEnd (h:kInv (areG g f d l) l i)(hl:¬i<l.length):decide ((l.length:Int)≤m)=areF g f d m l:=
 boolC_by (fun h2=>⟨kEnd h hl,of_decide_eq_true h2⟩) (fun h2=>decide_eq_true h2.2)
end
abbrev TKey:Ty:=.pair TI (.pair TI (.pair TI (.pair TI TI)))
abbrev TAuth:Ty:=.pair TI (.pair TI TI)
def validKeyF (n:Int):Bool:=inRangeF n 1 2147483646
def isKeyF (k:Key):Bool:=pick2 (pick2 (pick2 (pick2 (inRangeF k.1 1 99) (inRangeF k.2.1 0 99) false) (inRangeF k.2.2.1 0 99) false) (isTimeF k.2.2.2.1) false) (validKeyF k.2.2.2.2) false
def isMethodF (m:Method):Bool:=
 pick2 (pick2 (pick2 (pick2 (pick2 (inRangeF m.1 0 99) (isTimeF m.2.1) false) (inRangeF m.2.2.1 1 10001) false) (inRangeF m.2.2.2 1 10001) false) (decide (m.2.1<m.2.2.1)) false) (decide (m.2.1<m.2.2.2)) false
def isAuthF (a:Authority):Bool:=pick2 (pick2 (inRangeF a.1 0 99) (inRangeF a.2.1 1 99) false) (inRangeF a.2.2 0 100) false
theorem nor3 (a b c d:Bool):pick2 (pick2 (pick2 (!a) true (!b)) true (!c)) true d=pick2 (!(pick2 (pick2 a b false) c false)) true d:=by
 cases a<;>cases b<;>cases c<;>rfl
noncomputable def areKeysF (l:List Key):Bool:=areF isKeyF (fun k=>k.1) (dflt TKey) 12 l
noncomputable def areMethodsF (l:List Method):Bool:=areF isMethodF (fun k=>k.1) (dflt TMethod) 8 l
noncomputable def areAuthsF (l:List Authority):Bool:=areF isAuthF (fun k=>k.1) (dflt TAuth) 6 l
noncomputable def isFrameF (f:Frame):Bool:=pick2 (pick2 (pick2 (pick2 (areKeysF f.1) (areAuthsF f.2.1) false) (areMethodsF f.2.2.1) false) (inRangeF f.2.2.2.1 0 6) false) (isTimeF f.2.2.2.2) false
def isSigF (x:Sig):Bool:=
 pick2 (pick2 (pick2 (pick2 (pick2 (pick2 (pick2 (inRangeF x.1 1 99) (inRangeF x.2.1 1 999) false) (inRangeF x.2.2.1 0 99) false) (inRangeF x.2.2.2.2.2.1 0 99) false) (inRangeF x.2.2.2.2.1 1 3) false)
   (inRangeF x.2.2.2.1 0 1000000000000) false) (inRangeF x.2.2.2.2.2.2.1 0 1000000000000) false) (inRangeF x.2.2.2.2.2.2.2.1 0 1000000000000) false
def checkSigF (keys:List Key)(x:Sig):Bool:=pick2 (isSigF x) (checkMarkF keys x.1 (sigIntsF x) x.2.2.2.2.2.2.2.2) false
def isMandF (x:Mandate):Bool:=pick2 (pick2 (pick2 (inRangeF x.1 1 99) (inRangeF x.2.1 0 99) false) (inRangeF x.2.2.2.2.1 1 99) false) (isSpanF (x.2.2.1,x.2.2.2.1)) false
def mandIntsF (x:Mandate):List Int:=[105,x.1,x.2.1,x.2.2.1,x.2.2.2.1,x.2.2.2.2.1]
def checkMandF (keys:List Key)(x:Mandate):Bool:=pick2 (pick2 (isMandF x) (ownerF keys x.2.2.2.2.1==x.1) false) (checkMarkF keys x.2.2.2.2.1 (mandIntsF x) x.2.2.2.2.2) false
def mdF (keys:List Key)(org person:Int)(x:Mandate):Span×Bool:=((x.2.2.1,x.2.2.2.1),pick2 (pick2 (x.1==org) (x.2.1==person) false) (checkMandF keys x) false)
def mandSpansF (keys:List Key)(l:List Mandate)(org person:Int):List Span:=joinF (pickF (mdF keys org person) l)
theorem mandOrg {keys:List Key}{x:Mandate}(h:checkMandF keys x=true):1≤x.1:=by
 have h1:=(andT (andT (andT (andT (andT (andT h).1).1).1).1).1).1
 exact of_decide_eq_true h1
theorem pick_none {α β:Type}{f:α→β×Bool}:∀ (l:List α),(∀ x∈l,(f x).2=false)→pickF f l=[]
 | [],_=>rfl
 | x::r,h=>by
   have h1:=h x (by simp)
   have h2:=pick_none r (fun y hy=>h y (by simp[hy]))
   unfold pickF at *
   rw[List.filterMap_cons,h1]
   simpa using h2
noncomputable def maySignF (keys:List Key)(l:List Mandate)(org person:Int)(s:Span):Bool:=if org=0 then isSpanF s else coversF (mandSpansF keys l org person) s
theorem mayS {keys:List Key}{l:List Mandate}{org person:Int}{s:Span}(h:(org==0)=true):isSpanF s=maySignF keys l org person s:=by
 have:=beqI2 h
 unfold maySignF;rw[if_pos this]
theorem mayN {keys:List Key}{l:List Mandate}{org person:Int}{s:Span}(h:(org==0)=false):coversF (mandSpansF keys l org person) s=maySignF keys l org person s:=by
 have:=bneI' h
 unfold maySignF;rw[if_neg this]
theorem covNil {s:Span}:coversF [] s=false:=(boolC_no (by rintro⟨x,hx,_⟩;exact absurd hx (by simp[joinF]))).symm
theorem mandNone {keys:List Key}{l:List Mandate}{person:Int}:mandSpansF keys l 0 person=[]:=by
 have:pickF (mdF keys 0 person) l=[]:=by
   refine pick_none l fun x _=>?_
   cases he:(mdF keys 0 person x).2 with
   | false=>rfl
   | true=>
     have h1:=andT he
     have h2:=beqI2 (andT h1.1).1
     have h3:=mandOrg h1.2
     omega
 unfold mandSpansF
 rw[this];rfl
theorem mayI {keys:List Key}{l:List Mandate}{org person:Int}{s:Span}:pick2 (pick2 (org==0) (isSpanF s) false) true (coversF (mandSpansF keys l org person) s)=maySignF keys l org person s:=by
 cases he:(org==0)with
 | true=>
   rw[←mayS (keys:=keys) (l:=l) (person:=person) (s:=s) he]
   have:=beqI2 he
   subst this
   rw[mandNone,covNil,pick2_or,pick2_and];simp
 | false=>
   rw[←mayN (keys:=keys) (l:=l) (person:=person) (s:=s) he,pick2_or,pick2_and];simp
theorem mandLen {l:List Mandate}(keys:List Key)(org person:Int)(h:l.length≤2000000000):(pickF (mdF keys org person) l).length≤2000000000:=Nat.le_trans (pick_len _ _) h
abbrev Verdict:=Int×Int×Span
noncomputable def formF (f:Frame)(own:Int)(x:Sig):Verdict:=
 if (!(isFrameF f))=true then(3,1,(0,0))else if (!(isSigF x))=true then(2,1,(0,0))else if decide (own<0)=true then(3,2,(0,0))else if (own != x.2.2.2.1)=true then(2,2,(0,0))
 else if decide (keyI f.1 x.1<0)=true then(3,3,(0,0))else if (!(checkSigF f.1 x))=true then(2,4,(0,0))else(0,0,(0,0))
section
variable {f:Frame} {own:Int} {x:Sig}
theorem fo1 (h:(!(isFrameF f))=true):(3,1,(0,0))=formF f own x:=by unfold formF;rw[if_pos h]
theorem fo2' (h:(!(isFrameF f))=false)(h2:(!(isSigF x))=true):(2,1,(0,0))=formF f own x:=by unfold formF;rw[if_neg (by rw[h];decide),if_pos h2]
theorem fo3' (h:(!(isFrameF f))=false)(h2:(!(isSigF x))=false)(h3:decide (own<0)=true):(3,2,(0,0))=formF f own x:=by unfold formF;rw[if_neg (by rw[h];decide),if_neg (by rw[h2];decide),if_pos h3]
theorem fo4 (h:(!(isFrameF f))=false)(h2:(!(isSigF x))=false)(h3:decide (own<0)=false)(h4:(own != x.2.2.2.1)=true):(2,2,(0,0))=formF f own x:=by
 unfold formF;rw[if_neg (by rw[h];decide),if_neg (by rw[h2];decide),if_neg (by rw[h3];decide),if_pos h4]
theorem fo5 (h:(!(isFrameF f))=false)(h2:(!(isSigF x))=false)(h3:decide (own<0)=false)(h4:(own != x.2.2.2.1)=false)(h5:decide (keyI f.1 x.1<0)=true):(3,3,(0,0))=formF f own x:=by
 unfold formF;rw[if_neg (by rw[h];decide),if_neg (by rw[h2];decide),if_neg (by rw[h3];decide),if_neg (by rw[h4];decide),if_pos h5]
theorem fo6 (h:(!(isFrameF f))=false)(h2:(!(isSigF x))=false)(h3:decide (own<0)=false)(h4:(own != x.2.2.2.1)=false)(h5:decide (keyI f.1 x.1<0)=false)(h6:(!(checkSigF f.1 x))=true):(2,4,(0,0))=formF f own x:=by
 unfold formF;rw[if_neg (by rw[h];decide),if_neg (by rw[h2];decide),if_neg (by rw[h3];decide),if_neg (by rw[h4];decide),if_neg (by rw[h5];decide),if_pos h6]
theorem fo7 (h:(!(isFrameF f))=false)(h2:(!(isSigF x))=false)(h3:decide (own<0)=false)(h4:(own != x.2.2.2.1)=false)(h5:decide (keyI f.1 x.1<0)=false)(h6:(!(checkSigF f.1 x))=false):(0,0,(0,0))=formF f own x:=by
 unfold formF;rw[if_neg (by rw[h];decide),if_neg (by rw[h2];decide),if_neg (by rw[h3];decide),if_neg (by rw[h4];decide),if_neg (by rw[h5];decide),if_neg (by rw[h6];decide)]
theorem foKey (h:(formF f own x).1=0):¬keyI f.1 x.1<0:=by
 intro hk
 unfold formF at h
 split at h
 · cases h
 split at h
 · cases h
 split at h
 · cases h
 split at h
 · cases h
 split at h
 · cases h
 · rename_i hn
   exact hn (decide_eq_true hk)
end
noncomputable def endF (f:Frame)(us:List Piece)(x:Sig)(c:Cert)(s:Span):Verdict:=
 if coversF (badSpansF c (statusesF us c)) s=true then(2,8,s)else if (!(coversF (goodSpansF c (statusesF us c)) s))=true then(3,7,s)
 else if (!(maySignF f.1 (mandatesF us) x.2.2.2.2.2.1 c.2.2.1 s))=true then(3,9,s)else(1,0,s)
noncomputable def certJ (f:Frame)(e:Evidence)(us:List Piece)(x:Sig)(b:Int):Verdict:=
 if (!(certForF f.1 us x).2)=true then(3,6,(0,0))else if decide (freshG f e us x>b)=true then(3,7,(0,0))else endF f us x (certForF f.1 us x).1 (freshG f e us x,b)
noncomputable def boundJ (f:Frame)(e:Evidence)(docs:List (List Int))(x:Sig)(b:Int):Verdict:=
 if pick2 (decide (b≥brkKeyF f x.1)) true (decide (b≥breakF f.2.2.1 x.2.2.1))=true then(3,5,(0,0))else certJ f e (usablePiecesF f e docs) x b
noncomputable def judgeF (f:Frame)(e:Evidence)(docs:List (List Int))(own:Int)(x:Sig):Verdict:=
 if ((formF f own x).1 != 0)=true then formF f own x else boundJ f e docs x (evBoundF f e docs (signPieceF x))
section
variable {f:Frame} {e:Evidence} {docs:List (List Int)} {own:Int} {x:Sig} {us:List Piece} {c:Cert} {s:Span} {b:Int}
theorem enA (h:coversF (badSpansF c (statusesF us c)) s=true):(2,8,s)=endF f us x c s:=by unfold endF;rw[if_pos h]
theorem enB (h:coversF (badSpansF c (statusesF us c)) s=false)(g:(!(coversF (goodSpansF c (statusesF us c)) s))=true):(3,7,s)=endF f us x c s:=by unfold endF;rw[if_neg (by rw[h];decide),if_pos g]
theorem enC (h:coversF (badSpansF c (statusesF us c)) s=false)(g:(!(coversF (goodSpansF c (statusesF us c)) s))=false)(k:(!(maySignF f.1 (mandatesF us) x.2.2.2.2.2.1 c.2.2.1 s))=true):(3,9,s)=endF f us x c s:=by
 unfold endF;rw[if_neg (by rw[h];decide),if_neg (by rw[g];decide),if_pos k]
theorem enD (h:coversF (badSpansF c (statusesF us c)) s=false)(g:(!(coversF (goodSpansF c (statusesF us c)) s))=false)(k:(!(maySignF f.1 (mandatesF us) x.2.2.2.2.2.1 c.2.2.1 s))=false):(1,0,s)=endF f us x c s:=by
 unfold endF;rw[if_neg (by rw[h];decide),if_neg (by rw[g];decide),if_neg (by rw[k];decide)]
theorem ceA (h:(!(certForF f.1 us x).2)=true):(3,6,(0,0))=certJ f e us x b:=by unfold certJ;rw[if_pos h]
theorem ceB (h:(!(certForF f.1 us x).2)=false)(g:decide (freshG f e us x>b)=true):(3,7,(0,0))=certJ f e us x b:=by unfold certJ;rw[if_neg (by rw[h];decide),if_pos g]
theorem ceC (h:(!(certForF f.1 us x).2)=false)(g:decide (freshG f e us x>b)=false):endF f us x (certForF f.1 us x).1 (freshG f e us x,b)=certJ f e us x b:=by
 unfold certJ;rw[if_neg (by rw[h];decide),if_neg (by rw[g];decide)]
theorem boA (h:pick2 (decide (b≥brkKeyF f x.1)) true (decide (b≥breakF f.2.2.1 x.2.2.1))=true):(3,5,(0,0))=boundJ f e docs x b:=by unfold boundJ;rw[if_pos h]
theorem boB (h:pick2 (decide (b≥brkKeyF f x.1)) true (decide (b≥breakF f.2.2.1 x.2.2.1))=false):certJ f e (usablePiecesF f e docs) x b=boundJ f e docs x b:=by unfold boundJ;rw[if_neg (by rw[h];decide)]
theorem juA (h:((formF f own x).1 != 0)=true):formF f own x=judgeF f e docs own x:=by unfold judgeF;rw[if_pos h]
theorem juB (h:formF f own x=(0,0,(0,0))):boundJ f e docs x (evBoundF f e docs (signPieceF x))=judgeF f e docs own x:=by unfold judgeF;rw[h];rfl
theorem juC (h:((formF f own x).1 != 0)=false):boundJ f e docs x (evBoundF f e docs (signPieceF x))=judgeF f e docs own x:=by unfold judgeF;rw[if_neg (by rw[h];decide)]
theorem juD {v:Verdict}(h:v=formF f own x)(h2:v.1≠0):v=judgeF f e docs own x:=by
 rw[h]at h2 ⊢
 exact juA (bne_iff_ne.2 h2)
end
theorem mandW {l:List Piece}(h:l.length≤2000000000):(mandatesF l).length≤2000000000:=Nat.le_trans (pick_len _ _) h
end Fw
namespace Fw
open Go
noncomputable def judgeDocF (f:Frame)(e:Evidence)(d:Doc)(x:Sig):Verdict:=judgeF f e (allDigsF e d) (docDigF x.2.2.1 d) x
theorem jApp {l:List Span}(h:l.length≤2000000000):l.length+1≤maxApp:=by unfold maxApp;omega
theorem bpApp {l:List Span}(h:l.length≤1000):l.length+1≤maxApp:=by unfold maxApp;omega
theorem meBig {a b acc:List Span}(h1:a.length≤1000)(h2:b.length≤1000)(e:acc=a.foldl (meR b) []):acc.length≤2000000000:=by
 have h3:=meLenR b a []
 rw[←e]at h3
 have h4:a.length*b.length≤1000*1000:=Nat.mul_le_mul h1 h2
 simp only[List.length_nil]at h3
 omega
theorem pkBigW {α β:Type}{f:α→β×Bool}{L:List α}{acc:List β}(h:L.length≤2000000000)(e:acc=pickF f L):acc.length≤2000000000:=by
 rw[e];exact Nat.le_trans (pick_len _ _) h
theorem mandSpLen {keys:List Key}{l:List Mandate}{org person:Int}(h:l.length≤2000000000):(mandSpansF keys l org person).length≤2000000000:=Nat.le_trans (joinLen _) (mandLen keys org person h)
end Fw
namespace Fw
open Go
section
variable {α:Type} {p:α→Bool} {l:List α} {b b':Bool} {k:Int} {d:α}
def exInv (p:α→Bool)(l:List α)(b:Bool)(k:Int):Prop:=upInv l k∧b=boolC (∃ x∈l.take k.toNat,p x=true)
theorem exStart:exInv p l false 0:=⟨upStart,boolC_no (by rintro⟨x,hx,_⟩;simp at hx)⟩
theorem exRange (h:exInv p l b k)(hl:k<l.length):inRange k l.length:=upRange h.1 hl
theorem exStep (h:exInv p l b k)(hl:k<l.length)(hb:l.length≤bigLen)(e:b'=pick2 b true (p (l.getD k.toNat d))):
   exInv p l b' (IntKind.i64.wrap (k+1))∧(l.length-(IntKind.i64.wrap (k+1))).toNat<(l.length-k).toNat:=by
 obtain⟨u1,u2,u3⟩:=upStep h.1 hl hb
 refine⟨⟨u1,?_⟩,u3⟩
 rw[u2,take_snoc (d:=d) h.1 hl,e,pick2_or]
 refine boolC_by (fun hq=>?_) (fun hq=>?_)
 · rw[Bool.or_eq_true]at hq
   rcases hq with hq | hq
   · obtain⟨x,hx,hp⟩:=boolC_iff.1 (h.2.symm.trans hq)
     exact⟨x,List.mem_append.2 (.inl hx),hp⟩
   · exact⟨_,List.mem_append.2 (.inr (List.mem_singleton.2 rfl)),hq⟩
 · obtain⟨x,hx,hp⟩:=hq
   rw[Bool.or_eq_true]
   rcases List.mem_append.1 hx with hx | hx
   · left;rw[h.2];exact boolC_iff.2 ⟨x,hx,hp⟩
   · right;rw[List.mem_singleton.1 hx]at hp;exact hp
theorem exEnd (h:exInv p l b k)(hl:¬k<l.length):b=boolC (∃ x∈l,p x=true):=by
 have h2:=h.2
 rw[up_end h.1 hl,List.take_length]at h2
 exact h2
end
section
variable {α:Type} {q:α→α→Bool} {acc z l:List α} {s:α} {b:Bool}
noncomputable def newG (q:α→α→Bool)(acc:List α)(s:α):List α:=if boolC (∃ x∈acc,q x s=true)=true then acc else acc++[s]
theorem newY (hb:b=boolC (∃ x∈acc,q x s=true))(h:(!b)=true):acc++[s]=newG q acc s:=by
 unfold newG;rw[←hb,if_neg (by intro e;rw[e]at h;cases h)]
theorem newN (hb:b=boolC (∃ x∈acc,q x s=true))(h:(!b)=false):acc=newG q acc s:=by
 unfold newG;rw[←hb,if_pos (notF h)]
theorem newG_len:(newG q acc s).length≤acc.length+1:=by
 unfold newG
 split
 · omega
 · simp
theorem newL_len:∀ (l acc:List α),(l.foldl (newG q) acc).length≤acc.length+l.length
 | [],_=>by simp
 | x::r,acc=>by
   rw[List.foldl_cons,List.length_cons]
   have h1:=newL_len r (newG q acc x)
   have h2:(newG q acc x).length≤acc.length+1:=newG_len
   omega
theorem newLenI {i:Int}(h:foInv (newG q) z l acc i)(h1:z.length≤1048576)(h2:l.length≤1048576):acc.length≤2097152:=by
 have h3:=newL_len (q:=q) (l.take i.toNat) z
 rw[←h.2,List.length_take]at h3
 omega
theorem newApW (h:acc.length≤2097152):acc.length+1≤maxApp:=by unfold maxApp;omega
theorem newBig (h:acc.length≤2097152):acc.length≤bigLen:=by unfold bigLen;omega
end
abbrev TEv:Ty:=.pair (.slice (.pair (.slice TPiece) (.slice TRen))) (.slice (.slice TStamp))
noncomputable def joinEvF (a b:Evidence):Evidence:=(b.1.foldl (newG eqC) a.1,b.2.foldl (newG eqC) a.2)
end Fw
namespace Fw
open Go
section
variable {r:Red} {d:Doc} {i:Int}
end
section
variable {m:Int} {r:Red} {acc:List Int} {i a:Int}
end
section
variable {m:Int} {r:Red}
end
end Fw
namespace Fw
open Go
noncomputable def judgeBothF (f:Frame)(a b:Evidence)(d:Doc)(x:Sig):Verdict:=judgeDocF f (joinEvF a b) d x
section
variable {f:Frame} {a b:Evidence} {d:Doc} {x:Sig}
end
end Fw
namespace Fw
open Go
section
variable {a b:List Stamp} {i:Int}
end
end Fw
namespace Fw
open Go
section
variable {n B:Nat} {X:List Nat} {w0:World} {M0 M:Mem} {ω:Own} {ρ:Env} {tmps tmps':Array Value} {w w':World} {P:Program} {C:Ctx}
end
section
variable {G:Cfg} {ρ:Env} {K:Exit→Env→Prop}
theorem CtxOk.pinned {P:Program}{C:Ctx}(h:CtxOk P C)(F:List Nat):CtxOk P { C with pins:=F }:=⟨h.eq,h.ty,h.flds,h.fnM,h.fnT,h.fnK,h.fnP⟩
end
end Fw
namespace Fw
open Go
section
variable {G:Cfg} {ρ:Env} {K:Exit→Env→Prop}
theorem Vc.frz {c:Code}(j:Nat){a':A}(h:froz (ρ.get j).a=some a')(hK:Vc G c (ρ.puts [⟨j,true,a'⟩]) K):Vc G c ρ K:=by
 intro a w hd ⟨⟨M,ω,S⟩,hpn⟩
 have hj:j<G.C.n:=by
   rcases Nat.lt_or_ge j G.C.n with h' | h'
   · exact h'
   · rw[S.high j h']at h;cases h
 exact hK a w hd ⟨⟨_,_,(freeze_ok S hj h).1⟩,hpn⟩
end
end Fw
namespace Fw
open Go
section
variable {f:Frame} {d:Doc} {x:Sig} {code:Int}
variable {e o:Evidence} {i:Int}
end
section
variable {f:Frame} {d:Doc} {x:Sig} {e o:Evidence} {i:Int}
end
end Fw
namespace Fw
open Go
def subE (a e:Evidence):Prop:=(∀ s∈a.1,s∈e.1)∧(∀ l∈a.2,l∈e.2)
theorem newG_mem {α:Type}{acc:List α}{s x:α}:x∈newG eqC acc s↔x∈acc∨x=s:=by
 unfold newG
 split
 · rename_i h
   obtain⟨y,hy,e⟩:=boolC_iff.1 h
   have e:=eqC_iff.1 e
   subst e
   exact⟨.inl,fun h=>h.elim id fun e=>e ▸ hy⟩
 · rw[List.mem_append,List.mem_singleton]
theorem newL_mem {α:Type}{x:α}:∀ (l acc:List α),x∈l.foldl (newG eqC) acc↔x∈acc∨x∈l
 | [],acc=>by simp
 | y::r,acc=>by
   rw[List.foldl_cons,newL_mem r,newG_mem,List.mem_cons,or_assoc]
theorem join_l (a b:Evidence):subE a (joinEvF a b):=⟨fun _ h=>(newL_mem b.1 a.1).2 (.inl h),fun _ h=>(newL_mem b.2 a.2).2 (.inl h)⟩
section
variable {f:Frame} {a e:Evidence} {d:Doc} {p:Piece} {x:Sig} {b:Int}
noncomputable def bndF (f:Frame)(d:Doc)(p:Piece)(s:Strand):Int:=pieceBoundF f s (docDigsF s d) p
theorem allDigs_map (e:Evidence)(d:Doc):allDigsF e d=e.1.map (fun s=>docDigsF s d):=pick_true (fun s=>docDigsF s d) e.1
theorem ebMin (g:Strand→Int):∀ (l:List Strand) (t b:Int),b≤l.foldl (fun t s=>min t (g s)) t↔b≤t∧∀ s∈l,b≤g s
 | [],t,b=>by simp
 | s::r,t,b=>by
   rw[List.foldl_cons,ebMin g r]
   constructor
   · rintro⟨h1,h2⟩
     refine⟨by omega,fun y hy=>?_⟩
     rcases List.mem_cons.1 hy with rfl | hy
     · omega
     · exact h2 y hy
   · rintro⟨h1,h2⟩
     have:=h2 s (by simp)
     exact⟨by omega,fun y hy=>h2 y (by simp[hy])⟩
theorem ebZip (f:Frame)(d:Doc)(p:Piece):∀ (l:List Strand) (t:Int),(l.zip (l.map (fun s=>docDigsF s d))).foldl (ebG f p) t=l.foldl (fun t s=>min t (bndF f d p s)) t
 | [],_=>rfl
 | s::r,t=>ebZip f d p r _
theorem evB_le:b≤evBoundF f e (allDigsF e d) p↔b≤f.2.2.2.2∧∀ s∈e.1,b≤bndF f d p s:=by
 unfold evBoundF
 rw[allDigs_map,ebZip]
 exact ebMin _ _ _ _
theorem evB_mono (h:subE a e):evBoundF f e (allDigsF e d) p≤evBoundF f a (allDigsF a d) p:=by
 have h2:=evB_le.1 (Int.le_refl (evBoundF f e (allDigsF e d) p))
 exact evB_le.2 ⟨h2.1,fun s hs=>h2.2 s (h.1 s hs)⟩
theorem put_mem {p q:Piece}{l:List Piece}:q∈putP p l↔q=p∨q∈l:=by
 have e:=List.takeWhile_append_dropWhile (p:=fun y=>pbF y p) (l:=l)
 unfold putP insP
 rw[List.mem_append,List.mem_cons]
 constructor
 · rintro(h | h | h)
   · exact .inr (by rw[←e];exact List.mem_append.2 (.inl h))
   · exact .inl h
   · exact .inr (by rw[←e];exact List.mem_append.2 (.inr h))
 · rintro(h | h)
   · exact .inr (.inl h)
   · rw[←e]at h
     rcases List.mem_append.1 h with h | h
     · exact .inl h
     · exact .inr (.inr h)
theorem usPut_mem {p q:Piece}{l:List Piece}:q∈usPut p l↔q=p∨q∈l:=by
 unfold usPut
 split
 · rename_i h
   exact⟨.inr,fun g=>g.elim (fun e=>e ▸ h) id⟩
 · exact put_mem
theorem usG_mem {docs:List (List Int)}{q:Piece}:∀ (l out:List Piece),q∈l.foldl (usG f e docs) out↔q∈out∨(q∈l∧usableF f e docs q=true)
 | [],out=>by simp
 | y::r,out=>by
   rw[List.foldl_cons,usG_mem r]
   have k:q∈usG f e docs out y↔q∈out∨(q=y∧usableF f e docs q=true):=by
     unfold usG
     split
     · rename_i h
       rw[usPut_mem]
       constructor
       · rintro(g | g)
         · exact .inr ⟨g,by rw[g];exact h⟩
         · exact .inl g
       · rintro(g | g)
         · exact .inr g
         · exact .inl g.1
     · rename_i h
       constructor
       · exact .inl
       · rintro(g | g)
         · exact g
         · exact absurd (by rw[←g.1];exact g.2) h
   rw[k,List.mem_cons]
   constructor
   · rintro((g | g) | g)
     · exact .inl g
     · exact .inr ⟨.inl g.1,g.2⟩
     · exact .inr ⟨.inr g.1,g.2⟩
   · rintro(g | ⟨g | g,g2⟩)
     · exact .inl (.inl g)
     · exact .inl (.inr ⟨g,g2⟩)
     · exact .inr ⟨g,g2⟩
theorem usS_mem {docs:List (List Int)}{q:Piece}:∀ (l:List Strand) (out:List Piece),q∈l.foldl (strG (usG f e docs)) out↔q∈out∨((∃ s∈l,q∈s.1)∧usableF f e docs q=true)
 | [],out=>by simp
 | y::r,out=>by
   rw[List.foldl_cons,usS_mem r]
   unfold strG
   rw[usG_mem]
   constructor
   · rintro((g | g) | ⟨⟨s,g1,g2⟩,g3⟩)
     · exact .inl g
     · exact .inr ⟨⟨y,by simp,g.1⟩,g.2⟩
     · exact .inr ⟨⟨s,by simp[g1],g2⟩,g3⟩
   · rintro(g | ⟨⟨s,g1,g2⟩,g3⟩)
     · exact .inl (.inl g)
     · rcases List.mem_cons.1 g1 with rfl | g1
       · exact .inl (.inr ⟨g2,g3⟩)
       · exact .inr ⟨⟨s,g1,g2⟩,g3⟩
theorem us_mem {docs:List (List Int)}{q:Piece}:q∈usablePiecesF f e docs↔(∃ s∈e.1,q∈s.1)∧usableF f e docs q=true:=by
 unfold usablePiecesF
 rw[usS_mem]
 simp
theorem us_asc {docs:List (List Int)}:AscP (usablePiecesF f e docs):=ascS List.Pairwise.nil
theorem usable_mono {q:Piece}(h:subE a e)(g:usableF f a (allDigsF a d) q=true):usableF f e (allDigsF e d) q=true:=by
 have g1:=andT g
 have g2:=of_decide_eq_true g1.2
 have g3:=evB_mono (f:=f) (d:=d) (p:=q) h
 exact yesAnd g1.1 (decide_eq_true (by omega))
theorem us_mono {q:Piece}(h:subE a e)(g:q∈usablePiecesF f a (allDigsF a d)):q∈usablePiecesF f e (allDigsF e d):=by
 obtain⟨⟨s,g1,g2⟩,g3⟩:=us_mem.1 g
 exact us_mem.2 ⟨⟨s,h.1 s g1,g2⟩,usable_mono h g3⟩
theorem asc_sub:∀ {m l:List Piece},AscP l→AscP m→(∀ x∈l,x∈m)→l.Sublist m
 | [],l,_,_,h=>by
   cases l with
   | nil=>exact List.Sublist.slnil
   | cons x r=>exact absurd (h x (by simp)) (by simp)
 | y::m,[],_,_,_=>List.nil_sublist _
 | y::m,x::l,hl,hm,h=>by
   obtain⟨l1,l2⟩:=List.pairwise_cons.1 hl
   obtain⟨m1,m2⟩:=List.pairwise_cons.1 hm
   by_cases e:x=y
   · subst e
     refine List.Sublist.cons_cons _ (asc_sub l2 m2 fun z hz=>?_)
     rcases List.mem_cons.1 (h z (by simp[hz]))with e | e
     · have:=l1 z hz
       rw[e,pb_irr]at this;cases this
     · exact e
   · have hx:x∈m:=(List.mem_cons.1 (h x (by simp))).resolve_left e
     refine List.Sublist.cons _ (asc_sub hl m2 fun z hz=>?_)
     rcases List.mem_cons.1 (h z hz)with e2 | e2
     · rcases List.mem_cons.1 hz with e3 | e3
       · rw[e3];exact hx
       · have g1:=l1 z e3
         rw[e2]at g1
         have g2:=pb_trans (m1 x hx) g1
         rw[pb_irr]at g2;cases g2
     · exact e2
theorem us_sub (h:subE a e):(usablePiecesF f a (allDigsF a d)).Sublist (usablePiecesF f e (allDigsF e d)):=asc_sub us_asc us_asc fun _ g=>us_mono h g
def frC (f:Frame)(us:List Piece)(x:Sig)(l:List Stamp):Prop:=x.2.2.2.2.2.2.2.1≠0∧stampsDgF x.2.2.1 l=x.2.2.2.2.2.2.2.1∧(l23F f us l).2=true
theorem frL_le {us:List Piece}:∀ (l:List (List Stamp)) (t b:Int),l.foldl (frG f us x) t≤b↔t≤b∧∀ m∈l,frC f us x m→(l23F f us m).1≤b
 | [],t,b=>by simp
 | m::r,t,b=>by
   rw[List.foldl_cons,frL_le r]
   have k:frG f us x t m≤b↔t≤b∧(frC f us x m→(l23F f us m).1≤b):=by
     unfold frG
     split
     · rename_i h
       constructor
       · intro g;exact⟨by omega,fun _=>by omega⟩
       · intro g;have:=g.2 h;omega
     · rename_i h
       exact⟨fun g=>⟨g,fun h2=>absurd h2 h⟩,fun g=>g.1⟩
   rw[k]
   constructor
   · rintro⟨⟨g1,g2⟩,g3⟩
     refine⟨g1,fun y hy hc=>?_⟩
     rcases List.mem_cons.1 hy with rfl | hy
     · exact g2 hc
     · exact g3 y hy hc
   · rintro⟨g1,g2⟩
     exact⟨⟨g1,g2 m (by simp)⟩,fun y hy=>g2 y (by simp[hy])⟩
theorem fr_le {us:List Piece}:freshG f e us x≤b↔bornF f x≤b∧∀ m∈e.2,frC f us x m→(l23F f us m).1≤b:=frL_le _ _ _
theorem frC_mono {us vs:List Piece}{m:List Stamp}(h:∀ q∈us,q∈vs)(g:frC f us x m):frC f vs x m∧(l23F f vs m).1=(l23F f us m).1:=by
 obtain⟨g1,g2,g3⟩:=g
 obtain⟨k1,k2,k3⟩:=l23_ok.1.1 g3
 have g4:(l23F f vs m).2=true:=by
   refine l23_ok.1.2 ⟨k1,fun s hs=>?_,k3⟩
   obtain⟨q,hq,e⟩:=boolC_iff.1 (k2 s hs)
   exact boolC_iff.2 ⟨q,h q hq,e⟩
 exact⟨⟨g1,g2,g4⟩,by rw[l23_ok.2 g3,l23_ok.2 g4]⟩
theorem fr_mono (h:subE a e){us vs:List Piece}(g:∀ q∈us,q∈vs):freshG f a us x≤freshG f e vs x:=by
 have h2:=fr_le.1 (Int.le_refl (freshG f e vs x))
 refine fr_le.2 ⟨h2.1,fun m hm hc=>?_⟩
 have h3:=frC_mono g hc
 rw[←h3.2]
 exact h2.2 m (h.2 m hm) h3.1
end
end Fw
