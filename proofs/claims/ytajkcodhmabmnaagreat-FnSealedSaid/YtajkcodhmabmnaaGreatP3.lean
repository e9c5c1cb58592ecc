/- The rule for loops: the slots that change stand at given shapes, the others are as they were. Conditions: none. -/
import Derived.Test.YtajkcodhmabmnaaGreatP2
import Derived.Test.YtajkcodhmabmnaaGreatP1
namespace Fw
open Go
section
variable {n B:Nat} {X:List Nat} {w0:World} {M0 M:Mem} {ω:Own} {ρ:Env} {tmps:Array Value} {w:World}
theorem keep_ok0 (ks:List Nat)(S:St0 n B X w0 M0 M ω ρ tmps w):St0 n B X w0 M0 M ω (keepE ks ks ρ) tmps w:=by
 have hg:=keepE_get ks ks ρ
 refine⟨S.size,S.fr,S.m0,S.old,S.mem,S.dis,fun t ht=>?_,fun t ht=>?_⟩
 · rw[hg]
   split
   · simp only[S.high t ht];rfl
   · rfl
 · rw[hg]
   split
   · simp only
     have hr:=S.slots t ht
     generalize (ρ.get t).a=a at hr
     have hent:∀ k,memb k ks=true→(((keepE ks ks ρ).get k).g=(ρ.get k).g∧((keepE ks ks ρ).get k).ver=(ρ.get k).ver∧((keepE ks ks ρ).get k).a=filt ks (ρ.get k).a):=by
       intro k hk
       rw[hg,if_pos (memb_mem hk)]
       exact⟨rfl,rfl,rfl⟩
     have hpl:∀ k cs,Place ω w k (ρ.get k).a (vl tmps k) cs→Place ω w k (filt ks (ρ.get k).a) (vl tmps k) cs:=by
       intro k cs h
       cases h':(ρ.get k).a<;>rw[h']at h<;>first | exact h | exact h.elim
     cases a with
     | junk=>exact trivial
     | c s x=>exact hr
     | ptr k g off=>
       by_cases hk:memb k ks=true
       · have ef:filt ks (.ptr k g off)=.ptr k g off:=by simp[filt,filtK,hk]
         rw[ef]
         obtain⟨e1,e2,e3⟩:=hent k hk
         obtain⟨h1,h2⟩:=hr
         exact⟨⟨h1.1,by rw[e1];exact h1.2⟩,fun h=>h2 (by rw[←e1];exact h)⟩
       · have ef:filt ks (.ptr k g off)=.junk:=by simp[filt,filtK,hk]
         rw[ef];exact trivial
     | bor k g ver u x org e=>
       by_cases hk:memb k ks=true
       · have ef:filt ks (.bor k g ver u x org e)=.bor k g ver u x org e:=by simp[filt,filtK,hk]
         rw[ef]
         obtain⟨e1,e2,e3⟩:=hent k hk
         obtain⟨h1,h2⟩:=hr
         refine⟨⟨h1.1,by rw[e1];exact h1.2.1,by rw[e1,e2];exact h1.2.2⟩,fun h=>?_⟩
         obtain⟨cs,g1,g2,g3,g4⟩:=h2 ⟨by rw[←e1];exact h.1,by rw[←e2];exact h.2⟩
         refine⟨cs,g1,g2,fun off ho=>?_,fun off et i eo he=>by
           obtain⟨pc,b,len,cap,row,q1,q⟩:=g4.1 off et i eo he
           exact⟨pc,b,len,cap,row,by rw[e3];exact hpl k pc q1,q⟩,by rw[e3];exact g4.2.place (hpl k)⟩
         obtain⟨pc,p1,p2⟩:=g3 off ho
         exact⟨pc,by rw[e3];exact hpl k pc p1,p2⟩
       · have ef:filt ks (.bor k g ver u x org e)=.junk:=by simp[filt,filtK,hk]
         rw[ef];exact trivial
     | elp k g ver off et i eo arr=>
       by_cases hk:memb k ks=true
       · have ef:filt ks (.elp k g ver off et i eo arr)=.elp k g ver off et i eo arr:=by simp[filt,filtK,hk]
         rw[ef]
         obtain⟨e1,e2,e3⟩:=hent k hk
         obtain⟨h1,h2⟩:=hr
         refine⟨⟨h1.1,by rw[e1];exact h1.2.1,by rw[e1,e2];exact h1.2.2⟩,fun h=>?_⟩
         have h3:=h2 ⟨by rw[←e1];exact h.1,by rw[←e2];exact h.2⟩
         unfold ElpR at *
         cases arr with
         | none=>
           simp only[Option.isSome_none,Bool.false_eq_true,if_false]at h3 ⊢
           obtain⟨pc,k1,k2⟩:=h3
           exact⟨pc,by rw[e3];exact hpl k pc k1,k2⟩
         | some m=>exact h3
       · have ef:filt ks (.elp k g ver off et i eo arr)=.junk:=by simp[filt,filtK,hk]
         rw[ef];exact trivial
     | al k g ag off=>
       by_cases hk:memb k ks=true
       · have ef:filt ks (.al k g ag off)=.al k g ag off:=by simp[filt,filtK,hk]
         rw[ef]
         obtain⟨e1,e2,e3⟩:=hent k hk
         obtain⟨h1,b,cs,h2,h3,h4⟩:=hr
         exact⟨⟨h1.1,by rw[e1];exact h1.2⟩,b,cs,h2,h3,fun h=>h4 (by rw[←e1];exact h)⟩
       · have ef:filt ks (.al k g ag off)=.junk:=by simp[filt,filtK,hk]
         rw[ef];exact trivial
     | eptr u x off=>exact hr
     | cond s g v b a=>exact trivial
     | tup l=>exact hr
     | fn f=>exact hr
     | br _ _ _ _ _ _ _=>exact trivial
     | lz _ _ _ _ _ _ _=>exact trivial
     | rb k g ver u x org e=>
       by_cases hk:memb k ks=true
       · have ef:filt ks (.rb k g ver u x org e)=.rb k g ver u x org e:=by simp[filt,filtK,hk]
         rw[ef]
         obtain⟨e1,e2,e3⟩:=hent k hk
         obtain⟨b,v0,cs,q1,q2,q3,q4,h1,h0,h2⟩:=hr
         refine⟨b,v0,cs,q1,q2,q3,q4,⟨h1.1,by rw[e1];exact h1.2.1,by rw[e1,e2];exact h1.2.2⟩,by rw[e1];exact h0,fun h=>?_⟩
         obtain⟨cs,g1,g2,g3,g4⟩:=h2 ⟨by rw[←e1];exact h.1,by rw[←e2];exact h.2⟩
         refine⟨cs,g1,g2,fun off ho=>?_,fun off et i eo he=>by
           obtain⟨pc,b,len,cap,row,q1,q⟩:=g4.1 off et i eo he
           exact⟨pc,b,len,cap,row,by rw[e3];exact hpl k pc q1,q⟩,by rw[e3];exact g4.2.place (hpl k)⟩
         obtain⟨pc,p1,p2⟩:=g3 off ho
         exact⟨pc,by rw[e3];exact hpl k pc p1,p2⟩
       · have ef:filt ks (.rb k g ver u x org e)=.junk:=by simp[filt,filtK,hk]
         rw[ef];exact trivial
     | clo f k g=>
       by_cases hk:memb k ks=true
       · have ef:filt ks (.clo f k g)=.clo f k g:=by simp[filt,filtK,hk]
         rw[ef]
         obtain⟨e1,e2,e3⟩:=hent k hk
         obtain⟨h1,h2⟩:=hr
         exact⟨⟨h1.1,by rw[e1];exact h1.2⟩,fun h=>h2 (by rw[←e1];exact h)⟩
       · have ef:filt ks (.clo f k g)=.junk:=by simp[filt,filtK,hk]
         rw[ef];exact trivial
   · exact trivial
theorem put_front (S:St0 n B X w0 M0 M ω ρ tmps w){s:Nat}{sh:Sh}{z:El sh.ty}(hs:s<n)(he:ρ.get s=noEnt)(ho:Owns M ω w s sh z (vl tmps s)):
   St0 n B X w0 M0 M ω ((s,⟨0,0,.c sh z⟩)::ρ) tmps w:=by
 have hget:∀ t,Env.get ((s,⟨0,0,.c sh z⟩)::ρ) t=if s=t then⟨0,0,.c sh z⟩else ρ.get t:=fun t=>rfl
 have hg:∀ t,(Env.get ((s,⟨0,0,.c sh z⟩)::ρ) t).g=(ρ.get t).g∧(Env.get ((s,⟨0,0,.c sh z⟩)::ρ) t).ver=(ρ.get t).ver:=by
   intro t
   rw[hget]
   split
   · rename_i e;subst e;rw[he];exact⟨rfl,rfl⟩
   · exact⟨rfl,rfl⟩
 have hpl:∀ k cs,Place ω w k (ρ.get k).a (vl tmps k) cs→Place ω w k (Env.get ((s,⟨0,0,.c sh z⟩)::ρ) k).a (vl tmps k) cs:=by
   intro k cs h
   rw[hget]
   split
   · rename_i e;subst e;rw[he]at h;exact h.elim
   · exact h
 refine⟨S.size,S.fr,S.m0,S.old,S.mem,S.dis,fun t ht=>?_,fun t ht=>?_⟩
 · rw[hget,if_neg (by omega)];exact S.high t ht
 · rw[hget]
   split
   · rename_i e;subst e;exact ho
   · have hr:=S.slots t ht
     revert hr
     generalize (ρ.get t).a=a
     intro hr
     have key:∀ a,Rel0 n M ω w ρ (fun t=>tmps.getD t undef) t (tmps.getD t undef) a→Rel0 n M ω w ((s,⟨0,0,.c sh z⟩)::ρ) (fun t=>tmps.getD t undef) t (tmps.getD t undef) a:=by
       intro a hr
       cases a with
       | ptr k g off=>exact⟨⟨hr.1.1,by rw[(hg k).1];exact hr.1.2⟩,fun h=>hr.2 (by rw[←(hg k).1];exact h)⟩
       | clo f k g=>exact⟨⟨hr.1.1,by rw[(hg k).1];exact hr.1.2⟩,fun h=>hr.2 (by rw[←(hg k).1];exact h)⟩
       | bor k g ver u x org e=>
         obtain⟨h1,h2⟩:=hr
         refine⟨⟨h1.1,by rw[(hg k).1];exact h1.2.1,by rw[(hg k).1,(hg k).2];exact h1.2.2⟩,fun h=>?_⟩
         obtain⟨cs,g1,g2,g3,g4⟩:=h2 ⟨by rw[←(hg k).1];exact h.1,by rw[←(hg k).2];exact h.2⟩
         refine⟨cs,g1,g2,fun off ho=>?_,fun off et i eo he=>by
           obtain⟨pc,b,len,cap,row,q1,q⟩:=g4.1 off et i eo he
           exact⟨pc,b,len,cap,row,hpl k pc q1,q⟩,g4.2.place (hpl k)⟩
         obtain⟨pc,p1,p2⟩:=g3 off ho
         exact⟨pc,hpl k pc p1,p2⟩
       | elp k g ver off et i eo arr=>
         obtain⟨h1,h2⟩:=hr
         refine⟨⟨h1.1,by rw[(hg k).1];exact h1.2.1,by rw[(hg k).1,(hg k).2];exact h1.2.2⟩,fun h=>?_⟩
         have h3:=h2 ⟨by rw[←(hg k).1];exact h.1,by rw[←(hg k).2];exact h.2⟩
         unfold ElpR at *
         cases arr with
         | none=>
           simp only[Option.isSome_none,Bool.false_eq_true,if_false]at h3 ⊢
           obtain⟨pc,k1,k2⟩:=h3
           exact⟨pc,hpl k pc k1,k2⟩
         | some m=>exact h3
       | al k g ag off=>
         obtain⟨h1,b,cs,h2,h3,h4⟩:=hr
         exact⟨⟨h1.1,by rw[(hg k).1];exact h1.2⟩,b,cs,h2,h3,fun h=>h4 (by rw[←(hg k).1];exact h)⟩
       | br k g ver off n1 s' ys=>
         obtain⟨h1,h2⟩:=hr
         refine⟨⟨h1.1,by rw[(hg k).1];exact h1.2.1,by rw[(hg k).1,(hg k).2];exact h1.2.2⟩,fun h=>?_⟩
         obtain⟨olds,news,bs,g1,g2,g3,g4⟩:=h2 ⟨by rw[←(hg k).1];exact h.1,by rw[←(hg k).2];exact h.2⟩
         refine⟨olds,news,bs,g1,g2,?_,g4⟩
         rcases g3 with g3 | ⟨pc,b,len,cap,row,q1,q⟩
         · exact .inl g3
         · exact .inr ⟨pc,b,len,cap,row,hpl k pc q1,q⟩
       | lz k g ver off n1 lo s'=>
         obtain⟨h1,h2⟩:=hr
         refine⟨⟨h1.1,by rw[(hg k).1];exact h1.2.1,by rw[(hg k).1,(hg k).2];exact h1.2.2⟩,fun h=>?_⟩
         obtain⟨pc,a,len,cap,lent,tls,q1,q⟩:=h2 ⟨by rw[←(hg k).1];exact h.1,by rw[←(hg k).2];exact h.2⟩
         exact⟨pc,a,len,cap,lent,tls,hpl k pc q1,q⟩
       | rb k g ver u x org e=>
         obtain⟨b,v0,cs0,q1,q2,q3,q4,h1,h0,h2⟩:=hr
         refine⟨b,v0,cs0,q1,q2,q3,q4,⟨h1.1,by rw[(hg k).1];exact h1.2.1,by rw[(hg k).1,(hg k).2];exact h1.2.2⟩,by rw[(hg k).1];exact h0,fun h=>?_⟩
         obtain⟨cs,g1,g2,g3,g4⟩:=h2 ⟨by rw[←(hg k).1];exact h.1,by rw[←(hg k).2];exact h.2⟩
         refine⟨cs,g1,g2,fun off ho=>?_,fun off et i eo he=>by
           obtain⟨pc,b,len,cap,row,q1,q⟩:=g4.1 off et i eo he
           exact⟨pc,b,len,cap,row,hpl k pc q1,q⟩,g4.2.place (hpl k)⟩
         obtain⟨pc,p1,p2⟩:=g3 off ho
         exact⟨pc,hpl k pc p1,p2⟩
       | _=>exact hr
     cases a with
     | cond s' g ver b a=>
       obtain⟨h1,h2⟩:=hr
       refine⟨⟨h1.1,by rw[(hg s').1];exact h1.2.1,by rw[(hg s').1,(hg s').2];exact h1.2.2⟩,fun h=>?_⟩
       have h3:=h2 ⟨by rw[←(hg s').1];exact h.1,by rw[←(hg s').2];exact h.2⟩
       exact⟨fun e=>key a (h3.1 e),h3.2⟩
     | junk=>exact trivial
     | c s' x=>exact key (.c s' x) hr
     | ptr k g off=>exact key (.ptr k g off) hr
     | bor k g ver u x org e=>exact key (.bor k g ver u x org e) hr
     | elp k g ver off et i eo arr=>exact key (.elp k g ver off et i eo arr) hr
     | eptr u x off=>exact key (.eptr u x off) hr
     | al k g ag off=>exact key (.al k g ag off) hr
     | tup l=>exact key (.tup l) hr
     | fn f=>exact key (.fn f) hr
     | br k g ver off n1 s ys=>exact key (.br k g ver off n1 s ys) hr
     | lz k g ver off n1 lo s=>exact key (.lz k g ver off n1 lo s) hr
     | rb k g ver u x org e=>exact key (.rb k g ver u x org e) hr
     | clo f k g=>exact key (.clo f k g) hr
abbrev LS:=List (Nat×Bool×Sh)
@[reducible] def LV:LS→Type
 | []=>Unit
 | q::r=>El q.2.2.ty×LV r
def envL:(L:LS)→LV L→Env→Env
 | [],_,ρ=>ρ
 | (s,true,sh)::L,v,ρ=>(s,⟨0,0,.c (.ref sh) v.1⟩)::envL L v.2 ρ
 | (s,false,sh)::L,v,ρ=>(s,⟨0,0,.c sh v.1⟩)::envL L v.2 ρ
def convA (r:Bool)(sh:Sh)(a:A)(k:El sh.ty→Prop):Prop:=
 match r,a with
 | true,.c (.ref s') x=>conv s' sh x k
 | true,_=>False
 | false,.c (.ref _) _=>False
 | false,.c s' x=>conv s' sh x k
 | false,_=>False
def loopK:(L:LS)→Env→(LV L→Prop)→Prop
 | [],_,k=>k ()
 | (s,r,sh)::L,ρ,k=>convA r sh (ρ.get s).a fun z=>loopK L ρ fun v=>k (z,v)
theorem convA_ok {r:Bool}{sh:Sh}{a:A}{k:El sh.ty→Prop}(h:convA r sh a k){n t:Nat}{vals:Vl}{v:Value}(hr:Rel n M ω w ρ vals t v a):
   ∃ z,k z∧Owns M ω w t (if r=true then .ref sh else sh) (cast (by cases r<;>rfl) z) v:=by
 cases a with
 | c s x=>
   have hr:Owns M ω w t s x v:=hr
   cases r with
   | true=>
     cases s with
     | ref s'=>
       have h:conv s' sh x k:=h
       obtain⟨z,h1,h2,h3⟩:=conv_ok (M:=M) (R:=rows w) s' sh x k h
       obtain⟨cs,bs,g1,⟨b,row,bss,g2,g3,g4,g5⟩,g6,g7⟩:=hr
       exact⟨z,h1,cs,bs,g1,⟨b,row,bss,g2,g3,g4,h3 row bss g5⟩,g6,g7⟩
     | _=>exact h.elim
   | false=>
     have h:conv s sh x k:=by cases s<;>first | exact h | exact h.elim
     obtain⟨z,h1,h2,h3⟩:=conv_ok (M:=M) (R:=rows w) s sh x k h
     obtain⟨cs,bs,g1,g2,g3,g4⟩:=hr
     exact⟨z,h1,cs,bs,by simp only[Bool.false_eq_true,if_false];rw[←h2];exact g1,h3 cs bs g2,g3,g4⟩
 | _=>cases r<;>exact h.elim
def noneOf (ks:List Nat):LS→Bool
 | []=>true
 | q::L=>!(memb q.1 ks)&&noneOf (q.1::ks) L
theorem loopK_ok (S:St0 n B X w0 M0 M ω ρ tmps w):∀ (L:LS) (ks:List Nat) (σ:Env) (k:LV L→Prop),noneOf ks L=true→loopK L ρ k→
   (∀ t,t∉ks→σ.get t=noEnt)→St0 n B X w0 M0 M ω σ tmps w→∃ v,k v∧St0 n B X w0 M0 M ω (envL L v σ) tmps w
 | [],ks,σ,k,_,h,_,S'=>⟨(),h,S'⟩
 | (s,r,sh)::L,ks,σ,k,hn,h,hks,S'=>by
   simp only[noneOf,Bool.and_eq_true,Bool.not_eq_true']at hn
   have hnot:∀ {x:Nat} {l:List Nat},memb x l=false→x∉l:=fun hm hx=>by rw[memb_of_mem hx]at hm;cases hm
   have hsn:s<n:=by
     rcases Nat.lt_or_ge s n with h' | h'
     · exact h'
     · simp only[loopK]at h
       rw[S.high s h']at h
       cases r<;>exact h.elim
   obtain⟨z,h1,h2⟩:=convA_ok h (S.slots s hsn)
   -- the rest first
   obtain⟨v,h3,S2⟩:=loopK_ok S L (s::ks) σ _ hn.2 h1 (fun t ht=>hks t (fun e=>ht (List.mem_cons_of_mem _ e))) S'
   have hge:∀ (L:LS) (ks:List Nat) (v:LV L),noneOf ks L=true→s∈ks→(envL L v σ).get s=σ.get s:=by
     intro L
     induction L with
     | nil=>intro ks v _ _;rfl
     | cons q L ih=>
       intro ks v hn hs
       obtain⟨s',r',sh'⟩:=q
       simp only[noneOf,Bool.and_eq_true,Bool.not_eq_true']at hn
       have hne:s'≠s:=fun e=>hnot hn.1 (e ▸ hs)
       have:=ih (s'::ks) v.2 hn.2 (List.mem_cons_of_mem _ hs)
       cases r'<;>(show (if s'=s then _ else Env.get (envL L v.2 σ) s)=_)<;>rw[if_neg hne]<;>exact this
   have he:(envL L v σ).get s=noEnt:=by
     rw[hge L (s::ks) v hn.2 (by simp)]
     exact hks s (hnot hn.1)
   refine⟨(z,v),h3,?_⟩
   cases r with
   | true=>exact put_front (sh:=.ref sh) (z:=z) S2 hsn he h2
   | false=>exact put_front (sh:=sh) (z:=z) S2 hsn he h2
end
section
variable {G:Cfg} {ρ:Env} {K:Exit→Env→Prop}
theorem Vc.loopF {c:Code}(L:LS)(F:List Nat)(I:LV L→Prop)(μ:LV L→Nat)(hn:noneOf F L=true)(h0:loopK L ρ I)
   (round:∀ v,I v→Vc G c (envL L v (keepE F F ρ)) (fun e ρ'=>match e with
     | .normal=>keepE F F ρ'=keepE F F ρ∧loopK L ρ' (fun v'=>I v'∧μ v'<μ v)
     | e=>K e ρ')):Vc G (.loop c) ρ K:=by
 have enter:∀ {ρ':Env} {k:LV L→Prop} {tmps:Array Value} {w:World},G.Sim ρ' tmps w→loopK L ρ' k→∃ v,k v∧G.Sim (envL L v (keepE F F ρ')) tmps w:=by
   intro ρ' k tmps w ⟨⟨M,ω,S⟩,hpn⟩ h
   obtain⟨v,h1,h2⟩:=loopK_ok S L F (keepE F F ρ') k hn h (fun t ht=>by rw[keepE_get,if_neg ht]) (keep_ok0 F S)
   exact⟨v,h1,⟨M,ω,h2⟩,hpn⟩
 intro a w hd hS
 obtain⟨v0,hI0,hS0⟩:=enter hS h0
 have key:∀ (m:Nat) (v:LV L) (a:Act) (w:World),μ v=m→I v→a.defers=[]→G.Sim (envL L v (keepE F F ρ)) a.tmps w→
     ∀ (b:Frame) (k:List Item) (cs:List Frame),∃ e a' w',(∃ ρ',K e ρ'∧a'.defers=[]∧G.Sim ρ' a'.tmps w')∧
       Arrives G.P (lone (b.at a (.code c::.inLoop c::k)) cs w) b k cs e a' w':=by
   intro m
   induction m using Nat.strongRecOn with
   | _ m ih=>
     intro v a w hm hI hd hS b k cs
     obtain⟨e,a₁,w₁,⟨ρ',hq,hd',hS'⟩,harr⟩:=round v hI a w hd hS b (.inLoop c::k) cs
     cases e with
     | normal=>
       obtain⟨hF,hq⟩:=hq
       obtain⟨v',⟨hI',hlt⟩,hS2⟩:=enter hS' hq
       rw[hF]at hS2
       obtain⟨e₂,a₂,w₂,hq₂,harr₂⟩:=ih (μ v') (hm ▸ hlt) v' a₁ w₁ rfl hI' hd' hS2 b k cs
       exact⟨e₂,a₂,w₂,hq₂,.of_steps (Steps.trans harr (.one step_inLoop)) harr₂⟩
     | exit id=>exact⟨_,a₁,w₁,⟨ρ',hq,hd',hS'⟩,.pass (x:=.inLoop c) rfl (fun _ _=>.inl (by simp)) harr⟩
     | goto l=>exact⟨_,a₁,w₁,⟨ρ',hq,hd',hS'⟩,.pass (x:=.inLoop c) rfl (fun _ _=>.inl (by simp)) harr⟩
     | ret=>exact⟨_,a₁,w₁,⟨ρ',hq,hd',hS'⟩,.pass (x:=.inLoop c) rfl (fun _ _=>.inl (by simp)) harr⟩
     | panic ch=>exact⟨_,a₁,w₁,⟨ρ',hq,hd',hS'⟩,.pass (x:=.inLoop c) rfl (fun _ _=>.inl (by simp)) harr⟩
     | outgrown=>exact⟨_,a₁,w₁,⟨ρ',hq,hd',hS'⟩,.pass (x:=.inLoop c) rfl (fun _ _=>.inl (by simp)) harr⟩
 intro b k cs
 obtain⟨e,a',w',hq,harr⟩:=key _ v0 a w rfl hI0 hd hS0 b k cs
 exact⟨e,a',w',hq,.of_steps (.one step_loop) harr⟩
end
def frzE:List Nat→Env→Env
 | [],ρ=>ρ
 | j::r,ρ=>match froz (ρ.get j).a with
   | some a=>frzE r (ρ.put ⟨j,true,a⟩)
   | none=>frzE r ρ
def apart:List Nat→List Nat→Bool
 | [],_=>true
 | j::r,F=>!(memb j F)&&apart r F
theorem keepE_put (all:List Nat)(w:Wr):∀ (l:List Nat) (ρ:Env),w.slot∉l→keepE all l (ρ.put w)=keepE all l ρ
 | [],_,_=>rfl
 | s::r,ρ,h=>by
   have hs:(ρ.put w).get s=ρ.get s:=by rw[Env.get_put,if_neg (fun e=>h (by simp[e]))]
   unfold keepE
   rw[hs,keepE_put all w r ρ (fun hm=>h (by simp[hm]))]
theorem memb_iff {x:Nat}{l:List Nat}(h:memb x l=false):x∉l:=fun hm=>by rw[memb_of_mem hm]at h;cases h
theorem keepE_frz (F:List Nat):∀ (Z:List Nat) (ρ:Env),apart Z F=true→keepE F F (frzE Z ρ)=keepE F F ρ
 | [],_,_=>rfl
 | j::r,ρ,h=>by
   simp only[apart,Bool.and_eq_true,Bool.not_eq_true']at h
   unfold frzE
   split
   · rename_i a _
     rw[keepE_frz F r _ h.2,keepE_put F ⟨j,true,a⟩ F ρ (memb_iff h.1)]
   · exact keepE_frz F r ρ h.2
section
variable {n B:Nat} {X:List Nat} {w0:World} {M0:Mem} {tmps:Array Value} {w:World}
theorem frz_ok:∀ (Z:List Nat) (ρ:Env),Sim n B X w0 M0 ρ tmps w→Sim n B X w0 M0 (frzE Z ρ) tmps w
 | [],_,h=>h
 | j::r,ρ,h=>by
   unfold frzE
   split
   · rename_i a ha
     obtain⟨M,ω,S⟩:=h
     have hj:j<n:=by
       rcases Nat.lt_or_ge j n with h' | h'
       · exact h'
       · rw[S.high j h']at ha;cases ha
     exact frz_ok r _ ⟨_,_,(freeze_ok S hj ha).1⟩
   · exact frz_ok r ρ h
end
section
variable {G:Cfg} {ρ:Env} {K:Exit→Env→Prop}
theorem Vc.loopZ {c:Code}(L:LS)(F Z:List Nat)(I:LV L→Prop)(μ:LV L→Nat)(hn:noneOf F L=true)(hz:apart Z F=true)(h0:loopK L (frzE Z ρ) I)
   (round:∀ v,I v→Vc G c (envL L v (keepE F F ρ)) (fun e ρ'=>match e with
     | .normal=>keepE F F ρ'=keepE F F ρ∧loopK L (frzE Z ρ') (fun v'=>I v'∧μ v'<μ v)
     | e=>K e ρ')):Vc G (.loop c) ρ K:=by
 have enter:∀ {ρ':Env} {k:LV L→Prop} {tmps:Array Value} {w:World},G.Sim ρ' tmps w→loopK L (frzE Z ρ') k→∃ v,k v∧G.Sim (envL L v (keepE F F ρ')) tmps w:=by
   intro ρ' k tmps w ⟨hS,hpn⟩ h
   obtain⟨M,ω,S⟩:=frz_ok Z ρ' hS
   have hk:=keep_ok0 F S
   rw[keepE_frz F Z ρ' hz]at hk
   obtain⟨v,h1,h2⟩:=loopK_ok S L F (keepE F F ρ') k hn h (fun t ht=>by rw[keepE_get,if_neg ht]) hk
   exact⟨v,h1,⟨M,ω,h2⟩,hpn⟩
 intro a w hd hS
 obtain⟨v0,hI0,hS0⟩:=enter hS h0
 have key:∀ (m:Nat) (v:LV L) (a:Act) (w:World),μ v=m→I v→a.defers=[]→G.Sim (envL L v (keepE F F ρ)) a.tmps w→
     ∀ (b:Frame) (k:List Item) (cs:List Frame),∃ e a' w',(∃ ρ',K e ρ'∧a'.defers=[]∧G.Sim ρ' a'.tmps w')∧
       Arrives G.P (lone (b.at a (.code c::.inLoop c::k)) cs w) b k cs e a' w':=by
   intro m
   induction m using Nat.strongRecOn with
   | _ m ih=>
     intro v a w hm hI hd hS b k cs
     obtain⟨e,a₁,w₁,⟨ρ',hq,hd',hS'⟩,harr⟩:=round v hI a w hd hS b (.inLoop c::k) cs
     cases e with
     | normal=>
       obtain⟨hF,hq⟩:=hq
       obtain⟨v',⟨hI',hlt⟩,hS2⟩:=enter hS' hq
       rw[hF]at hS2
       obtain⟨e₂,a₂,w₂,hq₂,harr₂⟩:=ih (μ v') (hm ▸ hlt) v' a₁ w₁ rfl hI' hd' hS2 b k cs
       exact⟨e₂,a₂,w₂,hq₂,.of_steps (Steps.trans harr (.one step_inLoop)) harr₂⟩
     | exit id=>exact⟨_,a₁,w₁,⟨ρ',hq,hd',hS'⟩,.pass (x:=.inLoop c) rfl (fun _ _=>.inl (by simp)) harr⟩
     | goto l=>exact⟨_,a₁,w₁,⟨ρ',hq,hd',hS'⟩,.pass (x:=.inLoop c) rfl (fun _ _=>.inl (by simp)) harr⟩
     | ret=>exact⟨_,a₁,w₁,⟨ρ',hq,hd',hS'⟩,.pass (x:=.inLoop c) rfl (fun _ _=>.inl (by simp)) harr⟩
     | panic ch=>exact⟨_,a₁,w₁,⟨ρ',hq,hd',hS'⟩,.pass (x:=.inLoop c) rfl (fun _ _=>.inl (by simp)) harr⟩
     | outgrown=>exact⟨_,a₁,w₁,⟨ρ',hq,hd',hS'⟩,.pass (x:=.inLoop c) rfl (fun _ _=>.inl (by simp)) harr⟩
 intro b k cs
 obtain⟨e,a',w',hq,harr⟩:=key _ v0 a w rfl hI0 hd hS0 b k cs
 exact⟨e,a',w',hq,.of_steps (.one step_loop) harr⟩
end
end Fw
namespace Fw
open Go
section
variable {n B:Nat} {X:List Nat} {w0:World} {M0 M:Mem} {ω:Own} {ρ:Env} {tmps:Array Value} {w:World}
end
section
variable {G:Cfg} {ρ:Env} {K:Exit→Env→Prop}
end
end Fw
namespace Fw
open Go
abbrev TI:Ty:=.int .i64
def inRangeF (a b c:Int):Bool:=pick2 (decide (b≤a)) (decide (a≤c)) false
def isTimeF (a:Int):Bool:=inRangeF a 0 10000
def isSpanF (s:Int×Int):Bool:=pick2 (pick2 (isTimeF s.1) (isTimeF s.2) false) (decide (s.1≤s.2)) false
end Fw
namespace Fw
open Go
theorem w64 {x:Int}(h1:-9223372036854775808≤x)(h2:x≤9223372036854775807):IntKind.i64.wrap x=x:=by
 rw[IntKind.wrap_i64];omega
def Sm (n:Nat):(t:Ty)→El t→Prop
 | .slice e,xs=>xs.length≤n∧∀ x∈xs,Sm n e x
 | .pair a b,x=>Sm n a x.1∧Sm n b x.2
 | _,_=>True
def big20:Nat:=1048576
noncomputable def eqC {α:Type}(x y:α):Bool:=@decide (x=y) (Classical.propDecidable _)
theorem eqC_iff {α:Type}{x y:α}:eqC x y=true↔x=y:=by unfold eqC;simp
theorem eqC_self {α:Type}(x:α):eqC x x=true:=eqC_iff.2 rfl
theorem eqC_no {α:Type}{x y:α}(h:x=y→False):false=eqC x y:=by
 cases he:eqC x y with
 | false=>rfl
 | true=>exact(h (eqC_iff.1 he)).elim
theorem eqC_yes {α:Type}{x y:α}(h:x=y):true=eqC x y:=(eqC_iff.2 h).symm
theorem bneI {x y:Int}(h:(x != y)=false):x=y:=by simpa using h
theorem lenEq {m n:Nat}(h:((m:Int) != (n:Int))=false):m=n:=by
 have:(m:Int)=(n:Int):=bneI h
 omega
theorem bneS {x y:List UInt8}(h:(x != y)=false):x=y:=by simpa using h
theorem notE {t:Ty}{x y:El t}(h:(!(El.eq t x y))=false)(hc:t.cmp=true):x=y:=by
 have key:∀ (t:Ty) (x y:El t),t.cmp=true→El.eq t x y=true→x=y:=by
   intro t
   induction t with
   | int k=>intro x y _ h;exact of_decide_eq_true (by simpa [El.eq] using h)
   | bool=>intro x y _ h;simpa [El.eq] using h
   | str=>intro x y _ h;simpa [El.eq] using h
   | slice e=>intro x y h;simp[Ty.cmp]at h
   | arr m e=>intro x y h;simp[Ty.cmp]at h
   | pair a b iha ihb=>
     intro x y hc h
     simp only[Ty.cmp,Bool.and_eq_true]at hc
     simp only[El.eq,Bool.and_eq_true]at h
     exact Prod.ext (iha x.1 y.1 hc.1 h.1) (ihb x.2 y.2 hc.2 h.2)
 exact key t x y hc (by simpa using h)
theorem El.eq_self:∀ (t:Ty) (x:El t),t.cmp=true→El.eq t x x=true:=by
 intro t
 induction t with
 | int k=>intro x _;simp[El.eq]
 | bool=>intro x _;simp[El.eq]
 | str=>intro x _;simp[El.eq]
 | slice e=>intro x h;simp[Ty.cmp]at h
 | arr m e=>intro x h;simp[Ty.cmp]at h
 | pair a b iha ihb=>
   intro x hc
   simp only[Ty.cmp,Bool.and_eq_true]at hc
   simp only[El.eq,Bool.and_eq_true]
   exact⟨iha x.1 hc.1,ihb x.2 hc.2⟩
def upInv {α:Type}(a:List α)(i:Int):Prop:=∃ k:Nat,k≤a.length∧i=k
theorem upStart {α:Type}{a:List α}:upInv a 0:=⟨0,Nat.zero_le _,rfl⟩
theorem upStep {α:Type}{a:List α}{i:Int}(h:upInv a i)(hl:i<a.length)(hb:a.length≤bigLen):upInv a (IntKind.i64.wrap (i+1))∧IntKind.i64.wrap (i+1)=i+1∧(a.length-(IntKind.i64.wrap (i+1))).toNat<(a.length-i).toNat:=by
 obtain⟨k,hk,rfl⟩:=h
 unfold bigLen at hb
 rw[w64 (by omega) (by omega)]
 exact⟨⟨k+1,by omega,by omega⟩,rfl,by omega⟩
theorem upRange {α:Type}{a:List α}{i:Int}(h:upInv a i)(hl:i<a.length):inRange i a.length:=by
 obtain⟨k,hk,rfl⟩:=h
 unfold inRange;omega
theorem upElem {α:Type}{a:List α}{d:α}{i:Int}(h:upInv a i)(hl:i<a.length):a.getD i.toNat d∈a:=by
 obtain⟨k,hk,rfl⟩:=h
 have:((k:Int)).toNat<a.length:=by omega
 rw[List.getD_eq_getElem?_getD,List.getElem?_eq_getElem this]
 simp
theorem take_snoc {α:Type}{a:List α}{d:α}{i:Int}(h:upInv a i)(hl:i<a.length):a.take (i+1).toNat=a.take i.toNat++[a.getD i.toNat d]:=by
 obtain⟨k,hk,rfl⟩:=h
 have h1:((k:Int)).toNat=k:=by omega
 have h2:((k:Int)+1).toNat=k+1:=by omega
 rw[h1,h2,List.take_succ_eq_append_getElem (by omega),List.getD_eq_getElem?_getD,List.getElem?_eq_getElem (by omega)]
 rfl
theorem up_end {α:Type}{a:List α}{i:Int}(h:upInv a i)(hl:¬i<a.length):i.toNat=a.length:=by
 obtain⟨k,hk,rfl⟩:=h;omega
def eqInv {α:Type}(a b:List α)(i:Int):Prop:=upInv a i∧a.length=b.length∧a.take i.toNat=b.take i.toNat
theorem eqStart {α:Type}{a b:List α}(h:a.length=b.length):eqInv a b 0:=⟨upStart,h,rfl⟩
theorem eqStep {α:Type}{a b:List α}{d:α}{i:Int}(h:eqInv a b i)(hl:i<a.length)(hb:a.length≤bigLen)(he:a.getD i.toNat d=b.getD i.toNat d):eqInv a b (IntKind.i64.wrap (i+1)):=by
 obtain⟨h1,h2,h3⟩:=h
 obtain⟨u1,u2,_⟩:=upStep h1 hl hb
 refine⟨u1,h2,?_⟩
 have hb1:upInv b i:=by obtain⟨k,hk,rfl⟩:=h1;exact⟨k,by omega,rfl⟩
 rw[u2,take_snoc (d:=d) h1 hl,take_snoc (d:=d) hb1 (by omega),h3,he]
theorem eqEnd {α:Type}{a b:List α}{i:Int}(h:eqInv a b i)(hl:¬i<a.length):a=b:=by
 obtain⟨h1,h2,h3⟩:=h
 have e:=up_end h1 hl
 rw[e,List.take_length]at h3
 rw[h3,h2,List.take_length]
theorem eqRange {α:Type}{a b:List α}{i:Int}(h:eqInv a b i)(hl:i<a.length):inRange i a.length∧inRange i b.length:=by
 obtain⟨⟨k,hk,rfl⟩,h2,_⟩:=h
 unfold inRange;omega
end Fw
namespace Fw
open Go
def findI {α:Type}(p:α→Bool)(l:List α):Int:=match l.findIdx? p with | some k=>k | none=>-1
def fInv {α:Type}(p:α→Bool)(a:List α)(i:Int):Prop:=upInv a i∧∀ x∈a.take i.toNat,p x=false
theorem fStart {α:Type}{p:α→Bool}{a:List α}:fInv p a 0:=⟨upStart,fun x hx=>by simp at hx⟩
theorem fStep {α:Type}{p:α→Bool}{a:List α}{d:α}{i:Int}(h:fInv p a i)(hl:i<a.length)(hb:a.length≤bigLen)(he:p (a.getD i.toNat d)=false):
   fInv p a (IntKind.i64.wrap (i+1))∧(a.length-(IntKind.i64.wrap (i+1))).toNat<(a.length-i).toNat:=by
 obtain⟨h1,h2⟩:=h
 obtain⟨u1,u2,u3⟩:=upStep h1 hl hb
 refine⟨⟨u1,?_⟩,u3⟩
 rw[u2,take_snoc (d:=d) h1 hl]
 intro x hx
 rcases List.mem_append.1 hx with hx | hx
 · exact h2 x hx
 · rw[List.mem_singleton.1 hx];exact he
theorem fHit {α:Type}{p:α→Bool}{a:List α}{d:α}{i:Int}(h:fInv p a i)(hl:i<a.length)(he:p (a.getD i.toNat d)=true):i=findI p a:=by
 obtain⟨⟨k,hk,rfl⟩,h2⟩:=h
 have h1:((k:Int)).toNat=k:=by omega
 rw[h1]at h2 he
 have hk':k<a.length:=by omega
 have:a.findIdx? p=some k:=by
   rw[List.findIdx?_eq_some_iff_getElem]
   refine⟨hk',?_,fun j hj=>?_⟩
   · rw[List.getD_eq_getElem?_getD,List.getElem?_eq_getElem hk']at he;exact he
   · have:=h2 (a[j]) (List.mem_take_iff_getElem.2 ⟨j,by omega,rfl⟩)
     simp[this]
 unfold findI;rw[this]
theorem fEnd {α:Type}{p:α→Bool}{a:List α}{i:Int}(h:fInv p a i)(hl:¬i<a.length):(-1:Int)=findI p a:=by
 obtain⟨h1,h2⟩:=h
 rw[up_end h1 hl,List.take_length]at h2
 have:a.findIdx? p=none:=by rw[List.findIdx?_eq_none_iff];exact h2
 unfold findI;rw[this]
theorem fRange {α:Type}{p:α→Bool}{a:List α}{i:Int}(h:fInv p a i)(hl:i<a.length):inRange i a.length:=upRange h.1 hl
theorem findI_lt {α:Type}{p:α→Bool}(a:List α):findI p a=-1∨(0≤findI p a∧findI p a<a.length):=by
 unfold findI
 split
 · rename_i k h
   have:=(List.findIdx?_eq_some_iff_getElem.1 h).1
   right;omega
 · exact .inl rfl
end Fw
namespace Fw
open Go
def foInv {α β:Type}(f:β→α→β)(z:β)(a:List α)(acc:β)(i:Int):Prop:=upInv a i∧acc=(a.take i.toNat).foldl f z
theorem foStart {α β:Type}{f:β→α→β}{z:β}{a:List α}:foInv f z a z 0:=⟨upStart,by simp⟩
theorem foStep {α β:Type}{f:β→α→β}{z:β}{a:List α}{acc:β}{d:α}{i:Int}(h:foInv f z a acc i)(hl:i<a.length)(hb:a.length≤bigLen):
   foInv f z a (f acc (a.getD i.toNat d)) (IntKind.i64.wrap (i+1))∧(a.length-(IntKind.i64.wrap (i+1))).toNat<(a.length-i).toNat:=by
 obtain⟨h1,h2⟩:=h
 obtain⟨u1,u2,u3⟩:=upStep h1 hl hb
 refine⟨⟨u1,?_⟩,u3⟩
 rw[u2,take_snoc (d:=d) h1 hl,List.foldl_append,h2];rfl
theorem foEnd {α β:Type}{f:β→α→β}{z:β}{a:List α}{acc:β}{i:Int}(h:foInv f z a acc i)(hl:¬i<a.length):acc=a.foldl f z:=by
 obtain⟨h1,h2⟩:=h
 rw[up_end h1 hl,List.take_length]at h2;exact h2
theorem foRange {α β:Type}{f:β→α→β}{z:β}{a:List α}{acc:β}{i:Int}(h:foInv f z a acc i)(hl:i<a.length):inRange i a.length:=upRange h.1 hl
def modF (p q:Int):Int:=if inRangeF q 1 1000000000000=true then(IntKind.i64.wrap (p.tmod q+q)).tmod q else 0
theorem inR_pos {q:Int}(h:(!(inRangeF q 1 1000000000000))=false):q≠0:=by
 unfold inRangeF pick2 at h
 intro e;subst e;simp at h
def hstep (h v:Int):Int:=(IntKind.i64.wrap (IntKind.i64.wrap (IntKind.i64.wrap (h*1000003)+modF v 2147483647)+13)).tmod 2147483647
def hashF (l:List Int):Int:=l.foldl hstep 11
def keyedF (k:Int)(l:List Int):Int:=hashF ([k]++l++[k])
theorem digestEx:∃ f:Int→List Int→Int,∀ id l,f id l=hashF ([7,id]++l):=⟨fun id l=>hashF ([7,id]++l),fun _ _=>rfl⟩
noncomputable def digestF (id:Int)(l:List Int):Int:=Classical.choose digestEx id l
theorem digest_eq (id:Int)(l:List Int):digestF id l=hashF ([7,id]++l):=Classical.choose_spec digestEx id l
theorem maxT {a b:Int}(h:decide (b>a)=true):b=max a b:=by have:=of_decide_eq_true h;omega
theorem maxE {a b:Int}(h:decide (b>a)=false):a=max a b:=by have:=of_decide_eq_false h;omega
end Fw
namespace Fw
open Go
theorem pick2_or (c b:Bool):pick2 c true b=(c||b):=by cases c<;>rfl
theorem pick2_and (c a:Bool):pick2 c a false=(c&&a):=by cases c<;>rfl
abbrev Key:=Int×Int×Int×Int×Int
abbrev Stamp:=Int×Int×Int×Int×Int
abbrev Authority:=Int×Int×Int
abbrev TStamp:Ty:=.pair TI (.pair TI (.pair TI (.pair TI TI)))
theorem findRange {α:Type}{p:α→Bool}{l:List α}(h:¬findI p l<0):inRange (findI p l) l.length:=by
 rcases findI_lt (p:=p) l with h' | h'
 · omega
 · exact h'
def smallL (l:List Int):Prop:=l.length≤1000000000
theorem smallLit {l:List Int}{n:Nat}(h:l.length=n)(hn:n≤1000000000):smallL l:=by unfold smallL;omega
def markWithF (k:Key)(l:List Int):Int:=keyedF k.2.2.2.2 ([k.2.2.1]++l)
def keyI (keys:List Key)(n:Int):Int:=findI (fun(x:Key)=>x.1==n) keys
def keyAt (keys:List Key)(n:Int):Key:=keys.getD (keyI keys n).toNat (dflt (.pair TI (.pair TI (.pair TI (.pair TI TI)))))
def stampIntsF (s:Stamp):List Int:=[103,s.1,s.2.1,s.2.2.1,s.2.2.2.1]
def authI (l:List Authority)(n:Int):Int:=findI (fun(x:Authority)=>x.1==n) l
def authAt (l:List Authority)(n:Int):Authority:=l.getD (authI l n).toNat (dflt (.pair TI (.pair TI TI)))
def stampBad (l:List Authority)(s:Stamp):Bool:=pick2 (pick2 (decide (authI l s.1<0)) true (decide (s.2.1<0))) true (!(isTimeF s.2.2.1))
def makeStampF (keys:List Key)(l:List Authority)(s:Stamp):Stamp×Bool:=
 if stampBad l s=true then((0,0,0,0,0),false)
 else if keyI keys (authAt l s.1).2.1<0 then((0,0,0,0,0),false)
 else((s.1,s.2.1,s.2.2.1,s.2.2.2.1,markWithF (keyAt keys (authAt l s.1).2.1) (stampIntsF s)),true)
theorem ms_1 {keys:List Key}{l:List Authority}{s:Stamp}(h:stampBad l s=true):makeStampF keys l s=((0,0,0,0,0),false):=if_pos h
theorem ms_2 {keys:List Key}{l:List Authority}{s:Stamp}(h:stampBad l s=false)(h2:keyI keys (authAt l s.1).2.1<0):makeStampF keys l s=((0,0,0,0,0),false):=by
 unfold makeStampF;rw[if_neg (by rw[h];decide),if_pos h2]
theorem ms_3 {keys:List Key}{l:List Authority}{s:Stamp}(h:stampBad l s=false)(h2:¬keyI keys (authAt l s.1).2.1<0):
   makeStampF keys l s=((s.1,s.2.1,s.2.2.1,s.2.2.2.1,markWithF (keyAt keys (authAt l s.1).2.1) (stampIntsF s)),true):=by
 unfold makeStampF;rw[if_neg (by rw[h];decide),if_neg h2]
theorem bad_idx {l:List Authority}{s:Stamp}(h:stampBad l s=false):inRange (authI l s.1) l.length:=by
 refine findRange fun h2=>?_
 unfold stampBad authI at h
 simp only[pick2_or,Bool.or_eq_false_iff,decide_eq_false_iff_not]at h
 exact h.1.1 h2
end Fw
namespace Fw
open Go
theorem orF {a b:Bool}(h:pick2 a true b=false):a=false∧b=false:=by rw[pick2_or]at h;simpa using h
theorem andT {a b:Bool}(h:pick2 a b false=true):a=true∧b=true:=by rw[pick2_and]at h;simpa using h
theorem notF {a:Bool}(h:(!a)=false):a=true:=by simpa using h
theorem beqI2 {x y:Int}(h:(x==y)=true):x=y:=by simpa using h
theorem eqlE {t:Ty}{x y:El t}(h:El.eq t x y=true)(hc:t.cmp=true):x=y:=notE (by rw[h];rfl) hc
theorem noOr {a b:Bool}(ha:a=true→False)(hb:b=true→False)(h:pick2 a true b=true):False:=by
 rw[pick2_or]at h
 rcases (Bool.or_eq_true _ _).mp h with h | h
 · exact ha h
 · exact hb h
theorem bself {x:Int}(h:(x != x)=true):False:=by simp at h
theorem bselfS {x:List UInt8}(h:(x != x)=true):False:=by simp at h
theorem eself {t:Ty}{x:El t}(hc:t.cmp=true)(h:(!(El.eq t x x))=true):False:=by rw[El.eq_self t x hc]at h;cases h
theorem nself {a:Bool}(ha:a=true)(h:(!a)=true):False:=by rw[ha]at h;cases h
theorem yesAnd {a b:Bool}(ha:a=true)(hb:b=true):pick2 a b false=true:=by rw[pick2_and,ha,hb];rfl
theorem beqSelf {x:Int}:(x==x)=true:=by simp
theorem eqC_by {α:Type}{x y:α}{b:Bool}(h1:b=true→x=y)(h2:x=y→b=true):b=eqC x y:=by
 cases hb:b with
 | true=>exact eqC_yes (h1 hb)
 | false=>exact eqC_no fun e=>by rw[h2 e]at hb;cases hb
end Fw
namespace Fw
open Go
theorem fFindEnd {α:Type}{p:α→Bool}{a:List α}{i:Int}(h:fInv p a i)(hl:¬i<a.length):a.find? p=none:=by
 obtain⟨h1,h2⟩:=h
 rw[up_end h1 hl,List.take_length]at h2
 exact List.find?_eq_none.2 (fun x hx=>by rw[h2 x hx];decide)
end Fw
namespace Fw
open Go
noncomputable def boolC (P:Prop):Bool:=@decide P (Classical.propDecidable _)
theorem boolC_iff {P:Prop}:boolC P=true↔P:=by unfold boolC;simp
theorem boolC_yes {P:Prop}(h:P):true=boolC P:=(boolC_iff.2 h).symm
theorem boolC_no {P:Prop}(h:P→False):false=boolC P:=by
 cases he:boolC P with
 | false=>rfl
 | true=>exact(h (boolC_iff.1 he)).elim
theorem boolC_by {P:Prop}{b:Bool}(h1:b=true→P)(h2:P→b=true):b=boolC P:=by
 cases hb:b with
 | true=>exact boolC_yes (h1 hb)
 | false=>exact boolC_no fun e=>by rw[h2 e]at hb;cases hb
def kInv {α:Type}(P:Nat→Prop)(L:List α)(i:Int):Prop:=upInv L i∧∀ k,k<i.toNat→P k
theorem kStart {α:Type}{P:Nat→Prop}{L:List α}:kInv P L 0:=⟨upStart,fun k hk=>by simp at hk⟩
theorem kStep {α:Type}{P:Nat→Prop}{L:List α}{i:Int}(h:kInv P L i)(hl:i<L.length)(hb:L.length≤bigLen)(hP:P i.toNat):
   kInv P L (IntKind.i64.wrap (i+1))∧(L.length-(IntKind.i64.wrap (i+1))).toNat<(L.length-i).toNat:=by
 obtain⟨u1,u2,u3⟩:=upStep h.1 hl hb
 refine⟨⟨u1,fun k hk=>?_⟩,u3⟩
 obtain⟨n,hn,e⟩:=h.1
 rw[u2]at hk
 by_cases hk2:k<i.toNat
 · exact h.2 k hk2
 · have:k=i.toNat:=by omega
   rw[this];exact hP
theorem kEnd {α:Type}{P:Nat→Prop}{L:List α}{i:Int}(h:kInv P L i)(hl:¬i<L.length):∀ k,k<L.length→P k:=by
 intro k hk
 exact h.2 k (by omega)
theorem kLt {α:Type}{P:Nat→Prop}{L:List α}{i:Int}(h:kInv P L i)(hl:i<L.length):i.toNat<L.length:=by
 obtain⟨n,hn,e⟩:=h.1;omega
theorem kRange {α:Type}{P:Nat→Prop}{L:List α}{i:Int}(h:kInv P L i)(hl:i<L.length):inRange i L.length:=upRange h.1 hl
theorem lenBeq {m n:Nat}(h:m=n):((m:Int)==(n:Int))=true:=by rw[h];simp
theorem lenNe {m n:Nat}(h:m=n)(h2:((m:Int) != (n:Int))=true):False:=by rw[h]at h2;simp at h2
theorem lenBeqI {m n:Nat}(h:((m:Int)==(n:Int))=true):m=n:=by have:=beqI2 h;omega
abbrev Doc:=Int×List (List UInt8)×List Int
abbrev Piece:=Int×List Int×Int
abbrev Renewal:=Int×Int×Int×List (Int×Bool)×List Stamp
abbrev Strand:=List Piece×List Renewal
abbrev Sig:=Int×Int×Int×Int×Int×Int×Int×Int×Int
abbrev Item:=Int×Int×Doc×Sig×Strand
abbrev Archive:=Int×List Item
abbrev TPiece:Ty:=.pair TI (.pair (.slice TI) TI)
abbrev TRen:Ty:=.pair TI (.pair TI (.pair TI (.pair (.slice (.pair TI .bool)) (.slice TStamp))))
def docP (a:Doc):Prop:=inRangeF a.1 0 999=true∧inRangeF (List.length a.2.1:Int) 1 6=true∧List.length a.2.2=List.length a.2.1∧
 (∀ k,k<List.length a.2.1→(List.length (List.getD a.2.1 k (dflt .str)):Int)≤40)∧(∀ k,k<List.length a.2.2→inRangeF (List.getD a.2.2 k (dflt (.int .i64))) 1 1000000000000=true)
noncomputable def docF (a:Doc):Bool:=boolC (docP a)
noncomputable def findPieceF (s:Strand)(p:Piece):Int:=findI (fun x=>eqC x p) s.1
noncomputable def hasF (l:List Piece)(p:Piece):Bool:=boolC (∃ x∈l,x=p)
def pieceAt (s:Strand)(k:Nat):Piece:=List.getD s.1 k (dflt TPiece)
def renAt (s:Strand)(k:Nat):Renewal:=List.getD s.2 k (dflt TRen)
def newP (s:Strand)(k:Nat):Prop:=∀ j,j<k→pieceAt s j≠pieceAt s k
def renP (s:Strand)(k:Nat):Prop:=inRangeF (renAt s k).1 1 (List.length s.1:Int)=true∧(0<k→(renAt s (k-1)).1≤(renAt s k).1)
def strandP (s:Strand):Prop:=inRangeF (List.length s.1:Int) 1 12=true∧(List.length s.2:Int)≤8∧(∀ k,k<List.length s.1→newP s k)∧(∀ k,k<List.length s.2→renP s k)
noncomputable def strandF (s:Strand):Bool:=boolC (strandP s)
theorem findLt {s:Strand}{k:Nat}(hk:k<s.1.length):findPieceF s (pieceAt s k)<(k:Int)↔¬newP s k:=by
 unfold findPieceF findI newP
 have hp:∀ j (hj:j<s.1.length),pieceAt s j=s.1[j]:=fun j hj=>by unfold pieceAt;rw[List.getD_eq_getElem?_getD,List.getElem?_eq_getElem hj];rfl
 split
 · rename_i m hm
   obtain⟨h1,h2,h3⟩:=List.findIdx?_eq_some_iff_getElem.1 hm
   have h2:=eqC_iff.1 h2
   constructor
   · intro hlt hn
     exact hn m (by omega) (by rw[hp m h1];exact h2)
   · intro hn
     by_cases hlt:(m:Int)<k
     · exact hlt
     · exfalso;apply hn
       intro j hj e
       have:=h3 j (by omega)
       rw[←hp j (by omega),e,eqC_self]at this
       exact absurd rfl this
 · rename_i hm
   have:=List.findIdx?_eq_none_iff.1 hm (pieceAt s k) (by rw[hp k hk];exact List.getElem_mem hk)
   rw[eqC_self]at this;cases this
theorem hasTake {s:Strand}{k:Nat}(hk:k<s.1.length):hasF (s.1.take k) (pieceAt s k)=true↔¬newP s k:=by
 unfold hasF newP
 rw[boolC_iff]
 have hp:∀ j (hj:j<s.1.length),pieceAt s j=s.1[j]:=fun j hj=>by unfold pieceAt;rw[List.getD_eq_getElem?_getD,List.getElem?_eq_getElem hj];rfl
 constructor
 · rintro⟨x,hx,e⟩ hn
   obtain⟨j,hj,e2⟩:=List.mem_take_iff_getElem.1 hx
   exact hn j (by omega) (by rw[hp j (by omega),e2,e])
 · intro hn
   apply Classical.byContradiction
   intro hc
   apply hn
   intro j hj e
   exact hc ⟨s.1[j],List.mem_take_iff_getElem.2 ⟨j,by omega,rfl⟩,by rw[←e,hp j (by omega)]⟩
theorem backW {α:Type}{L:List α}{i:Int}(h:upInv L i)(hb:L.length≤bigLen)(h0:i>0):IntKind.i64.wrap (i-1)=i-1:=by
 obtain⟨k,hk,rfl⟩:=h
 unfold bigLen at hb
 exact w64 (by omega) (by omega)
theorem backRange {α:Type}{P:Nat→Prop}{L:List α}{i:Int}(h:kInv P L i)(hl:i<L.length)(hb:L.length≤bigLen)(h0:i>0):inRange (IntKind.i64.wrap (i-1)) L.length:=by
 rw[backW h.1 hb h0]
 exact upRange (i:=i-1) ⟨(i-1).toNat,by omega,by omega⟩ (by omega)
theorem hasYes {l:List Piece}{p d:Piece}{i:Int}(h:fInv (fun x=>eqC x p) l i)(hl:i<l.length)(he:(fun x=>eqC x p) (l.getD i.toNat d)=true):true=hasF l p:=
 boolC_yes ⟨l.getD i.toNat d,upElem h.1 hl,eqC_iff.1 he⟩
theorem hasNo {l:List Piece}{p:Piece}{i:Int}(h:fInv (fun x=>eqC x p) l i)(hl:¬i<l.length):false=hasF l p:=by
 refine boolC_no ?_
 rintro⟨x,hx,e⟩
 have:=List.find?_eq_none.1 (fFindEnd h hl) x hx
 exact this (eqC_iff.2 e)
theorem newBad {s:Strand}{P:Nat→Prop}{i:Int}(h:kInv P s.1 i)(hl:i<s.1.length)(he:findPieceF s (pieceAt s i.toNat)<i):¬newP s i.toNat:=by
 obtain⟨k,hk,e⟩:=h.1
 have h1:i.toNat=k:=by omega
 rw[h1]at he ⊢
 exact(findLt (by omega)).1 (by omega)
theorem newGood {s:Strand}{P:Nat→Prop}{i:Int}(h:kInv P s.1 i)(hl:i<s.1.length)(he:¬findPieceF s (pieceAt s i.toNat)<i):newP s i.toNat:=by
 obtain⟨k,hk,e⟩:=h.1
 have h1:i.toNat=k:=by omega
 rw[h1]at he ⊢
 exact Classical.byContradiction fun hc=>he (by have:=(findLt (by omega)).2 hc;omega)
theorem headCond {α:Type}{P:Nat→Prop}{L:List α}{i:Int}(h:kInv P L i)(hl:i<L.length):conj [(0:Int)≤0,(0:Int)≤i,i≤(L.length:Int)]:=by
 obtain⟨k,hk,e⟩:=h.1
 exact⟨Int.le_refl _,(show (0:Int)≤i from by omega),(show i≤(L.length:Int)from by omega)⟩
theorem hasBad {s:Strand}{P:Nat→Prop}{i:Int}(h:kInv P s.1 i)(hl:i<s.1.length)(he:hasF (subL s.1 0 i) (pieceAt s i.toNat)=true):¬newP s i.toNat:=
 (hasTake (kLt h hl)).1 he
theorem hasGood {s:Strand}{P:Nat→Prop}{i:Int}(h:kInv P s.1 i)(hl:i<s.1.length)(he:hasF (subL s.1 0 i) (pieceAt s i.toNat)=false):newP s i.toNat:=
 Classical.byContradiction fun hc=>by
   have e:hasF (subL s.1 0 i) (pieceAt s i.toNat)=true:=(hasTake (kLt h hl)).2 hc
   rw[he]at e;cases e
def renBadF (s:Strand)(i:Int):Bool:=pick2 (!(inRangeF (renAt s i.toNat).1 1 (List.length s.1:Int))) true (pick2 (decide (i>0)) (decide ((renAt s (IntKind.i64.wrap (i-1)).toNat).1>(renAt s i.toNat).1)) false)
theorem renIff {s:Strand}{P:Nat→Prop}{i:Int}(h:kInv P s.2 i)(_:i<s.2.length)(hb:s.2.length≤bigLen):renBadF s i=false↔renP s i.toNat:=by
 unfold renBadF renP
 by_cases h0:i>0
 · rw[backW h.1 hb h0]
   have e:(i-1).toNat=i.toNat-1:=by omega
   have e2:decide (i>0)=true:=by simpa using h0
   rw[e,e2,pick2_or,pick2_and]
   simp only[Bool.or_eq_false_iff,Bool.true_and,Bool.not_eq_false',decide_eq_false_iff_not]
   constructor
   · rintro⟨h1,h2⟩;exact⟨h1,fun _=>by omega⟩
   · rintro⟨h1,h2⟩;exact⟨h1,by have:=h2 (by omega);omega⟩
 · have e2:decide (i>0)=false:=by simpa using h0
   rw[e2,pick2_or,pick2_and]
   simp only[Bool.or_eq_false_iff,Bool.false_and,Bool.not_eq_false',and_true]
   constructor
   · intro h1;exact⟨h1,fun _=>by omega⟩
   · rintro⟨h1,h2⟩;exact h1
theorem renGood {s:Strand}{P:Nat→Prop}{i:Int}(h:kInv P s.2 i)(hl:i<s.2.length)(hb:s.2.length≤bigLen)(he:renBadF s i=false):renP s i.toNat:=(renIff h hl hb).1 he
theorem renBad {s:Strand}{P:Nat→Prop}{i:Int}(h:kInv P s.2 i)(hl:i<s.2.length)(hb:s.2.length≤bigLen)(he:renBadF s i=true)(hr:renP s i.toNat):False:=by
 rw[(renIff h hl hb).2 hr]at he;cases he
def sigIntsF (s:Sig):List Int:=[104,s.1,s.2.1,s.2.2.1,s.2.2.2.1,s.2.2.2.2.1,s.2.2.2.2.2.1,s.2.2.2.2.2.2.1,s.2.2.2.2.2.2.2.1]
def signPieceF (s:Sig):Piece:=(s.1,sigIntsF s,s.2.2.2.2.2.2.2.2)
noncomputable def itemF (x:Item):Bool:=
 pick2 (pick2 (pick2 (pick2 (inRangeF x.1 1 999) (isTimeF x.2.1) false) (docF x.2.2.1) false) (strandF x.2.2.2.2) false) (eqC (pieceAt x.2.2.2.2 0) (signPieceF x.2.2.2.1)) false
theorem strand0 {s:Strand}{b:Bool}(h:pick2 b (strandF s) false=true):inRange 0 s.1.length:=by
 have h1:strandP s:=boolC_iff.1 (andT h).2
 have h2:=h1.1
 unfold inRangeF at h2
 have h3:=of_decide_eq_true (andT h2).1
 exact upRange (a:=s.1) ⟨0,Nat.zero_le _,rfl⟩ (by omega)
end Fw
namespace Fw
open Go
def gsInv {α:Type}(g:Nat→List Int)(z:List Int)(L:List α)(acc:List Int)(i:Int):Prop:=upInv L i∧acc=z++(List.range i.toNat).flatMap g
theorem gsStart {α:Type}{g:Nat→List Int}{z:List Int}{L:List α}:gsInv g z L z 0:=⟨upStart,by simp⟩
theorem gsStep {α:Type}{g:Nat→List Int}{z:List Int}{L:List α}{acc acc':List Int}{i:Int}(h:gsInv g z L acc i)(hl:i<L.length)(hb:L.length≤bigLen)
   (e:acc'=acc++g i.toNat):gsInv g z L acc' (IntKind.i64.wrap (i+1))∧(L.length-(IntKind.i64.wrap (i+1))).toNat<(L.length-i).toNat:=by
 obtain⟨u1,u2,u3⟩:=upStep h.1 hl hb
 obtain⟨k,hk,e1⟩:=h.1
 refine⟨⟨u1,?_⟩,u3⟩
 have e2:(IntKind.i64.wrap (i+1)).toNat=i.toNat+1:=by rw[u2];omega
 rw[e,h.2,e2,List.range_succ,List.flatMap_append,List.append_assoc]
 simp
theorem gsEnd {α:Type}{g:Nat→List Int}{z:List Int}{L:List α}{acc:List Int}{i:Int}(h:gsInv g z L acc i)(hl:¬i<L.length):acc=z++(List.range L.length).flatMap g:=by
 obtain⟨k,hk,e1⟩:=h.1
 have:i.toNat=L.length:=by omega
 rw[h.2,this]
theorem flatLen {g:Nat→List Int}{c:Nat}(hc:∀ k,(g k).length≤c):∀ n,((List.range n).flatMap g).length≤c*n
 | 0=>by simp
 | n+1=>by
   rw[List.range_succ,List.flatMap_append,List.length_append]
   have h1:=flatLen hc n
   have h2:=hc n
   have h3:(List.flatMap g [n]).length≤c:=by simpa using h2
   rw[Nat.mul_succ];omega
theorem gsLen {α:Type}{g:Nat→List Int}{z:List Int}{L:List α}{acc:List Int}{i:Int}{c m n:Nat}(h:gsInv g z L acc i)(hc:∀ k,(g k).length≤c)(hL:L.length≤m)(hn:z.length+c*m≤n):acc.length≤n:=by
 obtain⟨k,hk,e1⟩:=h.1
 rw[h.2,List.length_append]
 have h1:=flatLen hc i.toNat
 have h2:c*i.toNat≤c*m:=Nat.mul_le_mul_left c (by omega)
 omega
theorem gsRange {α:Type}{g:Nat→List Int}{z:List Int}{L:List α}{acc:List Int}{i:Int}(h:gsInv g z L acc i)(hl:i<L.length):inRange i L.length:=upRange h.1 hl
def partG (s:List UInt8)(k:Nat):List Int:=[IntKind.i64.wrap (((s.getD k 0).toNat:Int))]
noncomputable def partF (id:Int)(s:List UInt8)(x:Int):Int:=digestF id ([x]++(List.range s.length).flatMap (partG s))
def byteG (l:List Int)(k:Nat):List Int:=[IntKind.i64.wrap (l.getD k (dflt (.int .u8)))]
def bytesF (l:List Int):List Int:=[]++(List.range l.length).flatMap (byteG l)
theorem flatCongr {g h:Nat→List Int}:∀ n,(∀ k,k<n→g k=h k)→(List.range n).flatMap g=(List.range n).flatMap h
 | 0,_=>rfl
 | n+1,e=>by
   rw[List.range_succ,List.flatMap_append,List.flatMap_append,flatCongr n (fun k hk=>e k (by omega))]
   simp[e n (by omega)]
theorem bytesEq (s:List UInt8):bytesF (bytesOf s)=(List.range s.length).flatMap (partG s):=by
 unfold bytesF
 have hl:(bytesOf s).length=s.length:=by unfold bytesOf;rw[List.length_map]
 rw[List.nil_append,hl]
 refine flatCongr _ fun k hk=>?_
 unfold byteG partG bytesOf
 rw[List.getD_eq_getElem?_getD,List.getElem?_map,List.getD_eq_getElem?_getD,List.getElem?_eq_getElem hk]
 rfl
theorem bytesLen (s:List UInt8):(bytesF (bytesOf s)).length=s.length:=by
 unfold bytesF bytesOf
 have:∀ (l:List Int) n,((List.range n).flatMap (byteG l)).length=n:=fun l n=>by
   induction n with
   | zero=>rfl
   | succ n ih=>rw[List.range_succ,List.flatMap_append,List.length_append,ih];simp[byteG]
 rw[List.nil_append,this,List.length_map]
noncomputable def docG (id:Int)(d:Doc)(k:Nat):List Int:=[partF id (d.2.1.getD k (dflt .str)) (d.2.2.getD k (dflt (.int .i64)))]
noncomputable def docDigF (id:Int)(d:Doc):Int:=if docF d=true then digestF id ([d.1]++(List.range d.2.1.length).flatMap (docG id d))else -1
theorem docDig0 {id:Int}{d:Doc}(h:(!(docF d))=true):(-1:Int)=docDigF id d:=by
 unfold docDigF;rw[if_neg (by intro e;rw[e]at h;cases h)]
theorem docDig1 {id:Int}{d:Doc}{acc:List Int}{i:Int}(h:(!(docF d))=false)(hI:gsInv (docG id d) [d.1] d.2.1 acc i)(hl:¬i<d.2.1.length):digestF id acc=docDigF id d:=by
 unfold docDigF;rw[if_pos (notF h),gsEnd hI hl]
theorem docP_of {d:Doc}(h:(!(docF d))=false):docP d:=boolC_iff.1 (notF h)
theorem docN {d:Doc}(h:docP d):d.2.1.length≤6:=by
 have h1:=h.2.1
 unfold inRangeF at h1
 have:=of_decide_eq_true (andT h1).2
 omega
theorem doc40 {d:Doc}(h:docP d){i:Int}{acc:List Int}{g:Nat→List Int}{z:List Int}(hI:gsInv g z d.2.1 acc i)(hl:i<d.2.1.length):(d.2.1.getD i.toNat (dflt .str)).length≤40:=by
 obtain⟨k,hk,e⟩:=hI.1
 have:=h.2.2.2.1 i.toNat (by omega)
 omega
theorem docX {d:Doc}(h:docP d){i:Int}{acc:List Int}{g:Nat→List Int}{z:List Int}(hI:gsInv g z d.2.1 acc i)(hl:i<d.2.1.length):inRange i d.2.2.length:=by
 rw[h.2.2.1];exact gsRange hI hl
noncomputable def piecesG (id:Int)(l:List Piece)(k:Nat):List Int:=[digestF id ([(l.getD k (dflt TPiece)).1,(l.getD k (dflt TPiece)).2.2]++(l.getD k (dflt TPiece)).2.1)]
noncomputable def piecesF (id:Int)(l:List Piece):Int:=digestF id ([2]++(List.range l.length).flatMap (piecesG id l))
abbrev TStep:Ty:=.pair TI .bool
def stepG (r:Renewal)(k:Nat):List Int:=[(r.2.2.2.1.getD k (dflt TStep)).1,if (r.2.2.2.1.getD k (dflt TStep)).2=true then 1 else 0]
def stmpG (r:Renewal)(k:Nat):List Int:=stampIntsF (r.2.2.2.2.getD k (dflt TStamp))++[(r.2.2.2.2.getD k (dflt TStamp)).2.2.2.2]
def renMid (r:Renewal):List Int:=([4,r.1,r.2.1,r.2.2.1]++(List.range r.2.2.2.1.length).flatMap (stepG r))++[(r.2.2.2.2.length:Int)]
noncomputable def renDigF (id:Int)(r:Renewal):Int:=digestF id (renMid r++(List.range r.2.2.2.2.length).flatMap (stmpG r))
theorem stepYes {r:Renewal}{acc:List Int}{k:Nat}(h:(r.2.2.2.1.getD k (dflt TStep)).2=true):(acc++[(r.2.2.2.1.getD k (dflt TStep)).1])++[1]=acc++stepG r k:=by
 unfold stepG;rw[if_pos h,List.append_assoc];rfl
theorem stepNo {r:Renewal}{acc:List Int}{k:Nat}(h:(r.2.2.2.1.getD k (dflt TStep)).2=false):(acc++[(r.2.2.2.1.getD k (dflt TStep)).1])++[0]=acc++stepG r k:=by
 unfold stepG;rw[if_neg (by rw[h];decide),List.append_assoc];rfl
theorem stepYesI {r:Renewal}{acc:List Int}{k:Nat}(h:(r.2.2.2.1.getD k (dflt TStep)).2=true):acc++[(r.2.2.2.1.getD k (dflt TStep)).1,1]=acc++stepG r k:=by
 unfold stepG;rw[if_pos h]
theorem stepNoI {r:Renewal}{acc:List Int}{k:Nat}(h:(r.2.2.2.1.getD k (dflt TStep)).2=false):acc++[(r.2.2.2.1.getD k (dflt TStep)).1,0]=acc++stepG r k:=by
 unfold stepG;rw[if_neg (by rw[h];decide)]
theorem stmpEq {r:Renewal}{acc:List Int}{k:Nat}:(acc++stampIntsF (r.2.2.2.2.getD k (dflt TStamp)))++[(r.2.2.2.2.getD k (dflt TStamp)).2.2.2.2]=acc++stmpG r k:=by
 unfold stmpG;rw[List.append_assoc]
theorem gsStart2 {α:Type}{g:Nat→List Int}{z acc:List Int}{L:List α}(e:acc=z):gsInv g z L acc 0:=by rw[e];exact gsStart
theorem renMidEq {r:Renewal}{acc:List Int}{i:Int}(h:gsInv (stepG r) [4,r.1,r.2.1,r.2.2.1] r.2.2.2.1 acc i)(hl:¬i<r.2.2.2.1.length):acc++[(r.2.2.2.2.length:Int)]=renMid r:=by
 unfold renMid;rw[←gsEnd h hl]
theorem midLen {r:Renewal}(h:r.2.2.2.1.length≤1048576):(renMid r).length≤2097157:=by
 unfold renMid
 rw[List.length_append,List.length_append]
 have h1:=flatLen (g:=stepG r) (c:=2) (fun _=>Nat.le_refl _) r.2.2.2.1.length
 simp only[List.length_cons,List.length_nil]
 omega
end Fw
namespace Fw
open Go
set_option linter.unusedSimpArgs false
set_option linter.unusedVariables false
end Fw
namespace Fw
open Go
end Fw
namespace Fw
open Go
end Fw
namespace Fw
end Fw
namespace Fw
open Go
set_option linter.unusedSimpArgs false
def bnd:Int:=1152921504606846976
def cellsL {α:Type}(c:α→Nat):List α→Nat
 | []=>0
 | x::xs=>c x+cellsL c xs
theorem take_succD {α:Type}{xs:List α}{i:Nat}(h:i<xs.length)(d:α):xs.take (i+1)=xs.take i++[xs.getD i d]:=by
 rw[List.take_add_one,List.getD_eq_getElem?_getD,List.getElem?_eq_getElem h];rfl
end Fw
namespace Fw
open Go
def itemAt (a:Archive)(k:Nat):Item:=List.getD a.2 k (dflt (.pair TI (.pair TI (.pair (.pair TI (.pair (.slice .str) (.slice TI))) (.pair (.pair TI (.pair TI (.pair TI (.pair TI (.pair TI (.pair TI (.pair TI (.pair TI TI)))))))) (.pair (.slice TPiece) (.slice TRen)))))))
def goodP (a:Archive)(k:Nat):Prop:=itemF (itemAt a k)=true∧(0<k→(itemAt a (k-1)).1<(itemAt a k).1)
noncomputable def archF (a:Archive):Bool:=boolC ((∀ k,k<List.length a.2→goodP a k)∧inRangeF a.1 0 99=true∧(List.length a.2:Int)≤8)
noncomputable def badF (a:Archive)(i:Int):Bool:=pick2 (!(itemF (itemAt a i.toNat))) true (pick2 (decide (i>0)) (decide ((itemAt a (IntKind.i64.wrap (i-1)).toNat).1≥(itemAt a i.toNat).1)) false)
theorem goodIff {a:Archive}{P:Nat→Prop}{i:Int}(h:kInv P a.2 i)(hb:a.2.length≤bigLen):badF a i=false↔goodP a i.toNat:=by
 unfold badF goodP
 by_cases h0:i>0
 · rw[backW h.1 hb h0]
   have e:(i-1).toNat=i.toNat-1:=by omega
   have e2:decide (i>0)=true:=by simpa using h0
   rw[e,e2,pick2_or,pick2_and]
   simp only[Bool.or_eq_false_iff,Bool.true_and,Bool.not_eq_false',decide_eq_false_iff_not]
   constructor
   · rintro⟨h1,h2⟩;exact⟨h1,fun _=>by omega⟩
   · rintro⟨h1,h2⟩;exact⟨h1,by have:=h2 (by omega);omega⟩
 · have e2:decide (i>0)=false:=by simpa using h0
   rw[e2,pick2_or,pick2_and]
   simp only[Bool.or_eq_false_iff,Bool.false_and,Bool.not_eq_false',and_true]
   constructor
   · intro h1;exact⟨h1,fun _=>by omega⟩
   · rintro⟨h1,h2⟩;exact h1
end Fw
namespace Fw
open Go
def hdP (p:Piece):Int:=List.getD p.2.1 0 (dflt TI)
def tblP (p:Piece):Int:=List.getD [7,5,5,9,6] (IntKind.i64.wrap (hdP p-101)).toNat (dflt TI)
def kb1 (p:Piece):Bool:=pick2 ((List.length p.2.1:Int)==0) true (!(inRangeF (hdP p) 101 105))
def kb2 (p:Piece):Bool:=((List.length p.2.1:Int) != tblP p)
def kindF (p:Piece):Int:=if pick2 (kb1 p) true (kb2 p)=true then 0 else hdP p
abbrev Cert:=Int×Int×Int×Int×Int×Int×Int
def nth (p:Piece)(j:Nat):Int:=List.getD p.2.1 j (dflt TI)
def certSpanF (c:Cert):Int×Int:=(c.2.2.2.1,c.2.2.2.2.1)
def certIntsF (c:Cert):List Int:=[101,c.1,c.2.1,c.2.2.1,c.2.2.2.1,c.2.2.2.2.1,c.2.2.2.2.2.1]
def isCertF (c:Cert):Bool:=
 pick2 (pick2 (pick2 (pick2 (pick2 (inRangeF c.1 1 999) (inRangeF c.2.1 1 99) false) (inRangeF c.2.2.2.2.2.1 1 99) false) (c.2.1 != c.2.2.2.2.2.1) false) (inRangeF c.2.2.1 0 99) false) (isSpanF (certSpanF c)) false
end Fw
namespace Fw
open Go
abbrev Method:=Int×Int×Int×Int
abbrev Frame:=List Key×List Authority×List Method×Int×Int
def stampKeyF (l:List Authority)(s:Stamp):Int:=if authI l s.1<0 then 0 else(authAt l s.1).2.1
theorem stampKey0 {l:List Authority}{s:Stamp}(h:authI l s.1<0):(0:Int)=stampKeyF l s:=by unfold stampKeyF;rw[if_pos h]
theorem stampKey1 {l:List Authority}{s:Stamp}(h:¬authI l s.1<0):(authAt l s.1).2.1=stampKeyF l s:=by unfold stampKeyF;rw[if_neg h]
end Fw
namespace Fw
open Go
set_option linter.unusedSimpArgs false
set_option linter.unusedVariables false
def pickF {α β:Type}(f:α→β×Bool)(L:List α):List β:=L.filterMap (fun x=>if (f x).2=true then some (f x).1 else none)
def pkInv {α β:Type}(f:α→β×Bool)(L:List α)(acc:List β)(i:Int):Prop:=upInv L i∧acc=pickF f (L.take i.toNat)
theorem pkStart {α β:Type}{f:α→β×Bool}{L:List α}:pkInv f L [] 0:=⟨upStart,by simp[pickF]⟩
theorem pkRange {α β:Type}{f:α→β×Bool}{L:List α}{acc:List β}{i:Int}(h:pkInv f L acc i)(hl:i<L.length):inRange i L.length:=upRange h.1 hl
theorem pick_len {α β:Type}(f:α→β×Bool)(L:List α):(pickF f L).length≤L.length:=List.length_filterMap_le _ _
theorem pkLen {α β:Type}{f:α→β×Bool}{L:List α}{acc:List β}{i:Int}(h:pkInv f L acc i)(hs:L.length≤1048576):acc.length+1≤maxApp:=by
 have:=pick_len f (L.take i.toNat)
 rw[←h.2,List.length_take]at this
 unfold maxApp;omega
theorem pick_app {α β:Type}(f:α→β×Bool)(L:List α)(x:α):pickF f (L++[x])=pickF f L++(if (f x).2=true then [(f x).1]else []):=by
 unfold pickF
 rw[List.filterMap_append]
 congr 1
 split
 · rename_i h;simp[h]
 · rename_i h;simp[h]
theorem pkStep {α β:Type}{f:α→β×Bool}{L:List α}{acc acc':List β}{d:α}{i:Int}(h:pkInv f L acc i)(hl:i<L.length)(hb:L.length≤bigLen)
   (e:acc'=acc++(if (f (L.getD i.toNat d)).2=true then [(f (L.getD i.toNat d)).1]else [])):
   pkInv f L acc' (IntKind.i64.wrap (i+1))∧(L.length-(IntKind.i64.wrap (i+1))).toNat<(L.length-i).toNat:=by
 obtain⟨u1,u2,u3⟩:=upStep h.1 hl hb
 obtain⟨k,hk,e1⟩:=h.1
 refine⟨⟨u1,?_⟩,u3⟩
 have e2:(IntKind.i64.wrap (i+1)).toNat=i.toNat+1:=by rw[u2];omega
 have hi:i.toNat<L.length:=by omega
 rw[e2,take_succD hi d,pick_app,e,h.2]
theorem pkYes {α β:Type}{f:α→β×Bool}{L:List α}{acc:List β}{d:α}{i:Int}(h:pkInv f L acc i)(hl:i<L.length)(hb:L.length≤bigLen)(g:(f (L.getD i.toNat d)).2=true):
   pkInv f L (acc++[(f (L.getD i.toNat d)).1]) (IntKind.i64.wrap (i+1))∧(L.length-(IntKind.i64.wrap (i+1))).toNat<(L.length-i).toNat:=
 pkStep (d:=d) h hl hb (by rw[if_pos g])
theorem pkNo {α β:Type}{f:α→β×Bool}{L:List α}{acc:List β}{d:α}{i:Int}(h:pkInv f L acc i)(hl:i<L.length)(hb:L.length≤bigLen)(g:(f (L.getD i.toNat d)).2=false):
   pkInv f L acc (IntKind.i64.wrap (i+1))∧(L.length-(IntKind.i64.wrap (i+1))).toNat<(L.length-i).toNat:=
 pkStep (d:=d) h hl hb (by rw[if_neg (by rw[g];decide),List.append_nil])
theorem pkEnd {α β:Type}{f:α→β×Bool}{L:List α}{acc:List β}{i:Int}(h:pkInv f L acc i)(hl:¬i<L.length):acc=pickF f L:=by
 obtain⟨k,hk,e1⟩:=h.1
 rw[h.2,List.take_of_length_le (by omega)]
abbrev Mandate:=Int×Int×Int×Int×Int×Int
abbrev Status:=Int×Int×Int×Int×Int
def psBad (p:Piece):Bool:=pick2 (kindF p != 102) true (nth p 4 != p.1)
def pieceStatF (p:Piece):Status×Bool:=if psBad p=true then((0,0,0,0,0),false)else((nth p 1,nth p 2,nth p 3,nth p 4,p.2.2),true)
theorem ps0 {p:Piece}(h:psBad p=true):pieceStatF p=((0,0,0,0,0),false):=by unfold pieceStatF;rw[if_pos h]
theorem pkYesE {α β:Type}{f:α→β×Bool}{L:List α}{acc acc':List β}{d:α}{i:Int}(h:pkInv f L acc i)(hl:i<L.length)(hb:L.length≤bigLen)(g:(f (L.getD i.toNat d)).2=true)
   (e:acc'=acc++[(f (L.getD i.toNat d)).1]):pkInv f L acc' (IntKind.i64.wrap (i+1))∧(L.length-(IntKind.i64.wrap (i+1))).toNat<(L.length-i).toNat:=by
 rw[e];exact pkYes h hl hb g
theorem zGet {a b:List Int}{i:Int}(h:0≤i)(hl:i<((a.zip b).length:Int)):(a.zip b).getD i.toNat (0,0)=(a.getD i.toNat (dflt TI),b.getD i.toNat (dflt TI)):=by
 rw[List.length_zip]at hl
 have h1:i.toNat<a.length:=by omega
 have h2:i.toNat<b.length:=by omega
 have h3:i.toNat<(a.zip b).length:=by rw[List.length_zip];omega
 rw[List.getD_eq_getElem?_getD,List.getD_eq_getElem?_getD,List.getD_eq_getElem?_getD,List.getElem?_eq_getElem h3,List.getElem?_eq_getElem h1,List.getElem?_eq_getElem h2,List.getElem_zip]
 rfl
theorem pkPos {α β:Type}{f:α→β×Bool}{L:List α}{acc:List β}{i:Int}(h:pkInv f L acc i):0≤i:=by obtain⟨k,_,e⟩:=h.1;omega
theorem zipLt {a b:List Int}{i:Int}(h1:i<(a.length:Int))(h2:i<(b.length:Int)):i<((a.zip b).length:Int):=by rw[List.length_zip];omega
theorem zipGe {a b:List Int}{i:Int}(h:¬(i<(a.length:Int)∧i<(b.length:Int))):¬i<((a.zip b).length:Int):=by rw[List.length_zip];omega
theorem andLt {i m n:Int}(h:pick2 (decide (i<m)) (decide (i<n)) false=true):i<m∧i<n:=by
 unfold pick2 at h
 cases h1:decide (i<m)<;>rw[h1]at h
 · cases h
 · exact⟨of_decide_eq_true h1,of_decide_eq_true h⟩
theorem andGe {i m n:Int}(h:pick2 (decide (i<m)) (decide (i<n)) false=false):¬(i<m∧i<n):=by
 rintro⟨h1,h2⟩
 unfold pick2 at h
 rw[decide_eq_true h1,decide_eq_true h2]at h
 cases h
theorem zipL {a b:List Int}{i:Int}(h:i<((a.zip b).length:Int)):i<(a.length:Int):=by rw[List.length_zip]at h;omega
theorem zipR {a b:List Int}{i:Int}(h:i<((a.zip b).length:Int)):i<(b.length:Int):=by rw[List.length_zip]at h;omega
noncomputable def stF (keys:List Key)(l:List Authority)(seq dg:Int)(p:Int×Int):Stamp×Bool:=makeStampF keys l (p.1,seq,p.2,dg,0)
noncomputable def stampAllF (keys:List Key)(l:List Authority)(ids:List Int)(seq:Int)(times:List Int)(dg:Int):List Stamp:=pickF (stF keys l seq dg) (ids.zip times)
end Fw
namespace Fw
open Go
noncomputable def pairDF (m a b:Int):Int:=digestF m [1,a,b]
noncomputable def upF (m:Int):List Int→List Int
 | []=>[]
 | [a]=>[a]
 | a::b::r=>pairDF m a b::upF m r
theorem upF_len (m:Int):∀ l:List Int,(upF m l).length≤l.length∧(2≤l.length→(upF m l).length<l.length)∧(1≤l.length→1≤(upF m l).length)
 | []=>by simp[upF]
 | [a]=>by simp[upF]
 | a::b::r=>by
   have:=upF_len m r
   simp only[upF,List.length_cons]
   omega
noncomputable def rootL (m:Int)(l:List Int):List Int:=if _h:2≤l.length then rootL m (upF m l)else l
termination_by l.length
decreasing_by exact(upF_len m l).2.1 _h
theorem rootL_up {m:Int}{l:List Int}(h:2≤l.length):rootL m l=rootL m (upF m l):=by rw[rootL,dif_pos h]
theorem rootL_end {m:Int}{l:List Int}(h:¬2≤l.length):rootL m l=l:=by rw[rootL,dif_neg h]
noncomputable def treeF (m:Int)(l:List Int):Int:=if inRangeF (l.length:Int) 1 16=true then(rootL m l).getD 0 (dflt TI)else -1
theorem tree0 {m:Int}{l:List Int}(h:(!(inRangeF (l.length:Int) 1 16))=true):(-1:Int)=treeF m l:=by
 unfold treeF;rw[if_neg]
 intro e;rw[e]at h;cases h
def trInv (m:Int)(l0 l:List Int):Prop:=rootL m l=rootL m l0∧1≤l.length∧l.length≤16
theorem rg {x a b:Int}(h:(!(inRangeF x a b))=false):a≤x∧x≤b:=by
 unfold inRangeF pick2 at h
 cases h1:decide (a≤x)<;>rw[h1]at h
 · cases h
 · cases h2:decide (x≤b)<;>rw[h2]at h
   · cases h
   · exact⟨of_decide_eq_true h1,of_decide_eq_true h2⟩
theorem trStart {m:Int}{l:List Int}(h:1≤(l.length:Int)∧(l.length:Int)≤16):trInv m l l:=⟨rfl,by omega,by omega⟩
theorem trStep {m:Int}{l0 l:List Int}(h:trInv m l0 l)(g:(l.length:Int)>1):trInv m l0 (upF m l)∧(upF m l).length<l.length:=by
 have hl:=upF_len m l
 have h2:2≤l.length:=by omega
 exact⟨⟨by rw[←rootL_up h2];exact h.1,hl.2.2 h.2.1,by have:=hl.1;have:=h.2.2;omega⟩,hl.2.1 h2⟩
theorem trEnd {m:Int}{l0 l:List Int}(h:trInv m l0 l)(g:¬(l.length:Int)>1)(hr:(!(inRangeF (l0.length:Int) 1 16))=false):l.getD 0 (dflt TI)=treeF m l0:=by
 unfold treeF
 rw[if_pos (by simpa using hr),←h.1,rootL_end (by omega)]
theorem trIdx {m:Int}{l0 l:List Int}(h:trInv m l0 l):inRange 0 l.length:=⟨by omega,by have:=h.2.1;omega⟩
theorem trSmall {m:Int}{l0 l:List Int}(h:trInv m l0 l):l.length≤1048576:=by have:=h.2.2;omega
def liInv (m:Int)(l out:List Int)(i:Int):Prop:=0≤i∧upF m l=out++upF m (l.drop i.toNat)∧(out.length:Int)≤i
theorem liStart {m:Int}{l:List Int}:liInv m l [] 0:=⟨by omega,by simp,by simp⟩
theorem liRange {m:Int}{l out:List Int}{i:Int}(h:liInv m l out i)(hl:i<(l.length:Int)):inRange i l.length:=⟨h.1,hl⟩
theorem liRange1 {m:Int}{l out:List Int}{i:Int}(h:liInv m l out i)(g:IntKind.i64.wrap (i+1)<(l.length:Int))(hs:l.length≤1048576)(hl:i<(l.length:Int)):inRange (IntKind.i64.wrap (i+1)) l.length:=by
 refine⟨?_,g⟩
 rw[w64 (by have:=h.1;omega) (by omega)]
 have:=h.1;omega
theorem liLen {m:Int}{l out:List Int}{i:Int}(h:liInv m l out i)(hs:l.length≤1048576)(hl:i<(l.length:Int)):out.length+1≤maxApp:=by
 have:=h.2.2;unfold maxApp;omega
theorem li2 {m:Int}{l out:List Int}{i:Int}(h:liInv m l out i)(hl:i<(l.length:Int))(hs:l.length≤1048576)(g:IntKind.i64.wrap (i+1)<(l.length:Int)):
   liInv m l (out++[pairDF m (l.getD i.toNat (dflt TI)) (l.getD (IntKind.i64.wrap (i+1)).toNat (dflt TI))]) (IntKind.i64.wrap (i+2))∧((l.length:Int)-IntKind.i64.wrap (i+2)).toNat<((l.length:Int)-i).toNat:=by
 obtain⟨h0,h1,h2⟩:=h
 rw[w64 (x:=i+1) (by omega) (by omega)]at g ⊢
 rw[w64 (x:=i+2) (by omega) (by omega)]
 have a1:i.toNat<l.length:=by omega
 have a2:i.toNat+1<l.length:=by omega
 have e1:(i+1).toNat=i.toNat+1:=by omega
 have e2:(i+2).toNat=i.toNat+2:=by omega
 refine⟨⟨by omega,?_,by simp only[List.length_append,List.length_singleton];omega⟩,by omega⟩
 rw[h1,e1,e2,List.drop_eq_getElem_cons a1,List.drop_eq_getElem_cons a2]
 have g1:l.getD i.toNat (dflt TI)=l[i.toNat]:=by rw[List.getD_eq_getElem?_getD,List.getElem?_eq_getElem a1];rfl
 have g2:l.getD (i.toNat+1) (dflt TI)=l[i.toNat+1]:=by rw[List.getD_eq_getElem?_getD,List.getElem?_eq_getElem a2];rfl
 rw[g1,g2,upF,List.append_assoc];rfl
theorem li1 {m:Int}{l out:List Int}{i:Int}(h:liInv m l out i)(hl:i<(l.length:Int))(hs:l.length≤1048576)(g:¬IntKind.i64.wrap (i+1)<(l.length:Int)):
   liInv m l (out++[l.getD i.toNat (dflt TI)]) (IntKind.i64.wrap (i+2))∧((l.length:Int)-IntKind.i64.wrap (i+2)).toNat<((l.length:Int)-i).toNat:=by
 obtain⟨h0,h1,h2⟩:=h
 rw[w64 (x:=i+1) (by omega) (by omega)]at g
 rw[w64 (x:=i+2) (by omega) (by omega)]
 have a1:i.toNat<l.length:=by omega
 refine⟨⟨by omega,?_,by simp only[List.length_append,List.length_singleton];omega⟩,by omega⟩
 have g1:l.getD i.toNat (dflt TI)=l[i.toNat]:=by rw[List.getD_eq_getElem?_getD,List.getElem?_eq_getElem a1];rfl
 rw[h1,List.drop_eq_getElem_cons a1,List.drop_eq_nil_of_le (by omega),List.drop_eq_nil_of_le (by omega),g1]
 simp[upF]
theorem liEnd {m:Int}{l out:List Int}{i:Int}(h:liInv m l out i)(hl:¬i<(l.length:Int)):out=upF m l:=by
 rw[h.2.1,List.drop_eq_nil_of_le (by omega)];simp[upF]
end Fw
namespace Fw
open Go
def cpInv {α:Type}(L:List α)(acc:List α)(i:Int):Prop:=upInv L i∧acc=L.take i.toNat
theorem cpStart {α:Type}{L:List α}:cpInv L [] 0:=⟨upStart,by simp⟩
theorem cpRange {α:Type}{L acc:List α}{i:Int}(h:cpInv L acc i)(hl:i<L.length):inRange i L.length:=upRange h.1 hl
theorem cpStep {α:Type}{L acc acc':List α}{d:α}{i:Int}(h:cpInv L acc i)(hl:i<L.length)(hb:L.length≤bigLen)(e:acc'=acc++[L.getD i.toNat d]):
   cpInv L acc' (IntKind.i64.wrap (i+1))∧(L.length-(IntKind.i64.wrap (i+1))).toNat<(L.length-i).toNat:=by
 obtain⟨u1,u2,u3⟩:=upStep h.1 hl hb
 obtain⟨k,hk,e1⟩:=h.1
 refine⟨⟨u1,?_⟩,u3⟩
 have e2:(IntKind.i64.wrap (i+1)).toNat=i.toNat+1:=by rw[u2];omega
 rw[e2,take_succD (by omega) d,e,h.2]
theorem cpEnd {α:Type}{L acc:List α}{i:Int}(h:cpInv L acc i)(hl:¬i<L.length):acc=L:=by
 obtain⟨k,hk,e1⟩:=h.1
 rw[h.2,List.take_of_length_le (by omega)]
theorem cpLen {α:Type}{L acc:List α}{i:Int}(h:cpInv L acc i)(_:i<L.length)(hs:L.length≤big20):acc.length+1≤maxApp:=by
 rw[h.2,List.length_take]
 unfold big20 at hs;unfold maxApp;omega
theorem appOk {α:Type}{l:List α}(h:l.length≤big20):0+l.length≤maxApp:=by
 unfold big20 at h;unfold maxApp;omega
end Fw
namespace Fw
open Go
noncomputable def leafOfF (m doc:Int)(l:List Piece)(b:Int):Int:=digestF m [3,doc,piecesF m l,b]
noncomputable def beforeF (m:Int)(ch:List Renewal)(k:Int):Int:=if k>0 then renDigF m (ch.getD (IntKind.i64.wrap (k-1)).toNat (dflt TRen))else 0
noncomputable def leafForF (x:Item)(m:Int):Int:=leafOfF m (docDigF m x.2.2.1) x.2.2.2.2.1 (beforeF m x.2.2.2.2.2 (x.2.2.2.2.2.length:Int))
def chAt (s:Strand)(k:Int):Renewal:=s.2.getD k.toNat (dflt TRen)
def leafAtBad (s:Strand)(docs:List Int)(k:Int):Bool:=
 pick2 (pick2 (!(inRangeF k 0 (IntKind.i64.wrap ((s.2.length:Int)-1)))) true ((docs.length:Int) != (s.2.length:Int))) true (!(inRangeF (chAt s k).1 0 (s.1.length:Int)))
noncomputable def leafAtF (s:Strand)(docs:List Int)(k:Int):Int:=
 if leafAtBad s docs k=true then -1 else leafOfF (chAt s k).2.1 (docs.getD k.toNat (dflt TI)) (subL s.1 0 (chAt s k).1) (beforeF (chAt s k).2.1 s.2 k)
theorem la0 {s:Strand}{docs:List Int}{k:Int}(h:leafAtBad s docs k=true):(-1:Int)=leafAtF s docs k:=by unfold leafAtF;rw[if_pos h]
theorem la1 {s:Strand}{docs:List Int}{k:Int}(h:leafAtBad s docs k=false)(g:k>0):
   leafOfF (chAt s k).2.1 (docs.getD k.toNat (dflt TI)) (subL s.1 0 (chAt s k).1) (renDigF (chAt s k).2.1 (s.2.getD (IntKind.i64.wrap (k-1)).toNat (dflt TRen)))=leafAtF s docs k:=by
 unfold leafAtF beforeF;rw[if_neg (by rw[h];decide),if_pos g]
theorem la2 {s:Strand}{docs:List Int}{k:Int}(h:leafAtBad s docs k=false)(g:¬k>0):
   leafOfF (chAt s k).2.1 (docs.getD k.toNat (dflt TI)) (subL s.1 0 (chAt s k).1) 0=leafAtF s docs k:=by
 unfold leafAtF beforeF;rw[if_neg (by rw[h];decide),if_neg g]
theorem laIdx {k:Int}{n:Nat}(h:(!(inRangeF k 0 (IntKind.i64.wrap ((n:Int)-1))))=false)(hb:n≤bigLen):inRange k n:=by
 have:=rg h
 unfold bigLen at hb
 rw[w64 (by omega) (by omega)]at this
 exact⟨this.1,by omega⟩
theorem prevIdx {k:Int}{n:Nat}(h:inRange k n)(g:k>0)(hb:n≤bigLen):inRange (IntKind.i64.wrap (k-1)) n:=by
 obtain⟨h1,h2⟩:=h
 unfold bigLen at hb
 rw[w64 (by omega) (by omega)]
 exact⟨by omega,by omega⟩
theorem lastIdx {n:Nat}(g:(n:Int)>0)(hb:n≤bigLen):inRange (IntKind.i64.wrap ((n:Int)-1)) n:=by
 unfold bigLen at hb
 rw[w64 (by omega) (by omega)]
 exact⟨by omega,by omega⟩
theorem getD_mem {α:Type}{l:List α}{k:Int}(h:inRange k l.length)(d:α):l.getD k.toNat d∈l:=by
 obtain⟨h1,h2⟩:=h
 rw[List.getD_eq_getElem?_getD,List.getElem?_eq_getElem (by omega)]
 exact List.getElem_mem _
theorem subL_sm {l:List Piece}{a b:Int}(h:Sm big20 (.slice TPiece) l):Sm big20 (.slice TPiece) (subL l a b):=by
 refine⟨?_,fun x hx=>h.2 x (List.mem_of_mem_take (List.mem_of_mem_drop hx))⟩
 have:=h.1
 unfold subL
 rw[List.length_drop,List.length_take];omega
theorem lf1 {x:Item}{m:Int}(g:(x.2.2.2.2.2.length:Int)>0):
   leafOfF m (docDigF m x.2.2.1) x.2.2.2.2.1 (renDigF m (x.2.2.2.2.2.getD (IntKind.i64.wrap ((x.2.2.2.2.2.length:Int)-1)).toNat (dflt TRen)))=leafForF x m:=by
 unfold leafForF beforeF;rw[if_pos g]
theorem lf2 {x:Item}{m:Int}(g:¬(x.2.2.2.2.2.length:Int)>0):leafOfF m (docDigF m x.2.2.1) x.2.2.2.2.1 0=leafForF x m:=by
 unfold leafForF beforeF;rw[if_neg g]
noncomputable def ddF (d:Doc)(r:Renewal):Int×Bool:=(docDigF r.2.1 d,true)
noncomputable def docDigsF (s:Strand)(d:Doc):List Int:=pickF (ddF d) s.2
theorem pick_true {α β:Type}(g:α→β)(L:List α):pickF (fun x=>(g x,true)) L=L.map g:=by
 unfold pickF
 induction L with
 | nil=>rfl
 | cons x r ih=>simp
theorem pkLen2 {α β:Type}{f:α→β×Bool}{L:List α}{acc:List β}{i:Int}(h:pkInv f L acc i)(hs:L.length≤2000000):acc.length+1≤maxApp:=by
 have:=pick_len f (L.take i.toNat)
 rw[←h.2,List.length_take]at this
 unfold maxApp;omega
def withNew (s:Strand)(m:Int):Strand:=(s.1,s.2++[((s.1.length:Int),m,0,[],[])])
theorem leafEq (x:Item)(m:Int)(h:x.2.2.2.2.2.length≤1048576):
   leafAtF (withNew x.2.2.2.2 m) (docDigsF (withNew x.2.2.2.2 m) x.2.2.1) (IntKind.i64.wrap (((withNew x.2.2.2.2 m).2.length:Int)-1))=leafForF x m:=by
 have hlen:(withNew x.2.2.2.2 m).2.length=x.2.2.2.2.2.length+1:=by unfold withNew;simp
 have hk:IntKind.i64.wrap (((withNew x.2.2.2.2 m).2.length:Int)-1)=(x.2.2.2.2.2.length:Int):=by
   rw[hlen,w64 (by omega) (by omega)];omega
 have hdocs:docDigsF (withNew x.2.2.2.2 m) x.2.2.1=(withNew x.2.2.2.2 m).2.map (fun r=>docDigF r.2.1 x.2.2.1):=pick_true _ _
 have hlast:chAt (withNew x.2.2.2.2 m) (x.2.2.2.2.2.length:Int)=((x.2.2.2.2.1.length:Int),m,0,[],[]):=by
   unfold chAt withNew
   rw[List.getD_eq_getElem?_getD]
   simp
 have hd:(docDigsF (withNew x.2.2.2.2 m) x.2.2.1).getD (x.2.2.2.2.2.length) (dflt TI)=docDigF m x.2.2.1:=by
   rw[hdocs,List.getD_eq_getElem?_getD]
   unfold withNew
   simp
 have hr:∀ n:Nat,inRangeF (n:Int) 0 (n:Int)=true:=fun n=>by
   unfold inRangeF pick2
   rw[decide_eq_true (by omega:(0:Int)≤n),decide_eq_true (Int.le_refl _)];rfl
 have hbad:leafAtBad (withNew x.2.2.2.2 m) (docDigsF (withNew x.2.2.2.2 m) x.2.2.1) (x.2.2.2.2.2.length:Int)=false:=by
   unfold leafAtBad
   rw[hk,hr,hlast]
   have e1:((docDigsF (withNew x.2.2.2.2 m) x.2.2.1).length:Int)=((withNew x.2.2.2.2 m).2.length:Int):=by rw[hdocs,List.length_map]
   have e2:(withNew x.2.2.2.2 m).1.length=x.2.2.2.2.1.length:=rfl
   rw[e1,e2,hr]
   simp[pick2]
 rw[hk]
 unfold leafAtF
 rw[if_neg (by rw[hbad];decide),hlast]
 have hs:subL (withNew x.2.2.2.2 m).1 0 (x.2.2.2.2.1.length:Int)=x.2.2.2.2.1:=by
   unfold subL withNew
   simp
 have hb:beforeF m (withNew x.2.2.2.2 m).2 (x.2.2.2.2.2.length:Int)=beforeF m x.2.2.2.2.2 (x.2.2.2.2.2.length:Int):=by
   unfold beforeF
   split
   · rename_i g
     congr 1
     rw[w64 (by omega) (by omega)]
     unfold withNew
     rw[List.getD_eq_getElem?_getD,List.getD_eq_getElem?_getD,List.getElem?_append_left (by omega)]
   · rfl
 show leafOfF m ((docDigsF (withNew x.2.2.2.2 m) x.2.2.1).getD (x.2.2.2.2.2.length:Int).toNat (dflt TI)) (subL (withNew x.2.2.2.2 m).1 0 (x.2.2.2.2.1.length:Int)) (beforeF m (withNew x.2.2.2.2 m).2 (x.2.2.2.2.2.length:Int))=leafForF x m
 have e3:((x.2.2.2.2.2.length:Nat):Int).toNat=x.2.2.2.2.2.length:=by omega
 rw[e3,hd,hs,hb]
 rfl
noncomputable def lvF (m:Int)(x:Item):Int×Bool:=(leafForF x m,true)
noncomputable def leavesF (a:Archive)(m:Int):List Int:=pickF (lvF m) a.2
noncomputable def rootForF (a:Archive)(m:Int):Int:=treeF m (leavesF a m)
theorem newApp {s:Strand}(h:s.2.length≤big20):s.2.length+1≤maxApp:=by unfold big20 at h;unfold maxApp;omega
theorem newLen {s:Strand}{m:Int}(h:s.2.length≤big20):(withNew s m).2.length≤2000000:=by unfold withNew;unfold big20 at h;simp;omega
theorem newSm {s:Strand}{m:Int}(h:Sm big20 (.slice TPiece) s.1∧(s.2.length≤big20∧∀ r∈s.2,Sm big20 TRen r)):Sm big20 (.slice TPiece) (withNew s m).1∧∀ r∈(withNew s m).2,Sm big20 TRen r:=by
 refine⟨h.1,fun r hr=>?_⟩
 unfold withNew at hr
 rcases List.mem_append.1 hr with hr | hr
 · exact h.2.2 r hr
 · rw[List.mem_singleton.1 hr]
   exact⟨trivial,trivial,trivial,⟨Nat.zero_le _,fun x hx=>by simp at hx⟩,⟨Nat.zero_le _,fun x hx=>by simp at hx⟩⟩
theorem pkYesV {α β:Type}{f:α→β×Bool}{L:List α}{acc:List β}{d:α}{i:Int}{v:β}(h:pkInv f L acc i)(hl:i<L.length)(hb:L.length≤bigLen)(g:(f (L.getD i.toNat d)).2=true)
   (e:v=(f (L.getD i.toNat d)).1):pkInv f L (acc++[v]) (IntKind.i64.wrap (i+1))∧(L.length-(IntKind.i64.wrap (i+1))).toNat<(L.length-i).toNat:=by
 rw[e];exact pkYes h hl hb g
end Fw
namespace Fw
open Go
end Fw
namespace Fw
open Go
def itAt (a:Archive)(n:Int):Int:=findI (fun(x:Item)=>x.1==n) a.2
abbrev TDoc:Ty:=.pair TI (.pair (.slice .str) (.slice TI))
noncomputable def addPieceF (s:Strand)(p:Piece):Strand×Bool:=if strandF (s.1++[p],s.2)=true then((s.1++[p],s.2),true)else(s,false)
theorem ap0 {s:Strand}{p:Piece}(h:(!(strandF (s.1++[p],s.2)))=true):addPieceF s p=(s,false):=by
 unfold addPieceF;rw[if_neg (by intro e;rw[e]at h;cases h)]
theorem ap1 {s:Strand}{p:Piece}(h:(!(strandF (s.1++[p],s.2)))=false):addPieceF s p=((s.1++[p],s.2),true):=by
 unfold addPieceF;rw[if_pos (by simpa using h)]
theorem apLen {l:List Piece}(h:l.length≤big20):l.length+1≤maxApp:=by unfold big20 at h;unfold maxApp;omega
end Fw
namespace Fw
open Go
abbrev TSign:Ty:=.pair TI (.pair TI (.pair TI (.pair TI (.pair TI (.pair TI (.pair TI (.pair TI TI)))))))
abbrev TItem:Ty:=.pair TI (.pair TI (.pair TDoc (.pair TSign (.pair (.slice TPiece) (.slice TRen)))))
end Fw
namespace Fw
open Go
def setStrand (x:Item)(s:Strand):Item:=(x.1,x.2.1,x.2.2.1,x.2.2.2.1,s)
end Fw
namespace Fw
open Go
theorem appMore {α:Type}{l:List α}(h:l.length≤4000000):0+l.length≤maxApp:=by unfold maxApp;omega
abbrev TStrand:Ty:=.pair (.slice TPiece) (.slice TRen)
end Fw
namespace Fw
open Go
end Fw
namespace Fw
open Go
end Fw
namespace Fw
open Go
end Fw
namespace Fw
open Go
end Fw
namespace Fw
open Go
end Fw
namespace Fw
open Go
section
variable {α:Type} {p:α→Bool} {l:List α} {i:Int} {d x:α}
def insP (p:α→Bool)(x:α)(l:List α):List α:=l.takeWhile p++x::l.dropWhile p
theorem insP_len:(insP p x l).length=l.length+1:=by
 have e:=congrArg List.length (List.takeWhile_append_dropWhile (p:=p) (l:=l))
 rw[List.length_append]at e
 unfold insP;rw[List.length_append,List.length_cons];omega
theorem insP_mem {y:α}(h:y∈insP p x l):y=x∨y∈l:=by
 unfold insP at h
 rcases List.mem_append.1 h with h | h
 · exact .inr (List.takeWhile_subset p h)
 · rcases List.mem_cons.1 h with h | h
   · exact .inl h
   · exact .inr ((List.dropWhile_suffix p).subset h)
end
def insI (x:Item)(l:List Item):List Item:=insP (fun y=>decide (y.1<x.1)) x l
def spF (x:Item)(acc:List Item×Bool)(y:Item):List Item×Bool:=if acc.2=false∧x.1<y.1 then(acc.1++[x]++[y],true)else(acc.1++[y],acc.2)
theorem sp_done (x:Item):∀ (l acc:List Item),l.foldl (spF x) (acc,true)=(acc++l,true)
 | [],acc=>by simp
 | y::l,acc=>by
   show l.foldl (spF x) (spF x (acc,true) y)=_
   have:spF x (acc,true) y=(acc++[y],true):=by simp[spF]
   rw[this,sp_done x l];simp
theorem sp_run (x:Item):∀ (l acc:List Item),(∀ y∈l,y.1≠x.1)→
   ((l.foldl (spF x) (acc,false)).2=true∧(l.foldl (spF x) (acc,false)).1=acc++insI x l)∨((l.foldl (spF x) (acc,false)).2=false∧(l.foldl (spF x) (acc,false)).1++[x]=acc++insI x l)
 | [],acc,_=>.inr ⟨rfl,by simp[insI,insP]⟩
 | y::l,acc,h=>by
   show ((l.foldl (spF x) (spF x (acc,false) y)).2=true∧_)∨((l.foldl (spF x) (spF x (acc,false) y)).2=false∧_)
   by_cases hc:x.1<y.1
   · have e:spF x (acc,false) y=(acc++[x]++[y],true):=by simp[spF,hc]
     left
     rw[List.foldl_cons,e,sp_done]
     refine⟨rfl,?_⟩
     have:¬y.1<x.1:=by omega
     simp[insI,insP,this]
   · have e:spF x (acc,false) y=(acc++[y],false):=by simp[spF,hc]
     have hlt:y.1<x.1:=by have:=h y (by simp);omega
     have hi:insI x (y::l)=y::insI x l:=by simp[insI,insP,hlt]
     rw[List.foldl_cons,e,hi]
     rcases sp_run x l (acc++[y]) (fun z hz=>h z (by simp[hz]))with⟨h1,h2⟩ | ⟨h1,h2⟩
     · exact .inl ⟨h1,by rw[h2];simp⟩
     · exact .inr ⟨h1,by rw[h2];simp⟩
theorem sp_len (x:Item):∀ (l:List Item) (acc:List Item×Bool),(l.foldl (spF x) acc).1.length≤acc.1.length+l.length+(if acc.2=true then 0 else 1)
 | [],acc=>by simp
 | y::l,acc=>by
   have ih:=sp_len x l (spF x acc y)
   show (l.foldl (spF x) (spF x acc y)).1.length≤_
   obtain⟨al,ab⟩:=acc
   cases ab with
   | true=>
     have e:spF x (al,true) y=(al++[y],true):=by simp[spF]
     rw[e]at ih ⊢
     simp at ih ⊢;omega
   | false=>
     by_cases hc:x.1<y.1
     · have e:spF x (al,false) y=(al++[x]++[y],true):=by simp[spF,hc]
       rw[e]at ih ⊢
       simp at ih ⊢;omega
     · have e:spF x (al,false) y=(al++[y],false):=by simp[spF,hc]
       rw[e]at ih ⊢
       simp at ih ⊢;omega
theorem findI_none {α:Type}{p:α→Bool}{l:List α}(h:¬findI p l≥0):∀ y∈l,p y=false:=by
 unfold findI at h
 split at h
 · rename_i k hk;exact(h (by omega)).elim
 · rename_i hk;rw[List.findIdx?_eq_none_iff]at hk;exact hk
noncomputable def addItemF (a:Archive)(x:Item):Archive×Bool:=
 if (archF a=true∧¬itAt a x.1≥0)∧archF (a.1,insI x a.2)=true then((a.1,insI x a.2),true)else(a,false)
theorem aiGoS {a:Archive}{x:Item}(h:pick2 (!(archF a)) true (decide (itAt a x.1≥0))=false):archF a=true∧¬itAt a x.1≥0:=by
 have:=orF h
 exact⟨notF this.1,of_decide_eq_false this.2⟩
theorem ai0s {a:Archive}{x:Item}(h:pick2 (!(archF a)) true (decide (itAt a x.1≥0))=true):addItemF a x=(a,false):=by
 unfold addItemF
 rw[if_neg]
 rintro⟨⟨h1,h2⟩,_⟩
 rw[decide_eq_false h2,h1]at h;cases h
theorem ai1 {a:Archive}{x:Item}(h:(!(archF (a.1,insI x a.2)))=true):addItemF a x=(a,false):=by
 unfold addItemF
 rw[if_neg]
 rintro⟨_,h3⟩
 rw[h3]at h;cases h
theorem ai2 {a:Archive}{x:Item}(g:archF a=true∧¬itAt a x.1≥0)(h:(!(archF (a.1,insI x a.2)))=false):addItemF a x=((a.1,insI x a.2),true):=by
 unfold addItemF
 rw[if_pos ⟨g,notF h⟩]
def aiInv (a:Archive)(x:Item)(o:Archive)(b:Bool)(i:Int):Prop:=o.1=a.1∧foInv (spF x) ([],false) a.2 (o.2,b) i
theorem aiStart {a:Archive}{x:Item}:aiInv a x (a.1,[]) false 0:=⟨rfl,foStart⟩
theorem aiLen {a o:Archive}{x:Item}{b:Bool}{i:Int}(h:aiInv a x o b i)(_:i≤(a.2.length:Int))(hs:a.2.length≤1048576):o.2.length≤1048577:=by
 have e:o.2=((a.2.take i.toNat).foldl (spF x) ([],false)).1:=congrArg Prod.fst h.2.2
 have:=sp_len x (a.2.take i.toNat) ([],false)
 rw[e]
 simp only[List.length_take,List.length_nil]at this
 have h2:(if (false:Bool)=true then 0 else 1)=1:=rfl
 rw[h2]at this
 omega
theorem aiNo {a o o':Archive}{x:Item}{b b':Bool}{i:Int}(h:aiInv a x o b i)(hl:i<(a.2.length:Int))(hb:a.2.length≤bigLen)(g:pick2 (!b) (decide (x.1<(a.2.getD i.toNat (dflt TItem)).1)) false=false)
   (e:o'=(o.1,o.2++[a.2.getD i.toNat (dflt TItem)])) (eb:b'=b):
   aiInv a x o' b' (IntKind.i64.wrap (i+1))∧((a.2.length:Int)-IntKind.i64.wrap (i+1)).toNat<((a.2.length:Int)-i).toNat:=by
 have s:=foStep (d:=dflt TItem) h.2 hl hb
 have e2:spF x (o.2,b) (a.2.getD i.toNat (dflt TItem))=(o.2++[a.2.getD i.toNat (dflt TItem)],b):=by
   unfold spF
   rw[if_neg]
   rintro⟨h1,h2⟩
   have h1:b=false:=h1
   rw[h1,decide_eq_true h2]at g;cases g
 subst e;subst eb
 rw[e2]at s
 exact⟨⟨h.1,s.1⟩,s.2⟩
theorem aiYes {a o o':Archive}{x:Item}{b b':Bool}{i:Int}(h:aiInv a x o b i)(hl:i<(a.2.length:Int))(hb:a.2.length≤bigLen)(g:pick2 (!b) (decide (x.1<(a.2.getD i.toNat (dflt TItem)).1)) false=true)
   (e:o'=(o.1,o.2++[x]++[a.2.getD i.toNat (dflt TItem)])) (eb:b'=true):
   aiInv a x o' b' (IntKind.i64.wrap (i+1))∧((a.2.length:Int)-IntKind.i64.wrap (i+1)).toNat<((a.2.length:Int)-i).toNat:=by
 have s:=foStep (d:=dflt TItem) h.2 hl hb
 have e2:spF x (o.2,b) (a.2.getD i.toNat (dflt TItem))=(o.2++[x]++[a.2.getD i.toNat (dflt TItem)],true):=by
   unfold spF
   rw[if_pos ⟨by have:=(andT g).1;simpa using this,of_decide_eq_true (andT g).2⟩]
 subst e;subst eb
 rw[e2]at s
 exact⟨⟨h.1,s.1⟩,s.2⟩
theorem aiEnd {a o:Archive}{x:Item}{b:Bool}{i:Int}(h:aiInv a x o b i)(hl:¬i<(a.2.length:Int))(g:archF a=true∧¬itAt a x.1≥0):
   (b=true→o=(a.1,insI x a.2))∧(b=false→(o.1,o.2++[x])=(a.1,insI x a.2)):=by
 have e:=foEnd h.2 hl
 have hne:∀ y∈a.2,y.1≠x.1:=fun y hy he=>by
   have:=findI_none g.2 y hy
   simp[he]at this
 have r:=sp_run x a.2 [] hne
 rw[←e]at r
 simp only[List.nil_append]at r
 rcases r with⟨r1,r2⟩ | ⟨r1,r2⟩
 · have r1:b=true:=r1
   exact⟨fun _=>Prod.ext h.1 r2,fun hb=>by rw[r1]at hb;exact absurd hb (by decide)⟩
 · have r1:b=false:=r1
   exact⟨fun hb=>by rw[r1]at hb;exact absurd hb (by decide),fun _=>Prod.ext h.1 r2⟩
theorem upLe {α:Type}{a:List α}{i:Int}(h:upInv a i):i≤(a.length:Int):=by obtain⟨k,hk,rfl⟩:=h;omega
theorem aiApp {α:Type}{l:List α}(h:l.length≤1048577):l.length+1≤maxApp:=by unfold maxApp;omega
theorem aiApp2 {α:Type}{x:α}{l:List α}(h:l.length≤1048577):(l++[x]).length+1≤maxApp:=by unfold maxApp;simp;omega
end Fw
namespace Fw
open Go
end Fw
namespace Fw
open Go
abbrev Red:=Int×List Int×List Bool×List (List UInt8)×List Int×List (List Int)
end Fw
namespace Fw
open Go
abbrev TArch:Ty:=.pair TI (.slice TItem)
theorem archLen {a:Archive}(h:archF a=true):a.2.length≤8:=by
 have:=(boolC_iff.1 h).2.2;omega
noncomputable def acStep (acc:Archive×Bool)(x:Item):Archive×Bool:=if acc.2=true then addItemF acc.1 x else acc
theorem st_stuck {α β:Type}{f:α×Bool→β→α×Bool}(hf:∀ a x,f (a,false) x=(a,false)):∀ (l:List β) (a:α),l.foldl f (a,false)=(a,false)
 | [],_=>rfl
 | x::l,a=>by rw[List.foldl_cons,hf,st_stuck hf l a]
theorem ac_stuck (a:Archive)(x:Item):acStep (a,false) x=(a,false):=rfl
end Fw
namespace Fw
open Go
end Fw
namespace Fw
open Go
theorem upF_half (m:Int):∀ l:List Int,(upF m l).length=(l.length+1) / 2
 | []=>rfl
 | [a]=>by simp[upF]
 | a::b::r=>by
   have:=upF_half m r
   simp only[upF,List.length_cons,this]
   omega
abbrev Step1:=Int×Bool
def stepF (l:List Int)(i:Int):List Step1:=if i.tmod 2=1 then [(l.getD (i-1).toNat (dflt TI),true)]else if i+1<(l.length:Int)then [(l.getD (i+1).toNat (dflt TI),false)]else []
noncomputable def pathL (m:Int)(l:List Int)(i:Int):List Step1:=if _h:2≤l.length then stepF l i++pathL m (upF m l) (i.tdiv 2)else []
termination_by l.length
decreasing_by exact(upF_len m l).2.1 _h
noncomputable def pathF (m:Int)(l:List Int)(i:Int):List Step1:=if 0≤i∧i<(l.length:Int)∧l.length≤16 then pathL m l i else []
def ptInv (m:Int)(l0:List Int)(i0:Int)(l:List Int)(i:Int)(out:List Step1):Prop:=out++pathL m l i=pathL m l0 i0∧0≤i∧i<(l.length:Int)∧l.length≤16∧out.length+l.length≤16
theorem ptBadI {l:List Int}{i:Int}(hb:l.length≤bigLen)(h:(!(inRangeF i 0 (IntKind.i64.wrap ((l.length:Int)-1))))=true):¬(0≤i∧i<(l.length:Int)):=by
 rintro⟨h1,h2⟩
 have e:IntKind.i64.wrap ((l.length:Int)-1)=(l.length:Int)-1:=w64 (by omega) (by unfold bigLen at hb;omega)
 rw[e]at h
 have:inRangeF i 0 ((l.length:Int)-1)=true:=by
   unfold inRangeF pick2
   rw[decide_eq_true h1,decide_eq_true (show i≤(l.length:Int)-1 by omega)];rfl
 rw[this]at h;cases h
theorem ptGoodI {l:List Int}{i:Int}(hb:l.length≤bigLen)(h:(!(inRangeF i 0 (IntKind.i64.wrap ((l.length:Int)-1))))=false):0≤i∧i<(l.length:Int):=by
 have e:IntKind.i64.wrap ((l.length:Int)-1)=(l.length:Int)-1:=w64 (by omega) (by unfold bigLen at hb;omega)
 rw[e]at h
 have:=rg h
 omega
theorem pt0i {m i:Int}{l:List Int}(hb:l.length≤bigLen)(h:pick2 (!(inRangeF i 0 (IntKind.i64.wrap ((l.length:Int)-1)))) true (decide ((l.length:Int)>16))=true):([]:List Step1)=pathF m l i:=by
 unfold pathF
 rw[if_neg]
 rintro⟨h1,h2,h3⟩
 cases hc:(!(inRangeF i 0 (IntKind.i64.wrap ((l.length:Int)-1))))with
 | true=>exact ptBadI hb hc ⟨h1,h2⟩
 | false=>rw[hc,decide_eq_false (by omega)]at h;cases h
theorem pt0s {m i:Int}{l:List Int}(hb:l.length≤bigLen)(h:pick2 (decide ((l.length:Int)>16)) true (!(inRangeF i 0 (IntKind.i64.wrap ((l.length:Int)-1))))=true):([]:List Step1)=pathF m l i:=by
 unfold pathF
 rw[if_neg]
 rintro⟨h1,h2,h3⟩
 rw[decide_eq_false (by omega)]at h
 exact ptBadI hb h ⟨h1,h2⟩
theorem ptGoi {i:Int}{l:List Int}(hb:l.length≤bigLen)(h:pick2 (!(inRangeF i 0 (IntKind.i64.wrap ((l.length:Int)-1)))) true (decide ((l.length:Int)>16))=false):0≤i∧i<(l.length:Int)∧l.length≤16:=by
 have h1:=ptGoodI hb (orF h).1
 have h2:=of_decide_eq_false (orF h).2
 exact⟨h1.1,h1.2,by omega⟩
theorem ptGos {i:Int}{l:List Int}(hb:l.length≤bigLen)(h:pick2 (decide ((l.length:Int)>16)) true (!(inRangeF i 0 (IntKind.i64.wrap ((l.length:Int)-1))))=false):0≤i∧i<(l.length:Int)∧l.length≤16:=by
 have h1:=ptGoodI hb (orF h).2
 have h2:=of_decide_eq_false (orF h).1
 exact⟨h1.1,h1.2,by omega⟩
theorem ptStart {m i:Int}{l:List Int}(h:0≤i∧i<(l.length:Int)∧l.length≤16):ptInv m l i l i []:=⟨rfl,h.1,h.2.1,h.2.2,by simpa using h.2.2⟩
theorem ptNext {m i0 i:Int}{l0 l:List Int}{out out':List Step1}(h:ptInv m l0 i0 l i out)(g:(l.length:Int)>1)(e:out'=out++stepF l i)(hs:(stepF l i).length≤1):
   ptInv m l0 i0 (upF m l) (IntKind.i64.wrap (i.tdiv 2)) out'∧(upF m l).length<l.length:=by
 obtain⟨h1,h2,h3,h4,h5⟩:=h
 have hh:=upF_half m l
 have h2l:2≤l.length:=by omega
 have ed:i.tdiv 2=i / 2:=Int.tdiv_eq_ediv_of_nonneg h2
 have e0:IntKind.i64.wrap (i.tdiv 2)=i.tdiv 2:=w64 (by omega) (by omega)
 refine⟨⟨?_,?_,?_,by omega,?_⟩,by omega⟩
 · rw[e0,e,List.append_assoc,←h1]
   congr 1
   conv=>rhs;rw[pathL,dif_pos h2l]
 · rw[e0];omega
 · rw[e0,hh];omega
 · rw[e,List.length_append];omega
theorem ptOdd {l:List Int}{i:Int}(h:0≤i)(h3:i<(l.length:Int))(h16:l.length≤16)(g:(i.tmod 2==1)=true):stepF l i=[(l.getD (IntKind.i64.wrap (i-1)).toNat (dflt TI),true)]∧inRange (IntKind.i64.wrap (i-1)) l.length:=by
 have g:i.tmod 2=1:=by simpa using g
 have e:IntKind.i64.wrap (i-1)=i-1:=w64 (by omega) (by omega)
 have h1:1≤i:=by
   by_cases q:i<1
   · have:i=0:=by omega
     subst this;simp at g
   · omega
 rw[e]
 refine⟨by unfold stepF;rw[if_pos g],by omega,by omega⟩
theorem ptEven {l:List Int}{i:Int}(h:0≤i)(h3:i<(l.length:Int))(h16:l.length≤16)(g:(i.tmod 2==1)=false)(g2:IntKind.i64.wrap (i+1)<(l.length:Int)):stepF l i=[(l.getD (IntKind.i64.wrap (i+1)).toNat (dflt TI),false)]∧inRange (IntKind.i64.wrap (i+1)) l.length:=by
 have g:¬i.tmod 2=1:=by simpa using g
 have e:IntKind.i64.wrap (i+1)=i+1:=w64 (by omega) (by omega)
 rw[e]at g2 ⊢
 refine⟨by unfold stepF;rw[if_neg g,if_pos g2],by omega,g2⟩
theorem ptLast {l:List Int}{i:Int}(h:0≤i)(h3:i<(l.length:Int))(h16:l.length≤16)(g:(i.tmod 2==1)=false)(g2:¬IntKind.i64.wrap (i+1)<(l.length:Int)):stepF l i=[]:=by
 have g:¬i.tmod 2=1:=by simpa using g
 have e:IntKind.i64.wrap (i+1)=i+1:=w64 (by omega) (by omega)
 rw[e]at g2
 unfold stepF;rw[if_neg g,if_neg g2]
theorem ptA {m i0 i:Int}{l0 l:List Int}{out:List Step1}(h:ptInv m l0 i0 l i out)(g:(l.length:Int)>1)(g2:(i.tmod 2==1)=true):
   ptInv m l0 i0 (upF m l) (IntKind.i64.wrap (i.tdiv 2)) (out++[(l.getD (IntKind.i64.wrap (i-1)).toNat (dflt TI),true)])∧(upF m l).length<l.length:=by
 have e:=(ptOdd h.2.1 h.2.2.1 h.2.2.2.1 g2).1
 exact ptNext h g (by rw[e]) (by rw[e];simp)
theorem ptB {m i0 i:Int}{l0 l:List Int}{out:List Step1}(h:ptInv m l0 i0 l i out)(g:(l.length:Int)>1)(g2:(i.tmod 2==1)=false)(g3:IntKind.i64.wrap (i+1)<(l.length:Int)):
   ptInv m l0 i0 (upF m l) (IntKind.i64.wrap (i.tdiv 2)) (out++[(l.getD (IntKind.i64.wrap (i+1)).toNat (dflt TI),false)])∧(upF m l).length<l.length:=by
 have e:=(ptEven h.2.1 h.2.2.1 h.2.2.2.1 g2 g3).1
 exact ptNext h g (by rw[e]) (by rw[e];simp)
theorem ptC {m i0 i:Int}{l0 l:List Int}{out:List Step1}(h:ptInv m l0 i0 l i out)(g:(l.length:Int)>1)(g2:(i.tmod 2==1)=false)(g3:¬IntKind.i64.wrap (i+1)<(l.length:Int)):
   ptInv m l0 i0 (upF m l) (IntKind.i64.wrap (i.tdiv 2)) out∧(upF m l).length<l.length:=by
 have e:=ptLast h.2.1 h.2.2.1 h.2.2.2.1 g2 g3
 exact ptNext h g (by rw[e,List.append_nil]) (by rw[e];simp)
theorem ptLen {m i0 i:Int}{l0 l:List Int}{out:List Step1}(h:ptInv m l0 i0 l i out):out.length+1≤maxApp:=by
 have:=h.2.2.2.2;unfold maxApp;omega
theorem ptSm {m i0 i:Int}{l0 l:List Int}{out:List Step1}(h:ptInv m l0 i0 l i out):l.length≤1048576:=by have:=h.2.2.2.1;omega
theorem ptEnd {m i0 i:Int}{l0 l:List Int}{out:List Step1}(h:ptInv m l0 i0 l i out)(g:¬(l.length:Int)>1)(g0:0≤i0∧i0<(l0.length:Int)∧l0.length≤16):out=pathF m l0 i0:=by
 have e:=h.1
 rw[pathL,dif_neg (by omega),List.append_nil]at e
 unfold pathF
 rw[if_pos g0,e]
theorem stepF_len (l:List Int)(i:Int):(stepF l i).length≤1:=by
 unfold stepF
 split
 · exact Nat.le_refl _
 · split
   · exact Nat.le_refl _
   · exact Nat.zero_le _
theorem pathL_len (m:Int):∀ (n:Nat) (l:List Int) (i:Int),l.length≤n→(pathL m l i).length≤n
 | 0,l,i,h=>by rw[pathL,dif_neg (by omega)];exact Nat.le_refl _
 | n+1,l,i,h=>by
   rw[pathL]
   split
   · rename_i h2
     have:=pathL_len m n (upF m l) (i.tdiv 2) (by have:=(upF_len m l).2.1 h2;omega)
     have:=stepF_len l i
     rw[List.length_append];omega
   · exact Nat.zero_le _
theorem pathF_len (m:Int)(l:List Int)(i:Int):(pathF m l i).length≤16:=by
 unfold pathF
 split
 · rename_i h;exact pathL_len m 16 l i h.2.2
 · exact Nat.zero_le _
noncomputable def addRenF (s:Strand)(r:Renewal):Strand×Bool:=if strandF (s.1,s.2++[r])=true then((s.1,s.2++[r]),true)else(s,false)
theorem ar0 {s:Strand}{r:Renewal}(h:(!(strandF (s.1,s.2++[r])))=true):addRenF s r=(s,false):=by
 unfold addRenF;rw[if_neg (by intro e;rw[e]at h;cases h)]
theorem ar1 {s:Strand}{r:Renewal}(h:(!(strandF (s.1,s.2++[r])))=false):addRenF s r=((s.1,s.2++[r]),true):=by
 unfold addRenF;rw[if_pos (by simpa using h)]
theorem arLen {l:List Renewal}(h:l.length≤big20):l.length+1≤maxApp:=by unfold big20 at h;unfold maxApp;omega
def itK (a:Archive)(k:Nat):Item:=a.2.getD k (dflt TItem)
noncomputable def renFor (a:Archive)(m:Int)(st:List Stamp)(k:Nat):Renewal:=(((itK a k).2.2.2.2.1.length:Int),m,rootForF a m,pathF m (leavesF a m) (k:Int),st)
noncomputable def sealAt (a:Archive)(m:Int)(st:List Stamp)(k:Nat):Strand×Bool:=addRenF (itK a k).2.2.2.2 (renFor a m st k)
noncomputable def slOut (a:Archive)(m:Int)(st:List Stamp)(n:Nat):List Item:=(List.range n).map (fun k=>setStrand (itK a k) (sealAt a m st k).1)++a.2.drop n
noncomputable def sealP (a:Archive)(m:Int)(st:List Stamp):Bool:=boolC (archF a=true∧a.2≠[]∧(∀ k,k<a.2.length→(sealAt a m st k).2=true)∧archF (a.1,slOut a m st a.2.length)=true)
noncomputable def sealF (a:Archive)(m:Int)(st:List Stamp):Archive×Bool:=if sealP a m st=true then((a.1,slOut a m st a.2.length),true)else(a,false)
theorem slNo {a:Archive}{m:Int}{st:List Stamp}(h:¬(archF a=true∧a.2≠[]∧(∀ k,k<a.2.length→(sealAt a m st k).2=true)∧archF (a.1,slOut a m st a.2.length)=true)):sealF a m st=(a,false):=by
 unfold sealF;rw[if_neg];intro e;exact h (boolC_iff.1 e)
theorem slYes {a:Archive}{m:Int}{st:List Stamp}(h:archF a=true∧a.2≠[]∧(∀ k,k<a.2.length→(sealAt a m st k).2=true)∧archF (a.1,slOut a m st a.2.length)=true):sealF a m st=((a.1,slOut a m st a.2.length),true):=by
 unfold sealF;rw[if_pos (show sealP a m st=true from boolC_iff.2 h)]
def slInv (a:Archive)(m:Int)(st:List Stamp)(o:Archive)(i:Int):Prop:=upInv a.2 i∧o=(a.1,slOut a m st i.toNat)∧∀ k,k<i.toNat→(sealAt a m st k).2=true
theorem slStart {a:Archive}{m:Int}{st:List Stamp}:slInv a m st a 0:=⟨upStart,by simp[slOut],fun k hk=>by simp at hk⟩
theorem slLen {a:Archive}{m:Int}{st:List Stamp}{n:Nat}(h:n≤a.2.length):(slOut a m st n).length=a.2.length:=by
 unfold slOut;rw[List.length_append,List.length_map,List.length_range,List.length_drop];omega
theorem slRange {a o:Archive}{m i:Int}{st:List Stamp}(h:slInv a m st o i)(hl:i<(a.2.length:Int)):inRange i o.2.length:=by
 obtain⟨⟨k,hk,rfl⟩,h2,_⟩:=h
 have:o.2.length=a.2.length:=by rw[h2];exact slLen (by omega)
 exact⟨by omega,by omega⟩
theorem slRen {a:Archive}{m i:Int}{st:List Stamp}(h:upInv a.2 i):renFor a m st i.toNat=(((itK a i.toNat).2.2.2.2.1.length:Int),m,rootForF a m,pathF m (leavesF a m) i,st):=by
 obtain⟨k,hk,rfl⟩:=h
 rfl
theorem slAt {a:Archive}{m i:Int}{st:List Stamp}(h:upInv a.2 i):sealAt a m st i.toNat=addRenF (itK a i.toNat).2.2.2.2 (((itK a i.toNat).2.2.2.2.1.length:Int),m,rootForF a m,pathF m (leavesF a m) i,st):=by
 unfold sealAt;rw[slRen h]
theorem slSet {a:Archive}{m:Int}{st:List Stamp}{n:Nat}(h:n<a.2.length):(slOut a m st n).getD n (dflt TItem)=itK a n∧∀ y,(slOut a m st n).set n y=(List.range n).map (fun k=>setStrand (itK a k) (sealAt a m st k).1)++y::a.2.drop (n+1):=by
 have hl:((List.range n).map (fun k=>setStrand (itK a k) (sealAt a m st k).1)).length=n:=by rw[List.length_map,List.length_range]
 have e:slOut a m st n=(List.range n).map (fun k=>setStrand (itK a k) (sealAt a m st k).1)++a.2[n]::a.2.drop (n+1):=by
   unfold slOut;rw[List.drop_eq_getElem_cons h]
 refine⟨?_,fun y=>?_⟩
 · rw[e,List.getD_eq_getElem?_getD,List.getElem?_append_right (by omega),hl,Nat.sub_self]
   unfold itK
   rw[List.getD_eq_getElem?_getD,List.getElem?_eq_getElem h];rfl
 · rw[e,List.set_append_right _ _ (by omega),hl,Nat.sub_self];rfl
theorem slNext {a o o':Archive}{m i:Int}{st:List Stamp}{s:Strand}(h:slInv a m st o i)(hl:i<(a.2.length:Int))(hb:a.2.length≤bigLen)(hs:s=(sealAt a m st i.toNat).1)(ho:(sealAt a m st i.toNat).2=true)
   (e:o'=(o.1,o.2.set i.toNat (setStrand (o.2.getD i.toNat (dflt TItem)) s))):
   slInv a m st o' (IntKind.i64.wrap (i+1))∧((a.2.length:Int)-IntKind.i64.wrap (i+1)).toNat<((a.2.length:Int)-i).toNat:=by
 obtain⟨h1,h2,h3⟩:=h
 obtain⟨u1,u2,u3⟩:=upStep h1 hl hb
 have hi:i.toNat<a.2.length:=by obtain⟨k,hk,e⟩:=h1;omega
 have e0:(IntKind.i64.wrap (i+1)).toNat=i.toNat+1:=by rw[u2];obtain⟨k,hk,e⟩:=h1;omega
 obtain⟨s1,s2⟩:=slSet (m:=m) (st:=st) hi
 refine⟨⟨u1,?_,fun k hk=>?_⟩,u3⟩
 · rw[e,h2,e0]
   show (a.1,(slOut a m st i.toNat).set i.toNat (setStrand ((slOut a m st i.toNat).getD i.toNat (dflt TItem)) s))=_
   rw[s1,s2,hs]
   unfold slOut
   rw[List.range_succ,List.map_append,List.append_assoc];rfl
 · rw[e0]at hk
   by_cases hk2:k<i.toNat
   · exact h3 k hk2
   · have:k=i.toNat:=by omega
     rw[this];exact ho
theorem slCond {a:Archive}(h:pick2 ((a.2.length:Int)==0) true (!(archF a))=false):archF a=true∧a.2≠[]:=by
 have q:=orF h
 refine⟨notF q.2,fun e=>?_⟩
 have:=q.1
 rw[e]at this;cases this
theorem sl0 {a:Archive}{m:Int}{st:List Stamp}(h:pick2 ((a.2.length:Int)==0) true (!(archF a))=true):sealF a m st=(a,false):=by
 refine slNo ?_
 rintro⟨h1,h2,_⟩
 rw[h1]at h
 have:((a.2.length:Int)==0)=false:=by
   rw[beq_eq_false_iff_ne]
   intro e
   exact h2 (List.length_eq_zero_iff.1 (by omega))
 rw[this]at h;cases h
theorem slStop {a o:Archive}{m i:Int}{st:List Stamp}(h:slInv a m st o i)(hl:i<(a.2.length:Int))(g:(!(sealAt a m st i.toNat).2)=true):sealF a m st=(a,false):=by
 refine slNo ?_
 rintro⟨_,_,h3,_⟩
 have:=h3 i.toNat (by obtain⟨k,hk,e⟩:=h.1;omega)
 rw[this]at g;cases g
theorem slBad {a o:Archive}{m i:Int}{st:List Stamp}(h:slInv a m st o i)(hl:¬i<(a.2.length:Int))(g:(!(archF o))=true):sealF a m st=(a,false):=by
 refine slNo ?_
 rintro⟨_,_,_,h4⟩
 have e:=h.2.1
 rw[up_end h.1 hl]at e
 rw[e,h4]at g;cases g
theorem slDone {a o:Archive}{m i:Int}{st:List Stamp}(h:slInv a m st o i)(hl:¬i<(a.2.length:Int))(g0:archF a=true∧a.2≠[])(g:(!(archF o))=false):sealF a m st=(o,true):=by
 have e:=h.2.1
 have h3:=h.2.2
 rw[up_end h.1 hl]at e h3
 have g:=notF g
 rw[e]at g ⊢
 exact slYes ⟨g0.1,g0.2,h3,g⟩
theorem renSm {a:Archive}{m:Int}{st:List Stamp}(k:Nat)(i:Int)(hst:Sm big20 (.slice TStamp) st):Sm big20 TRen (((itK a k).2.2.2.2.1.length:Int),m,rootForF a m,pathF m (leavesF a m) i,st):=
 ⟨trivial,trivial,trivial,⟨Nat.le_trans (pathF_len _ _ _) (by decide),fun _ _=>⟨trivial,trivial⟩⟩,hst⟩
theorem itKSm {a:Archive}{i:Int}(ha:Sm big20 TArch a)(h:upInv a.2 i)(hl:i<(a.2.length:Int)):Sm big20 TItem (itK a i.toNat):=ha.2.2 _ (upElem h hl)
end Fw
namespace Fw
open Go
section
variable {con:Stamp→Stamp→Bool} {st:List Stamp}
end
end Fw
namespace Fw
open Go
abbrev Span:=Int×Int
end Fw
namespace Fw
open Go
noncomputable def flStep (m x:Int)(s:Step1):Int:=if s.2=true then pairDF m s.1 x else pairDF m x s.1
theorem flL {m x:Int}{s:Step1}(h:s.2=true):flStep m x s=pairDF m s.1 x:=if_pos h
theorem flR {m x:Int}{s:Step1}(h:s.2=false):flStep m x s=pairDF m x s.1:=if_neg (by rw[h];decide)
noncomputable def followF (m leaf:Int)(path:List Step1):Int:=path.foldl (flStep m) leaf
abbrev Evidence:=List Strand×List (List Stamp)
end Fw
namespace Fw
open Go
open Classical in
def pieces (l:List Strand):Nat:=cellsL (fun s=>s.1.length) l
end Fw
namespace Fw
open Go
section
variable {α:Type} {p:α→Bool} {l:List α} {i:Int} {d x:α}
end
def stampPieceF (key:Int)(s:Stamp):Piece:=(key,stampIntsF s,s.2.2.2.2)
end Fw
namespace Fw
open Go
theorem foStepE {α β:Type}{f:β→α→β}{z:β}{a:List α}{acc acc':β}{d:α}{i:Int}(h:foInv f z a acc i)(hl:i<a.length)(hb:a.length≤bigLen)(e:acc'=f acc (a.getD i.toNat d)):
   foInv f z a acc' (IntKind.i64.wrap (i+1))∧(a.length-(IntKind.i64.wrap (i+1))).toNat<(a.length-i).toNat:=by
 rw[e];exact foStep h hl hb
end Fw
namespace Fw
open Go
end Fw
namespace Fw
open Go
end Fw
namespace Fw
open Go
end Fw
namespace Fw
open Go
end Fw
namespace Fw
open Go
theorem notT' {a:Bool}(h:(!a)=true):a=false:=by simpa using h
end Fw
namespace Fw
open Go
section
variable {α:Type} {g:α→Bool} {f:α→Int} {d:α} {l:List α} {i m:Int}
end
def validKeyF (n:Int):Bool:=inRangeF n 1 2147483646
def isSigF (x:Sig):Bool:=
 pick2 (pick2 (pick2 (pick2 (pick2 (pick2 (pick2 (inRangeF x.1 1 99) (inRangeF x.2.1 1 999) false) (inRangeF x.2.2.1 0 99) false) (inRangeF x.2.2.2.2.2.1 0 99) false) (inRangeF x.2.2.2.2.1 1 3) false)
   (inRangeF x.2.2.2.1 0 1000000000000) false) (inRangeF x.2.2.2.2.2.2.1 0 1000000000000) false) (inRangeF x.2.2.2.2.2.2.2.1 0 1000000000000) false
def isMandF (x:Mandate):Bool:=pick2 (pick2 (pick2 (inRangeF x.1 1 99) (inRangeF x.2.1 0 99) false) (inRangeF x.2.2.2.2.1 1 99) false) (isSpanF (x.2.2.1,x.2.2.2.1)) false
def mandIntsF (x:Mandate):List Int:=[105,x.1,x.2.1,x.2.2.1,x.2.2.2.1,x.2.2.2.2.1]
section
variable {f:Frame} {own:Int} {x:Sig}
end
section
variable {f:Frame} {e:Evidence} {docs:List (List Int)} {own:Int} {x:Sig} {us:List Piece} {c:Cert} {s:Span} {b:Int}
end
end Fw
namespace Fw
open Go
end Fw
namespace Fw
open Go
section
variable {α:Type} {p:α→Bool} {l:List α} {b b':Bool} {k:Int} {d:α}
end
section
variable {α:Type} {q:α→α→Bool} {acc z l:List α} {s:α} {b:Bool}
end
end Fw
namespace Fw
open Go
section
variable {r:Red} {d:Doc} {i:Int}
end
section
variable {m:Int} {r:Red} {acc:List Int} {i a:Int}
end
section
variable {m:Int} {r:Red}
end
end Fw
namespace Fw
open Go
section
variable {f:Frame} {a b:Evidence} {d:Doc} {x:Sig}
end
end Fw
namespace Fw
open Go
section
variable {a b:List Stamp} {i:Int}
end
end Fw
namespace Fw
open Go
section
variable {n B:Nat} {X:List Nat} {w0:World} {M0 M:Mem} {ω:Own} {ρ:Env} {tmps tmps':Array Value} {w w':World} {P:Program} {C:Ctx}
end
section
variable {G:Cfg} {ρ:Env} {K:Exit→Env→Prop}
theorem CtxOk.pinned {P:Program}{C:Ctx}(h:CtxOk P C)(F:List Nat):CtxOk P { C with pins:=F }:=⟨h.eq,h.ty,h.flds,h.fnM,h.fnT,h.fnK,h.fnP⟩
end
end Fw
namespace Fw
open Go
section
variable {G:Cfg} {ρ:Env} {K:Exit→Env→Prop}
theorem Vc.frz {c:Code}(j:Nat){a':A}(h:froz (ρ.get j).a=some a')(hK:Vc G c (ρ.puts [⟨j,true,a'⟩]) K):Vc G c ρ K:=by
 intro a w hd ⟨⟨M,ω,S⟩,hpn⟩
 have hj:j<G.C.n:=by
   rcases Nat.lt_or_ge j G.C.n with h' | h'
   · exact h'
   · rw[S.high j h']at h;cases h
 exact hK a w hd ⟨⟨_,_,(freeze_ok S hj h).1⟩,hpn⟩
end
end Fw
namespace Fw
open Go
section
variable {f:Frame} {d:Doc} {x:Sig} {code:Int}
variable {e o:Evidence} {i:Int}
end
section
variable {f:Frame} {d:Doc} {x:Sig} {e o:Evidence} {i:Int}
end
end Fw
namespace Fw
open Go
section
variable {f:Frame} {a e:Evidence} {d:Doc} {p:Piece} {x:Sig} {b:Int}
end
end Fw
namespace Fw
open Go
section
variable {n:Int}
end
end Fw
namespace Fw
open Go
section
variable {f:Frame} {a e:Evidence} {d:Doc} {x:Sig}
end
end Fw
namespace Fw
open Go
abbrev TCur:Ty:=.pair (.slice (.int .u8)) (.pair (.int .i64) (.int .i64))
abbrev Cur:=El TCur
def curOk (c:Cur):Prop:=(0:Int)≤c.2.1∧List.length c.1≤bigLen
def shr64 (x:Int)(n:Nat):Int:=x.fdiv (2 ^ n)
def and64 (x y:Int):Int:=IntKind.i64.wrap (BitVec.ofInt IntKind.i64.bits x&&& BitVec.ofInt IntKind.i64.bits y).toNat
def xor64 (x y:Int):Int:=IntKind.i64.wrap (BitVec.ofInt IntKind.i64.bits x ^^^ BitVec.ofInt IntKind.i64.bits y).toNat
def curH (c:Cur):Int:=IntKind.i64.wrap (IntKind.i64.wrap (c.2.2*6364136223846793005)+1442695040888963407)
def byteX (h:Int):Int:=and64 (xor64 (shr64 h 33) (shr64 h 47)) 255
def byteRaw (c:Cur):Int×Cur:=
 cond (decide (c.2.1<(List.length c.1:Int)))
   (and64 (IntKind.i64.wrap (byteX (curH c)+IntKind.i64.wrap (c.1.getD c.2.1.toNat (0:Int)))) 255,(c.1,IntKind.i64.wrap (c.2.1+1),curH c))
   (byteX (curH c),(c.1,c.2.1,curH c))
theorem byteEx:∃ f:Cur→Int×Cur,∀ c,f c=byteRaw c:=⟨byteRaw,fun _=>rfl⟩
noncomputable def byteF (c:Cur):Int×Cur:=Classical.choose byteEx c
theorem byte_eq (c:Cur):byteF c=byteRaw c:=Classical.choose_spec byteEx c
theorem and64_lt {x:Int}:0≤and64 x 255∧and64 x 255<256:=by
 show 0≤IntKind.i64.wrap (BitVec.ofInt 64 x&&& BitVec.ofInt 64 255).toNat∧IntKind.i64.wrap (BitVec.ofInt 64 x&&& BitVec.ofInt 64 255).toNat<256
 have h:(BitVec.ofInt 64 x&&& BitVec.ofInt 64 255).toNat≤255:=by
   rw[BitVec.toNat_and]
   exact Nat.and_le_right
 have e:IntKind.i64.wrap (((BitVec.ofInt 64 x&&& BitVec.ofInt 64 255).toNat:Nat):Int)=(((BitVec.ofInt 64 x&&& BitVec.ofInt 64 255).toNat:Nat):Int):=by
   exact w64 (by omega) (by omega)
 rw[e];omega
theorem byte_lt (c:Cur):0≤(byteF c).1∧(byteF c).1<256:=by
 rw[byte_eq]
 unfold byteRaw
 cases decide (c.2.1<(List.length c.1:Int))<;>exact and64_lt
theorem byte_ok {c:Cur}(h:curOk c):curOk (byteF c).2:=by
 rw[byte_eq]
 obtain⟨b,(i:Int),(hh:Int)⟩:=c
 obtain⟨h0,hb⟩:=h
 have h0:(0:Int)≤i:=h0
 have hb:List.length b≤bigLen:=hb
 cases hd:decide (i<(List.length b:Int))with
 | true=>
   have h2:=of_decide_eq_true hd
   have e:(byteRaw (b,i,hh)).2=(b,IntKind.i64.wrap (i+1),curH (b,i,hh)):=by
     have hd':decide ((b,i,hh).2.1<(List.length (b,i,hh).1:Int))=true:=hd
     unfold byteRaw;rw[hd'];rfl
   rw[e]
   refine⟨?_,hb⟩
   show (0:Int)≤IntKind.i64.wrap (i+1)
   unfold bigLen at hb
   rw[w64 (by omega) (by omega)];omega
 | false=>
   have e:(byteRaw (b,i,hh)).2=(b,i,curH (b,i,hh)):=by
     have hd':decide ((b,i,hh).2.1<(List.length (b,i,hh).1:Int))=false:=hd
     unfold byteRaw;rw[hd'];rfl
   rw[e]
   exact⟨h0,hb⟩
theorem tmod_lt {x n:Int}(hx:0≤x)(hn:0<n):0≤x.tmod n∧x.tmod n<n:=by
 rw[Int.tmod_eq_emod_of_nonneg hx]
 exact⟨Int.emod_nonneg _ (by omega),Int.emod_lt_of_pos _ hn⟩
def bel3 (x y z n:Int):Int:=(IntKind.i64.wrap (IntKind.i64.wrap (IntKind.i64.wrap (x*65536)+IntKind.i64.wrap (y*256))+z)).tmod n
noncomputable def belowRaw (c:Cur)(n:Int):Int×Cur:=
 cond (decide (n≤0)) (0,c) (cond (decide (n≤256)) ((byteF c).1.tmod n,(byteF c).2)
   (bel3 (byteF c).1 (byteF (byteF c).2).1 (byteF (byteF (byteF c).2).2).1 n,(byteF (byteF (byteF c).2).2).2))
theorem belowEx:∃ f:Cur→Int→Int×Cur,∀ c n,f c n=belowRaw c n:=⟨belowRaw,fun _ _=>rfl⟩
noncomputable def belowF (c:Cur)(n:Int):Int×Cur:=Classical.choose belowEx c n
theorem bel_eq (c:Cur)(n:Int):belowF c n=belowRaw c n:=Classical.choose_spec belowEx c n
theorem below_lt {c:Cur}{n:Int}(hn:0<n):0≤(belowF c n).1∧(belowF c n).1<n:=by
 have h0:decide (n≤0)=false:=decide_eq_false (by omega)
 rw[bel_eq]
 unfold belowRaw
 rw[h0]
 have hx:=byte_lt c
 have hy:=byte_lt (byteF c).2
 have hz:=byte_lt (byteF (byteF c).2).2
 cases decide (n≤256)with
 | true=>exact tmod_lt hx.1 hn
 | false=>
   show 0≤bel3 _ _ _ n∧bel3 _ _ _ n<n
   unfold bel3
   generalize (byteF c).1=x at *
   generalize (byteF (byteF c).2).1=y at *
   generalize (byteF (byteF (byteF c).2).2).1=z at *
   rw[w64 (x:=x*65536) (by omega) (by omega),w64 (x:=y*256) (by omega) (by omega),w64 (x:=x*65536+y*256) (by omega) (by omega),w64 (by omega) (by omega)]
   exact tmod_lt (by omega) hn
theorem below_ok {c:Cur}{n:Int}(h:curOk c):curOk (belowF c n).2:=by
 rw[bel_eq]
 unfold belowRaw
 cases decide (n≤0)with
 | true=>exact h
 | false=>cases decide (n≤256)with
   | true=>exact byte_ok h
   | false=>exact byte_ok (byte_ok (byte_ok h))
noncomputable def onceF (c:Cur)(n:Int):Bool×Cur:=((belowF c n).1==0,(belowF c n).2)
noncomputable def intF (c:Cur)(l:List Int):Int×Cur:=(l.getD (belowF c l.length).1.toNat 0,(belowF c l.length).2)
theorem int_range {c:Cur}{n:Nat}(hn:0<n):inRange (belowF c n).1 n:=by
 have:=below_lt (c:=c) (n:=(n:Int)) (by omega)
 exact this
theorem int_mem {c:Cur}{l:List Int}(hl:0<l.length):(intF c l).1∈l:=by
 have:=below_lt (c:=c) (n:=(l.length:Int)) (by omega)
 show l.getD (belowF c l.length).1.toNat 0∈l
 rw[List.getD_eq_getElem?_getD,List.getElem?_eq_getElem (by omega)]
 exact List.getElem_mem _
theorem int_ok {c:Cur}{l:List Int}(h:curOk c):curOk (intF c l).2:=below_ok h
def curNewG (h:Int)(b:Int):Int:=and64 (IntKind.i64.wrap (IntKind.i64.wrap (IntKind.i64.wrap (h*137)+IntKind.i64.wrap b)+11)) 1073741823
noncomputable def n4k:Nat:=Classical.choose (⟨4000,rfl⟩:∃ n:Nat,n=4000)
theorem n4k_eq:n4k=4000:=Classical.choose_spec (⟨4000,rfl⟩:∃ n:Nat,n=4000)
noncomputable def curNewF (code:List Int):Cur:=(code,0,(code.take n4k).foldl curNewG (IntKind.i64.wrap (193017+(code.length:Int))))
end Fw
namespace Fw
open Go
theorem cT {α:Type}{b:Bool}{x y:α}(h:b=true):cond b x y=x:=by subst h;rfl
theorem cF {α:Type}{b:Bool}{x y:α}(h:b=false):cond b x y=y:=by subst h;rfl
theorem newCur_ok {code:List Int}(h:List.length code≤bigLen):curOk (curNewF code):=⟨Int.le_refl 0,h⟩
end Fw
namespace Fw
open Go
theorem cnLt {code:List Int}{i:Int}(h:pick2 (decide (i<(code.length:Int))) (decide (i<4000)) false=true):i<((code.take n4k).length:Int):=by
 obtain⟨h1,h2⟩:i<(code.length:Int)∧i<4000:=by
   revert h
   unfold pick2
   cases h1:decide (i<(code.length:Int))with
   | true=>intro h2;exact⟨of_decide_eq_true h1,of_decide_eq_true h2⟩
   | false=>intro h2;cases h2
 rw[List.length_take,n4k_eq];omega
theorem cnGe {code:List Int}{i:Int}(h:pick2 (decide (i<(code.length:Int))) (decide (i<4000)) false=false):¬i<((code.take n4k).length:Int):=by
 intro hl
 rw[List.length_take,n4k_eq]at hl
 have h1:decide (i<(code.length:Int))=true:=decide_eq_true (by omega)
 have h2:decide (i<4000)=true:=decide_eq_true (by omega)
 rw[h1,h2]at h;cases h
theorem cnRange {z:Int}{code:List Int}{h i:Int}(hI:foInv curNewG z (code.take n4k) h i)(hl:i<((code.take n4k).length:Int)):inRange i code.length:=by
 have:=foRange hI hl
 obtain⟨h1,h2⟩:=this
 rw[List.length_take]at h2
 exact⟨h1,by omega⟩
theorem cnElem {z:Int}{code:List Int}{h i:Int}(hI:foInv curNewG z (code.take n4k) h i)(hl:i<((code.take n4k).length:Int)):
   curNewG h (code.getD i.toNat 0)=curNewG h ((code.take n4k).getD i.toNat 0):=by
 obtain⟨h1,h2⟩:=foRange hI hl
 have hl2:i.toNat<(code.take n4k).length:=by omega
 congr 1
 rw[List.getD_eq_getElem?_getD,List.getD_eq_getElem?_getD,List.getElem?_take_of_lt (by rw[List.length_take]at hl2;omega)]
theorem cnEnd {code:List Int}{h i:Int}(hI:foInv curNewG (IntKind.i64.wrap (193017+(code.length:Int))) (code.take n4k) h i)(hl:¬i<((code.take n4k).length:Int)):
   ((code,(0:Int),h):Cur)=curNewF code:=by
 have:=foEnd hI hl
 unfold curNewF
 rw[this]
theorem cnBig (code:List Int):(code.take n4k).length≤bigLen:=by
 rw[List.length_take,n4k_eq];unfold bigLen;omega
end Fw
namespace Fw
open Go
end Fw
namespace Fw
open Go
def keysT:List Key:=[(1,90,1,0,501),(2,90,3,40,502),(11,1,1,0,511),(12,1,2,20,512),(13,2,3,40,513),(21,50,1,0,521),
 (31,81,1,0,531),(32,82,2,20,532),(33,83,3,40,533),(34,84,4,60,534)]
def authsT:List Authority:=[(1,31,1),(2,32,2),(3,33,1),(4,34,0)]
def isStatusF (x:Status):Bool:=pick2 (pick2 (pick2 (inRangeF x.1 1 999) (isTimeF x.2.1) false) (inRangeF x.2.2.1 (-1) (IntKind.i64.wrap (x.2.1+1))) false) (inRangeF x.2.2.2.1 1 99) false
def statusIntsF (x:Status):List Int:=[102,x.1,x.2.1,x.2.2.1,x.2.2.2.1]
def makeStatusF (keys:List Key)(x:Status):Status×Bool:=
 cond (pick2 (!(isStatusF x)) true (decide (keyI keys x.2.2.2.1<0))) ((0,0,0,0,0),false) ((x.1,x.2.1,x.2.2.1,x.2.2.2.1,markWithF (keyAt keys x.2.2.2.1) (statusIntsF x)),true)
def makeMandF (keys:List Key)(x:Mandate):Mandate×Bool:=
 cond (pick2 (!(isMandF x)) true (decide (keyI keys x.2.2.2.2.1<0))) ((0,0,0,0,0,0),false) ((x.1,x.2.1,x.2.2.1,x.2.2.2.1,x.2.2.2.2.1,markWithF (keyAt keys x.2.2.2.2.1) (mandIntsF x)),true)
def signDigestF (keys:List Key)(x:Sig):Sig×Bool:=
 cond (pick2 (!(isSigF x)) true (decide (keyI keys x.1<0))) ((0,0,0,0,0,0,0,0,0),false)
   ((x.1,x.2.1,x.2.2.1,x.2.2.2.1,x.2.2.2.2.1,x.2.2.2.2.2.1,x.2.2.2.2.2.2.1,x.2.2.2.2.2.2.2.1,markWithF (keyAt keys x.1) (sigIntsF x)),true)
def issueCertF (keys:List Key)(x:Cert):Cert×Bool:=
 cond (pick2 (pick2 (!(isCertF x)) true (decide (keyI keys x.2.2.2.2.2.1<0))) true (decide (keyI keys x.2.1<0))) ((0,0,0,0,0,0,0),false)
   ((x.1,x.2.1,x.2.2.1,x.2.2.2.1,x.2.2.2.2.1,x.2.2.2.2.2.1,markWithF (keyAt keys x.2.2.2.2.2.1) (certIntsF x)),true)
noncomputable def signDocF (keys:List Key)(key serial method:Int)(d:Doc)(commit:Int):Sig×Bool:=
 signDigestF keys (key,serial,method,docDigF method d,commit,0,0,0,0)
def certPieceF (x:Cert):Piece:=(x.2.2.2.2.2.1,certIntsF x,x.2.2.2.2.2.2)
def statusPieceF (x:Status):Piece:=(x.2.2.2.1,statusIntsF x,x.2.2.2.2)
def mandPieceF (x:Mandate):Piece:=(x.2.2.2.2.1,mandIntsF x,x.2.2.2.2.2)
def certsT:List Cert:=[(issueCertF keysT (1,11,1,0,60,1,0)).1,(issueCertF keysT (2,12,1,20,100,1,0)).1,(issueCertF keysT (3,13,2,40,150,2,0)).1]
theorem orT {a b:Bool}(h:pick2 a true b=false):a=false∧b=false:=by cases a<;>cases b<;>first | exact⟨rfl,rfl⟩ | cases h
theorem sgRange {α:Type}{b:Bool}{l:List α}{p:α→Bool}(h:pick2 b true (decide (findI p l<0))=false):inRange (findI p l) l.length:=
 findRange (of_decide_eq_false (orT h).2)
theorem icRange {α:Type}{b e:Bool}{l:List α}{p:α→Bool}(h:pick2 (pick2 b true (decide (findI p l<0))) true e=false):inRange (findI p l) l.length:=sgRange (orT h).1
def saltF (seed title:Int)(k:Nat):Int:=max 1 (keyedF seed [title,(k:Int)])
def saltsF (seed title:Int)(n:Nat):List Int:=(List.range n).map (saltF seed title)
theorem salts_succ (seed title:Int)(n:Nat):saltsF seed title (n+1)=saltsF seed title n++[saltF seed title n]:=by
 unfold saltsF;rw[List.range_succ,List.map_append];rfl
noncomputable def makeDocF (title:Int)(parts:List (List UInt8))(seed:Int):Doc×Bool:=
 cond (pick2 (!(docF (title,parts,saltsF seed title parts.length))) true (!(validKeyF seed))) ((0,[],[]),false) ((title,parts,saltsF seed title parts.length),true)
def mdInv (title:Int)(parts:List (List UInt8))(seed:Int)(d:Doc)(i:Int):Prop:=∃ k:Nat,k≤parts.length∧i=k∧d=(title,parts,saltsF seed title k)
section
variable {title seed i:Int} {parts:List (List UInt8)} {d:Doc}
theorem mdStart:mdInv title parts seed (title,parts,[]) 0:=⟨0,Nat.zero_le _,rfl,rfl⟩
theorem mdLen (h:mdInv title parts seed d i)(hs:parts.length≤big20):List.length d.2.2+1≤maxApp:=by
 obtain⟨k,h1,_,rfl⟩:=h
 show (saltsF seed title k).length+1≤maxApp
 unfold saltsF maxApp;unfold big20 at hs
 rw[List.length_map,List.length_range];omega
theorem mdStep (h:mdInv title parts seed d i)(hl:i<(parts.length:Int))(hs:parts.length≤big20){d':Doc}(e:d'=(d.1,d.2.1,d.2.2++[max 1 (keyedF seed [title,i])])):
   mdInv title parts seed d' (IntKind.i64.wrap (i+1))∧((parts.length:Int)-IntKind.i64.wrap (i+1)).toNat<((parts.length:Int)-i).toNat:=by
 obtain⟨k,h1,rfl,rfl⟩:=h
 unfold big20 at hs
 rw[w64 (by omega) (by omega)]
 exact⟨⟨k+1,by omega,rfl,by rw[e,salts_succ];rfl⟩,by omega⟩
theorem mdEnd (h:mdInv title parts seed d i)(hl:¬i<(parts.length:Int)):d=(title,parts,saltsF seed title parts.length):=by
 obtain⟨k,h1,rfl,rfl⟩:=h
 have:k=parts.length:=by omega
 rw[this]
theorem md0 (h:mdInv title parts seed d i)(hl:¬i<(parts.length:Int))(g:pick2 (!(docF d)) true (!(validKeyF seed))=true):makeDocF title parts seed=((0,[],[]),false):=by
 rw[mdEnd h hl]at g;exact cT g
theorem md1 (h:mdInv title parts seed d i)(hl:¬i<(parts.length:Int))(g:pick2 (!(docF d)) true (!(validKeyF seed))=false):makeDocF title parts seed=(d,true):=by
 rw[mdEnd h hl]at *;exact cF g
end
def itF {σ:Type}(S:σ→σ):Nat→σ→σ
 | 0,s=>s
 | k+1,s=>S (itF S k s)
def dnInv {σ:Type}(S:σ→σ)(s0:σ)(n:Int)(s:σ)(i:Int):Prop:=∃ k:Nat,s=itF S k s0∧i=n-k∧(k=0∨(k:Int)≤n)∧0≤n∧n≤1000000
section
variable {σ:Type} {S:σ→σ} {s0 s:σ} {n i:Int}
theorem dnStart (h:0≤n∧n≤1000000):dnInv S s0 n s0 n:=⟨0,rfl,by omega,.inl rfl,h.1,h.2⟩
theorem dnStep (h:dnInv S s0 n s i)(hl:i>0):dnInv S s0 n (S s) (IntKind.i64.wrap (i-1))∧(IntKind.i64.wrap (i-1)).toNat<i.toNat:=by
 obtain⟨k,rfl,rfl,h1,h2,h3⟩:=h
 rw[w64 (by omega) (by omega)]
 exact⟨⟨k+1,rfl,by omega,.inr (by omega),h2,h3⟩,by omega⟩
theorem dnEnd (h:dnInv S s0 n s i)(hl:¬i>0):s=itF S n.toNat s0:=by
 obtain⟨k,rfl,rfl,h1,h2,h3⟩:=h
 have:k=n.toNat:=by omega
 rw[this]
theorem dnAll (P:σ→Nat→Prop)(h0:P s0 0)(hS:∀ s k,P s k→P (S s) (k+1)):∀ k,P (itF S k s0) k
 | 0=>h0
 | k+1=>hS _ _ (dnAll P h0 hS k)
theorem dnP (P:σ→Nat→Prop)(h0:P s0 0)(hS:∀ s k,P s k→P (S s) (k+1))(h:dnInv S s0 n s i):∃ k:Nat,(k:Int)≤n∧P s k:=by
 obtain⟨k,rfl,rfl,h1,h2,h3⟩:=h
 exact⟨k,by omega,dnAll P h0 hS k⟩
end
noncomputable def strF (c:Cur)(l:List (List UInt8)):List UInt8×Cur:=(l.getD (belowF c l.length).1.toNat [],(belowF c l.length).2)
def textsT:List (List UInt8):=[[],[97],[98],[97,98],[121,101,115],[110,111],[111,110,101,32,104,117,110,100,114,101,100]]
noncomputable def wordF (c:Cur):List UInt8×Cur:=strF c textsT
theorem str_mem {c:Cur}{l:List (List UInt8)}(hl:0<l.length):(strF c l).1∈l:=by
 have:=below_lt (c:=c) (n:=(l.length:Int)) (by omega)
 show l.getD (belowF c l.length).1.toNat []∈l
 rw[List.getD_eq_getElem?_getD,List.getElem?_eq_getElem (by omega)]
 exact List.getElem_mem _
theorem text_len (c:Cur):(wordF c).1.length≤11:=by
 have h:=str_mem (c:=c) (l:=textsT) (by decide)
 have key:∀ s∈textsT,s.length≤11:=by decide
 exact key _ h
theorem text_ok {c:Cur}(h:curOk c):curOk (wordF c).2:=below_ok h
noncomputable def partS (s:Cur×List (List UInt8)):Cur×List (List UInt8):=((wordF s.1).2,s.2++[(wordF s.1).1])
noncomputable def partsD (c:Cur):Cur×List (List UInt8):=itF partS (IntKind.i64.wrap (1+(belowF c 3).1)).toNat ((belowF c 3).2,[])
noncomputable def docD (c:Cur):Doc×Cur:=((makeDocF (belowF (partsD c).1 5).1 (partsD c).2 11).1,(belowF (partsD c).1 5).2)
def partP (s:Cur×List (List UInt8))(k:Nat):Prop:=curOk s.1∧s.2.length=k∧∀ x∈s.2,x.length≤11
theorem partS_P (s:Cur×List (List UInt8))(k:Nat)(h:partP s k):partP (partS s) (k+1):=by
 obtain⟨h1,h2,h3⟩:=h
 refine⟨text_ok h1,by show (s.2++[_]).length=_;rw[List.length_append,h2];rfl,fun x hx=>?_⟩
 rcases List.mem_append.1 hx with hx | hx
 · exact h3 x hx
 · rw[List.mem_singleton.1 hx];exact text_len _
theorem bel3n (c:Cur):0≤IntKind.i64.wrap (1+(belowF c 3).1)∧IntKind.i64.wrap (1+(belowF c 3).1)≤1000000∧1≤(IntKind.i64.wrap (1+(belowF c 3).1)).toNat∧(IntKind.i64.wrap (1+(belowF c 3).1)).toNat≤3:=by
 have h:=below_lt (c:=c) (n:=3) (by decide)
 generalize (belowF c 3).1=x at *
 rw[w64 (by omega) (by omega)];omega
theorem parts_P {c:Cur}(h:curOk c):partP (partsD c) (IntKind.i64.wrap (1+(belowF c 3).1)).toNat:=
 dnAll partP ⟨below_ok h,rfl,by simp⟩ partS_P _
theorem docD_ok {c:Cur}(h:curOk c):curOk (docD c).2:=below_ok (parts_P h).1
theorem tmod_up {x n:Int}(hn:0<n):x.tmod n<n:=Int.tmod_lt_of_pos x hn
theorem hstep_lt (h v:Int):hstep h v<2147483647:=by unfold hstep;exact tmod_up (by decide)
theorem hash_lt (l:List Int)(h:l≠[]):hashF l<2147483647:=by
 unfold hashF
 obtain⟨a,b,rfl⟩:∃ a b,l=a++[b]:=⟨l.dropLast,l.getLast h,(List.dropLast_concat_getLast h).symm⟩
 rw[List.foldl_append];exact hstep_lt _ _
theorem keyed_lt (k:Int)(l:List Int):keyedF k l<2147483647:=hash_lt _ (by simp)
theorem modF_range (v:Int):0≤modF v 2147483647∧modF v 2147483647<2147483647:=by
 have e:modF v 2147483647=(IntKind.i64.wrap (v.tmod 2147483647+2147483647)).tmod 2147483647:=if_pos (by decide)
 rw[e]
 have h1:=Int.tmod_lt_of_pos v (show (0:Int)<2147483647 by decide)
 have h2:-2147483647<v.tmod 2147483647:=by
   have:=Int.tmod_lt_of_pos (-v) (show (0:Int)<2147483647 by decide)
   rw[Int.neg_tmod]at this;omega
 rw[w64 (by omega) (by omega)]
 exact tmod_lt (by omega) (by decide)
theorem hstep_range {h v:Int}(h0:0≤h)(h1:h<2147483647):0≤hstep h v:=by
 unfold hstep
 have hm:=modF_range v
 generalize modF v 2147483647=m at *
 rw[w64 (x:=h*1000003) (by omega) (by omega),w64 (x:=h*1000003+m) (by omega) (by omega),w64 (by omega) (by omega)]
 exact(tmod_lt (by omega) (by decide)).1
theorem hash_range (l:List Int):0≤hashF l∧hashF l<2147483647:=by
 unfold hashF
 have key:∀ (l:List Int) (h:Int),0≤h→h<2147483647→0≤l.foldl hstep h∧l.foldl hstep h<2147483647:=by
   intro l
   induction l with
   | nil=>intro h h0 h1;exact⟨h0,h1⟩
   | cons a l ih=>intro h h0 h1;exact ih _ (hstep_range h0 h1) (hstep_lt _ _)
 exact key l 11 (by decide) (by decide)
theorem inR_iff {a b c:Int}:inRangeF a b c=true↔b≤a∧a≤c:=by
 unfold inRangeF pick2
 by_cases h1:b≤a<;>by_cases h2:a≤c<;>simp_all
theorem docD_doc {c:Cur}(h:curOk c):docF (docD c).1=true:=by
 have hp:=parts_P h
 obtain⟨h1,h2,h3⟩:=hp
 have hn:=bel3n c
 have ht:=below_lt (c:=(partsD c).1) (n:=5) (by decide)
 have hd:docF ((belowF (partsD c).1 5).1,(partsD c).2,saltsF 11 (belowF (partsD c).1 5).1 (partsD c).2.length)=true:=by
   refine boolC_iff.2 ⟨inR_iff.2 ⟨ht.1,?_⟩,inR_iff.2 ⟨?_,?_⟩,?_,fun k hk=>?_,fun k hk=>?_⟩
   · have:=ht.2;show (belowF (partsD c).1 5).1≤999;omega
   · show (1:Int)≤((partsD c).2.length:Int);omega
   · show ((partsD c).2.length:Int)≤6;omega
   · show (saltsF 11 _ (partsD c).2.length).length=(partsD c).2.length
     unfold saltsF;rw[List.length_map,List.length_range]
   · have hk:k<(partsD c).2.length:=hk
     have:=h3 (List.getD (partsD c).2 k (dflt .str)) (by rw[List.getD_eq_getElem?_getD,List.getElem?_eq_getElem hk];exact List.getElem_mem _)
     show ((List.getD (partsD c).2 k (dflt .str)).length:Int)≤40
     omega
   · have hk:k<(saltsF 11 (belowF (partsD c).1 5).1 (partsD c).2.length).length:=hk
     have hm:List.getD (saltsF 11 (belowF (partsD c).1 5).1 (partsD c).2.length) k (dflt (.int .i64))∈saltsF 11 (belowF (partsD c).1 5).1 (partsD c).2.length:=by
       rw[List.getD_eq_getElem?_getD,List.getElem?_eq_getElem hk];exact List.getElem_mem _
     obtain⟨j,_,hj⟩:=List.mem_map.1 hm
     show inRangeF (List.getD (saltsF 11 _ _) k (dflt (.int .i64))) 1 1000000000000=true
     rw[←hj]
     have:=keyed_lt 11 [(belowF (partsD c).1 5).1,(j:Int)]
     refine inR_iff.2 ⟨?_,?_⟩<;>(unfold saltF;omega)
 have e:(docD c).1=((belowF (partsD c).1 5).1,(partsD c).2,saltsF 11 (belowF (partsD c).1 5).1 (partsD c).2.length):=by
   show (makeDocF _ _ 11).1=_
   unfold makeDocF
   rw[hd];rfl
 rw[e];exact hd
theorem docD_leaf {c c2:Cur}{acc:List (List UInt8)}(hE:(c2,acc)=itF partS (IntKind.i64.wrap (1+(belowF c 3).1)).toNat ((belowF c 3).2,[])):
   docD c=((makeDocF (belowF c2 5).1 acc 11).1,(belowF c2 5).2):=by
 unfold docD partsD
 rw[←hE]
theorem dnApp {α:Type}{l:List α}{k:Nat}{n:Int}(h:l.length=k)(hk:(k:Int)≤n)(hn:n≤1000000):l.length+1≤maxApp:=by
 unfold maxApp;omega
theorem dnBig {α:Type}{l:List α}{k:Nat}{n:Int}(h:l.length=k)(hk:(k:Int)≤n)(hn:n≤1000000):l.length≤big20:=by
 unfold big20;omega
end Fw
namespace Fw
open Go
theorem belN {c:Cur}{n:Int}(hn:0<n)(hs:n≤1000000):0≤(belowF c n).1∧(belowF c n).1≤1000000:=by
 have:=below_lt (c:=c) hn;omega
noncomputable def stampD (c:Cur):Stamp×Cur:=
 ((makeStampF keysT authsT (IntKind.i64.wrap (1+(belowF c 4).1),(belowF (belowF c 4).2 9).1,(belowF (belowF (belowF c 4).2 9).2 60).1,(belowF (belowF (belowF (belowF c 4).2 9).2 60).2 99).1,0)).1,
   (belowF (belowF (belowF (belowF c 4).2 9).2 60).2 99).2)
noncomputable def dst1 (c:Cur):Int×Cur:=belowF c 60
noncomputable def dst2 (c:Cur):Int×Cur:=belowF (dst1 c).2 3
noncomputable def dst3 (c:Cur):Int×Cur:=belowF (dst2 c).2 2
noncomputable def dst4 (c:Cur):Bool×Cur:=onceF (dst3 c).2 3
noncomputable def dst5 (c:Cur):Int×Cur:=belowF (dst4 c).2 (IntKind.i64.wrap ((dst1 c).1+2))
noncomputable def statD (c:Cur):Status×Cur:=
 cond (dst4 c).1 ((makeStatusF keysT (IntKind.i64.wrap (1+(dst2 c).1),(dst1 c).1,(dst5 c).1,IntKind.i64.wrap (1+(dst3 c).1),0)).1,(dst5 c).2)
   ((makeStatusF keysT (IntKind.i64.wrap (1+(dst2 c).1),(dst1 c).1,-1,IntKind.i64.wrap (1+(dst3 c).1),0)).1,(dst4 c).2)
noncomputable def mandD (c:Cur):Mandate×Cur:=
 ((makeMandF keysT (50,IntKind.i64.wrap (1+(belowF (belowF c 40).2 2).1),(belowF c 40).1,IntKind.i64.wrap ((belowF c 40).1+(belowF (belowF (belowF c 40).2 2).2 30).1),21,0)).1,(belowF (belowF (belowF c 40).2 2).2 30).2)
noncomputable def gn1 (c:Cur):Int×Cur:=belowF (docD c).2 3
noncomputable def gn2 (c:Cur):Int×Cur:=belowF (gn1 c).2 3
noncomputable def signD (c:Cur):(Sig×Doc)×Cur:=
 (((signDocF keysT (IntKind.i64.wrap (11+(gn1 c).1)) (IntKind.i64.wrap (1+(gn1 c).1)) (IntKind.i64.wrap (1+(gn1 c).1)) (docD c).1 (IntKind.i64.wrap (1+(gn2 c).1))).1,(docD c).1),(gn2 c).2)
theorem once_ok {c:Cur}{n:Int}(h:curOk c):curOk (onceF c n).2:=below_ok h
theorem stampD_ok {c:Cur}(h:curOk c):curOk (stampD c).2:=below_ok (below_ok (below_ok (below_ok h)))
theorem dst4_ok {c:Cur}(h:curOk c):curOk (dst4 c).2:=below_ok (below_ok (below_ok (below_ok h)))
theorem statD_ok {c:Cur}(h:curOk c):curOk (statD c).2:=by
 unfold statD
 cases (dst4 c).1 with
 | true=>exact below_ok (dst4_ok h)
 | false=>exact dst4_ok h
theorem mandD_ok {c:Cur}(h:curOk c):curOk (mandD c).2:=below_ok (below_ok (below_ok h))
theorem signD_ok {c:Cur}(h:curOk c):curOk (signD c).2:=below_ok (below_ok (docD_ok h))
theorem gn1_lt (c:Cur):0≤(gn1 c).1∧(gn1 c).1<3:=below_lt (by decide)
theorem docDig_range {m:Int}{d:Doc}(h:docF d=true):0≤docDigF m d∧docDigF m d≤1000000000000:=by
 unfold docDigF
 rw[if_pos h,digest_eq]
 have:=hash_range ([7,m]++([d.1]++(List.range d.2.1.length).flatMap (docG m d)))
 omega
theorem andTT {a b:Bool}(h1:a=true)(h2:b=true):pick2 a b false=true:=by subst h1;subst h2;rfl
theorem signDoc_ok {n k:Int}{d:Doc}(hd:docF d=true)(hn:0≤n∧n<3)(hk:0≤k∧k<3):
   (signDocF keysT (IntKind.i64.wrap (11+n)) (IntKind.i64.wrap (1+n)) (IntKind.i64.wrap (1+n)) d (IntKind.i64.wrap (1+k))).1.2.1=1+n:=by
 rw[w64 (x:=11+n) (by omega) (by omega),w64 (x:=1+n) (by omega) (by omega),w64 (x:=1+k) (by omega) (by omega)]
 have hg:=docDig_range (m:=1+n) hd
 have hs:isSigF (11+n,1+n,1+n,docDigF (1+n) d,1+k,0,0,0,0)=true:=by
   unfold isSigF
   refine andTT (andTT (andTT (andTT (andTT (andTT (andTT ?_ ?_) ?_) ?_) ?_) ?_) ?_) ?_<;>refine inR_iff.2 ⟨?_,?_⟩<;>first | exact hg.1 | exact hg.2 | (show (0:Int)≤_;decide) | (show (_:Int)≤_;simp only[];omega)
 have hf:¬keyI keysT (11+n)<0:=by
   have h3:n=0∨n=1∨n=2:=by omega
   rcases h3 with rfl | rfl | rfl<;>decide
 unfold signDocF signDigestF
 rw[cF (by rw[hs];exact decide_eq_false hf)]
theorem signD_serial {c:Cur}(h:curOk c):(signD c).1.1.2.1=1+(gn1 c).1:=
 signDoc_ok (docD_doc h) (gn1_lt c) (below_lt (by decide))
theorem signD_idx {c:Cur}(h:curOk c):inRange (IntKind.i64.wrap ((signD c).1.1.2.1-1)) (List.length certsT):=by
 rw[signD_serial h]
 have:=gn1_lt c
 rw[w64 (by omega) (by omega)]
 show inRange _ 3
 exact⟨by omega,by omega⟩
def certAt (n:Int):Cert:=certsT.getD n.toNat (dflt (.pair TI (.pair TI (.pair TI (.pair TI (.pair TI (.pair TI TI)))))))
noncomputable def pieceD (c:Cur):Piece×Cur:=
 cond ((belowF c 5).1==0) (certPieceF (certAt (belowF (belowF c 5).2 3).1),(belowF (belowF c 5).2 3).2)
   (cond ((belowF c 5).1==1) (statusPieceF (statD (belowF c 5).2).1,(statD (belowF c 5).2).2)
     (cond ((belowF c 5).1==2) (stampPieceF (stampKeyF authsT (stampD (belowF c 5).2).1) (stampD (belowF c 5).2).1,(stampD (belowF c 5).2).2)
       (cond ((belowF c 5).1==3) (signPieceF (signD (belowF c 5).2).1.1,(signD (belowF c 5).2).2)
         (mandPieceF (mandD (belowF c 5).2).1,(mandD (belowF c 5).2).2))))
theorem pieceD_ok {c:Cur}(h:curOk c):curOk (pieceD c).2:=by
 have hb:=below_ok (n:=5) h
 unfold pieceD
 cases (belowF c 5).1==0 with
 | true=>exact below_ok hb
 | false=>cases (belowF c 5).1==1 with
   | true=>exact statD_ok hb
   | false=>cases (belowF c 5).1==2 with
     | true=>exact stampD_ok hb
     | false=>cases (belowF c 5).1==3 with
       | true=>exact signD_ok hb
       | false=>exact mandD_ok hb
theorem pcSm {k m:Int}{l:List Int}(h:l.length≤9):Sm big20 TPiece (k,l,m):=⟨trivial,⟨Nat.le_trans h (by decide),fun _ _=>trivial⟩,trivial⟩
theorem signPiece_sm (x:Sig):Sm big20 TPiece (signPieceF x):=pcSm (Nat.le_of_ble_eq_true rfl)
theorem certPiece_sm (x:Cert):Sm big20 TPiece (certPieceF x):=pcSm (Nat.le_of_ble_eq_true rfl)
theorem statPiece_sm (x:Status):Sm big20 TPiece (statusPieceF x):=pcSm (Nat.le_of_ble_eq_true rfl)
theorem stampPiece_sm (k:Int)(x:Stamp):Sm big20 TPiece (stampPieceF k x):=pcSm (Nat.le_of_ble_eq_true rfl)
theorem mandPiece_sm (x:Mandate):Sm big20 TPiece (mandPieceF x):=pcSm (Nat.le_of_ble_eq_true rfl)
theorem pieceD_sm (c:Cur):Sm big20 TPiece (pieceD c).1:=by
 unfold pieceD
 cases (belowF c 5).1==0 with
 | true=>exact certPiece_sm _
 | false=>cases (belowF c 5).1==1 with
   | true=>exact statPiece_sm _
   | false=>cases (belowF c 5).1==2 with
     | true=>exact stampPiece_sm _ _
     | false=>cases (belowF c 5).1==3 with
       | true=>exact signPiece_sm _
       | false=>exact mandPiece_sm _
theorem addPiece_sm {s:Strand}{p:Piece}(hs:Sm big20 TStrand s)(hp:Sm big20 TPiece p):Sm big20 TStrand (addPieceF s p).1:=by
 unfold addPieceF
 split
 · rename_i h
   have h1:=(boolC_iff.1 h).1
   have h2:=(inR_iff.1 h1).2
   refine⟨⟨?_,fun x hx=>?_⟩,hs.2⟩
   · show (s.1++[p]).length≤big20
     have h2:(((s.1++[p]).length:Nat):Int)≤12:=h2
     unfold big20;omega
   · rcases List.mem_append.1 hx with hx | hx
     · exact hs.1.2 x hx
     · rw[List.mem_singleton.1 hx];exact hp
 · exact hs
theorem addRen_sm {s:Strand}{r:Renewal}(hs:Sm big20 TStrand s)(hr:Sm big20 TRen r):Sm big20 TStrand (addRenF s r).1:=by
 unfold addRenF
 split
 · rename_i h
   have h1:=(boolC_iff.1 h).2.1
   refine⟨hs.1,⟨?_,fun x hx=>?_⟩⟩
   · show (s.2++[r]).length≤big20
     have h1:(((s.2++[r]).length:Nat):Int)≤8:=h1
     unfold big20;omega
   · rcases List.mem_append.1 hx with hx | hx
     · exact hs.2.2 x hx
     · rw[List.mem_singleton.1 hx];exact hr
 · exact hs
noncomputable def sg1 (c:Cur):(Sig×Doc)×Cur:=signD c
noncomputable def sgCert (c:Cur):Cert:=certAt (IntKind.i64.wrap ((sg1 c).1.1.2.1-1))
noncomputable def sgS (c:Cur):Strand:=([signPieceF (sg1 c).1.1,certPieceF (sgCert c)],[])
noncomputable def sg2 (c:Cur):Int×Cur:=intF (sg1 c).2 [10,30,60,90]
noncomputable def sgA (c:Cur):Status:=(makeStatusF keysT ((sg1 c).1.1.2.1,(sg2 c).1,-1,(sgCert c).2.2.2.2.2.1,0)).1
noncomputable def sg3 (c:Cur):Bool×Cur:=onceF (sg2 c).2 4
noncomputable def sg4 (c:Cur):Bool×Cur:=onceF (sg3 c).2 4
noncomputable def sgT (c:Cur)(s:Strand):(Strand×Doc×Sig)×Cur:=
 cond (sg4 c).1 (((addPieceF s (pieceD (sg4 c).2).1).1,(sg1 c).1.2,(sg1 c).1.1),(pieceD (sg4 c).2).2) ((s,(sg1 c).1.2,(sg1 c).1.1),(sg4 c).2)
noncomputable def signedRaw (c:Cur):(Strand×Doc×Sig)×Cur:=cond (!(sg3 c).1) (sgT c (addPieceF (sgS c) (statusPieceF (sgA c))).1) (sgT c (sgS c))
theorem signedEx:∃ f:Cur→(Strand×Doc×Sig)×Cur,∀ c,f c=signedRaw c:=⟨signedRaw,fun _=>rfl⟩
noncomputable def signedD (c:Cur):(Strand×Doc×Sig)×Cur:=Classical.choose signedEx c
theorem signed_eq (c:Cur):signedD c=signedRaw c:=Classical.choose_spec signedEx c
theorem sg2_ok {c:Cur}(h:curOk c):curOk (sg2 c).2:=int_ok (signD_ok h)
theorem sg3_ok {c:Cur}(h:curOk c):curOk (sg3 c).2:=once_ok (sg2_ok h)
theorem sg4_ok {c:Cur}(h:curOk c):curOk (sg4 c).2:=once_ok (sg3_ok h)
theorem sgS_sm (c:Cur):Sm big20 TStrand (sgS c):=by
 refine⟨⟨Nat.le_of_ble_eq_true rfl,fun x hx=>?_⟩,⟨Nat.zero_le _,fun x hx=>by simp[sgS]at hx⟩⟩
 have hx:x∈[signPieceF (sg1 c).1.1,certPieceF (sgCert c)]:=hx
 rcases List.mem_cons.1 hx with rfl | hx
 · exact signPiece_sm _
 · rw[List.mem_singleton.1 hx];exact certPiece_sm _
theorem sgS2_sm (c:Cur):Sm big20 TStrand (addPieceF (sgS c) (statusPieceF (sgA c))).1:=addPiece_sm (sgS_sm c) (statPiece_sm _)
def sgP (x:(Strand×Doc×Sig)×Cur):Prop:=Sm big20 TStrand x.1.1∧curOk x.2
theorem sgT_P {c:Cur}{s:Strand}(h:curOk c)(hs:Sm big20 TStrand s):sgP (sgT c s):=by
 unfold sgT
 cases (sg4 c).1 with
 | true=>exact⟨addPiece_sm hs (pieceD_sm _),pieceD_ok (sg4_ok h)⟩
 | false=>exact⟨hs,sg4_ok h⟩
theorem signed_P {c:Cur}(h:curOk c):sgP (signedD c):=by
 rw[signed_eq]
 unfold signedRaw
 cases (sg3 c).1 with
 | true=>exact sgT_P h (sgS_sm c)
 | false=>exact sgT_P h (sgS2_sm c)
noncomputable def leafS (s:Cur×List Int):Cur×List Int:=((belowF s.1 99).2,s.2++[(belowF s.1 99).1])
noncomputable def leavesC (c:Cur)(most:Int):Cur×List Int:=itF leafS (belowF c most).1.toNat ((belowF c most).2,[])
noncomputable def leavesD (c:Cur)(most:Int):List Int×Cur:=((leavesC c most).2,(leavesC c most).1)
def leafP (s:Cur×List Int)(k:Nat):Prop:=curOk s.1∧s.2.length=k
theorem leafS_P (s:Cur×List Int)(k:Nat)(h:leafP s k):leafP (leafS s) (k+1):=
 ⟨below_ok h.1,by show (s.2++[_]).length=_;rw[List.length_append,h.2];rfl⟩
theorem leaves_P {c:Cur}{most:Int}(h:curOk c):leafP (leavesC c most) (belowF c most).1.toNat:=dnAll leafP ⟨below_ok h,rfl⟩ leafS_P _
theorem leaves_ok {c:Cur}{most:Int}(h:curOk c):curOk (leavesD c most).2:=(leaves_P h).1
theorem leaves_len {c:Cur}{most:Int}(h:curOk c)(hm:0<most∧most≤1000):(leavesD c most).1.length≤1000:=by
 have h1:(leavesC c most).2.length=_:=(leaves_P (most:=most) h).2
 have:=below_lt (c:=c) hm.1
 show (leavesC c most).2.length≤1000
 rw[h1];omega
theorem leaves_leaf {c c2:Cur}{acc:List Int}{most:Int}(hE:(c2,acc)=itF leafS (belowF c most).1.toNat ((belowF c most).2,[])):leavesD c most=(acc,c2):=by
 unfold leavesD leavesC
 rw[←hE]
def rmList (others:List Int)(leaf:Int):List Int:=([]++others)++[leaf]
noncomputable def rmBase (m leaf:Int)(others:List Int)(count:Int)(acc:List Stamp):Renewal:=
 (count,m,treeF m (rmList others leaf),pathF m (rmList others leaf) (IntKind.i64.wrap (((rmList others leaf).length:Int)-1)),acc)
noncomputable def rmG (keys:List Key)(l:List Authority)(m leaf:Int)(others:List Int)(seq t:Int)(id:Int):Stamp×Bool:=makeStampF keys l (id,seq,t,treeF m (rmList others leaf),0)
noncomputable def renMakeF (keys:List Key)(l:List Authority)(m leaf:Int)(others:List Int)(count:Int)(ids:List Int)(seq t:Int):Renewal:=
 rmBase m leaf others count (pickF (rmG keys l m leaf others seq t) ids)
theorem pathF_len16 (m:Int)(l:List Int)(i:Int):(pathF m l i).length≤16:=by
 unfold pathF
 split
 · rename_i h;exact pathL_len m 16 l i h.2.2
 · exact Nat.zero_le _
theorem renMake_sm {keys:List Key}{l:List Authority}{m leaf:Int}{others:List Int}{count:Int}{ids:List Int}{seq t:Int}(h:ids.length≤1000):Sm big20 TRen (renMakeF keys l m leaf others count ids seq t):=by
 refine⟨trivial,trivial,trivial,⟨Nat.le_trans (pathF_len16 _ _ _) (by decide),fun _ _=>⟨trivial,trivial⟩⟩,⟨?_,fun _ _=>⟨trivial,trivial,trivial,trivial,trivial⟩⟩⟩
 exact Nat.le_trans (pick_len _ _) (Nat.le_trans h (by decide))
def renQ (s:Strand)(m:Int):Renewal:=((s.1.length:Int),m,0,[],[])
theorem renQ_sm (s:Strand)(m:Int):Sm big20 TRen (renQ s m):=⟨trivial,trivial,trivial,⟨Nat.zero_le _,fun _ h=>by simp[renQ]at h⟩,⟨Nat.zero_le _,fun _ h=>by simp[renQ]at h⟩⟩
noncomputable def longF (s:Strand)(m:Int):Strand×Bool:=addRenF s (renQ s m)
noncomputable def leafR (s:Strand)(d:Doc)(m:Int):Int:=leafAtF (longF s m).1 (docDigsF (longF s m).1 d) (IntKind.i64.wrap (((longF s m).1.2.length:Int)-1))
noncomputable def renNew (c:Cur)(s:Strand)(d:Doc)(m t:Int)(ids:List Int):Renewal:=
 renMakeF keysT authsT m (leafR s d m) (leavesD c 4).1 (s.1.length:Int) ids (belowF (leavesD c 4).2 9).1 t
noncomputable def renTail (c:Cur)(s:Strand)(d:Doc)(m t:Int)(ids:List Int):Strand×Cur:=((addRenF s (renNew c s d m t ids)).1,(belowF (leavesD c 4).2 9).2)
noncomputable def renewRaw (c:Cur)(s:Strand)(d:Doc)(m t:Int):Strand×Cur:=
 cond (!(longF s m).2) (s,c) (cond (onceF c 3).1 (renTail (onceF c 3).2 s d m t [1,3,4]) (renTail (onceF c 3).2 s d m t [1,2,3,4]))
theorem renewEx:∃ f:Cur→Strand→Doc→Int→Int→Strand×Cur,∀ c s d m t,f c s d m t=renewRaw c s d m t:=⟨renewRaw,fun _ _ _ _ _=>rfl⟩
noncomputable def renewD (c:Cur)(s:Strand)(d:Doc)(m t:Int):Strand×Cur:=Classical.choose renewEx c s d m t
theorem renew_eq (c:Cur)(s:Strand)(d:Doc)(m t:Int):renewD c s d m t=renewRaw c s d m t:=Classical.choose_spec renewEx c s d m t
theorem long_sm {s:Strand}{m:Int}(h:Sm big20 TStrand s):Sm big20 TStrand (longF s m).1:=addRen_sm h (renQ_sm s m)
theorem long_len {s:Strand}{m:Int}(h:Sm big20 TStrand s):List.length (longF s m).1.2≤2000000:=Nat.le_trans (long_sm h).2.1 (by decide)
theorem renNew_sm {c:Cur}{s:Strand}{d:Doc}{m t:Int}{ids:List Int}(h:ids.length≤1000):Sm big20 TRen (renNew c s d m t ids):=renMake_sm h
def rnP (x:Strand×Cur):Prop:=Sm big20 TStrand x.1∧curOk x.2
theorem renTail_P {c:Cur}{s:Strand}{d:Doc}{m t:Int}{ids:List Int}(hc:curOk c)(hs:Sm big20 TStrand s)(hi:ids.length≤1000):rnP (renTail c s d m t ids):=
 ⟨addRen_sm hs (renNew_sm hi),below_ok (leaves_ok hc)⟩
theorem renew_P {c:Cur}{s:Strand}{d:Doc}{m t:Int}(hc:curOk c)(hs:Sm big20 TStrand s):rnP (renewD c s d m t):=by
 rw[renew_eq]
 unfold renewRaw
 cases (longF s m).2 with
 | false=>exact⟨hs,hc⟩
 | true=>cases (onceF c 3).1 with
   | true=>exact renTail_P (once_ok hc) hs (Nat.le_of_ble_eq_true rfl)
   | false=>exact renTail_P (once_ok hc) hs (Nat.le_of_ble_eq_true rfl)
noncomputable def drawS (d:Doc)(z:Cur×Strand×Int):Cur×Strand×Int:=
 ((intF (renewD (belowF z.1 4).2 z.2.1 d (IntKind.i64.wrap (1+(belowF z.1 4).1)) z.2.2).2 [10,20,40]).2,(renewD (belowF z.1 4).2 z.2.1 d (IntKind.i64.wrap (1+(belowF z.1 4).1)) z.2.2).1,
   IntKind.i64.wrap (z.2.2+(intF (renewD (belowF z.1 4).2 z.2.1 d (IntKind.i64.wrap (1+(belowF z.1 4).1)) z.2.2).2 [10,20,40]).1))
noncomputable def dr1 (c:Cur):Int×Cur:=intF (signedD c).2 [10,25,30]
noncomputable def dr2 (c:Cur):Int×Cur:=belowF (dr1 c).2 4
noncomputable def drZ (c:Cur):Cur×Strand×Int:=itF (drawS (signedD c).1.2.1) (dr2 c).1.toNat ((dr2 c).2,(signedD c).1.1,(dr1 c).1)
noncomputable def strandD (c:Cur):(Strand×Doc×Sig)×Cur:=(((drZ c).2.1,(signedD c).1.2.1,(signedD c).1.2.2),(drZ c).1)
def drP (z:Cur×Strand×Int)(_:Nat):Prop:=curOk z.1∧Sm big20 TStrand z.2.1
theorem drawS_P (d:Doc)(z:Cur×Strand×Int)(k:Nat)(h:drP z k):drP (drawS d z) (k+1):=
 have hr:=renew_P (c:=(belowF z.1 4).2) (d:=d) (m:=IntKind.i64.wrap (1+(belowF z.1 4).1)) (t:=z.2.2) (below_ok h.1) h.2
 ⟨int_ok hr.2,hr.1⟩
theorem dr2_ok {c:Cur}(h:curOk c):curOk (dr2 c).2:=below_ok (int_ok (signed_P h).2)
theorem dr2_n (c:Cur):0≤(dr2 c).1∧(dr2 c).1≤1000000:=belN (by decide) (by decide)
theorem drZ_P {c:Cur}(h:curOk c):drP (drZ c) (dr2 c).1.toNat:=dnAll drP ⟨dr2_ok h,(signed_P h).1⟩ (drawS_P _) _
theorem strandD_ok {c:Cur}(h:curOk c):curOk (strandD c).2:=(drZ_P h).1
theorem strandD_sm {c:Cur}(h:curOk c):Sm big20 TStrand (strandD c).1.1:=(drZ_P h).2
theorem strandD_leaf {c c2:Cur}{s:Strand}{t:Int}(hE:(c2,s,t)=itF (drawS (signedD c).1.2.1) (dr2 c).1.toNat ((dr2 c).2,(signedD c).1.1,(dr1 c).1)):
   strandD c=((s,(signedD c).1.2.1,(signedD c).1.2.2),c2):=by
 unfold strandD drZ
 rw[←hE]
theorem certIdx (c:Cur):inRange (belowF c 3).1 (List.length certsT):=int_range (n:=3) (by decide)
theorem rmApp {others:List Int}(h:others.length≤1000):0+others.length≤maxApp∧([]++others).length+1≤maxApp:=by
 unfold maxApp;simp only[List.nil_append];omega
end Fw
namespace Fw
open Go
end Fw
namespace Fw
open Go
section
variable {n B:Nat} {X:List Nat} {w0:World} {M0 M:Mem} {ω:Own} {ρ:Env} {tmps:Array Value} {w:World}
end
section
variable {G:Cfg} {ρ:Env} {K:Exit→Env→Prop}
end
end Fw
namespace Fw
open Go
set_option linter.unusedSimpArgs false
theorem sm_up {n m:Nat}(h:n≤m):∀ (t:Ty) (x:El t),Sm n t x→Sm m t x
 | .int _,_,_=>trivial
 | .bool,_,_=>trivial
 | .str,_,_=>trivial
 | .arr _ _,_,_=>trivial
 | .slice e,_,g=>⟨Nat.le_trans g.1 h,fun y hy=>sm_up h e y (g.2 y hy)⟩
 | .pair a b,x,g=>⟨sm_up h a x.1 g.1,sm_up h b x.2 g.2⟩
def stOk (p:Piece):Prop:=(pieceStatF p).1.2.1≤9999∧(pieceStatF p).1.2.2.1≤9999
theorem stOk_no {p:Piece}(h:hdP p≠102):stOk p:=by
 have e:pieceStatF p=((0,0,0,0,0),false):=by
   refine ps0 ?_
   have hk:(kindF p != 102)=true:=by
     refine bne_iff_ne.2 ?_
     unfold kindF
     split
     · decide
     · exact h
   unfold psBad
   rw[hk];rfl
 unfold stOk
 rw[e]
 exact⟨by decide,by decide⟩
theorem stOk_st {x:Status}(h1:x.2.1≤9999)(h2:x.2.2.1≤9999):stOk (statusPieceF x):=by
 unfold stOk pieceStatF
 split
 · exact⟨by decide,by decide⟩
 · exact⟨h1,h2⟩
def tinyP (p:Piece):Prop:=Sm 64 TPiece p∧stOk p
def tinyS (s:Strand):Prop:=Sm 64 TStrand s∧∀ p∈s.1,stOk p
theorem pcSm64 {k m:Int}{l:List Int}(h:l.length≤9):Sm 64 TPiece (k,l,m):=⟨trivial,⟨Nat.le_trans h (by decide),fun _ _=>trivial⟩,trivial⟩
theorem tiny_sign (x:Sig):tinyP (signPieceF x):=⟨pcSm64 (Nat.le_of_ble_eq_true rfl),stOk_no (by show (104:Int)≠102;decide)⟩
theorem tiny_cert (x:Cert):tinyP (certPieceF x):=⟨pcSm64 (Nat.le_of_ble_eq_true rfl),stOk_no (by show (101:Int)≠102;decide)⟩
theorem tiny_stamp (k:Int)(x:Stamp):tinyP (stampPieceF k x):=⟨pcSm64 (Nat.le_of_ble_eq_true rfl),stOk_no (by show (103:Int)≠102;decide)⟩
theorem tiny_mand (x:Mandate):tinyP (mandPieceF x):=⟨pcSm64 (Nat.le_of_ble_eq_true rfl),stOk_no (by show (105:Int)≠102;decide)⟩
theorem tiny_stat {x:Status}(h1:x.2.1≤9999)(h2:x.2.2.1≤9999):tinyP (statusPieceF x):=⟨pcSm64 (Nat.le_of_ble_eq_true rfl),stOk_st h1 h2⟩
theorem tiny_make {keys:List Key}{x:Status}(h1:x.2.1≤9999)(h2:x.2.2.1≤9999):tinyP (statusPieceF (makeStatusF keys x).1):=by
 unfold makeStatusF
 cases pick2 (!(isStatusF x)) true (decide (keyI keys x.2.2.2.1<0))with
 | true=>exact tiny_stat (x:=(0,0,0,0,0)) (show (0:Int)≤9999 by decide) (show (0:Int)≤9999 by decide)
 | false=>exact tiny_stat (x:=(x.1,x.2.1,x.2.2.1,x.2.2.2.1,markWithF (keyAt keys x.2.2.2.1) (statusIntsF x))) h1 h2
theorem tiny_statD (c:Cur):tinyP (statusPieceF (statD c).1):=by
 have h1:=below_lt (c:=c) (n:=60) (by decide)
 have h2:0≤(dst1 c).1∧(dst1 c).1<60:=h1
 unfold statD
 cases (dst4 c).1 with
 | true=>
   have h3:0≤(dst5 c).1∧(dst5 c).1<IntKind.i64.wrap ((dst1 c).1+2):=below_lt (by rw[w64 (by omega) (by omega)];omega)
   rw[w64 (by omega) (by omega)]at h3
   exact tiny_make (by show (dst1 c).1≤9999;omega) (by show (dst5 c).1≤9999;omega)
 | false=>exact tiny_make (by show (dst1 c).1≤9999;omega) (by show (-1:Int)≤9999;decide)
theorem tiny_pieceD (c:Cur):tinyP (pieceD c).1:=by
 unfold pieceD
 cases (belowF c 5).1==0 with
 | true=>exact tiny_cert _
 | false=>cases (belowF c 5).1==1 with
   | true=>exact tiny_statD _
   | false=>cases (belowF c 5).1==2 with
     | true=>exact tiny_stamp _ _
     | false=>cases (belowF c 5).1==3 with
       | true=>exact tiny_sign _
       | false=>exact tiny_mand _
theorem tiny_add {s:Strand}{p:Piece}(hs:tinyS s)(hp:tinyP p):tinyS (addPieceF s p).1:=by
 unfold addPieceF
 split
 · rename_i h
   have h1:=(boolC_iff.1 h).1
   have h2:=(inR_iff.1 h1).2
   refine⟨⟨⟨?_,fun x hx=>?_⟩,hs.1.2⟩,fun x hx=>?_⟩
   · show (s.1++[p]).length≤64
     have h2:(((s.1++[p]).length:Nat):Int)≤12:=h2
     omega
   · rcases List.mem_append.1 hx with hx | hx
     · exact hs.1.1.2 x hx
     · rw[List.mem_singleton.1 hx];exact hp.1
   · rcases List.mem_append.1 hx with hx | hx
     · exact hs.2 x hx
     · rw[List.mem_singleton.1 hx];exact hp.2
 · exact hs
theorem tiny_ren {s:Strand}{r:Renewal}(hs:tinyS s)(hr:Sm 64 TRen r):tinyS (addRenF s r).1:=by
 unfold addRenF
 split
 · rename_i h
   have h1:=(boolC_iff.1 h).2.1
   refine⟨⟨hs.1.1,⟨?_,fun x hx=>?_⟩⟩,hs.2⟩
   · show (s.2++[r]).length≤64
     have h1:(((s.2++[r]).length:Nat):Int)≤8:=h1
     omega
   · rcases List.mem_append.1 hx with hx | hx
     · exact hs.1.2.2 x hx
     · rw[List.mem_singleton.1 hx];exact hr
 · exact hs
theorem ren64 {keys:List Key}{l:List Authority}{m leaf:Int}{others:List Int}{count:Int}{ids:List Int}{seq t:Int}(h:ids.length≤4):Sm 64 TRen (renMakeF keys l m leaf others count ids seq t):=by
 refine⟨trivial,trivial,trivial,⟨Nat.le_trans (pathF_len16 _ _ _) (by decide),fun _ _=>⟨trivial,trivial⟩⟩,⟨?_,fun _ _=>⟨trivial,trivial,trivial,trivial,trivial⟩⟩⟩
 exact Nat.le_trans (pick_len _ _) (Nat.le_trans h (by decide))
theorem tiny_renew {c:Cur}{s:Strand}{d:Doc}{m t:Int}(hs:tinyS s):tinyS (renewD c s d m t).1:=by
 rw[renew_eq]
 unfold renewRaw
 cases (longF s m).2 with
 | false=>exact hs
 | true=>cases (onceF c 3).1 with
   | true=>exact tiny_ren hs (ren64 (Nat.le_of_ble_eq_true rfl))
   | false=>exact tiny_ren hs (ren64 (Nat.le_of_ble_eq_true rfl))
theorem tiny_sgS (c:Cur):tinyS (sgS c):=by
 have k:∀ x∈(sgS c).1,tinyP x:=fun x hx=>by
   have hx:x∈[signPieceF (sg1 c).1.1,certPieceF (sgCert c)]:=hx
   rcases List.mem_cons.1 hx with rfl | hx
   · exact tiny_sign _
   · rw[List.mem_singleton.1 hx];exact tiny_cert _
 exact⟨⟨⟨Nat.le_of_ble_eq_true rfl,fun x hx=>(k x hx).1⟩,⟨Nat.zero_le _,fun x hx=>by simp[sgS]at hx⟩⟩,fun x hx=>(k x hx).2⟩
theorem tiny_sgA (c:Cur):tinyP (statusPieceF (sgA c)):=by
 have h:(sg2 c).1∈([10,30,60,90]:List Int):=int_mem (by decide)
 have k:∀ x∈([10,30,60,90]:List Int),x≤9999:=by decide
 exact tiny_make (by show (sg2 c).1≤9999;exact k _ h) (by show (-1:Int)≤9999;decide)
theorem tiny_sgT {c:Cur}{s:Strand}(h:tinyS s):tinyS (sgT c s).1.1:=by
 unfold sgT
 cases (sg4 c).1 with
 | true=>exact tiny_add h (tiny_pieceD _)
 | false=>exact h
theorem tiny_signed (c:Cur):tinyS (signedD c).1.1:=by
 rw[signed_eq]
 unfold signedRaw
 cases (sg3 c).1 with
 | true=>exact tiny_sgT (tiny_sgS c)
 | false=>exact tiny_sgT (tiny_add (tiny_sgS c) (tiny_sgA c))
theorem tiny_big {s:Strand}(h:tinyS s):Sm big20 TStrand s:=sm_up (by decide) _ _ h.1
end Fw
namespace Fw
open Go
set_option linter.unusedSimpArgs false
section
variable {t id:Int} {acc:List Stamp}
end
section
variable {fr:List Stamp} {s0 s s':Strand} {i:Int}
end
end Fw
namespace Fw
open Go
end Fw
namespace Fw
open Go
theorem renOk {c:Cur}{s:Strand}{d:Doc}{m t:Int}(hc:curOk c)(hs:tinyS s):curOk (renewD c s d m t).2:=(renew_P hc (tiny_big hs)).2
end Fw
namespace Fw
open Go
set_option linter.unusedSimpArgs false
section
variable {f:Frame} {a b e:Evidence} {d:Doc} {x:Sig} {p:Piece}
section
variable {less more:List Piece} {k i:Int}
end
end
end Fw
namespace Fw
open Go
section
variable {code:List Int} (h:code.length≤bigLen)
include h
end
end Fw
namespace Fw
open Go
end Fw
namespace Fw
open Go
set_option linter.unusedSimpArgs false
def okR (s:Strand)(k:Nat):Prop:=strandP s∧(∀ r∈s.2,r.1=(List.length s.1:Int))∧List.length s.2≤k
theorem okR_len {s:Strand}{k:Nat}(h:okR s k):1≤List.length s.1∧List.length s.1≤12:=by
 have:=inR_iff.1 h.1.1
 omega
theorem okR_more {s:Strand}{k:Nat}{r:Renewal}(h:okR s k)(hk:k≤7)(hr:r.1=(List.length s.1:Int)):okR (s.1,s.2++[r]) (k+1):=by
 have hl:=okR_len h
 have hlen:List.length (s.2++[r])=List.length s.2+1:=by rw[List.length_append];rfl
 have hmem:∀ y∈s.2++[r],y.1=(List.length s.1:Int):=fun y hy=>by
   rcases List.mem_append.1 hy with hy | hy
   · exact h.2.1 y hy
   · rw[List.mem_singleton.1 hy];exact hr
 have hat:∀ j,j<List.length (s.2++[r])→(renAt (s.1,s.2++[r]) j).1=(List.length s.1:Int):=fun j hj=>by
   refine hmem _ ?_
   show List.getD (s.2++[r]) j (dflt TRen)∈s.2++[r]
   rw[List.getD_eq_getElem?_getD,List.getElem?_eq_getElem hj]
   exact List.getElem_mem _
 have h3:=h.2.2
 refine⟨⟨h.1.1,?_,h.1.2.2.1,fun j hj=>⟨?_,fun h0=>?_⟩⟩,hmem,?_⟩
 · show ((List.length (s.2++[r]):Nat):Int)≤8
   rw[hlen];omega
 · rw[hat j hj]
   refine inR_iff.2 ⟨?_,Int.le_refl _⟩
   omega
 · rw[hat j hj,hat (j-1) (by have hj:j<List.length (s.2++[r]):=hj;omega)]
   exact Int.le_refl _
 · show List.length (s.2++[r])≤k+1
   rw[hlen];omega
theorem okR_ren {s:Strand}{k:Nat}{r:Renewal}(h:okR s k)(hk:k≤7)(hr:r.1=(List.length s.1:Int)):addRenF s r=((s.1,s.2++[r]),true):=by
 unfold addRenF
 exact if_pos (boolC_iff.2 (okR_more h hk hr).1)
theorem okR_long {s:Strand}{k:Nat}{m:Int}(h:okR s k)(hk:k≤7):(longF s m).2=true:=by
 unfold longF
 rw[okR_ren h hk rfl]
theorem okR_renew {c:Cur}{s:Strand}{k:Nat}{d:Doc}{m t:Int}(h:okR s k)(hk:k≤7):okR (renewD c s d m t).1 (k+1):=by
 rw[renew_eq]
 unfold renewRaw
 rw[okR_long h hk]
 show okR (cond (onceF c 3).1 (renTail (onceF c 3).2 s d m t [1,3,4]) (renTail (onceF c 3).2 s d m t [1,2,3,4])).1 (k+1)
 cases (onceF c 3).1 with
 | true=>show okR (addRenF s _).1 (k+1);rw[okR_ren h hk rfl];exact okR_more h hk rfl
 | false=>show okR (addRenF s _).1 (k+1);rw[okR_ren h hk rfl];exact okR_more h hk rfl
theorem okR_piece {s:Strand}{p:Piece}(h:okR s 0):okR (addPieceF s p).1 0:=by
 unfold addPieceF
 split
 · rename_i h2
   have e:s.2=[]:=List.length_eq_zero_iff.1 (by have:=h.2.2;omega)
   exact⟨boolC_iff.1 h2,by show ∀ r∈s.2,_;rw[e];simp,by show List.length s.2≤0;exact h.2.2⟩
 · exact h
theorem okR_sgS (c:Cur):okR (sgS c) 0:=by
 refine⟨⟨inR_iff.2 ⟨by show (1:Int)≤((2:Nat):Int);decide,by show ((2:Nat):Int)≤12;decide⟩,by show ((0:Nat):Int)≤8;decide,fun k hk j hj=>?_,fun k hk=>absurd hk (Nat.not_lt_zero k)⟩,fun r hr=>by simp[sgS]at hr,Nat.le_refl 0⟩
 have hk:k<2:=hk
 have e1:k=1:=by omega
 have e2:j=0:=by omega
 subst e1;subst e2
 show signPieceF (sg1 c).1.1≠certPieceF (sgCert c)
 intro e
 have e3:hdP (signPieceF (sg1 c).1.1)=hdP (certPieceF (sgCert c)):=by rw[e]
 have e4:(104:Int)=101:=e3
 cases e4
theorem okR_sgT {c:Cur}{s:Strand}(h:okR s 0):okR (sgT c s).1.1 0:=by
 unfold sgT
 cases (sg4 c).1 with
 | true=>exact okR_piece h
 | false=>exact h
theorem okR_signed (c:Cur):okR (signedD c).1.1 0:=by
 rw[signed_eq]
 unfold signedRaw
 cases (sg3 c).1 with
 | true=>exact okR_sgT (okR_sgS c)
 | false=>exact okR_sgT (okR_piece (okR_sgS c))
def drQ (z:Cur×Strand×Int)(k:Nat):Prop:=curOk z.1∧tinyS z.2.1∧okR z.2.1 k
theorem drInv_P {c c2:Cur}{s:Strand}{t i:Int}(h:curOk c)(hI:dnInv (drawS (signedD c).1.2.1) ((dr2 c).2,(signedD c).1.1,(dr1 c).1) (dr2 c).1 (c2,s,t) i)(hl:i>0):
   curOk c2∧tinyS s∧∀ m,(longF s m).2=true:=by
 obtain⟨k,h1,h2,h3,h4⟩:=hI
 have hn:(dr2 c).1<4:=(below_lt (by decide)).2
 have key:∀ k:Nat,(k:Int)≤4→drQ (itF (drawS (signedD c).1.2.1) k ((dr2 c).2,(signedD c).1.1,(dr1 c).1)) k:=by
   intro k
   induction k with
   | zero=>intro _;exact⟨dr2_ok h,tiny_signed c,okR_signed c⟩
   | succ k ih=>
     intro hk
     have q:=ih (by omega)
     exact⟨int_ok (renew_P (below_ok q.1) (tiny_big q.2.1)).2,tiny_renew q.2.1,okR_renew q.2.2 (by omega)⟩
 have q:=key k (by omega)
 rw[←h1]at q
 exact⟨q.1,q.2.1,fun m=>okR_long q.2.2 (by omega)⟩
end Fw
namespace Fw
open Go
set_option linter.unusedSimpArgs false
noncomputable def bs1 (c:Cur):Int×Cur:=belowF (stampD c).2 9
end Fw
namespace Fw
open Go
set_option linter.unusedSimpArgs false
theorem loElim {b:Bool}(h:b=true)(g:(!b)=true):False:=by rw[h]at g;cases g
section
variable {c:Cur} (h:curOk c)
include h
end
end Fw
namespace Fw
open Go
section
variable {e:Evidence} {acc acc2:List Stamp} {i k:Int}
end
end Fw
namespace Fw
open Go
set_option linter.unusedSimpArgs false
section
variable {ks:List Key} {l:List Authority} {a b:Stamp}
end
section
variable {st:List Stamp} {ks:List Key} {l:List Authority} {z:Stamp×Stamp}
end
end Fw
namespace Fw
open Go
end Fw
namespace Fw
open Go
set_option linter.unusedSimpArgs false
section
variable {f:Frame} {e:Evidence} {d:Doc} {x:Sig} {us:List Piece} {c:Cert}
end
end Fw
namespace Fw
open Go
set_option linter.unusedSimpArgs false
end Fw
namespace Fw
open Go
theorem itemAt_get {a:Archive}{k:Nat}(h:k<a.2.length):itemAt a k=a.2[k]:=by
 unfold itemAt
 rw[List.getD_eq_getElem?_getD,List.getElem?_eq_getElem h];rfl
def idLt (x y:Item):Prop:=x.1<y.1
theorem good_lt {a:Archive}(h:∀ k,k<List.length a.2→goodP a k):∀ (k:Nat),k<a.2.length→∀ j,j<k→(itemAt a j).1<(itemAt a k).1
 | 0,_,j,hj=>by omega
 | k+1,hk,j,hj=>by
   have h1:=(h (k+1) hk).2 (by omega)
   rw[Nat.add_sub_cancel]at h1
   by_cases e:j=k
   · rw[e];exact h1
   · have:=good_lt h k (by omega) j (by omega)
     omega
theorem arch_mk {a:Archive}:archF a=true↔(∀ x∈a.2,itemF x=true)∧a.2.Pairwise idLt∧inRangeF a.1 0 99=true∧(List.length a.2:Int)≤8:=by
 unfold archF
 rw[boolC_iff]
 constructor
 · rintro⟨h1,h2,h3⟩
   refine⟨fun x hx=>?_,List.pairwise_iff_getElem.2 fun i j hi hj hij=>?_,h2,h3⟩
   · obtain⟨k,hk,rfl⟩:=List.getElem_of_mem hx
     have:=(h1 k hk).1
     rwa [itemAt_get hk]at this
   · have:=good_lt h1 j hj i hij
     rw[itemAt_get hi,itemAt_get hj]at this
     exact this
 · rintro⟨h1,h2,h3,h4⟩
   refine⟨fun k hk=>⟨?_,fun h0=>?_⟩,h3,h4⟩
   · rw[itemAt_get hk];exact h1 _ (List.getElem_mem _)
   · rw[itemAt_get hk,itemAt_get (show k-1<a.2.length by have:k<a.2.length:=hk;omega)]
     exact List.pairwise_iff_getElem.1 h2 (k-1) k (by have:k<a.2.length:=hk;omega) hk (by omega)
theorem add_ok {a y:Archive}{x:Item}(h:addItemF a x=(y,true)):archF y=true∧y=(a.1,insI x a.2):=by
 unfold addItemF at h
 split at h
 · rename_i hc
   have e:(a.1,insI x a.2)=y:=congrArg Prod.fst h
   subst e
   exact⟨hc.2,rfl⟩
 · have:=congrArg Prod.snd h;cases this
theorem insP_self {α:Type}(p:α→Bool)(x:α)(l:List α):x∈insP p x l:=by unfold insP;simp
theorem insP_old {α:Type}(p:α→Bool)(x:α){l:List α}{y:α}(h:y∈l):y∈insP p x l:=by
 have e:=List.takeWhile_append_dropWhile (p:=p) (l:=l)
 rw[←e]at h
 unfold insP
 rcases List.mem_append.1 h with h | h
 · exact List.mem_append.2 (.inl h)
 · exact List.mem_append.2 (.inr (List.mem_cons_of_mem _ h))
theorem adds:∀ (l:List Item) (b y:Archive),l.foldl acStep (b,true)=(y,true)→
   y.2.length=b.2.length+l.length∧(l≠[]→archF y=true)∧(∀ z∈l,z∈y.2)∧(∀ z∈b.2,z∈y.2)
 | [],b,y,h=>by
   have e:b=y:=congrArg Prod.fst h
   subst e
   exact⟨rfl,fun h=>(h rfl).elim,fun z hz=>by simp at hz,fun z hz=>hz⟩
 | x::l,b,y,h=>by
   rw[List.foldl_cons]at h
   have e1:acStep (b,true) x=addItemF b x:=if_pos rfl
   rw[e1]at h
   cases hd:addItemF b x with
   | mk b' t=>
     rw[hd]at h
     cases t with
     | false=>
       rw[st_stuck ac_stuck]at h
       have:=congrArg Prod.snd h;cases this
     | true=>
       obtain⟨ha,rfl⟩:=add_ok hd
       obtain⟨k1,k2,k3,k4⟩:=adds l _ y h
       have hlen:(insI x b.2).length=b.2.length+1:=insP_len
       have k1:y.2.length=(insI x b.2).length+l.length:=k1
       refine⟨by rw[hlen]at k1;show y.2.length=b.2.length+(l.length+1);omega,fun _=>?_,fun z hz=>?_,fun z hz=>k4 z (insP_old _ _ hz)⟩
       · by_cases hl:l=[]
         · subst hl
           have e:((b.1,insI x b.2):Archive)=y:=congrArg Prod.fst h
           rw[←e];exact ha
         · exact k2 hl
       · rcases List.mem_cons.1 hz with rfl | hz
         · exact k4 _ (insP_self _ _ _)
         · exact k3 z hz
end Fw
namespace Fw
open Go
noncomputable def it1 (c:Cur):Int×Cur:=belowF (strandD c).2 9
noncomputable def it2 (c:Cur):Int×Cur:=intF (it1 c).2 [50,100,10000]
noncomputable def itemRaw (c:Cur):Item×Cur:=((IntKind.i64.wrap (1+(it1 c).1),(it2 c).1,(strandD c).1.2.1,(strandD c).1.2.2,(strandD c).1.1),(it2 c).2)
theorem itemEx:∃ f:Cur→Item×Cur,∀ c,f c=itemRaw c:=⟨itemRaw,fun _=>rfl⟩
noncomputable def itemD (c:Cur):Item×Cur:=Classical.choose itemEx c
theorem item_eq (c:Cur):itemD c=itemRaw c:=Classical.choose_spec itemEx c
theorem itemD_ok {c:Cur}(h:curOk c):curOk (itemD c).2:=by
 rw[item_eq];exact int_ok (below_ok (strandD_ok h))
theorem signed_doc (c:Cur):(signedD c).1.2.1=(docD c).1:=by
 rw[signed_eq]
 unfold signedRaw
 have key:∀ s,(sgT c s).1.2.1=(docD c).1:=by
   intro s
   unfold sgT
   cases (sg4 c).1<;>rfl
 cases (sg3 c).1<;>exact key _
theorem docD_sm {c:Cur}(h:curOk c):Sm big20 TDoc (docD c).1:=by
 have hd:=docD_doc h
 have h1:=boolC_iff.1 hd
 have h2:=(inR_iff.1 h1.2.1).2
 have h3:=h1.2.2.1
 refine⟨trivial,⟨?_,fun _ _=>trivial⟩,⟨?_,fun _ _=>trivial⟩⟩
 · show List.length (docD c).1.2.1≤big20
   unfold big20;omega
 · show List.length (docD c).1.2.2≤big20
   unfold big20;omega
theorem itemD_sm {c:Cur}(h:curOk c):Sm big20 TItem (itemD c).1:=by
 rw[item_eq]
 refine⟨trivial,trivial,?_,⟨trivial,trivial,trivial,trivial,trivial,trivial,trivial,trivial,trivial⟩,strandD_sm h⟩
 show Sm big20 TDoc (signedD c).1.2.1
 rw[signed_doc];exact docD_sm h
noncomputable def archS (z:Cur×Archive):Cur×Archive:=((itemD z.1).2,(addItemF z.2 (itemD z.1).1).1)
noncomputable def rc1 (c:Cur):Int×Cur:=belowF c 3
noncomputable def rc2 (c:Cur):Int×Cur:=belowF (rc1 c).2 4
noncomputable def archZ (c:Cur):Cur×Archive:=itF archS (rc2 c).1.toNat ((rc2 c).2,((rc1 c).1,[]))
theorem archEx:∃ f:Cur→Archive×Cur,∀ c,f c=((archZ c).2,(archZ c).1):=⟨fun c=>((archZ c).2,(archZ c).1),fun _=>rfl⟩
noncomputable def archD (c:Cur):Archive×Cur:=Classical.choose archEx c
theorem archD_eq (c:Cur):archD c=((archZ c).2,(archZ c).1):=Classical.choose_spec archEx c
def rcP (z:Cur×Archive)(_:Nat):Prop:=curOk z.1∧archF z.2=true∧Sm big20 TArch z.2
theorem addItem_sm {a:Archive}{x:Item}(ha:Sm big20 TArch a)(hx:Sm big20 TItem x):Sm big20 TArch (addItemF a x).1:=by
 unfold addItemF
 split
 · rename_i h
   have h1:=(arch_mk.1 h.2).2.2.2
   refine⟨trivial,⟨?_,fun y hy=>?_⟩⟩
   · show (insI x a.2).length≤big20
     have h1:(((insI x a.2).length:Nat):Int)≤8:=h1
     unfold big20;omega
   · rcases insP_mem hy with rfl | hy
     · exact hx
     · exact ha.2.2 y hy
 · exact ha
theorem addItem_arch {a:Archive}{x:Item}(ha:archF a=true):archF (addItemF a x).1=true:=by
 unfold addItemF
 split
 · rename_i h;exact h.2
 · exact ha
theorem archS_P (z:Cur×Archive)(k:Nat)(h:rcP z k):rcP (archS z) (k+1):=
 ⟨itemD_ok h.1,addItem_arch h.2.1,addItem_sm h.2.2 (itemD_sm h.1)⟩
theorem rc2_ok {c:Cur}(h:curOk c):curOk (rc2 c).2:=below_ok (below_ok h)
theorem rc2_n (c:Cur):0≤(rc2 c).1∧(rc2 c).1≤1000000:=belN (by decide) (by decide)
theorem rc0_P {c:Cur}(h:curOk c):rcP ((rc2 c).2,((rc1 c).1,[])) 0:=by
 refine⟨rc2_ok h,arch_mk.2 ⟨fun x hx=>by simp at hx,List.Pairwise.nil,inR_iff.2 ?_,by show ((0:Nat):Int)≤8;decide⟩,⟨trivial,⟨Nat.zero_le _,fun x hx=>by simp at hx⟩⟩⟩
 have:=below_lt (c:=c) (n:=3) (by decide)
 show 0≤(belowF c 3).1∧(belowF c 3).1≤99
 omega
theorem archZ_P {c:Cur}(h:curOk c):rcP (archZ c) (rc2 c).1.toNat:=dnAll rcP (rc0_P h) archS_P _
theorem archD_ok {c:Cur}(h:curOk c):curOk (archD c).2:=by rw[archD_eq];exact(archZ_P h).1
theorem archD_sm {c:Cur}(h:curOk c):Sm big20 TArch (archD c).1:=by rw[archD_eq];exact(archZ_P h).2.2
theorem archD_leaf {c c2:Cur}{a:Archive}(hE:(c2,a)=itF archS (rc2 c).1.toNat ((rc2 c).2,((rc1 c).1,[]))):archD c=(a,c2):=by
 rw[archD_eq]
 unfold archZ
 rw[←hE]
end Fw
namespace Fw
open Go
section
variable {a b:Archive} {ids:List Int} {m:Int}
end
end Fw
namespace Fw
open Go
set_option linter.unusedSimpArgs false
end Fw
namespace Fw
open Go
set_option linter.unusedSimpArgs false
section
variable {x0 x:Item} {a0 a a':Archive} {i:Int}
end
section
variable {code:List Int} (h:code.length≤bigLen)
include h
end
end Fw
namespace Fw
open Go
set_option linter.unusedSimpArgs false
section
variable {methods hide:List Int} {d:Doc} {m:Int}
end
section
variable {a:Archive} {now:Int} {f:Frame} {i:Int}
end
section
variable {code:List Int} (h:code.length≤bigLen)
include h
end
end Fw
namespace Fw
open Go
section
variable {n B:Nat} {X:List Nat} {w0:World} {M0 M:Mem} {ω:Own} {ρ:Env} {tmps:Array Value} {w:World} {P:Program} {C:Ctx}
theorem put_big (S:St0 n B X w0 M0 M ω ρ tmps w)(hB:B≤w.heap.size){k:Nat}(hk:k<n){w':World}{ω':Own}
   (hos:w'.os=w.os) (htape:w'.tape=w.tape) (hout:w'.output=w.output) (hsz:w.heap.size≤w'.heap.size)
   (hoth:∀ i,i<w.heap.size→ω i≠some k→w'.heap[i]?=w.heap[i]?)
   (hω:∀ i,ω' i=ω i∨(ω' i=some k∧(ω i=some n∨(w.heap.size≤i∧i<w'.heap.size)))) {A':A}
   (hA:Rel n M ω' w' (ρ.puts [⟨k,true,A'⟩]) (vl tmps) k (vl tmps k) A'):
   St0 n B X w0 M0 M ω' (ρ.puts [⟨k,true,A'⟩]) tmps w':=by
 have hget:(ρ.puts [(⟨k,true,A'⟩:Wr)]).get k=⟨(ρ.get k).g,(ρ.get k).ver+1,A'⟩:=by
   show (ρ.put _).get k=_
   rw[Env.get_put];simp
 have hin:∀ i o v,M i o=some v→i<w.heap.size:=fun i o v hm=>by
   rcases Nat.lt_or_ge i w.heap.size with h | h
   · exact h
   · have:=S.mem i o v hm
     simp[World.cell?,Array.getElem?_eq_none h]at this
 refine S.step _ S.size ⟨hos,htape,hout,hsz,fun i hi hx=>hoth i (by omega) fun e=>?_⟩ (Mem.le_refl _) (fun _ _ _ _=>rfl) ?_ ?_ (fun _ _=>rfl) ?_ ?_ ?_
 · rcases (S.dis i k e).1 with d1 | d1
   · omega
   · exact hx d1
 · intro i o v hm
   have hne:ω i≠some k:=fun e=>by rw[(S.dis i k e).2.2 o]at hm;cases hm
   rw[cell_of_block (hoth i (hin i o v hm) hne)]
   exact S.mem i o v hm
 · intro i j hj
   rcases hω i with h | ⟨_,h | h⟩
   · rw[h]at hj
     obtain⟨q1,q2,q3⟩:=S.dis i j hj
     exact⟨q1,by omega,q3⟩
   · obtain⟨q1,q2,q3⟩:=S.dis i n h
     exact⟨q1,by omega,q3⟩
   · refine⟨.inl (by omega),h.2,fun o=>?_⟩
     cases hm:M i o with
     | none=>rfl
     | some v=>have:=hin i o v hm;omega
 · intro x hx
   simp at hx;subst hx;exact hk
 · intro t ht hne i hi
   have htk:t≠k:=fun e=>hne _ (List.mem_singleton.2 rfl) e.symm
   have hlt:=(S.dis i t hi).2.1
   refine⟨?_,hoth i hlt fun e=>by rw[hi]at e;simp at e;exact htk e⟩
   rcases hω i with h | ⟨_,h | h⟩
   · rw[h];exact hi
   · rw[hi]at h;simp at h;omega
   · omega
 · intro t ⟨x,hx,hxt⟩ _
   simp at hx;subst hx
   have:t=k:=hxt.symm
   subst this
   rw[hget];exact hA
def appElK {R:Type}(e0:Ent)(off:Nat)(et:Ty)(i eo:Nat)(E:Ty)(e2:Sh)(ys2:List (El e2.ty))(k:Nat→(s:Sh)→El s.ty→Option R):Option R:=
 match e0.a with
 | .c (.ref s) x=>s.cutK x off (.slice et) fun s1 y1 sh xh=>
   match s1,y1 with
   | .own e,ys=>if e.noref=true then e.cutK (ys.getD i (dflt e.ty)) eo (.slice E) fun s3 y3 eh yh=>
       match s3,y3 with
       | .own eR,xs=>
         if hu:upB e2 eR=true then
           if eR.noref=true∧e2.noref=true then
             castLs (upB_ty e2 eR hu) (fun zs=>eh.updK yh eo (.own eR) (xs++zs) fun e4 z=>
               if h4:upB e4 e=true then castK (upB_ty e4 e h4) (fun z=>sh.updK xh off (.own e) (ys.set i z) fun s5 x5=>k xs.length s5 x5) z else none) ys2
           else none
         else none
       | _,_=>none
     else none
   | _,_=>none
 | _=>none
theorem nodup_big {bb b:Nat}{b1 b2 b3 d1 d3 y1 y2 y3 f1 f2 f3 g1 g2 g3 bsN bsI:List Nat}(h:(bb::(b1++b2++b3)).Nodup)(hb2:b2=b::bsI)(hI:bsI=d1++(y1++y2++y3)++d3)
   (hf:b1++b3=f1++f2++f3) (hg:y1++y3=g1++g2++g3) (hN:bsN.Nodup) (hnew:∀ j∈bsN,j∈y2∨j∉bb::(b1++b2++b3)):
   (bb::(f1++(b::(d1++(g1++bsN++g3)++d3))++f3)).Nodup:=by
 subst hb2;subst hI
 rw[List.nodup_iff_count]at h hN ⊢
 intro a
 have h1:=h a
 have h2:=hN a
 have e1:=congrArg (List.count a) hf
 have e2:=congrArg (List.count a) hg
 by_cases hm:a∈bsN
 · rcases hnew a hm with h3 | h3
   · have h4:=List.count_pos_iff.2 h3
     simp only[List.count_append,List.count_cons]at h1 h2 e1 e2 ⊢
     omega
   · have h4:=List.count_eq_zero.2 h3
     simp only[List.count_append,List.count_cons]at h1 h2 h4 e1 e2 ⊢
     omega
 · have h3:=List.count_eq_zero.2 hm
   simp only[List.count_append,List.count_cons]at h1 h2 h3 e1 e2 ⊢
   omega
theorem EncO.ownRow {M:Mem}{R:RowFn}{e:Sh}{v:Value}{xs:List (El e.ty)}{bs:List Nat}(h:EncO M R (.own e) [v] xs bs):
   (bs=[]∧(∃ a,v=.slice a 0 0)∧xs=[])∨
     ∃ b cap row bss,bs=b::bss∧v=.slice (some ⟨b,0,none⟩) xs.length cap∧xs.length≤cap∧cap≤bigLen∧R b=some row∧row.length=cap*e.size∧GroupsO (EncO M R e) e.size row xs bss:=by
 rcases h with⟨h1,⟨a,h2,_⟩,h3⟩ | ⟨b,cap,row,bss,h1,h2,h3⟩
 · exact .inl ⟨h1,⟨a,by simpa using h2⟩,h3⟩
 · exact .inr ⟨b,cap,row,bss,h1,by simpa using h2,h3⟩
theorem app_run {t te ty:TypeId}{E:Ty}(hu:P.underlying t=some (.slice te))(hTe:TyR P te E){M2:Mem}{ω2:Own}{eR:Sh}(hes:eR.size=E.size){v54 v63:Value}{xs zs:List (El eR.ty)}{y2:List Nat}
   (hx:EncO M2 (rows w) (.own eR) [v54] xs y2) (hn2:y2.Nodup)
   {a:Option Addr} {c:Nat} {news:List Value} {bsY:List Nat} (e1:v63=.slice a zs.length c) (e3:news.length=zs.length*E.size)
   (e4:∀ ad,a=some ad→(ad.spot=none∨zs.length=0)∧CellsAt (full w) ad.block ad.off news) (e5:a=none→zs.length=0) (e6:GroupsO (EncO M2 (rows w) eR) E.size news zs bsY)
   (hpl:Plain news) (hnY:bsY.Nodup) (hdj:∀ j∈bsY,j∉y2) (hlt:∀ j∈bsY,j<w.heap.size) (hle:xs.length+zs.length≤maxApp) (_:ω2=ω2):
   ∃ v w1 bsN,(Builtin.append_ #[t,t] ty #[v54,v63]).run P w=.ok v w1∧w1.os=w.os∧w1.tape=w.tape∧w1.output=w.output∧w.heap.size≤w1.heap.size∧
     (∀ j,j<w.heap.size→j∉y2→w1.heap[j]?=w.heap[j]?)∧EncO M2 (rows w1) (.own eR) [v] (xs++zs) bsN∧bsN.Nodup∧
     (∀ j∈bsN,j∈y2∨j∈bsY∨(w.heap.size≤j∧j<w1.heap.size))∧v.oneCell'=true∧v.cells.toList=[v]:=by
 subst e1
 -- a new row
 have new:∀ (base:Option Addr) (cap:Nat) (olds:List Value) (bss:List Nat),v54=.slice base xs.length cap→cap<xs.length+zs.length→olds.length=xs.length*E.size→
     (∀ bd,base=some bd→(bd.spot=none∨xs.length=0)∧CellsAt (full w) bd.block bd.off olds)→(base=none→xs.length=0∧cap=0)→xs.length≤cap→
     GroupsO (EncO M2 (rows w) eR) E.size olds xs bss→bss.Nodup→(∀ j∈bss,j∈y2)→
     ∃ v w1 bsN,(Builtin.append_ #[t,t] ty #[v54,.slice a zs.length c]).run P w=.ok v w1∧w1.os=w.os∧w1.tape=w.tape∧w1.output=w.output∧w.heap.size≤w1.heap.size∧
       (∀ j,j<w.heap.size→j∉y2→w1.heap[j]?=w.heap[j]?)∧EncO M2 (rows w1) (.own eR) [v] (xs++zs) bsN∧bsN.Nodup∧
       (∀ j∈bsN,j∈y2∨j∈bsY∨(w.heap.size≤j∧j<w1.heap.size))∧v.oneCell'=true∧v.cells.toList=[v]:=by
   intro base cap olds bss q1 q2 q3 q4 q5 q5' q6 q7 q8
   subst q1
   cases a with
   | none=>have:=e5 rfl;omega
   | some ad=>
     obtain⟨f1,f2⟩:=e4 ad rfl
     have f1:ad.spot=none:=f1.resolve_right (by omega)
     obtain⟨cap',sp,w',g1,g2,g3,g4,g5⟩:=run_append_new (P:=P) (w:=w) (ty:=ty) hu hTe q3 q4 q5 e3 f1 f2 q2 hle
     have hb:∀ j∈bss++bsY,j<w.heap.size:=fun j hj=>by
       rcases List.mem_append.1 hj with hj | hj
       · obtain⟨row,hr⟩:=GroupsO.rows (Q:=fun b=>∃ row,rows w b=some row) xs _ bss (fun x _ cs b hp=>EncO.rows eR cs x b hp) q6 j hj
         exact rows_lt hr
       · exact hlt j hj
     have hrow:∀ j∈bss++bsY,rows w' j=rows w j:=fun j hj=>rows_of_block (g2.old j (hb j hj))
     refine⟨_,w',w.heap.size::(bss++bsY),g1,g2.os,g2.tape,g2.output,by rw[g2.size];omega,fun j hj _=>g2.old j hj,?_,?_,?_,rfl,rfl⟩
     · refine .inr ⟨w.heap.size,cap',olds++news++sp,bss++bsY,rfl,by simp,by simpa using g3,g4,g2.row,by rw[g5,hes],?_⟩
       rw[hes]
       refine GroupsO.spare _ _ _ _ (GroupsO.append xs zs olds news bss bsY q3 ?_ ?_)
       · exact GroupsO.imp xs olds bss (fun x _ cs b' hb' hp=>EncO.mono (Mem.le_refl _) eR cs x b' (fun i hi=>hrow i (by simp[hb' i hi])) hp) q6
       · exact GroupsO.imp zs news bsY (fun x _ cs b' hb' hp=>EncO.mono (Mem.le_refl _) eR cs x b' (fun i hi=>hrow i (by simp[hb' i hi])) hp) e6
     · rw[List.nodup_cons,List.nodup_append]
       exact⟨fun hm=>by have:=hb _ hm;omega,q7,hnY,fun i hi j hj e=>by subst e;exact hdj i hj (q8 i hi)⟩
     · intro j hj
       rcases List.mem_cons.1 hj with rfl | hj
       · exact .inr (.inr ⟨Nat.le_refl _,by rw[g2.size];omega⟩)
       · rcases List.mem_append.1 hj with hj | hj
         · exact .inl (q8 j hj)
         · exact .inr (.inl hj)
 rcases EncO.ownRow hx with⟨q1,⟨a0,q2⟩,q3⟩ | ⟨b,cap,row,bss,q1,q2,q3,q4,q5,q6,q7⟩
 · subst q3
   by_cases hm:zs.length=0
   · have hz:zs=[]:=List.length_eq_zero_iff.1 hm
     subst hz
     have hnews:news=[]:=List.length_eq_zero_iff.1 (by rw[e3];simp)
     subst hnews
     subst q2
     refine⟨.slice a0 0 0,w,[],?_,rfl,rfl,rfl,Nat.le_refl _,fun _ _ _=>rfl,.inl ⟨rfl,⟨a0,rfl,trivial⟩,rfl⟩,List.nodup_nil,by simp,rfl,rfl⟩
     exact run_append_room (P:=P) (w:=w) (ty:=ty) hu hTe (base:=a0) (nn:=0) (cap:=0) (m:=0) (c:=c) (a:=a) (news:=[]) (by simp) (fun ad h=>⟨(e4 ad h).1,fun j c hj=>by simp at hj⟩) (fun _=>rfl) (Nat.le_refl _) (fun ad _=>rfl) (fun _=>rfl)
   · exact new a0 0 [] [] q2 (by simp;omega) (by simp) (fun bd h=>⟨.inr rfl,fun j c hj=>by simp at hj⟩) (fun _=>⟨rfl,rfl⟩) (by simp) rfl List.nodup_nil (by simp)
 · rw[hes]at q6 q7
   obtain⟨k1,k2⟩:=GroupsO.cut xs row bss q7
   have hol:(row.take (xs.length*E.size)).length=xs.length*E.size:=by rw[List.length_take];omega
   rw[q1]at hn2 hdj
   obtain⟨n1,n2⟩:=List.nodup_cons.1 hn2
   by_cases hroom:xs.length+zs.length≤cap
   · have hfit:xs.length*E.size+0+news.length≤row.length:=by
       rw[e3,q6,Nat.add_zero,←Nat.add_mul];exact Nat.mul_le_mul_right _ hroom
     obtain⟨w',f1,f2⟩:=run_storeCells (P:=P) news 0 w b (xs.length*E.size) row q5 hfit hpl
     rw[Nat.add_zero]at f2
     have hbn:b∉bss++bsY:=fun hm=>by
       rcases List.mem_append.1 hm with hm | hm
       · exact n1 hm
       · exact hdj b hm (by simp)
     have hrow:∀ i∈bss++bsY,rows w' i=rows w i:=fun i hi=>rows_of_block (f2.other i (fun e=>hbn (e ▸ hi)))
     refine⟨.slice (some ⟨b,0,none⟩) (xs.length+zs.length) cap,w',b::(bss++bsY),?_,f2.os,f2.tape,f2.output,by rw[f2.size];exact Nat.le_refl _,fun j _ hj=>f2.other j (fun e=>hj (by rw[q1,e];simp)),?_,?_,?_,rfl,rfl⟩
     · rw[q2]
       exact run_append_room (P:=P) (w:=w) (ty:=ty) hu hTe (base:=some ⟨b,0,none⟩) (nn:=xs.length) (cap:=cap) (m:=zs.length) (c:=c) (a:=a) (news:=news) e3 e4 e5 hroom
         (fun ad h=>by simp only[Option.some.injEq]at h;subst h;rw[addr_add,Nat.zero_add];exact f1) (fun h=>by cases h)
     · refine .inr ⟨b,cap,_,bss++bsY,rfl,by simp,by simpa using hroom,q4,f2.row,?_,?_⟩
       · simp only[List.length_append,hol,List.length_drop]
         rw[hes,q6,←q6];omega
       · rw[hes]
         refine GroupsO.spare _ _ _ _ (GroupsO.append xs zs _ news bss bsY hol ?_ ?_)
         · exact GroupsO.imp xs _ bss (fun x _ cs b' hb' hp=>EncO.mono (Mem.le_refl _) eR cs x b' (fun i hi=>hrow i (by simp[hb' i hi])) hp) k2
         · exact GroupsO.imp zs news bsY (fun x _ cs b' hb' hp=>EncO.mono (Mem.le_refl _) eR cs x b' (fun i hi=>hrow i (by simp[hb' i hi])) hp) e6
     · rw[List.nodup_cons,List.nodup_append]
       exact⟨hbn,n2,hnY,fun i hi j hj e=>by subst e;exact hdj i hj (by simp[hi])⟩
     · intro j hj
       rcases List.mem_cons.1 hj with rfl | hj
       · exact .inl (by rw[q1];simp)
       · rcases List.mem_append.1 hj with hj | hj
         · exact .inl (by rw[q1];simp[hj])
         · exact .inr (.inl hj)
   · refine new (some ⟨b,0,none⟩) cap (row.take (xs.length*E.size)) bss q2 (by omega) hol (fun bd h=>?_) (fun h=>by cases h) q3 k2 n2 (fun j hj=>by rw[q1];simp[hj])
     simp only[Option.some.injEq]at h;subst h
     refine⟨.inl rfl,fun j c hj=>rows_full q5 j c ?_⟩
     rw[List.getElem?_take]at hj
     split at hj
     · exact hj
     · cases hj
theorem GroupsO.atQ {α:Type}{p:List Value→α→List Nat→Prop}{sz:Nat}:∀ (xs:List α) (vs:List Value) (bs:List Nat) (i:Nat) (x:α),GroupsO p sz vs xs bs→xs[i]?=some x→
   ∃ r1 r2 r3 c1 c2 c3,vs=r1++r2++r3∧bs=c1++c2++c3∧r1.length=i*sz∧r2.length=sz∧p r2 x c2∧
     ∀ (q:List Value→α→List Nat→Prop),(∀ y cs b,(∀ j∈b,j∈c1++c3)→p cs y b→q cs y b)→∀ r2' z c2',r2'.length=sz→q r2' z c2'→GroupsO q sz (r1++r2'++r3) (xs.set i z) (c1++c2'++c3)
 | [],_,_,_,_,_,h=>by simp at h
 | y::xs,vs,bs,0,x,⟨v1,v2,b1,b2,h1,h2,h3,h4,h5⟩,hx=>by
   simp at hx;subst hx
   exact⟨[],v1,v2,[],b1,b2,by simp[h1],by simp[h3],by simp,h2,h4,fun q hq r2' z c2' g1 g2=>⟨r2',v2,c2',b2,by simp,g1,by simp,g2,
     GroupsO.imp xs v2 b2 (fun y _ cs b hb hp=>hq y cs b (fun j hj=>by simp[hb j hj]) hp) h5⟩⟩
 | y::xs,vs,bs,i+1,x,⟨v1,v2,b1,b2,h1,h2,h3,h4,h5⟩,hx=>by
   obtain⟨r1,r2,r3,c1,c2,c3,g1,g2,g3,g4,g5,g6⟩:=GroupsO.atQ xs v2 b2 i x h5 (by simpa using hx)
   refine⟨v1++r1,r2,r3,b1++c1,c2,c3,by simp[h1,g1],by simp[h3,g2],by simp[h2,g3,Nat.add_mul];omega,g4,g5,fun q hq r2' z c2' k1 k2=>?_⟩
   exact⟨v1,r1++r2'++r3,b1,c1++c2'++c3,by simp,h2,by simp,hq y v1 b1 (fun j hj=>by simp[hj]) h4,
     g6 q (fun y cs b hb hp=>hq y cs b (fun j hj=>by have:=hb j hj;simp only[List.mem_append]at this ⊢;grind) hp) r2' z c2' k1 k2⟩
set_option maxHeartbeats 2000000 in
theorem appEl_ok (hC:CtxOk P C)(S:St0 n B X w0 M0 M ω ρ tmps w)(hB:B≤w0.heap.size){k g ver off i eo tx ty:Nat}{et E:Ty}{xs0:El (.slice E)}{org:Option Nat}{ws:List Wr}{cs:List Prop}
   (hkn:k<n) (hcur:curK ρ k g ver) (htx:tx<n) (hx:(ρ.get tx).a=.bor k g ver (.slice E) xs0 org (.el off et i eo))
   (h:srcK E (opd ρ none (.tmp ty)) (fun e2 ys2 ws2=>if noneIs k ws2=true then appElK (ρ.get k) off et i eo E e2 ys2 fun nx s5 x5=>
     some (ws2++[⟨k,true,.c (.ref s5) x5⟩],[nx+ys2.length≤maxApp])else none)=some (ws,cs)) (hcs:∀ p∈cs,p) {tT:TypeId} (hT:C.ty tT=some (.slice E)) (ty0:TypeId):
   ∃ v w1,(Builtin.append_ #[tT,tT] ty0 #[vl tmps tx,vl tmps ty]).run P w=.ok v w1∧
     (∀ bb,vl tmps k=.pointer (some ⟨bb,0,none⟩)→w1.heap[bb]?=w.heap[bb]?)∧
     ∀ vp,ElpR ω w k (ρ.get k).a (vl tmps k) off et i eo none vp→∃ w2,(Instr.storeAt tT vp v).run P w1=.ok () w2∧∃ M' ω',St0 n B X w0 M0 M' ω' (ρ.puts ws) tmps w2:=by
 have hTy:=hC.ty tT _ hT
 obtain⟨te,hu,hTe⟩:=hTy.under
 obtain⟨e2,ys2,ws2,h1,M2,ω2,S2,m2,l2,own2,r2⟩:=srcK_ok S h (opd_rel S (gd:=none) (fun _ _ _ _ e=>by cases e) (.tmp ty) [])
 split at h1
 case isFalse=>cases h1
 rename_i hno
 have hsame:=Env.puts_other ws2 ρ k (noneIs_ok hno)
 unfold appElK at h1
 split at h1
 case h_2=>cases h1
 rename_i s x ha
 obtain⟨s1,y1,sh,xh,f1,f2,f2',f3⟩:=Sh.cutK_ok s x off _ _ _ h1
 split at f1
 case h_2=>cases f1
 rename_i e ys
 split at f1
 case isFalse=>cases f1
 rename_i hen
 obtain⟨s3,y3,eh,yh,c1,c2,c2',c3⟩:=Sh.cutK_ok e _ eo _ _ _ f1
 split at c1
 case h_2=>cases c1
 rename_i eR xs
 split at c1
 case isFalse=>cases c1
 rename_i hup
 split at c1
 case isFalse=>cases c1
 rename_i hnr
 obtain⟨hnR,hn2⟩:=hnr
 obtain⟨zs,hz1,hz2⟩:=castLs_heq (upB_ty e2 eR hup) (fun zs=>eh.updK yh eo (.own eR) (xs++zs) fun e4 z=>
               if h4:upB e4 e=true then castK (upB_ty e4 e h4) (fun z=>sh.updK xh off (.own e) (ys.set i z) fun s5 x5=>some (ws2++[(⟨k,true,.c (.ref s5) x5⟩:Wr)],[xs.length+ys2.length≤maxApp])) z else none) ys2
 rw[hz1]at c1
 obtain⟨e4,z,p1,⟨p2a,p2⟩,_⟩:=Sh.updK_ok (s':=.own eR) (y:=xs++zs) hnR eh yh eo _ _ c1
 split at p1
 case isFalse=>cases p1
 rename_i h4
 obtain⟨z',p3,p4⟩:=castK_heq (upB_ty e4 e h4) (fun z=>sh.updK xh off (.own e) (ys.set i z) fun s5 x5=>some (ws2++[(⟨k,true,.c (.ref s5) x5⟩:Wr)],[xs.length+ys2.length≤maxApp])) z
 rw[p3]at p1
 obtain⟨s5,x5,p5,⟨p6a,p6⟩,p7⟩:=Sh.updK_ok (s':=.own e) (y:=ys.set i z') hen sh xh off _ _ p1
 simp only[Option.some.injEq,Prod.mk.injEq]at p5
 obtain⟨rfl,rfl⟩:=p5
 have hle:xs.length+ys2.length≤maxApp:=hcs _ (by simp)
 -- the variable
 obtain⟨bb,pc,bs,q1,q2,q3,q4,q5⟩:=ref_ptr S2 hkn (by rw[hsame];exact ha)
 obtain⟨b1,b2,b3,j1,j2,j3⟩:=f3 _ _ _ _ q3
 -- the element that is looked at
 have hr:=S.slots tx htx
 rw[hx]at hr
 obtain⟨_,hbor⟩:=hr
 obtain⟨cs0,k1,_,_,k4,_⟩:=hbor hcur
 obtain⟨pc',b,len,cap,row,g1,g2,g3,g4,g5,g6⟩:=k4 off et i eo rfl
 have hpl1:Place ω w k (ρ.get k).a (vl tmps k) pc:=by
   rw[ha]
   exact⟨bb,q1,by
     obtain⟨bb',pc2,bs',z1,z2,z3,z4,z5⟩:=ref_ptr S hkn ha
     rw[q1]at z1
     simp only[Value.pointer.injEq,Option.some.injEq,Addr.mk.injEq,and_true]at z1
     subst z1
     exact z5 bb (by simp),q2⟩
 have:=Place.uniq g1 hpl1
 subst this
 have hlt:off<pc'.length:=(List.getElem?_eq_some_iff.1 g2).1
 have hoff:(pc'.drop off).take (Sh.own e).size=[.slice (some ⟨b,0,none⟩) len cap]:=by
   show (pc'.drop off).take 1=_
   rw[List.drop_eq_getElem_cons hlt]
   simp[List.getElem?_eq_getElem hlt]at g2
   simp[g2]
 rw[hoff]at j2
 have hty:e.ty=et:=by have:=f2;simpa using this
 have hsz:e.size=et.size:=by rw[Sh.size_ty e hen,hty]
 have hRty:eR.ty=E:=by have:=c2;simpa using this
 have hes:eR.size=E.size:=by rw[Sh.size_ty eR hnR,hRty]
 rcases EncO.ownRow j2 with⟨_,⟨a',j4⟩,_⟩ | ⟨b',cap',row',bsI,j4,j5,j6,j7,j8,j9,j10⟩
 · simp only[Value.slice.injEq]at j4;omega
 simp only[Value.slice.injEq,Option.some.injEq,Addr.mk.injEq,and_true]at j5
 obtain⟨rfl,rfl,rfl⟩:=j5
 rw[g5]at j8
 simp only[Option.some.injEq]at j8
 subst j8
 obtain⟨r1,r2',r3,d1,d2,d3,l1,l2',l3,l4,l5,l6⟩:=GroupsO.atQ ys row bsI i _ j10 (getD_of_lt ys i (dflt e.ty) g3)
 obtain⟨y1,y2,y3',t1,t2,t3⟩:=c3 _ _ _ _ l5
 -- its slice
 have hv54:(r2'.drop eo).take (Sh.own eR).size=[vl tmps tx]:=by
   have e1:cs0=[vl tmps tx]:=k1
   have hl1:((r2'.drop eo).take 1).length=1:=EncO.length _ _ _ _ t2
   rw[←e1,g6]
   show (r2'.drop eo).take 1=(row.drop (i*et.size+eo)).take 1
   rw[l1,List.append_assoc,show i*et.size+eo=r1.length+eo by rw[l3,hsz],←List.drop_drop,List.drop_left]
   have:eo<r2'.length:=by
     rw[List.length_take,List.length_drop]at hl1;omega
   rw[List.drop_append_of_le_length (by omega),List.take_append_of_le_length (by rw[List.length_drop];omega)]
 rw[hv54]at t2
 -- the source
 obtain⟨a,c,news,bsY,u1,u3,u4,u5,u6,u7,u8,u9⟩:=r2.src
 obtain⟨w6,wl⟩:=heq_groups (upB_ty e2 eR hup) (q:=EncO M2 (rows w) eR) (fun cs x y bs hxy hp=>upB_enc e2 eR hup x y cs bs hxy hp) hz2 u6
 have he2:e2.size=E.size:=by rw[Sh.size_ty e2 hn2,upB_ty e2 eR hup,hRty]
 have hpln:Plain news:=u9 (by rw[upB_ty e2 eR hup,hRty]) hn2
 rw[he2]at u3 w6
 have hlen:zs.length=ys2.length:=wl
 have how:∀ j∈bb::(b1++b2++b3),ω2 j=some k:=by rw[←j1];exact q5
 have hy2k:∀ j∈y2,ω2 j=some k:=fun j hj=>how j (by rw[j4,l2',t1];simp[hj])
 have hnd0:(bb::(b1++b2++b3)).Nodup:=by rw[←j1];exact q4
 have hy2n:y2.Nodup:=by
   have:y2.Sublist (bb::(b1++b2++b3)):=by
     rw[j4,l2',t1]
     refine List.Sublist.cons _ ?_
     refine(List.Sublist.trans ?_ (List.sublist_append_right b1 _)).trans (List.sublist_append_left _ b3)
     refine List.Sublist.cons _ ?_
     refine(List.Sublist.trans ?_ (List.sublist_append_right d1 _)).trans (List.sublist_append_left _ d3)
     exact(List.sublist_append_right y1 y2).trans (List.sublist_append_left _ y3')
   exact hnd0.sublist this
 obtain⟨v,w1,bsN,n1,n2,n3,n4,n5,n6,n7,n8,n9,n10,n11⟩:=app_run (P:=P) (ty:=ty0) (ω2:=ω2) (v63:=vl tmps ty) hu hTe hes t2 hy2n (by rw[hlen];exact u1) (by rw[hlen];exact u3) (by rw[hlen];exact u4) (by rw[hlen];exact u5) w6 hpln u7
   (fun j hj hm=>absurd (Option.some.inj ((hy2k j hm).symm.trans (u8 j hj))) (Nat.ne_of_lt hkn)) (fun j hj=>(S2.dis j n (u8 j hj)).2.1) (Nat.le_trans (Nat.le_of_eq (by rw[hlen])) hle) rfl
 have hbk:ω2 b=some k:=how b (by rw[j4];simp)
 have hnb:b∉y2∧bb∉y2∧bb≠b:=by
   have:=hnd0
   rw[j4,l2',t1]at this
   simp only[List.nodup_append,List.nodup_cons,List.mem_append,List.mem_cons]at this
   refine⟨?_,?_,?_⟩<;>grind
 have hltk:∀ j,ω2 j=some k→j<w.heap.size:=fun j hj=>(S2.dis j k hj).2.1
 refine⟨v,w1,n1,fun bb' hb'=>?_,fun vp hvp=>?_⟩
 · rw[q1]at hb'
   simp only[Value.pointer.injEq,Option.some.injEq,Addr.mk.injEq,and_true]at hb'
   subst hb'
   exact n6 bb (hltk bb (how bb (by simp))) hnb.2.1
 · -- the store
   unfold ElpR at hvp
   simp only[Option.isSome_none,Bool.false_eq_true,if_false]at hvp
   obtain⟨pc2,z1,a2,len2,cap2,z2,z3,z4,z5⟩:=hvp
   have:=Place.uniq z1 hpl1
   subst this
   rw[g2]at z2
   simp only[Option.some.injEq,Value.slice.injEq]at z2
   obtain⟨rfl,rfl,rfl⟩:=z2
   have hrow1:rows w1 b=some row:=by rw[rows_of_block (n6 b (hltk b hbk) hnb.1)];exact g5
   have hrl:row.length=r1.length+(r2'.length+r3.length):=by rw[l1];simp
   have hnew:=p2 M2 (rows w1) r2' (y1++y3') [v] bsN
   have hother1:∀ j,ω2 j=some k→j∉y2→rows w1 j=rows w j:=fun j hj hn=>rows_of_block (n6 j (hltk j hj) hn)
   have hk1:∀ j∈y1++y3',ω2 j=some k∧j∉y2:=fun j hj=>by
     refine⟨how j (by rw[j4,l2',t1];simp only[List.mem_append,List.mem_cons]at hj ⊢;grind),fun hm=>?_⟩
     have:=hnd0
     rw[j4,l2',t1]at this
     simp only[List.nodup_append,List.nodup_cons,List.mem_append,List.mem_cons]at this hj
     grind
   have t3':EncO M2 (rows w1) eh r2' yh (y1++y3'):=EncO.mono (Mem.le_refl _) eh r2' yh _ (fun j hj=>hother1 j (hk1 j hj).1 (hk1 j hj).2) t3
   obtain⟨o1,ga,gb,gc,o2,o3⟩:=hnew t3' n7
   obtain⟨w2,v1',v2'⟩:=run_storeVar (P:=P) hTy hrow1 (cs:=[v]) rfl (o:=i*et.size+eo) (by
     rw[hrl,l3,hsz];simp only[List.length_cons,List.length_nil]at o1 ⊢;omega) (by intro c' hc';simp at hc';subst hc';exact n10) n11
   have hrow':row.take (i*et.size+eo)++[v]++row.drop (i*et.size+eo+[v].length)=r1++ov r2' eo [v]++r3:=by
     have hi:i*et.size=r1.length:=by rw[l3,hsz]
     rw[hi,l1]
     unfold ov
     rw[List.append_assoc r1 r2' r3,List.take_append,List.drop_append,List.take_of_length_le (by omega),List.drop_eq_nil_of_le (by omega)]
     rw[show r1.length+eo-r1.length=eo by omega,show r1.length+eo+[v].length-r1.length=eo+[v].length by omega,List.take_append_of_le_length (by omega),List.drop_append_of_le_length o1]
     simp
   rw[hrow']at v2'
   have hbN:b∉bsN:=fun hm=>by
     rcases n9 b hm with h' | h' | h'
     · exact hnb.1 h'
     · have:=u8 b h';rw[hbk]at this;simp at this;omega
     · have:=hltk b hbk;omega
   have hoth2:∀ j,j≠b→rows w2 j=rows w1 j:=fun j hj=>rows_of_block (v2'.other j hj)
   have o4:EncO M2 (rows w2) e4 (ov r2' eo [v]) z (ga++bsN++gc):=EncO.mono (Mem.le_refl _) e4 _ z _ (fun j hj=>hoth2 j (fun e=>by
     subst e
     simp only[List.mem_append]at hj
     rcases hj with(hj | hj) | hj
     · have:=hk1 j (by rw[o2];simp[hj])
       have h5:=hnd0
       rw[j4,l2',t1]at h5
       have:j∈y1++y3':=by rw[o2];simp[hj]
       simp only[List.nodup_append,List.nodup_cons,List.mem_append,List.mem_cons]at h5 this
       grind
     · exact hbN hj
     · have h5:=hnd0
       rw[j4,l2',t1]at h5
       have:j∈y1++y3':=by rw[o2];simp[hj]
       simp only[List.nodup_append,List.nodup_cons,List.mem_append,List.mem_cons]at h5 this
       grind)) o3
   have o5:=upB_enc e4 e h4 z z' _ _ p4 o4
   -- the row
   have hd:∀ j∈d1++d3,ω2 j=some k∧j∉y2∧j≠b:=fun j hj=>by
     refine⟨how j (by rw[j4,l2',t1];simp only[List.mem_append,List.mem_cons]at hj ⊢;grind),fun hm=>?_,fun e=>?_⟩
     · have:=hnd0
       rw[j4,l2',t1]at this
       simp only[List.nodup_append,List.nodup_cons,List.mem_append,List.mem_cons]at this hj
       grind
     · have:=hnd0
       rw[j4,l2',t1]at this
       simp only[List.nodup_append,List.nodup_cons,List.mem_append,List.mem_cons]at this hj
       grind
   have hb13:∀ j∈b1++b3,ω2 j=some k∧j∉y2∧j≠b:=fun j hj=>by
     refine⟨how j (by simp only[List.mem_append,List.mem_cons]at hj ⊢;grind),fun hm=>?_,fun e=>?_⟩
     · have:=hnd0
       rw[j4,l2',t1]at this
       simp only[List.nodup_append,List.nodup_cons,List.mem_append,List.mem_cons]at this hj
       grind
     · have:=hnd0
       rw[j4,l2',t1]at this
       simp only[List.nodup_append,List.nodup_cons,List.mem_append,List.mem_cons]at this hj
       grind
   have y7:=l6 (EncO M2 (rows w2) e) (fun y cs b0 hb hp=>EncO.mono (Mem.le_refl _) e cs y b0 (fun j hj=>by
     obtain⟨h1,h2,h3⟩:=hd j (hb j hj)
     rw[hoth2 j h3,hother1 j h1 h2]) hp) (ov r2' eo [v]) z' (ga++bsN++gc) (by rw[EncO.length _ _ _ _ o5]) o5
   have j2':EncO M2 (rows w2) (.own e) [.slice (some ⟨b,0,none⟩) (ys.set i z').length cap] (ys.set i z') (b::(d1++(ga++bsN++gc)++d3)):=by
     refine .inr ⟨b,cap,r1++ov r2' eo [v]++r3,_,rfl,rfl,by rw[List.length_set];exact j6,j7,v2'.row,?_,y7⟩
     rw[←j9,l1];simp only[List.length_append]
     rw[EncO.length _ _ _ _ o5,l4]
   have j3':EncO M2 (rows w2) sh pc2 xh (b1++b3):=EncO.mono (Mem.le_refl _) sh pc2 xh _ (fun j hj=>by
     obtain⟨h1,h2,h3⟩:=hb13 j hj
     rw[hoth2 j h3,hother1 j h1 h2]) j3
   obtain⟨m5,f1',f2'',f3',m6,m7⟩:=p6 _ _ _ _ _ _ j3' j2'
   have hov:ov pc2 off [.slice (some ⟨b,0,none⟩) (ys.set i z').length cap]=pc2:=by
     unfold ov
     rw[List.length_set]
     have hg:=(List.getElem?_eq_some_iff.1 g2).2
     rw[←hg]
     simp
   rw[hov]at m7
   have hfresh:∀ j∈bsN,j∈y2∨j∉bb::(b1++b2++b3):=fun j hj=>by
     rcases n9 j hj with h' | h' | h'
     · exact .inl h'
     · exact .inr fun hm=>by have:=u8 j h';rw[how j hm]at this;simp at this;omega
     · exact .inr fun hm=>by have:=hltk j (how j hm);omega
   have hfin:=nodup_big hnd0 (by rw[j4,l2',t1]) rfl m6 o2 n8 hfresh
   have hrbb:rows w2 bb=some pc2:=by rw[hoth2 bb hnb.2.2,hother1 bb (how bb (by simp)) hnb.2.1];exact q2
   have hw2:w2.heap.size=w1.heap.size:=v2'.size
   refine⟨w2,?_,M2,fun j=>if j∈bsN then some k else ω2 j,?_⟩
   · rw[z5]
     simp only[Instr.storeAt,Instr.sureAddr,Sem.run_bind,Sem.run_pure,Result.andThen_ok,Nat.zero_add]
     exact v1'
   · rw[Env.puts_append]
     refine put_big S2 (S2.bnd hB) hkn (by rw[v2'.os,n2]) (by rw[v2'.tape,n3]) (by rw[v2'.output,n4]) (by rw[hw2];exact n5) (fun j hj hne=>?_) (fun j=>?_) ?_
     · rw[v2'.other j (fun e=>hne (by rw[e];exact hbk)),n6 j hj (fun hm=>hne (hy2k j hm))]
     · by_cases hj:j∈bsN
       · show (if j∈bsN then some k else ω2 j)=_∨((if j∈bsN then some k else ω2 j)=_∧_)
         rw[if_pos hj]
         rcases n9 j hj with h' | h' | h'
         · exact .inl (hy2k j h').symm
         · exact .inr ⟨rfl,.inl (u8 j h')⟩
         · exact .inr ⟨rfl,.inr (by rw[hw2];exact h')⟩
       · exact .inl (if_neg hj)
     · refine⟨[vl tmps k],bb::(f1'++(b::(d1++(ga++bsN++gc)++d3))++f3'),rfl,⟨bb,pc2,_,rfl,by rw[q1],hrbb,m7⟩,hfin,fun j hj=>?_⟩
       show (if j∈bsN then some k else ω2 j)=some k
       by_cases hjn:j∈bsN
       · rw[if_pos hjn]
       · rw[if_neg hjn]
         simp only[List.mem_cons,List.mem_append]at hj
         rcases hj with rfl | (hj | hj) | hj
         · exact how _ (by simp)
         · exact(hb13 j (by rw[m6];simp[hj])).1
         · rcases hj with rfl | (hj | (hj | hj) | hj) | hj
           · exact hbk
           · exact(hd j (by simp[hj])).1
           · exact(hk1 j (by rw[o2];simp[hj])).1
           · exact(hjn hj).elim
           · exact(hk1 j (by rw[o2];simp[hj])).1
           · exact(hd j (by simp[hj])).1
         · exact(hb13 j (by rw[m6];simp[hj])).1
end
end Fw
namespace Fw
open Go
theorem foldE_append {L:Nat→Bool}:∀ (A B:List Tr) (k:Nat) (ρ:Env),foldE (A++B) L k ρ=foldE B L (k+A.length) (foldE A L k ρ)
 | [],B,k,ρ=>rfl
 | x::A,B,k,ρ=>by
   show foldE (A++B) L (k+1) _=_
   rw[foldE_append A B (k+1)]
   show foldE B L (k+1+A.length) _=foldE B L (k+(A.length+1)) _
   rw[show k+1+A.length=k+(A.length+1) by omega];rfl
theorem foldE_none {i:Nat}:∀ (T:List Tr) (m:Nat) (σ:Env),i≤m→foldE T (fun j=>decide (j<i)) m σ=σ
 | [],_,_,_=>rfl
 | t::r,m,σ,hm=>by
   simp only[foldE]
   rw[if_neg (by simp;omega)]
   exact foldE_none r (m+1) σ (by omega)
theorem foldE_all {L:Nat→Bool}:∀ (T:List Tr) (k:Nat) (ρ:Env),(∀ j,j<T.length→L (k+j)=true)→foldE T L k ρ=foldE T (fun _=>true) k ρ
 | [],_,_,_=>rfl
 | x::T,k,ρ,h=>by
   have h0:=h 0 (by simp)
   rw[Nat.add_zero]at h0
   simp only[foldE,h0,if_true]
   exact foldE_all T (k+1) _ fun j hj=>by have:=h (j+1) (by simp;omega);rwa [show k+(j+1)=k+1+j by omega]at this
section
variable {P:Program}
theorem any_gen {ops:Array Oper}{Q:Exit→Act→World→Prop}{ρ:Env}{T:List Tr}(hlen:T.length=ops.size)(hok:anyOk ops.toList T=true)(R:(Nat→Bool)→Env→Act→World→Prop)
   (hcongr:∀ L L' σ σ' a w,(∀ j,L' j=L j)→(∀ t,σ'.get t=σ.get t)→R L σ a w→R L' σ' a w)
   (hstep:∀ (L:Nat→Bool) (i:Nat) (o:Oper) (x:Tr) (σ:Env) (a:Act) (w:World),ops[i]?=some o→T[i]?=some x→L i=false→
     (∀ j,((masks ops.toList []).getD i 0).testBit j=true→L j=true)→
     (∀ j,j<ops.size→L j=true→((masks ops.toList []).getD j 0).testBit i=false)→
     (∀ t∈x.rd,σ.get t=(foldE T (fun j=>decide (j<i)) 0 ρ).get t)→
     R L σ a w→∀ K:Act→World→Prop,(∀ a' w',R (fun j=>L j||j==i) (σ.puts x.ws) a' w'→K a' w')→wpOp P ops Q i K a w)
   (hQ:∀ a w,R (fun j=>decide (j<ops.size)) (foldE T (fun _=>true) 0 ρ) a w→Q .normal a w):
   ∀ (fuel:Nat) (listed:Array Bool) (a:Act) (w:World),listed.size=ops.size→(listed.toList.filter (fun b=>!b)).length=fuel→
     (∀ (j:Nat) (o:Oper),ops[j]?=some o→listed.getD j false=true→∀ e∈o.after,Region.binds .any e=true→listed.getD e.on false=true)→
     R (fun j=>listed.getD j false) (foldE T (fun j=>listed.getD j false) 0 ρ) a w→wpAny P .any ops Q fuel listed a w:=by
 have hE:edgesOk 0 ops.toList=true:=by unfold anyOk at hok;simp only[Bool.and_eq_true]at hok;exact hok.1
 have done:∀ (listed:Array Bool),listed.size=ops.size→Region.ready .any ops listed=[]→∀ (N j:Nat),j<N→j<ops.size→listed.getD j false=true:=by
   intro listed hsz hr N
   induction N with
   | zero=>intro j h;omega
   | succ N ih=>
     intro j hj hlt
     cases hl:listed.getD j false with
     | true=>rfl
     | false=>
       exfalso
       have ho:ops[j]?=some ops[j]:=Array.getElem?_eq_getElem hlt
       have:j∈Region.ready .any ops listed:=mem_ready.2 ⟨by
         rw[Array.getD_eq_getD_getElem?]at hl ⊢
         rw[Array.getElem?_eq_getElem (by omega)]at hl ⊢
         exact hl,ops[j],ho,fun e he hb=>by
           have hlt':=edges_lt ops.toList 0 j ops[j] hE (by simp) e (by simpa using he) hb
           exact ih e.on (by omega) (by omega)⟩
       rw[hr]at this;simp at this
 have fin:∀ (listed:Array Bool) (a:Act) (w:World),listed.size=ops.size→Region.ready .any ops listed=[]→
     R (fun j=>listed.getD j false) (foldE T (fun j=>listed.getD j false) 0 ρ) a w→Q .normal a w:=by
   intro listed a w hsz hr hS
   refine hQ a w (hcongr _ _ _ _ a w (fun j=>?_) (fun t=>?_) hS)
   · by_cases hj:j<ops.size
     · rw[decide_eq_true hj];exact(done listed hsz hr (j+1) j (by omega) hj).symm
     · rw[decide_eq_false hj]
       symm
       rw[Array.getD_eq_getD_getElem?,Array.getElem?_eq_none (by omega)];rfl
   · have e:=foldE_all (L:=fun j=>listed.getD j false) T 0 ρ fun j hj=>by
       rw[Nat.zero_add]
       exact done listed hsz hr (j+1) j (by omega) (by omega)
     rw[e]
 intro fuel
 induction fuel with
 | zero=>
   intro listed a w hsz hcnt hcl hS
   have hr:Region.ready .any ops listed=[]:=by
     rw[List.eq_nil_iff_forall_not_mem]
     intro j hj
     obtain⟨h0,o,ho,_⟩:=mem_ready.1 hj
     have hlt:=(Array.getElem?_eq_some_iff.1 ho).1
     have hm:listed[j]'(by omega)∈listed.toList.filter (fun b=>!b):=by
       rw[List.mem_filter]
       refine⟨by simp,?_⟩
       rw[Array.getD_eq_getD_getElem?,Array.getElem?_eq_getElem (by omega)]at h0
       simp at h0;simp[h0]
     rw[List.length_eq_zero_iff.1 hcnt]at hm
     simp at hm
   exact⟨hr,fin listed a w hsz hr hS⟩
 | succ fuel ih=>
   intro listed a w hsz hcnt hcl hS
   refine⟨fun hr=>fin listed a w hsz hr hS,fun i hi=>?_⟩
   obtain⟨h0,o,ho,hedge⟩:=mem_ready.1 hi
   have hlt:=(Array.getElem?_eq_some_iff.1 ho).1
   have hli:listed.getD i false=false:=by
     rw[Array.getD_eq_getD_getElem?]at h0 ⊢
     rw[Array.getElem?_eq_getElem (by omega)]at h0 ⊢
     exact h0
   obtain⟨x,hx⟩:∃ x,T[i]?=some x:=⟨_,List.getElem?_eq_getElem (by omega)⟩
   have hclL:∀ j o,ops.toList[j]?=some o→(fun j=>listed.getD j false) j=true→∀ e∈o.after.toList,Region.binds .any e=true→(fun j=>listed.getD j false) e.on=true:=
     fun j o hj hl e he hb=>hcl j o (by simpa using hj) hl e (by simpa using he) hb
   have anc:∀ (j:Nat) (oj:Oper),ops[j]?=some oj→(∀ e∈oj.after,Region.binds .any e=true→listed.getD e.on false=true)→∀ k,((masks ops.toList []).getD j 0).testBit k=true→listed.getD k false=true:=
     fun j oj hj hh k hk=>mask_anc hE hclL (j+1) j oj (by omega) (by simpa using hj) (fun e he hb=>hh e (by simpa using he) hb) k hk
   have inops:∀ (j:Nat) (y:Tr),T[j]?=some y→∃ oj,ops[j]?=some oj:=fun j y hy=>by
     have:j<T.length:=(List.getElem?_eq_some_iff.1 hy).1
     exact⟨ops[j]'(by rw[hlen]at this;exact this),Array.getElem?_eq_getElem _⟩
   have hread:∀ t∈x.rd,(foldE T (fun j=>listed.getD j false) 0 ρ).get t=(foldE T (fun j=>decide (j<i)) 0 ρ).get t:=by
     intro t htr
     refine foldE_get T 0 (fun j y hy ⟨wr,hw1,hw2⟩=>?_) rfl
     rw[Nat.zero_add]
     have hm:t∈y.ws.map (·.slot):=List.mem_map.2 ⟨wr,hw1,hw2⟩
     rcases Nat.lt_trichotomy j i with hji | hji | hji
     · have hb:=touch hok hy hx hji (.inl ⟨hm,.inl htr⟩)
       have:=anc i o ho hedge j hb
       simp[this,hji]
     · subst hji;simp[hli]
     · have hb:=touch hok hx hy hji (.inr ⟨hm,.inl htr⟩)
       obtain⟨oj,hoj⟩:=inops j y hy
       have hn:listed.getD j false=false:=by
         cases hl:listed.getD j false with
         | false=>rfl
         | true=>
           have:=anc j oj hoj (hcl j oj hoj hl) i hb
           rw[hli]at this;cases this
       simp only[hn]
       symm;simp;omega
   refine hstep (fun j=>listed.getD j false) i o x _ a w ho hx hli (anc i o ho hedge) (fun j hj hl=>?_) hread hS _ fun a' w' hR=>?_
   · cases hb:((masks ops.toList []).getD j 0).testBit i with
     | false=>rfl
     | true=>
       have hoj:ops[j]?=some ops[j]:=Array.getElem?_eq_getElem hj
       have:=anc j _ hoj (hcl j _ hoj hl) i hb
       rw[hli]at this;cases this
   refine ih _ a' w' (by simp[hsz]) ?_ ?_ (hcongr _ _ _ _ a' w' (fun j=>?_) (fun t=>?_) hR)
   · have hil:i<listed.toList.length:=by simp;omega
     have hval:listed.toList[i]=false:=by
       rw[Array.getD_eq_getD_getElem?,Array.getElem?_eq_getElem (by omega)]at hli
       simpa using hli
     rw[Array.toList_setIfInBounds]
     have key:∀ (l:List Bool) (i:Nat) (h:i<l.length),l[i]=false→((l.set i true).filter (fun b=>!b)).length+1=(l.filter (fun b=>!b)).length:=by
       intro l
       induction l with
       | nil=>intro i h;simp at h
       | cons b l ih=>
         intro i h hv
         cases i with
         | zero=>simp at hv;subst hv;simp
         | succ i=>
           have:=ih i (by simpa using h) (by simpa using hv)
           cases b<;>simp at this ⊢<;>omega
     have:=key listed.toList i hil hval
     omega
   · intro j oj hj hl e he hb
     by_cases hij:i=j
     · subst hij
       rw[hj]at ho
       simp only[Option.some.injEq]at ho
       subst ho
       exact getD_set_true (hedge e he hb)
     · rw[getD_set_ne false hij]at hl
       exact getD_set_true (hcl j oj hj hl e he hb)
   · by_cases hij:i=j
     · subst hij
       simp only[beq_self_eq_true,Bool.or_true]
       rw[Array.getD_eq_getD_getElem?,Array.getElem?_setIfInBounds_self_of_lt (by omega)]
       rfl
     · rw[getD_set_ne false hij]
       have:(j==i)=false:=by simp;omega
       rw[this,Bool.or_false]
   · rw[←foldE_add (L:=fun j=>listed.getD j false) (x:=x) (m:=i) t T 0 ρ hx (by rw[Nat.zero_add];exact hli) ?_]
     · congr 2
       funext j
       rw[Nat.zero_add]
       by_cases hij:i=j
       · subst hij
         simp only[beq_self_eq_true,Bool.or_true]
         rw[Array.getD_eq_getD_getElem?,Array.getElem?_setIfInBounds_self_of_lt (by omega)]
         rfl
       · rw[getD_set_ne false hij]
         have:(j==i)=false:=by simp;omega
         rw[this,Bool.or_false]
     · intro j y hy hij hl wr hw1 wr' hw2 heq
       rw[Nat.zero_add]at hl
       obtain⟨oj,hoj⟩:=inops j y hy
       have hb:=touch hok hx hy hij (t:=wr.slot) (.inr ⟨List.mem_map.2 ⟨wr,hw1,rfl⟩,.inr (List.mem_map.2 ⟨wr',hw2,heq.symm⟩)⟩)
       have:=anc j oj hoj (hcl j oj hoj hl) i hb
       rw[hli]at this;cases this
variable {n B:Nat} {X:List Nat} {w0:World} {M0 M:Mem} {ω:Own} {ρ:Env} {tmps:Array Value} {w:World} {C:Ctx}
theorem exFieldAddr_any (hC:CtxOk P C)(S:St0 n B X w0 M0 M ω ρ tmps w){t:TypeId}{d f:Nat}(hd:d<n){q:Opd}{ws:List Wr}{cs:List Prop}
   (h:exFieldAddr C t d q f=some (ws,cs)) {v:Value} (hq:OpdR n M ω w ρ (vl tmps) q v):∃ u,∀ w2,(Instr.fieldAt t v f).run P w2=.ok u w2:=by
 unfold exFieldAddr at h
 split at h
 · rename_i l hl
   split at h
   · rename_i o T hf
     obtain⟨b,p,hv,_⟩:=exMovePtr_ok S hd h hq
     subst hv
     exact⟨_,fun w2=>run_fieldAt hC hl hf b p⟩
   · cases h
 · cases h
theorem exIndexAddr_any (hC:CtxOk P C)(S:St0 n B X w0 M0 M ω ρ tmps w){t:TypeId}{d:Nat}{q1 q2:Opd}{ws:List Wr}{cs:List Prop}
   (h:exIndexAddr C t d q1 q2=some (ws,cs)) (hcs:∀ p∈cs,p) {v1 v2:Value} (hq1:OpdR n M ω w ρ (vl tmps) q1 v1) (hq2:OpdR n M ω w ρ (vl tmps) q2 v2)
   {E:Ty} (hT:C.ty t=some (.slice E)) {k g ver off:Nat} {e:Ty} {xs:El (.slice e)} {ex:Bx} (ha:q1.a=.bor k g ver (.slice e) xs (some off) ex):
   ∃ u,∀ w2,(Instr.indexAt t v1 v2).run P w2=.ok u w2:=by
 unfold exIndexAddr at h
 obtain⟨idx,h1,h2⟩:=rd_int S h
 obtain⟨ev,ri⟩:=h2 v2 hq2
 subst ev
 rw[hT]at h1
 simp only[ha]at h1
 obtain⟨te,hu,hTe⟩:=(hC.ty t _ hT).under
 split at h1
 · rename_i hc
   obtain⟨c1,c2,heE⟩:=hc
   subst heE
   simp only[Option.some.injEq,Prod.mk.injEq]at h1
   obtain⟨rfl,rfl⟩:=h1
   have hr:inRange idx (List.length xs):=hcs _ (by simp)
   have hrel:=hq1.rel (by rw[ha];intro _ _ _ _ _ e;cases e)
   have htg:=hq1.tgt k (by rw[ha];rfl)
   rw[ha]at hrel
   obtain⟨r1,r2⟩:=hrel
   rw[htg]at c1 c2
   obtain⟨cs',k1,k2,k3,_⟩:=r2 ⟨c1,c2⟩
   obtain⟨a,cap,g1,g2,g3,g4⟩:=k2
   subst g1
   have k1:v1=.slice a (List.length xs) cap:=by
     have:[v1]=[Value.slice a (List.length xs) cap]:=by simpa [ValC,Ty.ag] using k1.symm
     simpa using this
   subst k1
   have hlt:idx.toNat<List.length xs:=by unfold inRange at hr;omega
   cases a with
   | none=>simp only at g4;omega
   | some a=>
     have g4s:a.spot=none:=g4.1.resolve_right (by omega)
     exact⟨_,fun w2=>run_indexAt_slice hu hTe hr g4s⟩
 · cases h1
theorem exLoad_any (hC:CtxOk P C)(S:St0 n B X w0 M0 M ω ρ tmps w){t:TypeId}{d:Nat}{q:Opd}{ws:List Wr}{cs:List Prop}
   (h:exLoad C t d q=some (ws,cs)) {v:Value} (hq:OpdR n M ω w ρ (vl tmps) q v) {E:Ty} (hT:C.ty t=some (.slice E)) {k g o:Nat} (ha:q.a=.ptr k g o):
   ∃ u bb,vl tmps k=.pointer (some ⟨bb,0,none⟩)∧∀ w2:World,w2.heap[bb]?=w.heap[bb]?→(Instr.loadAt t v).run P w2=.ok u w2:=by
 have hTy:=hC.ty t _ hT
 unfold exLoad at h
 rw[hT]at h
 simp only[ha]at h
 simp only[ptrK,ha]at h
 have hr:=hq.rel (by rw[ha];intro _ _ _ _ _ e;cases e)
 have htg:=hq.tgt k (by rw[ha];rfl)
 rw[ha]at hr
 obtain⟨⟨hj,_⟩,hp⟩:=hr
 rw[htg]at h
 split at h
 · rename_i hg
   have h1:=h
   obtain⟨b,hb,hv⟩:=hp hg
   split at h1
   · rename_i s x hax
     obtain⟨bb,row,bss,k1,k2,k3,k4,k5⟩:=ref_ptr S hj hax
     rw[hb]at k1
     simp only[Value.pointer.injEq,Option.some.injEq,Addr.mk.injEq,and_true]at k1
     subst k1
     obtain⟨s',y,g1,g0,g2⟩:=Sh.subK_ok s x o _ _ _ h1
     obtain⟨bs',e1,e2⟩:=g2 _ _ _ _ k3
     have hl:=EncO.length _ _ _ _ e2
     have hsz:=give_size g1
     have hs1:s'.size=1:=by rw[hsz,g0];rfl
     rw[hs1]at hl
     obtain⟨c,hc⟩:=List.length_eq_one_iff.1 hl
     refine⟨c,b,hb,fun w2 hw=>?_⟩
     subst hv
     simp only[Instr.loadAt,Instr.sureAddr,Sem.run_bind,Sem.run_pure,Result.andThen_ok]
     have hr2:rows w2 b=some row:=by rw[rows_of_block hw];exact k2
     refine run_loadVar hTy (cs:=[c]) rfl ?_ rfl
     have:=cellsAt_sub (rows_full hr2) o 1
     rw[hc]at this;exact this
   · cases h1
 · cases h
def quiet1 (C:Ctx)(bad:List Nat)(k dA:Nat)(ρ:Env)(o:Oper):Bool:=
 match o.guard,o.dst,o.op with
 | none,some d,.fieldAddr _ (.tmp p) _=>!(Nat.beq p dA)&&!(memb d bad)
 | none,some d,.indexAddr t (.tmp p) (.const _)=>!(Nat.beq p dA)&&!(memb d bad)&&
   match C.ty t,(ρ.get p).a with | some (.slice _),.bor _ _ _ (.slice _) _ (some _) _=>true | _,_=>false
 | none,some d,.load t (.tmp p)=>!(Nat.beq p dA)&&!(memb d bad)&&
   match C.ty t,(ρ.get p).a with | some (.slice _),.ptr j _ _=>Nat.beq j k | _,_=>false
 | _,_,_=>false
theorem reads_tmp {ops:List Oper}{ρ:Env}{o:Oper}{p:Nat}(hm:∀ x,o.op≠.move x)(hx:.tmp p∈o.op.operands.toList):p∈readsOf ops ρ o:=by
 have hp:ptrMv ops ρ o=none:=by
   unfold ptrMv
   split
   · rename_i t _ h;exact(hm _ h).elim
   · rfl
 unfold readsOf
 rw[hp]
 unfold readsOf0
 rw[List.mem_append]
 refine .inr (List.mem_flatMap.2 ⟨_,hx,?_⟩)
 simp only[opdReads]
 split<;>simp
theorem quiet_run (hC:CtxOk P C)(hF:∀ f F,C.fn f=some F→Meets P f F)(hB:B≤w0.heap.size){σ:Env}{av:Array Value}(S:St0 C.n B X w0 M0 M ω σ av w){o:Oper}{opsL:List Oper}{ws:List Wr}{cs:List Prop}
   (h:step C opsL σ o=some (ws,cs)) (hcs:∀ p∈cs,p) (df:List Deferred) {bad:List Nat} {k dA:Nat} {τ:Env} (hq:quiet1 C bad k dA τ o=true) (hag:∀ t∈readsOf opsL τ o,σ.get t=τ.get t)
   {a:Act} (ha:∀ t,t≠dA→a.tmps.getD t undef=av.getD t undef) {w2:World} (hbb:∀ bb,vl av k=.pointer (some ⟨bb,0,none⟩)→w2.heap[bb]?=w.heap[bb]?):
   ∃ d u,o.guard=none∧o.dst=some d∧memb d bad=false∧(execOp a.eval o).run P w2=.ok (.value u) w2∧∃ M' ω',St0 C.n B X w0 M0 M' ω' (σ.puts ws) (av.setIfInBounds d u) w:=by
 have fin:∀ d u,o.guard=none→o.dst=some d→(execOp (Act.eval ⟨av,df⟩) o).run P w=.ok (.value u) w→∃ M' ω',St0 C.n B X w0 M0 M' ω' (σ.puts ws) (av.setIfInBounds d u) w:=by
   intro d u hg hd hr
   have hex:ex C none σ o=some (ws,cs):=by unfold step at h;rw[hg]at h;exact h
   have hgo:=ex_ok hC hF (a:=⟨av,df⟩) S hB (gd:=none) (by intro _ _ _ _ e;cases e) hex hcs
   unfold Goes at hgo
   rw[hr]at hgo
   obtain⟨_,h2⟩:=hgo
   rw[hd]at h2
   exact h2
 have low:∀ p,(σ.get p).a≠.junk→p<C.n:=fun p hp=>by
   rcases Nat.lt_or_ge p C.n with h' | h'
   · exact h'
   · exact(hp (S.high p h')).elim
 have exd:∀ d,o.guard=none→o.dst=some d→d<C.n∧exAt C none σ o d=some (ws,cs):=fun d hg hd=>by
   unfold step at h;rw[hg]at h
   unfold ex at h
   simp only[hd]at h
   split at h
   · rename_i hn;exact⟨hn,h⟩
   · cases h
 unfold quiet1 at hq
 split at hq
 · rename_i d t p f hg hd hop
   simp only[Bool.and_eq_true,Bool.not_eq_true']at hq
   obtain⟨hdn,he⟩:=exd d hg hd
   unfold exAt at he
   rw[hop]at he
   simp only at he
   have hpd:p≠dA:=fun e=>by rw[e,Nat.beq_refl]at hq;cases hq.1
   obtain⟨u,hu⟩:=exFieldAddr_any hC S hdn he (opd_rel S (gd:=none) (by intro _ _ _ _ e;cases e) (.tmp p) df)
   refine⟨d,u,hg,hd,hq.2,?_,fin d u hg hd ?_⟩
   · unfold execOp;rw[hop]
     have e:a.eval (.tmp p)=av.getD p undef:=ha p hpd
     have:=hu w2
     simp only[Sem.run_bind,e]
     rw[show Act.eval ⟨av,df⟩ (.tmp p)=av.getD p undef from rfl]at this
     rw[this];rfl
   · unfold execOp;rw[hop]
     simp only[Sem.run_bind,hu w];rfl
 · rename_i d t p c hg hd hop
   simp only[Bool.and_eq_true,Bool.not_eq_true']at hq
   obtain⟨⟨hq1,hq2⟩,hq3⟩:=hq
   split at hq3
   case h_2=>cases hq3
   rename_i E k' g ver e xs off ex hT hap
   obtain⟨hdn,he⟩:=exd d hg hd
   unfold exAt at he
   rw[hop]at he
   simp only at he
   have hpd:p≠dA:=fun e=>by rw[e,Nat.beq_refl]at hq1;cases hq1
   have hsp:σ.get p=τ.get p:=hag p (reads_tmp (by rw[hop];intro x h;cases h) (by rw[hop];simp[Op.operands]))
   obtain⟨u,hu⟩:=exIndexAddr_any hC S he hcs (opd_rel S (gd:=none) (by intro _ _ _ _ e;cases e) (.tmp p) df) (opd_rel S (gd:=none) (by intro _ _ _ _ e;cases e) (.const c) df) hT
     (by simp only[opd,A.stripG,hsp];exact hap)
   refine⟨d,u,hg,hd,hq2,?_,fin d u hg hd ?_⟩
   · unfold execOp;rw[hop]
     have e:a.eval (.tmp p)=av.getD p undef:=ha p hpd
     have:=hu w2
     simp only[Sem.run_bind,e]
     rw[show Act.eval ⟨av,df⟩ (.tmp p)=av.getD p undef from rfl]at this
     rw[show Act.eval ⟨av,df⟩ (.const c)=a.eval (.const c)from rfl]at this
     rw[this];rfl
   · unfold execOp;rw[hop]
     simp only[Sem.run_bind,hu w];rfl
 · rename_i d t p hg hd hop
   simp only[Bool.and_eq_true,Bool.not_eq_true']at hq
   obtain⟨⟨hq1,hq2⟩,hq3⟩:=hq
   split at hq3
   case h_2=>cases hq3
   rename_i E j g o' hT hap
   have hjk:j=k:=Nat.eq_of_beq_eq_true hq3
   subst hjk
   obtain⟨hdn,he⟩:=exd d hg hd
   unfold exAt at he
   rw[hop]at he
   simp only at he
   have hpd:p≠dA:=fun e=>by rw[e,Nat.beq_refl]at hq1;cases hq1
   have hsp:σ.get p=τ.get p:=hag p (reads_tmp (by rw[hop];intro x h;cases h) (by rw[hop];simp[Op.operands]))
   obtain⟨u,bb,hb,hu⟩:=exLoad_any hC S he (opd_rel S (gd:=none) (by intro _ _ _ _ e;cases e) (.tmp p) df) hT (by simp only[opd,A.stripG,hsp];exact hap)
   refine⟨d,u,hg,hd,hq2,?_,fin d u hg hd ?_⟩
   · unfold execOp;rw[hop]
     have e:a.eval (.tmp p)=av.getD p undef:=ha p hpd
     have:=hu w2 (hbb bb hb)
     simp only[Sem.run_bind,e]
     rw[show Act.eval ⟨av,df⟩ (.tmp p)=av.getD p undef from rfl]at this
     rw[this];rfl
   · unfold execOp;rw[hop]
     simp only[Sem.run_bind,hu w rfl];rfl
 · cases hq
def quietK (C:Ctx)(ops:List Oper)(m:Nat)(bad:List Nat)(k dA:Nat):Nat→List Oper→Env→Bool
 | _,[],_=>true
 | i,o::r,ρ=>(m.testBit i||quiet1 C bad k dA ρ o)&&match step C ops ρ o with | some (ws,_)=>putsK ρ ws fun ρ'=>quietK C ops m bad k dA (i+1) r ρ' | none=>false
theorem quietK_at {C:Ctx}{ops:List Oper}{m:Nat}{bad:List Nat}{k dA:Nat}:∀ (l:List Oper) (i:Nat) (ρ ρ2:Env) (T:List Tr),trace C ops l ρ=some (T,ρ2)→quietK C ops m bad k dA i l ρ=true→
   ∀ (q j:Nat) (o:Oper),l[j]?=some o→m.testBit (i+j)=true∨quiet1 C bad k dA (foldE T (fun z=>decide (z<q+j)) q ρ) o=true
 | [],_,_,_,_,_,_,_,_,_,h=>by simp at h
 | o::l,i,ρ,ρ2,T,ht,hq,q,j,o',h=>by
   simp only[trace]at ht
   simp only[quietK,Bool.and_eq_true,Bool.or_eq_true]at hq
   obtain⟨hq1,hq2⟩:=hq
   split at ht
   · rename_i ws cs hs
     rw[putsK_eq]at ht
     rw[hs]at hq2
     simp only[putsK_eq]at hq2
     split at ht
     · rename_i T' ρ' ht'
       simp only[Option.some.injEq,Prod.mk.injEq]at ht
       obtain⟨rfl,rfl⟩:=ht
       cases j with
       | zero=>
         simp at h;subst h
         rw[Nat.add_zero,Nat.add_zero,foldE_none _ q ρ (Nat.le_refl _)]
         exact hq1
       | succ j=>
         have:=quietK_at l (i+1) _ _ _ ht' hq2 (q+1) j o' (by simpa using h)
         have e:foldE (⟨readsOf ops ρ o,prOf ops ρ o,ws,cs⟩::T') (fun z=>decide (z<q+(j+1))) q ρ=foldE T' (fun z=>decide (z<q+1+j)) (q+1) (ρ.puts ws):=by
           simp only[foldE]
           rw[if_pos (by simp)]
           congr 1
           funext z;congr 1;simp;omega
         rw[e,show i+(j+1)=i+1+j by omega]
         exact this
     · cases ht
   · cases ht
def AppR (P:Program)(n B:Nat)(X:List Nat)(w0:World)(M0:Mem)(pins:List Nat)(b:Array Value)(df:List Deferred)(iA iS dA tx ty k:Nat)(tT ty0:TypeId)(L:Nat→Bool)(σ:Env)(a:Act)(w:World):Prop:=
 (L iS=true∧a.defers=df∧Pinned pins b a.tmps∧Sim n B X w0 M0 σ a.tmps w)∨
 (L iS=false∧∃ (av:Array Value) (wv:World),Pinned pins b av∧Sim n B X w0 M0 σ av wv∧
   ((L iA=false∧a=⟨av,df⟩∧w=wv)∨
     (L iA=true∧∃ v,a=⟨av.setIfInBounds dA v,df⟩∧(Builtin.append_ #[tT,tT] ty0 #[vl av tx,vl av ty]).run P wv=.ok v w∧∀ bb,vl av k=.pointer (some ⟨bb,0,none⟩)→w.heap[bb]?=wv.heap[bb]?)))
theorem Sim.congr {n B:Nat}{X:List Nat}{w0:World}{M0:Mem}{σ σ':Env}{tmps:Array Value}{w:World}(h:∀ t,σ'.get t=σ.get t)(hS:Sim n B X w0 M0 σ tmps w):Sim n B X w0 M0 σ' tmps w:=by
 obtain⟨M,ω,S⟩:=hS
 exact⟨M,ω,S.congr h⟩
theorem wpOp_run {ops:Array Oper}{Q:Exit→Act→World→Prop}{K:Act→World→Prop}{i:Nat}{o:Oper}{a:Act}{w w':World}{v:Value}(hi:ops[i]?=some o)(hg:o.guard=none)
   (hr:(execOp a.eval o).run P w=.ok (.value v) w') (hK:K (a.put o.dst v) w'):wpOp P ops Q i K a w:=by
 unfold wpOp
 simp only[hi]
 have hw:Region.wanted o (yielded ops a.tmps)=true:=by unfold Region.wanted;rw[hg]
 rw[if_pos hw]
 refine .inl ?_
 unfold Oper.wp
 rw[hr];exact hK
theorem wpOp_skip {ops:Array Oper}{Q:Exit→Act→World→Prop}{K:Act→World→Prop}{i:Nat}{o:Oper}{a:Act}{w w':World}(hi:ops[i]?=some o)(hg:o.guard=none)
   (hr:(execOp a.eval o).run P w=.ok .skip w') (hK:K (a.put o.dst undef) w'):wpOp P ops Q i K a w:=by
 unfold wpOp
 simp only[hi]
 have hw:Region.wanted o (yielded ops a.tmps)=true:=by unfold Region.wanted;rw[hg]
 rw[if_pos hw]
 refine .inl ?_
 unfold Oper.wp
 rw[hr];exact hK
def allBits (m:Nat):Nat→Bool
 | 0=>true
 | i+1=>m.testBit i&&allBits m i
theorem allBits_ok {m:Nat}:∀ {n j:Nat},allBits m n=true→j<n→m.testBit j=true
 | n+1,j,h,hj=>by
   simp only[allBits,Bool.and_eq_true]at h
   rcases Nat.lt_or_ge j n with h' | h'
   · exact allBits_ok h.2 h'
   · have:j=n:=by omega
     subst this;exact h.1
def tA (tx ty k:Nat):Tr:=⟨[tx,ty,k],[],[],[]⟩
def tS (tx ty k tp dA:Nat)(ws:List Wr)(cs:List Prop):Tr:=⟨[tx,ty,k,tp],[],ws++[w1 dA .junk],cs⟩
def appT (T1 T2:List Tr)(tx ty k tp dA:Nat)(ws:List Wr)(cs:List Prop):List Tr:=T1++tA tx ty k::(T2++[tS tx ty k tp dA ws cs])
theorem opd_same {σ ρ:Env}{t:Nat}(h:σ.get t=ρ.get t)(hn:(ρ.get t).a.tgt=none):opd σ none (.tmp t)=opd ρ none (.tmp t):=
 same_reads (x:=.tmp t) (fun q hq=>by
   simp only[opdReads,hn,List.mem_singleton]at hq
   rw[hq];exact h) none
theorem app_region (hm:P.follows .mixedOrders=true)(hC:CtxOk P C)(hF:∀ f F,C.fn f=some F→Meets P f F)(hB:B≤w0.heap.size){id:Nat}{ops:Array Oper}{Q:Exit→Act→World→Prop}
   {ρ ρ1 ρ2:Env} {T1 T2:List Tr} {pre mid:List Oper} {oA oS:Oper} (hops:ops.toList=pre++oA::(mid++[oS]))
   (ht1:trace C ops.toList pre ρ=some (T1,ρ1)) (ht2:trace C ops.toList mid ρ1=some (T2,ρ2))
   {dA tx ty tp k g ver off i eo:Nat} {tT:TypeId} {et E:Ty} {xs0:El (.slice E)} {org:Option Nat} {ws:List Wr} {cs:List Prop}
   (hA1:oA.dst=some dA) (hA2:oA.guard=none) (hA3:oA.op=.call ⟨.builtin .append,#[.tmp tx,.tmp ty],#[tT,tT]⟩)
   (hS1:oS.dst=none) (hS2:oS.guard=none) (hS3:oS.op=.store tT (.tmp tp) (.tmp dA)) (hT:C.ty tT=some (.slice E))
   (hx:(ρ1.get tx).a=.bor k g ver (.slice E) xs0 org (.el off et i eo)) (hcur:curK ρ1 k g ver) (hyt:(ρ1.get ty).a.tgt=none)
   (happ:srcK E (opd ρ1 none (.tmp ty)) (fun e2 ys2 ws2=>if noneIs k ws2=true then appElK (ρ1.get k) off et i eo E e2 ys2 fun nx s5 x5=>
     some (ws2++[⟨k,true,.c (.ref s5) x5⟩],[nx+ys2.length≤maxApp])else none)=some (ws,cs)) (hcs:∀ p∈cs,p)
   (hp:(ρ2.get tp).a=.elp k g ver off et i eo none) (e1:ρ2.get tx=ρ1.get tx) (e2:ρ2.get ty=ρ1.get ty) (e3:ρ2.get k=ρ1.get k)
   (hn1:dA≠tx) (hn2:dA≠ty) (hn3:dA≠tp) (hn4:dA≠k) (hl1:dA<C.n) (hl2:tx<C.n) (hl4:tp<C.n) (hl5:k<C.n)
   (hok:anyOk ops.toList (appT T1 T2 tx ty k tp dA ws cs)=true) (hall:allBits ((masks ops.toList []).getD (pre.length+1+mid.length) 0) (pre.length+1+mid.length)=true)
   (hpr:∀ x∈T1++T2,x.pr=[]) (hq1:quietK C ops.toList ((masks ops.toList []).getD pre.length 0) [dA,tx,ty,k] k dA 0 pre ρ=true)
   (hq2:quietK C ops.toList ((masks ops.toList []).getD pre.length 0) [dA,tx,ty,k] k dA (pre.length+1) mid ρ1=true)
   (hc1:condsOf T1) (hc2:condsOf T2) (hpin:PinOk C.pins ops) {a:Act} {w:World} (hS:Sim C.n B X w0 M0 ρ a.tmps w)
   (hQ:∀ a' w',a'.defers=a.defers→Pinned C.pins a.tmps a'.tmps→Sim C.n B X w0 M0 (ρ2.puts (ws++[w1 dA .junk])) a'.tmps w'→Q .normal a' w'):(Code.region id ops true).wp P Q a w:=by
 obtain⟨hlen1,hat1⟩:=trace_at pre ρ ρ1 T1 ht1
 obtain⟨hlen2,hat2⟩:=trace_at mid ρ1 ρ2 T2 ht2
 have hsz:ops.size=pre.length+1+mid.length+1:=by
   have:=congrArg List.length hops
   simp at this;omega
 have hlenT:(appT T1 T2 tx ty k tp dA ws cs).length=ops.size:=by
   unfold appT;simp;omega
 have hin:∀ (T:List Tr),condsOf T→∀ (i:Nat) (t:Tr),T[i]?=some t→∀ p∈t.cs,p:=by
   intro T
   induction T with
   | nil=>intro _ i t h;simp at h
   | cons x r ih=>
     intro h i t hi
     cases i with
     | zero=>simp at hi;subst hi;exact h.1
     | succ i=>exact ih h.2 i t (by simpa using hi)
 -- the environments on the way
 have f1:∀ i,i≤pre.length→foldE (appT T1 T2 tx ty k tp dA ws cs) (fun j=>decide (j<i)) 0 ρ=foldE T1 (fun j=>decide (j<i)) 0 ρ:=fun i hi=>by
   unfold appT
   rw[foldE_append,foldE_none _ _ _ (by omega)]
 have fA:foldE T1 (fun j=>decide (j<pre.length)) 0 ρ=ρ1:=by
   rw[foldE_all T1 0 ρ (fun j hj=>by simp;omega)]
   exact(hat1 0).1
 have f2:∀ i,pre.length<i→foldE (appT T1 T2 tx ty k tp dA ws cs) (fun j=>decide (j<i)) 0 ρ=foldE (T2++[tS tx ty k tp dA ws cs]) (fun j=>decide (j<i)) (pre.length+1) ρ1:=fun i hi=>by
   unfold appT
   rw[foldE_append,foldE_all T1 0 ρ (fun j hj=>by simp;omega),(hat1 0).1]
   have:∀ b:Bool,(if b=true then ρ1.puts (tA tx ty k).ws else ρ1)=ρ1:=fun b=>by cases b<;>rfl
   simp only[foldE,this]
   rw[hlen1,Nat.zero_add]
 have f3:∀ i,i≤pre.length+1+mid.length→pre.length<i→foldE (appT T1 T2 tx ty k tp dA ws cs) (fun j=>decide (j<i)) 0 ρ=foldE T2 (fun j=>decide (j<i)) (pre.length+1) ρ1:=fun i hi hi2=>by
   rw[f2 i hi2,foldE_append,foldE_none _ _ _ (by omega)]
 have fS:foldE T2 (fun j=>decide (j<pre.length+1+mid.length)) (pre.length+1) ρ1=ρ2:=by
   rw[foldE_all T2 (pre.length+1) ρ1 (fun j hj=>by simp;omega)]
   exact(hat2 _).1
 have fall:foldE (appT T1 T2 tx ty k tp dA ws cs) (fun _=>true) 0 ρ=ρ2.puts (ws++[w1 dA .junk]):=by
   unfold appT
   rw[foldE_append,(hat1 0).1]
   show foldE (T2++[tS tx ty k tp dA ws cs]) (fun _=>true) (0+T1.length+1) ρ1=_
   rw[foldE_append,(hat2 _).1]
   rfl
 have oAt:∀ j o,ops[j]?=some o→(pre++oA::(mid++[oS]))[j]?=some o:=fun j o h=>by rw[←hops,Array.getElem?_toList];exact h
 have hxA:(appT T1 T2 tx ty k tp dA ws cs)[pre.length]?=some (tA tx ty k):=by
   unfold appT;rw[List.getElem?_append_right (by omega)];simp[hlen1]
 have hxS:(appT T1 T2 tx ty k tp dA ws cs)[pre.length+1+mid.length]?=some (tS tx ty k tp dA ws cs):=by
   unfold appT;rw[List.getElem?_append_right (by omega)]
   rw[show pre.length+1+mid.length-T1.length=mid.length+1 by omega,List.getElem?_cons_succ,List.getElem?_append_right (by omega)]
   simp[hlen2]
 have hdAp:dA∉C.pins:=fun hm=>by
   have hoA:oA∈ops.toList:=by rw[hops];simp
   exact hpin oA hoA dA hm hA1
 -- the operations that are run as they are
 have norm:∀ j o x,ops[j]?=some o→(appT T1 T2 tx ty k tp dA ws cs)[j]?=some x→j≠pre.length→j≠pre.length+1+mid.length→
     step C ops.toList (foldE (appT T1 T2 tx ty k tp dA ws cs) (fun z=>decide (z<j)) 0 ρ) o=some (x.ws,x.cs)∧x.rd=readsOf ops.toList (foldE (appT T1 T2 tx ty k tp dA ws cs) (fun z=>decide (z<j)) 0 ρ) o∧
       ptrMv ops.toList (foldE (appT T1 T2 tx ty k tp dA ws cs) (fun z=>decide (z<j)) 0 ρ) o=none∧(∀ p∈x.cs,p)∧
       (((masks ops.toList []).getD pre.length 0).testBit j=true∨quiet1 C [dA,tx,ty,k] k dA (foldE (appT T1 T2 tx ty k tp dA ws cs) (fun z=>decide (z<j)) 0 ρ) o=true):=by
   intro j o x ho hx hj1 hj2
   have ho':=oAt j o ho
   have hpm:∀ τ,x.pr=prOf ops.toList τ o→x.pr=[]→ptrMv ops.toList τ o=none:=fun τ h1 h2=>by
     rw[h1]at h2
     unfold prOf at h2
     split at h2
     · cases h2
     · rename_i h;exact h
   rcases Nat.lt_or_ge j pre.length with hj | hj
   · rw[List.getElem?_append_left hj]at ho'
     obtain⟨x',g1,g2,g3,g4⟩:=(hat1 0).2 j o ho'
     have:x'=x:=by
       unfold appT at hx
       rw[List.getElem?_append_left (by omega),g1]at hx
       simpa using hx
     subst this
     rw[f1 j (by omega)]
     rw[Nat.zero_add]at g2 g3 g4
     refine⟨g2,g3,hpm _ g4 (hpr x' (List.mem_append.2 (.inl (List.mem_of_getElem? g1)))),hin T1 hc1 j x' g1,?_⟩
     have:=quietK_at pre 0 ρ ρ1 T1 ht1 hq1 0 j o ho'
     rwa [Nat.zero_add]at this
   · obtain⟨m,rfl⟩:∃ m,j=pre.length+1+m:=⟨j - pre.length - 1,by omega⟩
     have hjl:pre.length+1+m<ops.size:=(Array.getElem?_eq_some_iff.1 ho).1
     have hm:m<mid.length:=by omega
     rw[List.getElem?_append_right (by omega),show pre.length+1+m-pre.length=m+1 by omega,List.getElem?_cons_succ,List.getElem?_append_left hm]at ho'
     obtain⟨x',g1,g2,g3,g4⟩:=(hat2 (pre.length+1)).2 m o ho'
     have:x'=x:=by
       unfold appT at hx
       rw[List.getElem?_append_right (by omega),show pre.length+1+m-T1.length=m+1 by omega,List.getElem?_cons_succ,List.getElem?_append_left (by omega),g1]at hx
       simpa using hx
     subst this
     rw[f3 _ (by omega) (by omega)]
     refine⟨g2,g3,hpm _ g4 (hpr x' (List.mem_append.2 (.inr (List.mem_of_getElem? g1)))),hin T2 hc2 m x' g1,?_⟩
     exact quietK_at mid (pre.length+1) ρ1 ρ2 T2 ht2 hq2 (pre.length+1) m o ho'
 refine wp_region_any hm ?_
 obtain⟨M,ω,S⟩:=hS
 refine any_gen (ρ:=ρ) hlenT hok (AppR P C.n B X w0 M0 C.pins a.tmps a.defers pre.length (pre.length+1+mid.length) dA tx ty k tT oA.type) ?_ ?_ ?_ ops.size _ a _ (by simp) (by simp) ?_ ?_
 · -- the same under other names
   intro L L' σ σ' a' w' hL hσ hR
   unfold AppR at hR ⊢
   rw[hL,hL]
   rcases hR with⟨r1,r2,r3,r4⟩ | ⟨r1,av,wv,r2,r3,r4⟩
   · exact .inl ⟨r1,r2,r3,r4.congr hσ⟩
   · exact .inr ⟨r1,av,wv,r2,r3.congr hσ,r4⟩
 · -- a step
   intro L j o x σ a' w' ho hxT hLj hanc hnl hread hR K hK
   have ho':=oAt j o ho
   have hjl:j<ops.size:=(Array.getElem?_eq_some_iff.1 ho).1
   have hbS:∀ q,q<pre.length+1+mid.length→((masks ops.toList []).getD (pre.length+1+mid.length) 0).testBit q=true:=fun q hq=>allBits_ok hall hq
   have hLne:∀ q,q≠j→(L q||q==j)=L q:=fun q hq=>by
     have:(q==j)=false:=by simp[hq]
     rw[this,Bool.or_false]
   have pinA:∀ (av:Array Value) v,Pinned C.pins a.tmps av→Pinned C.pins a.tmps (av.setIfInBounds dA v):=fun av v h t ht=>by
     rw[←h t ht]
     have hdt:t≠dA:=fun e=>hdAp (e ▸ ht)
     show (av.setIfInBounds dA v).getD t undef=av.getD t undef
     rw[Array.getD_eq_getD_getElem?,Array.getD_eq_getD_getElem?,Array.getElem?_setIfInBounds_ne (Ne.symm hdt)]
   by_cases hjS:j=pre.length+1+mid.length
   · -- the store
     subst hjS
     have:x=tS tx ty k tp dA ws cs:=by rw[hxS]at hxT;exact(Option.some.inj hxT).symm
     subst this
     have hoS:o=oS:=by
       rw[List.getElem?_append_right (by omega),show pre.length+1+mid.length-pre.length=mid.length+1 by omega,List.getElem?_cons_succ,List.getElem?_append_right (by omega)]at ho'
       simpa using ho'.symm
     subst hoS
     rw[f3 _ (by omega) (by omega),fS]at hread
     have gx:=hread tx (by simp[tS])
     have gy:=hread ty (by simp[tS])
     have gk:=hread k (by simp[tS])
     have gp:=hread tp (by simp[tS])
     have hLA:=hanc pre.length (hbS _ (by omega))
     rcases hR with⟨r1,_⟩ | ⟨r1,av,wv,r2,⟨M1,ω1,S1⟩,r4⟩
     · rw[hLj]at r1;cases r1
     rcases r4 with⟨r4,_⟩ | ⟨_,v,r5,r6,_⟩
     · rw[hLA]at r4;cases r4
     have hcurσ:curK σ k g ver:=by unfold curK;rw[gk,e3];exact hcur
     obtain⟨v1,w1',n1,_,n3⟩:=appEl_ok (P:=P) hC S1 hB (k:=k) (g:=g) (ver:=ver) (off:=off) (i:=i) (eo:=eo) (tx:=tx) (ty:=ty) (et:=et) (E:=E) (xs0:=xs0) (org:=org) (ws:=ws) (cs:=cs) hl5 hcurσ hl2 (by rw[gx,e1];exact hx)
       (by rw[opd_same (gy.trans e2) hyt,gk,e3];exact happ) hcs hT oA.type
     rw[n1]at r6
     simp only[Result.ok.injEq]at r6
     obtain⟨rfl,rfl⟩:=r6
     have hr:=S1.slots tp hl4
     rw[gp,hp]at hr
     obtain⟨_,hel⟩:=hr
     obtain⟨w2,s1,M2,ω2,S2⟩:=n3 _ (hel hcurσ)
     have hdz:dA<av.size:=by rw[S1.size];exact hl1
     have hrun:(execOp a'.eval o).run P w1'=.ok .skip w2:=by
       have ep:a'.eval (.tmp tp)=vl av tp:=by
         rw[r5]
         show (av.setIfInBounds dA v1).getD tp undef=av.getD tp undef
         rw[Array.getD_eq_getD_getElem?,Array.getD_eq_getD_getElem?,Array.getElem?_setIfInBounds_ne hn3]
       have ev:a'.eval (.tmp dA)=v1:=by
         rw[r5]
         show (av.setIfInBounds dA v1).getD dA undef=v1
         rw[getD_set av hdz,if_pos rfl]
       unfold execOp;rw[hS3]
       simp only[ep,ev,Sem.run_bind,s1,Result.andThen_ok,Sem.run_pure]
     have hput:a'.put o.dst undef=a':=by rw[hS1];rfl
     refine wpOp_skip ho hS2 hrun (hK _ _ (.inl ⟨?_,?_,?_,?_⟩))
     · simp
     · rw[hput,r5]
     · rw[hput,r5];exact pinA av v1 r2
     · rw[hput,r5]
       show Sim C.n B X w0 M0 (σ.puts (ws++[w1 dA .junk])) (av.setIfInBounds dA v1) w2
       rw[Env.puts_append]
       exact⟨_,_,put_ok S2 hl1 (A:=.junk) (fun _=>trivial)⟩
   · by_cases hjA:j=pre.length
     · -- the append
       subst hjA
       have:x=tA tx ty k:=by rw[hxA]at hxT;exact(Option.some.inj hxT).symm
       subst this
       have hoA:o=oA:=by
         rw[List.getElem?_append_right (Nat.le_refl _),Nat.sub_self,List.getElem?_cons_zero]at ho'
         simpa using ho'.symm
       subst hoA
       rw[f1 _ (Nat.le_refl _),fA]at hread
       have gx:=hread tx (by simp[tA])
       have gy:=hread ty (by simp[tA])
       have gk:=hread k (by simp[tA])
       have hLS:L (pre.length+1+mid.length)=false:=by
         cases hb:L (pre.length+1+mid.length)with
         | false=>rfl
         | true=>have:=hnl _ (by omega) hb;rw[hbS _ (by omega)]at this;cases this
       rcases hR with⟨r1,_⟩ | ⟨r1,av,wv,r2,⟨M1,ω1,S1⟩,r4⟩
       · rw[hLS]at r1;cases r1
       rcases r4 with⟨_,r5,r6⟩ | ⟨r4,_⟩
       case inr=>rw[hLj]at r4;cases r4
       subst r5;subst r6
       have hcurσ:curK σ k g ver:=by unfold curK;rw[gk];exact hcur
       obtain⟨v1,w1',n1,n2,_⟩:=appEl_ok (P:=P) hC S1 hB (k:=k) (g:=g) (ver:=ver) (off:=off) (i:=i) (eo:=eo) (tx:=tx) (ty:=ty) (et:=et) (E:=E) (xs0:=xs0) (org:=org) (ws:=ws) (cs:=cs) hl5 hcurσ hl2 (by rw[gx];exact hx)
         (by rw[opd_same gy hyt,gk];exact happ) hcs hT o.type
       have hrun:(execOp (Act.eval ⟨av,a.defers⟩) o).run P w'=.ok (.value v1) w1':=by
         unfold execOp;rw[hA3]
         have n1':(Builtin.append_ #[tT,tT] o.type #[Act.eval ⟨av,a.defers⟩ (.tmp tx),Act.eval ⟨av,a.defers⟩ (.tmp ty)]).run P w'=.ok v1 w1':=n1
         simp[resolve,invoke,builtin,n1']
       refine wpOp_run ho hA2 hrun (hK _ _ (.inr ⟨?_,av,w',r2,⟨M1,ω1,S1⟩,.inr ⟨by simp,v1,?_,n1,n2⟩⟩))
       · show (L _||_==_)=false
         rw[hLne _ (by omega)];exact hLS
       · rw[hA1];rfl
     · -- the others
       obtain⟨c1,c2,c3,c4,c5⟩:=norm j o x ho hxT hjA hjS
       rw[c2]at hread
       have hst:step C ops.toList σ o=some (x.ws,x.cs):=by rw[step_agree hread c3];exact c1
       have hLS:L (pre.length+1+mid.length)=false:=by
         cases hb:L (pre.length+1+mid.length)with
         | false=>rfl
         | true=>have:=hnl _ (by omega) hb;rw[hbS j (by omega)]at this;cases this
       rcases hR with⟨r1,_⟩ | ⟨r1,av,wv,r2,⟨M1,ω1,S1⟩,r4⟩
       · rw[hLS]at r1;cases r1
       rcases r4 with⟨r4,r5,r6⟩ | ⟨r4,v,r5,r6,r7⟩
       · subst r5;subst r6
         refine step_ok hC hF S1 hB ho hst c4 fun a2 w2 hd hv hS'=>hK a2 w2 (.inr ⟨?_,a2.tmps,w2,pin_put hpin ho hv r2,hS',.inl ⟨?_,?_,rfl⟩⟩)
         · show (L _||_==_)=false
           rw[hLne _ (Ne.symm hjS)];exact hLS
         · show (L _||_==_)=false
           rw[hLne _ (Ne.symm hjA)];exact r4
         · obtain⟨t2,d2⟩:=a2
           simp only at hd;rw[hd]
       · have hq:=c5.resolve_left (fun hb=>by
           have:=hnl pre.length (by omega) r4
           rw[hb]at this;cases this)
         obtain⟨d,u,q1,q2,q3,q4,q5⟩:=quiet_run hC hF hB S1 hst c4 a.defers (bad:=[dA,tx,ty,k]) hq hread (a:=a') (fun t ht=>by
           rw[r5]
           show (av.setIfInBounds dA v).getD t undef=av.getD t undef
           rw[Array.getD_eq_getD_getElem?,Array.getD_eq_getD_getElem?,Array.getElem?_setIfInBounds_ne (Ne.symm ht)]) r7
         have hbad:d≠dA∧d≠tx∧d≠ty∧d≠k:=by
           refine⟨fun e=>?_,fun e=>?_,fun e=>?_,fun e=>?_⟩<;>· subst e;simp[memb]at q3
         have hvl:∀ t,t≠d→vl (av.setIfInBounds d u) t=vl av t:=fun t ht=>by
           show (av.setIfInBounds d u).getD t undef=av.getD t undef
           rw[Array.getD_eq_getD_getElem?,Array.getD_eq_getD_getElem?,Array.getElem?_setIfInBounds_ne (Ne.symm ht)]
         refine wpOp_run ho q1 q4 (hK _ _ (.inr ⟨?_,av.setIfInBounds d u,wv,?_,q5,.inr ⟨?_,v,?_,?_,?_⟩⟩))
         · show (L _||_==_)=false
           rw[hLne _ (Ne.symm hjS)];exact hLS
         · have:=pin_put hpin ho (a:=⟨av,a.defers⟩) (a':=⟨av.setIfInBounds d u,a.defers⟩) ⟨u,by rw[q2];rfl⟩ r2
           exact this
         · show (L _||_==_)=true
           rw[r4];rfl
         · rw[q2,r5]
           show (⟨(av.setIfInBounds dA v).setIfInBounds d u,a.defers⟩:Act)=_
           rw[Array.setIfInBounds_comm _ _ (Ne.symm hbad.1)]
         · rw[hvl tx (Ne.symm hbad.2.1),hvl ty (Ne.symm hbad.2.2.1)];exact r6
         · intro bb hbb
           rw[hvl k (Ne.symm hbad.2.2.2)]at hbb
           exact r7 bb hbb
 · intro a' w' hR
   unfold AppR at hR
   rcases hR with⟨r1,r2,r3,r4⟩ | ⟨r1,_⟩
   · rw[fall]at r4
     exact hQ a' w' r2 r3 r4
   · simp at r1;omega
 · intro j o _ hl
   rw[Array.getD_eq_getD_getElem?,Array.getElem?_replicate]at hl
   split at hl<;>cases hl
 · have hL0:∀ j,(Array.replicate ops.size false).getD j false=false:=fun j=>by
     rw[Array.getD_eq_getD_getElem?,Array.getElem?_replicate]
     split<;>rfl
   refine .inr ⟨hL0 _,a.tmps,_,fun _ _=>rfl,⟨M,ω,(S.drawn _).congr fun t=>?_⟩,.inl ⟨hL0 _,rfl,rfl⟩⟩
   refine foldE_skip _ 0 fun i x _ hl=>?_
   rw[hL0]at hl;cases hl
end
def nopA:Oper:={ dst:=none,op:=.ready 0,type:=0,pos:=default,after:=#[],guard:=none }
def preA (n:Nat)(ops:List Oper):List Oper:=ops.take n
def opA (n:Nat)(ops:List Oper):Oper:=ops.getD n nopA
def midA (n m:Nat)(ops:List Oper):List Oper:=(ops.drop (n+1)).take m
def prNil:RW→Bool
 | []=>true
 | ([],_)::r=>prNil r
 | _::_=>false
theorem prNil_ok:∀ (T:List Tr),prNil (rpOf T)=true→∀ x∈T,x.pr=[]
 | [],_,x,h=>by simp at h
 | y::T,h,x,hx=>by
   have e:rpOf (y::T)=(y.pr,bSl y.ws)::rpOf T:=rfl
   rw[e]at h
   cases hy:y.pr with
   | nil=>
     rw[hy]at h
     rcases List.mem_cons.1 hx with rfl | hx
     · exact hy
     · exact prNil_ok T h x hx
   | cons a l=>rw[hy]at h;cases h
theorem rwOf_app (T1 T2:List Tr)(tx ty k tp dA:Nat)(ws:List Wr)(cs:List Prop):
   rwOf (appT T1 T2 tx ty k tp dA ws cs)=rwOf T1++([tx,ty,k],[])::(rwOf T2++[([tx,ty,k,tp],(ws++[w1 dA .junk]).map (·.slot))]):=by
 simp[appT,rwOf,tA,tS]
section
variable {G:Cfg} {ρ:Env} {K:Exit→Env→Prop}
abbrev RunA:Type:=RW×RW×List Prop×Env
theorem Vc.regionA (hm:G.P.follows .mixedOrders=true)(hG:G.Ok){id:Nat}{ops:Array Oper}(nA nM dA tx ty tp k:Nat){ρ1 ρ2 ρ3:Env}{rw1 rw2 rp1 rp2:RW}{cs1 cs2 cs:List Prop}{ws:List Wr}
   {g ver off i eo:Nat} {tT:TypeId} {et E:Ty} {xs0:El (.slice E)} {org:Option Nat}
   (hlen:Nat.beq ops.toList.length (nA+1+nM+1)=true) (hops:ops.toList=preA nA ops.toList++opA nA ops.toList::(midA nA nM ops.toList++[opA (nA+1+nM) ops.toList]))
   (h1:runD G.C ops.toList (preA nA ops.toList) ρ (fun rw rp cs ρ'=>some ((rw,rp,cs,ρ'):RunA))=some (rw1,rp1,cs1,ρ1))
   (h2:runD G.C ops.toList (midA nA nM ops.toList) ρ1 (fun rw rp cs ρ'=>some ((rw,rp,cs,ρ'):RunA))=some (rw2,rp2,cs2,ρ2))
   (hA1:(opA nA ops.toList).dst=some dA) (hA2:(opA nA ops.toList).guard=none) (hA3:(opA nA ops.toList).op=.call ⟨.builtin .append,#[.tmp tx,.tmp ty],#[tT,tT]⟩)
   (hS1:(opA (nA+1+nM) ops.toList).dst=none) (hS2:(opA (nA+1+nM) ops.toList).guard=none) (hS3:(opA (nA+1+nM) ops.toList).op=.store tT (.tmp tp) (.tmp dA))
   (hT:G.C.ty tT=some (.slice E)) (hx:(ρ1.get tx).a=.bor k g ver (.slice E) xs0 org (.el off et i eo)) (hcur1:(ρ1.get k).g=g) (hcur2:(ρ1.get k).ver=ver) (hyt:(ρ1.get ty).a.tgt=none)
   (happ:srcK E (opd ρ1 none (.tmp ty)) (fun e2 ys2 ws2=>if noneIs k ws2=true then appElK (ρ1.get k) off et i eo E e2 ys2 fun nx s5 x5=>
     some (ws2++[⟨k,true,.c (.ref s5) x5⟩],[nx+ys2.length≤maxApp])else none)=some (ws,cs))
   (hp:(ρ2.get tp).a=.elp k g ver off et i eo none) (e1:ρ2.get tx=ρ1.get tx) (e2:ρ2.get ty=ρ1.get ty) (e3:ρ2.get k=ρ1.get k)
   (hn:(!(Nat.beq dA tx)&&!(Nat.beq dA ty)&&!(Nat.beq dA tp)&&!(Nat.beq dA k)&&Nat.blt dA G.C.n&&Nat.blt tx G.C.n&&Nat.blt tp G.C.n&&Nat.blt k G.C.n)=true)
   (hok:okRW ops.toList (rw1++([tx,ty,k],[])::(rw2++[([tx,ty,k,tp],(ws++[w1 dA .junk]).map (·.slot))]))=true)
   (hall:allBits ((masks ops.toList []).getD (nA+1+nM) 0) (nA+1+nM)=true)
   (hpr:(prNil rp1&&prNil rp2)=true) (hq1:quietK G.C ops.toList ((masks ops.toList []).getD nA 0) [dA,tx,ty,k] k dA 0 (preA nA ops.toList) ρ=true)
   (hq2:quietK G.C ops.toList ((masks ops.toList []).getD nA 0) [dA,tx,ty,k] k dA (nA+1) (midA nA nM ops.toList) ρ1=true)
   (hpin:pinB G.C.pins ops.toList=true) (hk:putsK ρ2 (ws++[w1 dA .junk]) (fun ρ'=>keepK G.C.keep G.C.keep ρ' (fun ρ''=>some ρ''))=some ρ3)
   (hc:conj (cs1++(cs2++cs))) (hK:K .normal ρ3):Vc G (.region id ops true) ρ K:=by
 intro a w hd hS
 obtain⟨T1,σ1,t1,q1⟩:=runD_ok _ _ _ _ h1
 simp only[Option.some.injEq,Prod.mk.injEq]at q1
 obtain⟨rfl,rfl,rfl,rfl⟩:=q1
 obtain⟨T2,σ2,t2,q2⟩:=runD_ok _ _ _ _ h2
 simp only[Option.some.injEq,Prod.mk.injEq]at q2
 obtain⟨rfl,rfl,rfl,rfl⟩:=q2
 rw[putsK_eq,keepK_eq]at hk
 simp only[Option.some.injEq]at hk
 subst hk
 have hcm:=conj_mem _ hc
 simp only[Bool.and_eq_true,Bool.not_eq_true']at hn hpr
 obtain⟨⟨⟨⟨⟨⟨⟨n1,n2⟩,n3⟩,n4⟩,n5⟩,n6⟩,n7⟩,n8⟩:=hn
 have ne:∀ x y:Nat,Nat.beq x y=false→x≠y:=fun x y h e=>by rw[e,Nat.beq_refl]at h;cases h
 have lt:∀ x y:Nat,Nat.blt x y=true→x<y:=fun x y h=>by simpa [Nat.blt_eq] using h
 have hlp:(preA nA ops.toList).length=nA∧(midA nA nM ops.toList).length=nM:=by
   have:=Nat.eq_of_beq_eq_true hlen
   unfold preA midA
   simp only[List.length_take,List.length_drop]
   omega
 exact app_region hm hG.ctx hG.fn hG.base hops t1 t2 hA1 hA2 hA3 hS1 hS2 hS3 hT hx ⟨hcur1,hcur2⟩ hyt happ (fun p hp=>hcm p (by simp[hp])) hp e1 e2 e3 (ne _ _ n1) (ne _ _ n2) (ne _ _ n3) (ne _ _ n4) (lt _ _ n5) (lt _ _ n6) (lt _ _ n7) (lt _ _ n8)
   (by unfold anyOk;rw[rwOf_app];exact hok) (by rw[hlp.1,hlp.2];exact hall)
   (fun x hx=>by rcases List.mem_append.1 hx with hx | hx;exact prNil_ok T1 hpr.1 x hx;exact prNil_ok T2 hpr.2 x hx)
   (by rw[hlp.1];exact hq1) (by rw[hlp.1];exact hq2) (condsL_of T1 fun p hp=>hcm p (by simp[hp])) (condsL_of T2 fun p hp=>hcm p (by simp[hp])) (pinB_ok hpin) hS.1
   fun a' w' hd' hpn hS'=>⟨_,hK,hd'.trans hd,keep_ok _ hS',fun t ht=>(hpn t ht).trans (hS.2 t ht)⟩
end
end Fw
