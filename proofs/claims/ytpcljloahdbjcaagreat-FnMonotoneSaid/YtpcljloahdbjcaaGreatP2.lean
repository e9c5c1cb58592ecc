/- Appends of parts of rows whose elements own memory. Conditions: none. -/
import Derived.Test.YtpcljloahdbjcaaGreatP1
import Derived.KernelRfl
import Derived.ProofKit
import Derived.Deep.Slices
set_option linter.unusedSimpArgs false
set_option linter.unusedVariables false
namespace Fw
open Go
section
variable {n B:Nat} {E:Ty} {X:List Nat} {w0:World} {M0 M:Mem} {ω:Own} {ρ:Env} {tmps:Array Value} {w w':World} {P:Program} {C:Ctx}
def DstR (n:Nat)(ω:Own)(w:World)(v:Value)(sz nn:Nat)(olds:List Value):Option Nat→Prop
 | none=>∃ a,v=.slice a 0 0∧nn=0∧olds=[]
 | some b=>∃ cap spare L,v=.slice (some ⟨b,0,none⟩) nn cap∧n≤L∧ω b=some L∧rows w b=some (olds++spare)∧olds.length=nn*sz∧
     (olds++spare).length=cap*sz∧nn≤cap∧cap≤bigLen
theorem app_any (S:St0 n B X w0 M0 M ω ρ tmps w)(hB:B≤w0.heap.size){t ty te:TypeId}(hu:P.underlying t=some (.slice te))(hE:TyR P te E){va:Value}{nn m c:Nat}{olds news:List Value}
   {a:Option Addr} {ob:Option Nat} (hd:DstR n ω w va E.size nn olds ob) (hl:news.length=m*E.size)
   (hnews:∀ ad,a=some ad→(ad.spot=none∨m=0)∧CellsAt (full w) ad.block ad.off news) (ha:a=none→m=0) (hpl:Plain news) (hle:nn+m≤maxApp):
   ∃ v w' ω' ob',(Builtin.append_ #[t,t] ty #[va,.slice a m c]).run P w=.ok v w'∧St0 n B X w0 M0 M ω' ρ tmps w'∧DstR n ω' w' v E.size (nn+m) (olds++news) ob'∧
     (ob'=ob∨ob'=some w.heap.size)∧∀ i,some i≠ob→i<w.heap.size→ω' i=ω i∧rows w' i=rows w i:=by
 have fresh:∀ (base:Option Addr) (cap:Nat),olds.length=nn*E.size→(∀ bd,base=some bd→(bd.spot=none∨nn=0)∧CellsAt (full w) bd.block bd.off olds)→(base=none→nn=0∧cap=0)→cap<nn+m→nn≤cap→
     ∃ v w' ω' ob',(Builtin.append_ #[t,t] ty #[.slice base nn cap,.slice a m c]).run P w=.ok v w'∧St0 n B X w0 M0 M ω' ρ tmps w'∧DstR n ω' w' v E.size (nn+m) (olds++news) ob'∧
       (ob'=ob∨ob'=some w.heap.size)∧∀ i,some i≠ob→i<w.heap.size→ω' i=ω i∧rows w' i=rows w i:=by
   intro base cap h1 h2 h3 h4 h5
   cases a with
   | none=>have:=ha rfl;omega
   | some ad=>
     obtain⟨f1,f2⟩:=hnews ad rfl
     have f1:ad.spot=none:=f1.resolve_right (by omega)
     obtain⟨cap',sp,w',g1,g2,g3,g4,g5⟩:=run_append_new (P:=P) (w:=w) (ty:=ty) (c:=c) hu hE (base:=base) (nn:=nn) (cap:=cap) (m:=m) (ad:=ad) (olds:=olds) (news:=news) h1 h2 h3 hl f1 f2 h4 hle
     exact⟨_,w',_,some w.heap.size,g1,grown_ok S (S.bnd hB) g2 n,⟨cap',sp,n,rfl,Nat.le_refl _,by simp,g2.row,by simp only[List.length_append,h1,hl,Nat.add_mul],g5,g3,g4⟩,.inr rfl,
       fun i _ hi=>⟨if_neg (by omega),rows_of_block (g2.old i hi)⟩⟩
 cases ob with
 | none=>
   obtain⟨a0,rfl,rfl,rfl⟩:=hd
   by_cases hm:m=0
   · subst hm
     have:news=[]:=List.length_eq_zero_iff.1 (by rw[hl,Nat.zero_mul])
     subst this
     refine⟨.slice a0 0 0,w,ω,none,?_,S,⟨a0,rfl,rfl,rfl⟩,.inl rfl,fun i _ _=>⟨rfl,rfl⟩⟩
     exact run_append_room (P:=P) (w:=w) (ty:=ty) hu hE (base:=a0) (nn:=0) (cap:=0) (m:=0) (c:=c) (a:=a) (news:=[]) (by simp) (fun ad h=>⟨(hnews ad h).1,fun j c hj=>by simp at hj⟩) (fun _=>rfl) (Nat.le_refl _) (fun ad _=>rfl) (fun _=>rfl)
   · exact fresh a0 0 (by simp) (fun bd _=>⟨.inr rfl,fun j c hj=>by simp at hj⟩) (fun _=>⟨rfl,rfl⟩) (by omega) (Nat.le_refl _)
 | some b=>
   obtain⟨cap,spare,L,rfl,h1,h2,h3,h4,h5,h6,h7⟩:=hd
   by_cases hroom:nn+m≤cap
   · have hfit:nn*E.size+0+news.length≤(olds++spare).length:=by
       rw[hl,h5,Nat.add_zero,←Nat.add_mul];exact Nat.mul_le_mul_right _ hroom
     obtain⟨w',f1,f2⟩:=run_storeCells (P:=P) news 0 w b (nn*E.size) (olds++spare) h3 hfit hpl
     rw[Nat.add_zero,←h4,List.take_left]at f2
     refine⟨_,w',ω,some b,run_append_room (P:=P) (w:=w) (ty:=ty) hu hE (base:=some ⟨b,0,none⟩) (nn:=nn) (cap:=cap) (m:=m) (c:=c) (a:=a) (news:=news) hl hnews ha hroom
         (fun ad h=>by simp only[Option.some.injEq]at h;subst h;rw[addr_add,Nat.zero_add];exact f1) (fun h=>by cases h),upd_ok S h1 h2 f2,
       ⟨cap,(olds++spare).drop (olds.length+news.length),L,rfl,h1,h2,f2.row,by simp only[List.length_append,h4,hl,Nat.add_mul],?_,hroom,h7⟩,.inl rfl,fun i hi _=>⟨rfl,rows_of_block (f2.other i (fun e=>hi (by rw[e])))⟩⟩
     rw[←h5]
     simp only[List.length_append,List.length_drop]at hfit ⊢
     omega
   · exact fresh (some ⟨b,0,none⟩) cap h4 (fun bd h=>by
       simp only[Option.some.injEq]at h;subst h
       refine⟨.inl rfl,fun j c hj=>rows_full h3 j c ?_⟩
       rw[List.getElem?_append_left (List.getElem?_eq_some_iff.1 hj).1];exact hj) (fun h=>by cases h) (by omega) h6
theorem fin_row (S:St0 n B X w0 M0 M ω ρ tmps w)(hB:B≤w0.heap.size){d:Nat}(hdn:d<n){t ty te:TypeId}(hu:P.underlying t=some (.slice te))(hE:TyR P te E){va:Value}{nn m c:Nat}{olds news:List Value}
   {a:Option Addr} {ob:Option Nat} (hd:DstR n ω w va E.size nn olds ob) (hl:news.length=m*E.size)
   (hnews:∀ ad,a=some ad→(ad.spot=none∨m=0)∧CellsAt (full w) ad.block ad.off news) (ha:a=none→m=0) (hpl:Plain news) (hle:nn+m≤maxApp)
   {e:Sh} (hsz:e.size=E.size) {zs:List (El e.ty)} (hz:zs.length=nn+m) {bs:List Nat} (hg:GroupsO (EncO M (rows w) e) e.size (olds++news) zs bs) (hnd:bs.Nodup)
   (hlim:∀ b∈bs,∃ L,n≤L∧ω b=some L) (hob:∀ b∈bs,some b≠ob):
   ∃ v w' ω',(Builtin.append_ #[t,t] ty #[va,.slice a m c]).run P w=.ok v w'∧St0 n B X w0 M0 M ω' (ρ.puts [w1 d (.c (.own e) zs)]) (tmps.setIfInBounds d v) w':=by
 obtain⟨v,w',ω',ob',h1,h2,h3,h4,h5⟩:=app_any (P:=P) (ty:=ty) (c:=c) S hB hu hE hd hl hnews ha hpl hle
 have hlt:∀ b∈bs,b<w.heap.size:=fun b hb=>by
   obtain⟨L,_,q⟩:=hlim b hb
   exact(S.dis b L q).2.1
 have hrow:∀ b∈bs,ω' b=ω b∧rows w' b=rows w b:=fun b hb=>h5 b (hob b hb) (hlt b hb)
 have hl':∀ b∈bs,∃ L,n≤L∧ω' b=some L:=fun b hb=>by rw[(hrow b hb).1];exact hlim b hb
 have hg':GroupsO (EncO M (rows w') e) e.size (olds++news) zs bs:=GroupsO.imp zs _ bs (fun x _ cs b hb hp=>EncO.mono (Mem.le_refl _) e cs x b (fun i hi=>(hrow i (hb i hi)).2) hp) hg
 cases ob' with
 | none=>
   obtain⟨a0,rfl,q2,q3⟩:=h3
   have hz0:zs=[]:=List.length_eq_zero_iff.1 (by omega)
   subst hz0
   have hb0:bs=[]:=hg
   subst hb0
   exact⟨_,w',_,h1,put_c h2 hdn (s:=.own e) (x:=[]) (cs:=[.slice a0 0 0]) (bs:=[]) rfl (.inl ⟨rfl,⟨a0,rfl,trivial⟩,rfl⟩) List.nodup_nil (by simp)⟩
 | some b'=>
   obtain⟨cap,spare,L,rfl,q2,q3,q4,q5,q6,q7,q8⟩:=h3
   have hbn:b'∉bs:=fun hm=>by
     rcases h4 with h4 | h4
     · exact hob b' hm h4
     · have:=hlt b' hm
       simp only[Option.some.injEq]at h4
       omega
   refine⟨_,w',_,h1,put_c h2 hdn (s:=.own e) (x:=zs) (cs:=[.slice (some ⟨b',0,none⟩) (nn+m) cap]) (bs:=b'::bs) rfl
     (.inr ⟨b',cap,_,bs,rfl,by rw[hz],by omega,q8,q4,by rw[q6,hsz],GroupsO.spare _ _ _ _ hg'⟩) (List.nodup_cons.2 ⟨hbn,hnd⟩) fun b hb=>?_⟩
   rcases List.mem_cons.1 hb with rfl | hb
   · exact⟨L,q2,q3⟩
   · exact hl' b hb
theorem Place.move {ω':Own}{k:Nat}{a:A}{v:Value}{pc:List Value}(h:Place ω w k a v pc)(hk:∀ b,ω b=some k→ω' b=some k∧rows w' b=rows w b):Place ω' w' k a v pc:=by
 cases a with
 | c s x=>
   cases s with
   | ref s=>obtain⟨b,h1,h2,h3⟩:=h;exact⟨b,h1,(hk b h2).1,by rw[(hk b h2).2];exact h3⟩
   | _=>exact h
 | _=>exact h
theorem Place.fun_ {ω':Own}{k:Nat}{a:A}{v:Value}{pc pc':List Value}(h:Place ω w k a v pc)(h':Place ω' w k a v pc'):pc=pc':=by
 cases a with
 | c s x=>
   cases s with
   | ref s=>
     obtain⟨b,h1,h2,h3⟩:=h
     obtain⟨b',g1,g2,g3⟩:=h'
     rw[h1]at g1
     simp only[Value.pointer.injEq,Option.some.injEq,Addr.mk.injEq,and_true]at g1
     subst g1
     rw[h3]at g3
     simpa using g3
   | _=>exact ValC.fun_ h h'
 | _=>exact h.elim
theorem fin_br (S:St0 n B X w0 M0 M ω ρ tmps w)(hB:B≤w0.heap.size){d:Nat}(hdn:d<n){t ty te:TypeId}(hu:P.underlying t=some (.slice te))(hE:TyR P te E){va:Value}{nn m c:Nat}{olds news:List Value}
   {a:Option Addr} {ob:Option Nat} (hd:DstR n ω w va E.size nn olds ob) (hl:news.length=m*E.size)
   (hnews:∀ ad,a=some ad→(ad.spot=none∨m=0)∧CellsAt (full w) ad.block ad.off news) (ha:a=none→m=0) (hpl:Plain news) (hle:nn+m≤maxApp)
   {k off n1:Nat} {s:Sh} {ys:List (El s.ty)} {bs:List Nat} {lent more:List Value} (hk:k<n) (hsz:s.size=E.size) (hz:n1+ys.length=nn+m) (hc:olds++news=lent++more) (hlen:lent.length=n1*s.size) (hmore:more.length=ys.length*s.size)
   (hsrc:n1=0∨∃ pc b len cap row,Place ω w k (ρ.get k).a (vl tmps k) pc∧pc[off]?=some (.slice (some ⟨b,0,none⟩) len cap)∧n1≤len∧ω b=some k∧rows w b=some row∧lent=row.take (n1*s.size))
   (hg:GroupsO (EncO M (rows w) s) s.size more ys bs) (hnd:bs.Nodup) (hlim:∀ b∈bs,∃ L,n≤L∧ω b=some L) (hob:∀ b∈bs,some b≠ob):
   ∃ v w' ω',(Builtin.append_ #[t,t] ty #[va,.slice a m c]).run P w=.ok v w'∧St0 n B X w0 M0 M ω' (ρ.puts [w1 d (.br k (ρ.get k).g (ρ.get k).ver off n1 s ys)]) (tmps.setIfInBounds d v) w':=by
 obtain⟨v,w',ω',ob',h1,h2,h3,h4,h5⟩:=app_any (P:=P) (ty:=ty) (c:=c) S hB hu hE hd hl hnews ha hpl hle
 have hlt:∀ b∈bs,b<w.heap.size:=fun b hb=>by
   obtain⟨L,_,q⟩:=hlim b hb
   exact(S.dis b L q).2.1
 have hrow:∀ b∈bs,ω' b=ω b∧rows w' b=rows w b:=fun b hb=>h5 b (hob b hb) (hlt b hb)
 have hg':GroupsO (EncO M (rows w') s) s.size more ys bs:=GroupsO.imp ys _ bs (fun x _ cs b hb hp=>EncO.mono (Mem.le_refl _) s cs x b (fun i hi=>(hrow i (hb i hi)).2) hp) hg
 -- what slot k owns is as it was
 have hobk:∀ b,ω b=some k→some b≠ob:=fun b hb e=>by
   rw[←e]at hd
   obtain⟨_,_,L,_,q1,q2,_⟩:=hd
   rw[hb]at q2;simp only[Option.some.injEq]at q2;omega
 have hkk:∀ b,ω b=some k→settle n d ω' b=some k∧rows w' b=rows w b:=fun b hb=>by
   obtain⟨q1,q2⟩:=h5 b (hobk b hb) (S.dis b k hb).2.1
   refine⟨?_,q2⟩
   simp only[settle,q1,hb]
   rw[if_neg (by omega)]
 refine⟨v,w',_,h1,put_ok h2 hdn fun hst=>?_⟩
 refine⟨⟨hk,(hst.old k).g_le,fun hgk=>?_⟩,fun hcur=>?_⟩
 · rcases hst.old k with o | ⟨_,o⟩ | o
   · omega
   · omega
   · exact Nat.le_of_eq (congrArg Ent.ver o)
 · have hsame:=(hst.old k).same (Nat.le_refl _) (fun _=>Nat.le_refl _) hcur.1 hcur.2
   have hvk:vl (tmps.setIfInBounds d v) k=vl tmps k:=hst.ptr k (by rw[←hsame])
   rw[hvk,←hsame]
   refine⟨lent,more,bs,hlen,hmore,?_,hg',?_⟩
   · rcases hsrc with q | ⟨pc,b,len,cap,row,q1,q2,q3,q4,q5,q6⟩
     · exact .inl q
     · exact .inr ⟨pc,b,len,cap,row,q1.move hkk,q2,q3,(hkk b q4).1,by rw[(hkk b q4).2];exact q5,q6⟩
   · cases ob' with
     | none=>
       obtain⟨a0,rfl,q2,q3⟩:=h3
       have hy:ys=[]:=List.length_eq_zero_iff.1 (by omega)
       subst hy
       exact .inl ⟨a0,rfl,by simp at hz;omega,rfl,hg'⟩
     | some b'=>
       obtain⟨cap,spare,L,rfl,q2,q3,q4,q5,q6,q7,q8⟩:=h3
       have hbn:b'∉bs:=fun hm=>by
         rcases h4 with h4 | h4
         · exact hob b' hm h4
         · have:=hlt b' hm
           simp only[Option.some.injEq]at h4
           omega
       refine .inr ⟨b',cap,spare,by rw[hz],by omega,q8,by rw[←hc];exact q4,by rw[←hc,q6,hsz],List.nodup_cons.2 ⟨hbn,hnd⟩,fun c hc'=>?_⟩
       rcases List.mem_cons.1 hc' with rfl | hc'
       · exact settle_lim q3 q2
       · obtain⟨L',g1,g2⟩:=hlim c hc'
         exact settle_lim (by rw[(hrow c hc').1];exact g2) g1
theorem fin_lz (S:St0 n B X w0 M0 M ω ρ tmps w)(hB:B≤w0.heap.size){d:Nat}(hdn:d<n){t ty te:TypeId}(hu:P.underlying t=some (.slice te))(hE:TyR P te E){va:Value}{n1 c:Nat}{olds news:List Value}
   {a:Option Addr} {ob:Option Nat} {k off lo len cap0:Nat} {s:Sh} (hd:DstR n ω w va E.size n1 olds ob) (hl:news.length=(len-lo)*E.size)
   (hnews:∀ ad,a=some ad→(ad.spot=none∨len-lo=0)∧CellsAt (full w) ad.block ad.off news) (ha:a=none→len-lo=0) (hpl:Plain news) (hle:n1+(len-lo)≤maxApp)
   (hk:k<n) (hsz:s.size=E.size) (holds:olds.length=n1*s.size) {pc:List Value} {a0:Option Addr} (hp:Place ω w k (ρ.get k).a (vl tmps k) pc) (hpc:pc[off]?=some (.slice a0 len cap0)) (h1:n1≤lo) (h2:lo≤len)
   (hsrc:len=0∨∃ b row,a0=some ⟨b,0,none⟩∧ω b=some k∧rows w b=some row∧olds=row.take (n1*s.size)∧news=(row.drop (lo*s.size)).take ((len-lo)*s.size)):
   ∃ v w' ω',(Builtin.append_ #[t,t] ty #[va,.slice a (len-lo) c]).run P w=.ok v w'∧St0 n B X w0 M0 M ω' (ρ.puts [w1 d (.lz k (ρ.get k).g (ρ.get k).ver off n1 lo s)]) (tmps.setIfInBounds d v) w':=by
 obtain⟨v,w',ω',ob',g1,g2,h3,h4,h5⟩:=app_any (P:=P) (ty:=ty) (c:=c) S hB hu hE hd hl hnews ha hpl hle
 have hobk:∀ b,ω b=some k→some b≠ob:=fun b hb e=>by
   rw[←e]at hd
   obtain⟨_,_,L,_,q1,q2,_⟩:=hd
   rw[hb]at q2;simp only[Option.some.injEq]at q2;omega
 have hkk:∀ b,ω b=some k→settle n d ω' b=some k∧rows w' b=rows w b:=fun b hb=>by
   obtain⟨q1,q2⟩:=h5 b (hobk b hb) (S.dis b k hb).2.1
   refine⟨?_,q2⟩
   simp only[settle,q1,hb]
   rw[if_neg (by omega)]
 refine⟨v,w',_,g1,put_ok g2 hdn fun hst=>?_⟩
 refine⟨⟨hk,(hst.old k).g_le,fun hgk=>?_⟩,fun hcur=>?_⟩
 · rcases hst.old k with o | ⟨_,o⟩ | o
   · omega
   · omega
   · exact Nat.le_of_eq (congrArg Ent.ver o)
 · have hsame:=(hst.old k).same (Nat.le_refl _) (fun _=>Nat.le_refl _) hcur.1 hcur.2
   have hvk:vl (tmps.setIfInBounds d v) k=vl tmps k:=hst.ptr k (by rw[←hsame])
   rw[hvk,←hsame]
   refine⟨pc,a0,len,cap0,olds,news,hp.move hkk,hpc,h1,h2,holds,by rw[hl,hsz],?_,?_⟩
   · rcases hsrc with q | ⟨b,row,q1,q2,q3,q4,q5⟩
     · exact .inl q
     · exact .inr ⟨b,row,q1,(hkk b q2).1,by rw[(hkk b q2).2];exact q3,q4,q5⟩
   · cases ob' with
     | none=>
       obtain⟨a1,rfl,q2,q3⟩:=h3
       exact .inl ⟨a1,rfl,q2⟩
     | some b'=>
       obtain⟨cap,spare,L,rfl,q2,q3,q4,q5,q6,q7,q8⟩:=h3
       exact .inr ⟨b',cap,spare,rfl,q7,q8,q4,by rw[q6,hsz],settle_lim q3 q2⟩
theorem GroupsO.splitAt {α:Type}{p:List Value→α→List Nat→Prop}{sz:Nat}:∀ (xs:List α) (vs:List Value) (bs:List Nat) (i:Nat),GroupsO p sz vs xs bs→
   ∃ b1 b2,bs=b1++b2∧GroupsO p sz (vs.take (i*sz)) (xs.take i) b1∧GroupsO p sz (vs.drop (i*sz)) (xs.drop i) b2
 | [],vs,bs,i,h=>⟨[],bs,rfl,by simp[GroupsO],by rw[List.drop_nil];exact h⟩
 | x::xs,vs,bs,0,h=>⟨[],bs,rfl,rfl,by simpa using h⟩
 | x::xs,vs,bs,i+1,⟨v1,v2,b1,b2,h1,h2,h3,h4,h5⟩=>by
   obtain⟨c1,c2,g1,g2,g3⟩:=GroupsO.splitAt xs v2 b2 i h5
   subst h1
   have e1:(v1++v2).take ((i+1)*sz)=v1++v2.take (i*sz):=by
     rw[Nat.add_mul,Nat.one_mul,Nat.add_comm,←h2,List.take_append,List.take_of_length_le (by omega)]
     congr 1;congr 1;omega
   have e2:(v1++v2).drop ((i+1)*sz)=v2.drop (i*sz):=by
     rw[Nat.add_mul,Nat.one_mul,Nat.add_comm,←h2,List.drop_append,List.drop_eq_nil_of_le (by omega),List.nil_append]
     congr 1;omega
   refine⟨b1++c1,c2,by rw[h3,g1,List.append_assoc],?_,?_⟩
   · rw[e1];exact⟨v1,_,b1,c1,rfl,h2,rfl,h4,g2⟩
   · rw[e2];exact g3
theorem cont_enc (S:St0 n B X w0 M0 M ω ρ tmps w){k:Nat}(hk:k<n){s:Sh}{x:El s.ty}(he:(ρ.get k).a=.c (.ref s) x∨((ρ.get k).a=.c s x∧∀ s' (x':El s'.ty),(ρ.get k).a≠.c (.ref s') x'))
   {pc:List Value} (hp:Place ω w k (ρ.get k).a (vl tmps k) pc):∃ bs,EncO M (rows w) s pc x bs∧bs.Nodup∧∀ b∈bs,ω b=some k:=by
 have hs:=S.slots k hk
 rcases he with he | ⟨he,hn⟩
 · rw[he]at hs hp
   obtain⟨cs,bs,h1,⟨b,row,bss,h2,h3,h4,h5⟩,h6,h7⟩:=hs
   obtain⟨b',g1,g2,g3⟩:=hp
   have e1:cs=[vl tmps k]:=h1
   rw[e1,g1]at h3
   simp only[List.cons.injEq,Value.pointer.injEq,Option.some.injEq,Addr.mk.injEq,and_true]at h3
   subst h3
   rw[h4]at g3
   simp only[Option.some.injEq]at g3
   subst g3;subst h2
   exact⟨bss,h5,(List.nodup_cons.1 h6).2,fun i hi=>h7 i (by simp[hi])⟩
 · have hnr:∀ s',s≠.ref s':=fun s' e=>by subst e;exact hn _ _ he
   rw[he]at hs hp
   obtain⟨cs,bs,h1,h2,h3,h4⟩:=hs
   have hp':ValC s.ag (vl tmps k) pc:=by cases s<;>first | exact hp | exact(hnr _ rfl).elim
   have:=ValC.fun_ h1 hp'
   subst this
   exact⟨bs,h2,h3,h4⟩
theorem dst_none (hsz:∀ e:Sh,e.noref=true→e.ty=E→e.size=E.size){R:Type}{s:Sh}{x:El s.ty}{k:Option R}{r:R}(h:noneK s x k=some r)(hty:s.ty=.slice E)(hno:s.noref=true)
   {Rw:RowFn} (hRw:Rw=rows w) {v:Value} {cs:List Value} {bs:List Nat} (hv:ValC s.ag v cs) (he:EncO M Rw s cs x bs) {L:Nat} (hL:n≤L) (hb:∀ b∈bs,ω b=some L):
   k=some r∧∃ ob,DstR n ω w v E.size 0 [] ob∧∀ b,ob=some b→ω b=some L:=by
 subst hRw
 cases s with
 | nil e=>
   obtain⟨q1,⟨a,q2,q3⟩,q4⟩:=he
   have:cs=[v]:=hv
   rw[this]at q2
   simp only[List.cons.injEq,and_true]at q2
   exact⟨h,none,⟨a,q2,rfl,rfl⟩,fun b e=>by cases e⟩
 | own e=>
   have hcs:cs=[v]:=hv
   have hes:e.size=E.size:=hsz e (by simpa [Sh.noref] using hno) (by simpa using hty)
   rcases he with⟨q1,⟨a,q2,q3⟩,q4⟩ | ⟨b,cap,row,bss,q1,q2,q3,q4,q5,q6,q7⟩
   · rw[hcs]at q2
     simp only[List.cons.injEq,and_true]at q2
     have q4':x=([]:List (El e.ty)):=q4
     subst q4'
     exact⟨h,none,⟨a,q2,rfl,rfl⟩,fun b e=>by cases e⟩
   · rw[hcs]at q2
     simp only[List.cons.injEq,and_true]at q2
     have hx:x=([]:List (El e.ty))∧k=some r:=by
       cases x with
       | nil=>exact⟨rfl,h⟩
       | cons y ys=>cases h
     obtain⟨hx,hk⟩:=hx
     subst hx
     exact⟨hk,some b,⟨cap,row,L,q2,hL,hb b (by rw[q1];simp),by simpa using q5,by simp,by rw[List.nil_append,q6,hes],q3,q4⟩,fun b' e=>by cases e;exact hb b (by rw[q1];simp)⟩
 | _=>cases h
theorem exAppA_ok (hE0:∀ e:Sh,e.noref=true→e.ty=E→e.size=E.size)(S:St0 n B X w0 M0 M ω ρ tmps w)(hB:B≤w0.heap.size){gd:Gd}(hg:GuardOk ρ (vl tmps) gd){t te:TypeId}(hu:P.underlying t=some (.slice te))(hTe:TyR P te E)
   {d:Nat} (hd:d<n) {oa ob:Operand} {ws:List Wr} {cs:List Prop}
   (h:exAppA E d gd ρ oa ob=some (ws,cs)) (hcs:∀ p∈cs,p) (df:List Deferred) (ty:TypeId):
   Res n B X w0 M0 ρ tmps d ws ((Builtin.append_ #[t,t] ty #[Act.eval ⟨tmps,df⟩ oa,Act.eval ⟨tmps,df⟩ ob]).run P w):=by
 unfold exAppA at h
 obtain⟨s,x,ws1,h1,M1,ω1,S1,m1,t1⟩:=tkOwn_ok S (n+1) h (opd_rel S hg oa df)
 split at h1
 · rename_i hc
   obtain⟨cs1,bs1,a1,a2,a3,a4⟩:=t1.enc
   obtain⟨h2,o1,dst,hob⟩:=dst_none (n:=n) (ω:=ω1) (w:=w) hE0 h1 hc.1 hc.2 rfl a1 a2 (L:=n+1) (Nat.le_succ _) a4
   have hq:=opd_rel S1 (guard_next hg ws1) ob df
   split at h2
   · rename_i k g ver e' ys off hb
     split at h2
     · rename_i hcur
       obtain⟨c1,c2,c3⟩:=hcur
       have c3:=c3.symm
       subst c3
       have hr:=hq.rel (by rw[hb];intro _ _ _ _ _ e;cases e)
       rw[hb]at hr
       obtain⟨hver,hcl⟩:=hr
       obtain⟨cs2,k1,k2,k3,_⟩:=hcl ⟨c1,c2⟩
       obtain⟨pc,k4,k5⟩:=k3 off rfl
       simp only[Bx.isT,Bool.false_eq_true,if_false]at k5
       obtain⟨a,len,cap,n',k6,k7,k8⟩:=k5
       have e1:cs2=[Act.eval ⟨tmps,df⟩ ob]:=k1
       obtain⟨a',cap',g2,g3,g4,g5⟩:=id k2
       rw[k7]at g2
       simp only[List.cons.injEq,Value.slice.injEq,and_true]at g2
       obtain⟨rfl,rfl,rfl⟩:=g2
       rw[k7]at e1
       simp only[List.cons.injEq,and_true]at e1
       obtain⟨s0,x0,h3,hA⟩:=contK_inv h2
       obtain⟨bsk,q1,q2,q3⟩:=cont_enc S1 hver.1 hA k4
       obtain⟨s1,zs,s2,x2,h4,h5,_,h6⟩:=Sh.cutK_ok s0 x0 off _ _ _ h3
       split at h4
       · rename_i e zs'
         split at h4
         · rename_i he
           obtain⟨he1,he2⟩:=he
           simp only[Option.some.injEq,Prod.mk.injEq]at h4
           obtain⟨rfl,rfl⟩:=h4
           obtain⟨b1,b2,b3,r1,r2,_⟩:=h6 _ _ _ _ q1
           have hesz:=hE0 e he1 he2
           have hpc:(pc.drop off).take 1=[.slice a len cap]:=by
             rw[List.take_one]
             simp[k6]
           have r2':EncO M1 (rows w) (.own e) ((pc.drop off).take 1) zs' b2:=r2
           rw[hpc]at r2'
           have hle:ys.length≤maxApp:=hcs _ (by simp)
           -- the cells that are lent
           have lent:∃ news:List Value,news.length=ys.length*E.size∧Plain news∧(∀ ad,a=some ad→(ad.spot=none∨ys.length=0)∧CellsAt (full w) ad.block ad.off news)∧(a=none→ys.length=0)∧
               (ys.length=0∨∃ pc b len cap row,Place ω1 w k ((ρ.puts ws1).get k).a (vl tmps k) pc∧pc[off]?=some (.slice (some ⟨b,0,none⟩) len cap)∧ys.length≤len∧ω1 b=some k∧rows w b=some row∧news=row.take (ys.length*e.size)):=by
             rcases r2' with⟨_,⟨a0,u1,_⟩,u2⟩ | ⟨b,cap2,row,bss,u1,u2,u3,u4,u5,u6,u7⟩
             · simp only[List.cons.injEq,Value.slice.injEq,and_true]at u1
               obtain⟨rfl,rfl,rfl⟩:=u1
               have hy:ys.length=0:=by omega
               exact⟨[],by simp[hy],fun c hc=>by simp at hc,fun ad _=>⟨.inr hy,fun j c hj=>by simp at hj⟩,fun _=>hy,.inl hy⟩
             · simp only[List.cons.injEq,Value.slice.injEq,and_true]at u2
               obtain⟨rfl,rfl,rfl⟩:=u2
               obtain⟨d1,d2,v1,v2,v3⟩:=GroupsO.splitAt zs' row bss ys.length u7
               have hll:(row.take (ys.length*e.size)).length=ys.length*e.size:=by
                 rw[List.length_take,u6]
                 exact Nat.min_eq_left (Nat.mul_le_mul_right _ (by omega))
               have hz:(zs'.take ys.length).length=ys.length:=by rw[List.length_take];omega
               refine⟨row.take (ys.length*e.size),by rw[hll,hesz],groupsO_plain he1 _ _ d1 (by rw[hll,hz]) v2,fun ad had=>?_,fun hn=>by(cases hn),.inr ⟨pc,b,_,cap,row,k4,k6,k8,q3 b (by rw[r1,u1];simp),u5,rfl⟩⟩
               simp only[Option.some.injEq]at had
               subst had
               refine⟨.inl rfl,fun j c hj=>rows_full u5 j c ?_⟩
               rw[List.getElem?_take]at hj
               split at hj
               · exact hj
               · cases hj
           obtain⟨news,l1,l2,l3,l4,l5⟩:=lent
           obtain⟨v,w',ω',f1,f2⟩:=fin_br (P:=P) (ty:=ty) (c:=cap) S1 hB hd hu hTe dst l1 l3 l4 l2 (by omega) (s:=e) (ys:=[]) (bs:=[]) (lent:=news) (more:=[]) (n1:=ys.length) (k:=k) (off:=off) hver.1 hesz (by simp) (by simp) (by rw[hesz];exact l1) (by simp) l5 rfl List.nodup_nil (by simp) (by simp)
           refine⟨v,w',M1,ω',?_,?_⟩
           · rw[←e1];exact f1
           · rw[Env.puts_append]
             rw[c1,c2]at f2
             exact f2
         · cases h4
       · cases h4
     · cases h2
   · cases h2
 · cases h1
theorem DstR.mono {ω':Own}{v:Value}{sz nn:Nat}{olds:List Value}{ob:Option Nat}(h:DstR n ω w v sz nn olds ob)(hb:∀ b L,ob=some b→n≤L→ω b=some L→ω' b=some L):DstR n ω' w v sz nn olds ob:=by
 cases ob with
 | none=>exact h
 | some b=>
   obtain⟨cap,spare,L,h1,h2,h3,h4⟩:=h
   exact⟨cap,spare,L,h1,h2,hb b L rfl h2 h3,h4⟩
theorem tail_src2 {e:Sh}(he:e.noref=true){a2:Option Addr}{len2 cap2 n1 lo:Nat}{zs:List (El e.ty)}{bsA:List Nat}(h:EncO M (rows w) (.own e) [.slice a2 len2 cap2] zs bsA)(hnd:bsA.Nodup)(hlo:lo≤len2)(hn1:n1≤lo):
   len2=zs.length∧∃ row c1 c4 news,GroupsO (EncO M (rows w) e) e.size (row.take (n1*e.size)) (zs.take n1) c1∧(row.take (n1*e.size)).length=n1*e.size∧GroupsO (EncO M (rows w) e) e.size news (zs.drop lo) c4∧
     news.length=(len2-lo)*e.size∧Plain news∧(c1++c4).Nodup∧(∀ i∈c1++c4,i∈bsA)∧
     (∀ ad,(if cap2=lo then a2 else a2.map (·.add (lo*e.size)))=some ad→(ad.spot=none∨len2-lo=0)∧CellsAt (full w) ad.block ad.off news)∧
     ((if cap2=lo then a2 else a2.map (·.add (lo*e.size)))=none→len2-lo=0)∧
     ((len2=0∧cap2=0∧row=[])∨∃ b,a2=some ⟨b,0,none⟩∧rows w b=some row∧row.length=cap2*e.size∧b∈bsA∧b∉c1++c4∧len2≤cap2∧cap2≤bigLen∧news=(row.drop (lo*e.size)).take ((len2-lo)*e.size)):=by
 rcases h with⟨u0,⟨a0,u1,_⟩,u2⟩ | ⟨b,cap,row,bss,u1,u2,u3,u4,u5,u6,u7⟩
 · simp only[List.cons.injEq,Value.slice.injEq,and_true]at u1
   obtain⟨rfl,rfl,rfl⟩:=u1
   have u2':zs=[]:=u2
   subst u2'
   have h0:lo=0:=by omega
   subst h0
   have h1:n1=0:=by omega
   subst h1
   exact⟨rfl,[],[],[],[],by simp[GroupsO],by simp,by simp[GroupsO],by simp,fun c hc=>by simp at hc,by simp,by simp,fun ad _=>⟨.inr rfl,fun j c hj=>by simp at hj⟩,fun _=>rfl,.inl ⟨rfl,rfl,rfl⟩⟩
 · simp only[List.cons.injEq,Value.slice.injEq,and_true]at u2
   obtain⟨rfl,rfl,rfl⟩:=u2
   have hrl:zs.length*e.size≤row.length:=by rw[u6];exact Nat.mul_le_mul_right _ u3
   obtain⟨d1,d2,v1,v2,v3⟩:=GroupsO.splitAt zs row bss n1 u7
   obtain⟨f1,f2,x1,x2,x3⟩:=GroupsO.splitAt (zs.drop n1) _ d2 (lo - n1) v3
   rw[List.drop_drop,List.drop_drop,←Nat.add_mul,Nat.add_sub_cancel' hn1]at x3
   obtain⟨y1,y2⟩:=GroupsO.cut _ _ _ x3
   have hdl:(zs.drop lo).length=zs.length-lo:=List.length_drop
   have hnl:((row.drop (lo*e.size)).take ((zs.drop lo).length*e.size)).length=(zs.length-lo)*e.size:=by
     rw[List.length_take,hdl]
     rw[hdl]at y1
     exact Nat.min_eq_left y1
   have hnd':(d1++(f1++f2)).Nodup:=by rw[←x1,←v1];exact(List.nodup_cons.1 (by rw[←u1];exact hnd)).2
   have hbn:b∉bss:=(List.nodup_cons.1 (by rw[←u1];exact hnd)).1
   have hsub:∀ i∈d1++f2,i∈bss:=fun i hi=>by
     rw[v1,x1]
     simp only[List.mem_append]at hi ⊢
     rcases hi with hi | hi<;>simp[hi]
   refine⟨rfl,row,d1,f2,_,v2,?_,y2,hnl,groupsO_plain he _ _ f2 (by rw[hnl,hdl]) y2,?_,fun i hi=>by rw[u1];simp[hsub i hi],fun ad had=>?_,fun hn=>?_,.inr ⟨b,rfl,u5,u6,by rw[u1];simp,fun hi=>hbn (hsub b hi),u3,u4,by rw[hdl]⟩⟩
   · rw[List.length_take]
     refine Nat.min_eq_left (Nat.le_trans (Nat.mul_le_mul_right _ ?_) hrl)
     omega
   · rw[List.nodup_append]at hnd' ⊢
     obtain⟨n1,n2,n3⟩:=hnd'
     rw[List.nodup_append]at n2
     exact⟨n1,n2.2.1,fun a ha c hc=>n3 a ha c (by simp[hc])⟩
   · split at had
     · rename_i hc
       have h0:zs.length-lo=0:=by omega
       refine⟨.inr h0,fun j c hj=>?_⟩
       have h9:=(List.getElem?_eq_some_iff.1 hj).1
       rw[hnl,h0,Nat.zero_mul]at h9
       omega
     · simp only[Option.map_some,addr_add,Option.some.injEq]at had
       subst had
       refine⟨.inl rfl,fun j c hj=>?_⟩
       rw[List.getElem?_take]at hj
       split at hj
       · rw[List.getElem?_drop]at hj
         have:=rows_full u5 _ _ hj
         simpa [Nat.add_assoc] using this
       · cases hj
   · split at hn
     · cases hn
     · simp at hn
theorem tail_src {e:Sh}(he:e.noref=true){a2:Option Addr}{len2 cap2 n1 lo:Nat}{zs:List (El e.ty)}{bsA:List Nat}(h:EncO M (rows w) (.own e) [.slice a2 len2 cap2] zs bsA)(hnd:bsA.Nodup)(hlo:lo≤len2)(hn1:n1≤lo):
   len2=zs.length∧∃ row c1 c4 news,GroupsO (EncO M (rows w) e) e.size (row.take (n1*e.size)) (zs.take n1) c1∧(row.take (n1*e.size)).length=n1*e.size∧GroupsO (EncO M (rows w) e) e.size news (zs.drop lo) c4∧
     news.length=(len2-lo)*e.size∧Plain news∧(c1++c4).Nodup∧(∀ i∈c1++c4,i∈bsA)∧
     (∀ ad,(if cap2=lo then a2 else a2.map (·.add (lo*e.size)))=some ad→(ad.spot=none∨len2-lo=0)∧CellsAt (full w) ad.block ad.off news)∧
     ((if cap2=lo then a2 else a2.map (·.add (lo*e.size)))=none→len2-lo=0)∧
     ((len2=0∧cap2=0∧row=[])∨∃ b,a2=some ⟨b,0,none⟩∧rows w b=some row∧row.length=cap2*e.size∧b∈bsA∧b∉c1++c4∧len2≤cap2∧cap2≤bigLen):=by
 obtain⟨h0,row,c1,c4,news,h1,h2,h3,h4,h5,h6,h7,h8,h9,h10⟩:=tail_src2 he h hnd hlo hn1
 refine⟨h0,row,c1,c4,news,h1,h2,h3,h4,h5,h6,h7,h8,h9,?_⟩
 rcases h10 with h10 | ⟨b,q1,q2,q3,q4,q5,q6,q7,_⟩
 · exact .inl h10
 · exact .inr ⟨b,q1,q2,q3,q4,q5,q6,q7⟩
theorem exAppD_ok (hE0:∀ e:Sh,e.noref=true→e.ty=E→e.size=E.size)(S:St0 n B X w0 M0 M ω ρ tmps w)(hB:B≤w0.heap.size){gd:Gd}(hg:GuardOk ρ (vl tmps) gd){t te:TypeId}(hu:P.underlying t=some (.slice te))(hTe:TyR P te E)
   {d:Nat} (hd:d<n) {oa ob:Operand} {ws:List Wr} {cs:List Prop}
   (h:exAppD E d gd ρ oa ob=some (ws,cs)) (hcs:∀ p∈cs,p) (df:List Deferred) (ty:TypeId):
   Res n B X w0 M0 ρ tmps d ws ((Builtin.append_ #[t,t] ty #[Act.eval ⟨tmps,df⟩ oa,Act.eval ⟨tmps,df⟩ ob]).run P w):=by
 unfold exAppD at h
 split at h
 · rename_i k g ver e1 xs off k2 g2 ver2 e2 _ off2 lo ha hb
   split at h
   · rename_i hc
     obtain⟨rfl,rfl,c3,c4,c1,c2,rfl,rfl⟩:=hc
     have c3:=c3.symm
     subst c3
     have c4:=c4.symm
     subst c4
     have hqa:=opd_rel S hg oa df
     have hqb:=opd_rel S hg ob df
     have hra:=hqa.rel (by rw[ha];intro _ _ _ _ _ e;cases e)
     have hrb:=hqb.rel (by rw[hb];intro _ _ _ _ _ e;cases e)
     rw[ha]at hra
     rw[hb]at hrb
     obtain⟨hver,hcla⟩:=hra
     obtain⟨_,hclb⟩:=hrb
     obtain⟨csa,a1,a2,a3,_⟩:=hcla ⟨c1,c2⟩
     obtain⟨csb,b1,_,_,_,b2⟩:=hclb ⟨c1,c2⟩
     obtain⟨pc,ab,lenb,capb,p1,p2,p3,p4⟩:=b2
     obtain⟨pc',q1,q2⟩:=a3 off2 rfl
     have hpc:=Place.fun_ p1 q1
     subst hpc
     simp only[Bx.isT,Bool.false_eq_true,if_false]at q2
     obtain⟨a',len',cap',n',q3,q4,q5⟩:=q2
     rw[p2]at q3
     simp only[Option.some.injEq,Value.slice.injEq]at q3
     obtain⟨rfl,rfl,rfl⟩:=q3
     obtain⟨a'',cap'',g2,g3,g4,g5⟩:=id a2
     rw[q4]at g2
     simp only[List.cons.injEq,Value.slice.injEq,and_true]at g2
     obtain⟨rfl,rfl,rfl⟩:=g2
     have ea:csa=[Act.eval ⟨tmps,df⟩ oa]:=a1
     rw[q4]at ea
     simp only[List.cons.injEq,and_true]at ea
     have eb:csb=[Act.eval ⟨tmps,df⟩ ob]:=b1
     rw[p4]at eb
     simp only[List.cons.injEq,and_true]at eb
     have hpc:(pc.drop off2).take 1=[.slice ab lenb capb]:=by rw[List.take_one];simp[p2]
     obtain⟨s1,zs,ws1,h1,M1,ω1,S1,m1,t1⟩:=tkCut_ok S n (v:=.slice ab lenb capb) hver.1 h p1 (by show _=_;rw[show (Ty.slice E).size=1 from rfl,hpc])
     obtain⟨cs3,bsA,u1,u2,u3,u4⟩:=t1.enc
     split at h1
     · rename_i e zs'
       split at h1
       · rename_i he
         obtain⟨he1,he2⟩:=he
         simp only[Option.some.injEq,Prod.mk.injEq]at h1
         obtain⟨rfl,rfl⟩:=h1
         have hn1:xs.length≤lo:=hcs _ (by simp)
         have hmx:xs.length+(zs'.length-lo)≤maxApp:=hcs _ (by simp)
         have u1':cs3=[.slice ab lenb capb]:=u1
         subst u1'
         have hesz:=hE0 e he1 he2
         obtain⟨hl0,row,d1,d4,news,r1,r2,r3,r4,r5,r6,r7,r8,r9,r10⟩:=tail_src he1 u2 u3 p3 hn1
         have hdst:∃ ob,DstR n ω1 w (.slice ab xs.length capb) E.size xs.length (row.take (xs.length*e.size)) ob∧∀ b∈d1++d4,some b≠ob:=by
           rcases r10 with⟨z1,z2,z3⟩ | ⟨b,z1,z2,z3,z4,z5,z6,z7⟩
           · have hx:xs.length=0:=by omega
             exact⟨none,⟨ab,by rw[hx,z2],hx,by rw[z3];simp⟩,fun _ _=>by simp⟩
           · subst z1
             refine⟨some b,⟨capb,row.drop (xs.length*e.size),n,rfl,Nat.le_refl _,u4 b z4,by rw[List.take_append_drop];exact z2,by rw[r2,hesz],by rw[List.take_append_drop,z3,hesz],by omega,z7⟩,fun i hi e=>?_⟩
             simp only[Option.some.injEq]at e
             subst e;exact z5 hi
         obtain⟨ob',dst,hob⟩:=hdst
         have hadd:∀ (x:Nat),(if capb=lo then ab else ab.map (·.add (lo*(Ty.slice E).esz)))=(if capb=lo then ab else ab.map (·.add (lo*e.size))):=fun _=>by rw[hesz];rfl
         rw[hadd 0]at eb
         obtain⟨v,w',ω',f1,f2⟩:=fin_row (P:=P) (ty:=ty) (c:=capb - lo) S1 hB hd hu hTe dst (by rw[r4,hesz]) r8 r9 r5 (by omega) (e:=e) hesz (zs:=zs'.take xs.length++zs'.drop lo) (by simp;omega) (bs:=d1++d4)
           (GroupsO.append _ _ _ _ _ _ (by rw[r2,List.length_take];congr 1;omega) r1 r3) r6 (fun b hb=>⟨n,Nat.le_refl _,u4 b (r7 b hb)⟩) hob
         refine⟨v,w',M1,ω',?_,?_⟩
         · rw[←ea,←eb];exact f1
         · rw[Env.puts_append];exact f2
       · cases h1
     · cases h1
   · cases h
 · cases h
theorem castSh_rfl {a:Sh}{R:Type}(h:a=a)(k:List (El a.ty)→R)(x:List (El a.ty)):castSh h k x=k x:=rfl
theorem exAppB_ok (hE0:∀ e:Sh,e.noref=true→e.ty=E→e.size=E.size)(S:St0 n B X w0 M0 M ω ρ tmps w)(hB:B≤w0.heap.size){gd:Gd}(hg:GuardOk ρ (vl tmps) gd){t te:TypeId}(hu:P.underlying t=some (.slice te))(hTe:TyR P te E)
   {d:Nat} (hd:d<n) {oa ob:Operand} {ws:List Wr} {cs:List Prop}
   (h:exAppB E d gd ρ oa ob=some (ws,cs)) (hcs:∀ p∈cs,p) (df:List Deferred) (ty:TypeId):
   Res n B X w0 M0 ρ tmps d ws ((Builtin.append_ #[t,t] ty #[Act.eval ⟨tmps,df⟩ oa,Act.eval ⟨tmps,df⟩ ob]).run P w):=by
 unfold exAppB at h
 split at h
 · rename_i k g ver off n1 s ys j ha hj
   have hqa:=opd_rel S hg oa df
   have hra:=hqa.rel (by rw[ha];intro _ _ _ _ _ e;cases e)
   rw[ha,hj]at hra
   obtain⟨hver,hcl⟩:=hra
   simp only[Option.getD_some]at hcl
   split at h
   · rename_i hc
     obtain⟨c1,c2,c3,c4⟩:=hc
     have hssz:=hE0 s c4 c3
     obtain⟨lent,news,bs,b1,b2,b3,b4,b5⟩:=hcl ⟨c1,c2⟩
     obtain⟨e1,e2,e3⟩:=hqa.slot j hj
     have hjn:=e3 (by rw[ha];simp)
     obtain⟨S1,m1⟩:=move_ok S (L:=n+1) hjn
     have hωj:∀ b,ω b=some j→(fun b=>if ω b=some j then some (n+1)else ω b) b=some (n+1):=fun b hb=>if_pos hb
     -- the row that is there
     have hdst:∃ ob',DstR n (fun b=>if ω b=some j then some (n+1)else ω b) w (Act.eval ⟨tmps,df⟩ oa) E.size (n1+ys.length) (lent++news) ob'∧(∀ b,ob'=some b→(fun b=>if ω b=some j then some (n+1)else ω b) b=some (n+1))∧
         bs.Nodup∧(∀ c∈bs,(fun b=>if ω b=some j then some (n+1)else ω b) c=some (n+1))∧∀ b∈bs,some b≠ob':=by
       rcases b5 with⟨a,q1,q2,q3,q4⟩ | ⟨d0,cap,spare,q1,q2,q3,q4,q5,q6,q7⟩
       · subst q3;subst q2;subst q4
         have h1:lent=[]:=List.length_eq_zero_iff.1 (by rw[b1,Nat.zero_mul])
         have h2:news=[]:=List.length_eq_zero_iff.1 (by rw[b2];simp)
         exact⟨none,⟨a,by simpa using q1,rfl,by rw[h1,h2];rfl⟩,by simp,List.nodup_nil,by simp,by simp⟩
       · obtain⟨r1,r2⟩:=List.nodup_cons.1 q6
         refine⟨some d0,⟨cap,spare,n+1,q1,by omega,hωj d0 (q7 d0 (by simp)),q4,by rw[List.length_append,b1,b2,hssz,←Nat.add_mul],by rw[q5,hssz],q2,q3⟩,fun b e=>by cases e;exact hωj d0 (q7 d0 (by simp)),r2,fun c hc=>hωj c (q7 c (by simp[hc])),fun b hb e=>?_⟩
         simp only[Option.some.injEq]at e
         subst e;exact r1 hb
     obtain⟨ob',dst,hob1,hbn,hbl,hob2⟩:=hdst
     have hqb:=opd_rel S1 (guard_next hg [w1 j .junk]) ob df
     split at h
     · rename_i k2 g2 ver2 e' y2 off2 lo hb
       split at h
       · rename_i hc
         obtain⟨rfl,rfl,c5,d1,d2,rfl,rfl⟩:=hc
         have c5:=c5.symm
         subst c5
         have hrb:=hqb.rel (by rw[hb];intro _ _ _ _ _ e;cases e)
         rw[hb]at hrb
         obtain⟨_,hclb⟩:=hrb
         obtain⟨csb,p0,_,_,_,p5⟩:=hclb ⟨d1,d2⟩
         obtain⟨pc,ab,lenb,capb,p1,p2,p3,p4⟩:=p5
         have eb:csb=[Act.eval ⟨tmps,df⟩ ob]:=p0
         rw[p4]at eb
         simp only[List.cons.injEq,and_true]at eb
         have hsame:ρ.get k2=(ρ.puts [w1 j .junk]).get k2:=(Older.puts [w1 j .junk] ρ k2).same hver.2.1 hver.2.2 d1 d2
         have hpc:(pc.drop off2).take 1=[.slice ab lenb capb]:=by rw[List.take_one];simp[p2]
         obtain⟨s1,zs,ws1,h1,M2,ω2,S2,m2,t2⟩:=tkCut_ok S1 n (v:=.slice ab lenb capb) hver.1 h p1 (by show _=_;rw[show (Ty.slice E).size=1 from rfl,hpc])
         obtain⟨cs3,bsA,u1,u2,u3,u4⟩:=t2.enc
         split at h1
         · rename_i e zs'
           split at h1
           · rename_i he
             subst he
             rw[castSh_rfl]at h1
             simp only[Option.some.injEq,Prod.mk.injEq]at h1
             obtain⟨rfl,rfl⟩:=h1
             have hn1:n1≤lo:=hcs _ (by simp)
             have hmx:n1+ys.length+(zs'.length-lo)≤maxApp:=hcs _ (by simp)
             have u1':cs3=[.slice ab lenb capb]:=u1
             subst u1'
             obtain⟨hl0,row,d3,d4,news2,r1,r2,r3,r4,r5,r6,r7,r8,r9,r10⟩:=tail_src c4 u2 u3 p3 hn1
             have hlent:lent=row.take (n1*s.size):=by
               rcases b3 with b3 | ⟨pc',b,len,cap,row',g1,g2,g3,g4,g5,g6⟩
               · subst b3
                 rw[Nat.zero_mul,List.take_zero]
                 exact List.length_eq_zero_iff.1 (by rw[b1,Nat.zero_mul])
               · rw[hsame]at g1
                 have:=Place.fun_ p1 g1
                 subst this
                 rw[p2]at g2
                 simp only[Option.some.injEq,Value.slice.injEq]at g2
                 obtain⟨rfl,rfl,rfl⟩:=g2
                 rcases r10 with⟨z1,z2,z3⟩ | ⟨b',z1,z2,_⟩
                 · have h0:n1=0:=by omega
                   subst h0
                   rw[Nat.zero_mul,List.take_zero]
                   exact List.length_eq_zero_iff.1 (by rw[b1,Nat.zero_mul])
                 · simp only[Option.some.injEq,Addr.mk.injEq,and_true]at z1
                   subst z1
                   rw[g5]at z2
                   simp only[Option.some.injEq]at z2
                   rw[g6,z2]
             have hlim2:∀ b,(fun b=>if ω b=some j then some (n+1)else ω b) b=some (n+1)→ω2 b=some (n+1):=fun b hb=>m2.limbo (n+1) (by omega) (by omega) b hb
             have dst2:=dst.mono (ω':=ω2) (fun b L hb _ hL=>by
               have:=hob1 b hb
               have hL:=this.symm.trans hL
               simp only[Option.some.injEq]at hL
               subst hL
               exact hlim2 b this)
             have hA:∀ i∈d3++d4,ω2 i=some n:=fun i hi=>u4 i (r7 i hi)
             have hBB:∀ i∈bs,ω2 i=some (n+1):=fun i hi=>hlim2 i (hbl i hi)
             have hAn:∀ i∈d3++d4,some i≠ob':=fun i hi e=>by
               have:=hlim2 i (hob1 i e.symm)
               rw[hA i hi]at this
               simp at this
             have hadd:(if capb=lo then ab else ab.map (·.add (lo*(Ty.slice E).esz)))=(if capb=lo then ab else ab.map (·.add (lo*s.size))):=by rw[hssz];rfl
             rw[hadd]at eb
             have hgo:GroupsO (EncO M2 (rows w) s) s.size ((lent++news)++news2) ((zs'.take n1++ys)++zs'.drop lo) ((d3++bs)++d4):=by
               have hzl:(zs'.take n1).length=n1:=by rw[List.length_take];omega
               refine GroupsO.append _ _ _ _ _ _ (by rw[List.length_append,b1,b2,List.length_append,hzl,←Nat.add_mul]) (GroupsO.append _ _ _ _ _ _ (by rw[b1,hzl]) (by rw[hlent];exact r1) ?_) r3
               exact GroupsO.imp ys news bs (fun x _ cs b _ hp=>EncO.mono m2.step.mem s cs x b (fun _ _=>rfl) hp) b4
             have hnd:((d3++bs)++d4).Nodup:=by
               rw[List.nodup_append]at r6
               obtain⟨q1,q2,q3⟩:=r6
               rw[List.nodup_append]
               refine⟨?_,q2,fun a ha c hc e=>?_⟩
               · rw[List.nodup_append]
                 refine⟨q1,hbn,fun a ha c hc e=>?_⟩
                 subst e
                 have:=hA a (by simp[ha])
                 rw[hBB a hc]at this
                 simp at this
               · subst e
                 rcases List.mem_append.1 ha with ha | ha
                 · exact q3 a ha a hc rfl
                 · have:=hA a (by simp[hc])
                   rw[hBB a ha]at this
                   simp at this
             have hmem:∀ i∈(d3++bs)++d4,i∈d3++d4∨i∈bs:=fun i hi=>by
               simp only[List.mem_append]at hi ⊢
               rcases hi with(hi | hi) | hi<;>simp[hi]
             obtain⟨v,w',ω',f1,f2⟩:=fin_row (P:=P) (ty:=ty) (c:=capb - lo) S2 hB hd hu hTe dst2 (by rw[r4,hssz]) r8 r9 r5 (by omega) (e:=s) hssz (zs:=zs'.take n1++ys++zs'.drop lo)
               (by simp only[List.length_append,List.length_take,List.length_drop];omega) (bs:=(d3++bs)++d4) hgo hnd
               (fun b hb=>by
                 rcases hmem b hb with hb | hb
                 · exact⟨n,Nat.le_refl _,hA b hb⟩
                 · exact⟨n+1,by omega,hBB b hb⟩) (fun b hb=>by
                 rcases hmem b hb with hb | hb
                 · exact hAn b hb
                 · exact hob2 b hb)
             refine⟨v,w',M2,ω',?_,?_⟩
             · rw[←eb];exact f1
             · rw[Env.puts_append,Env.puts_append];exact f2
           · cases h1
         · cases h1
       · cases h
     · obtain⟨e2',ys2,ws2,h2,M2,ω2,S2,m2,l2,o2,r2⟩:=srcK_ok S1 h hqb
       obtain⟨e4,ys2,h2,r2⟩:=upRow_src h2 r2
       split at h2
       · rename_i hc
         obtain⟨c5,d1,d2⟩:=hc
         split at h2
         · rename_i he
           subst he
           rw[castSh_rfl]at h2
           simp only[Option.some.injEq,Prod.mk.injEq]at h2
           obtain⟨rfl,rfl⟩:=h2
           have hmx:n1+ys.length+ys2.length≤maxApp:=hcs _ (by simp)
           obtain⟨a,c,news2,bs2,g1,g2,g3,g4,g5,g6,g7,g8⟩:=r2.src
           have hpl:=g8 c3 c4
           have hsame:ρ.get k=(ρ.puts [w1 j .junk]).get k:=(Older.puts [w1 j .junk] ρ k).same hver.2.1 hver.2.2 d1 d2
           have hsame2:((ρ.puts [w1 j .junk]).puts ws2).get k=(ρ.puts [w1 j .junk]).get k:=Env.puts_other ws2 _ k (noneIs_ok c5)
           have hkj:k≠j:=fun e=>by
             subst e
             have hh:(ρ.puts [w1 k .junk]).get k=⟨(ρ.get k).g+1,0,.junk⟩:=get_w1_self ρ k .junk
             rw[hh]at d1
             simp only at d1
             omega
           have hωk:∀ b,ω b=some k→ω2 b=some k:=fun b hb=>o2 k hver.1 hsame2 b (by
             show (if ω b=some j then some (n+1)else ω b)=some k
             rw[if_neg (by rw[hb];simpa using hkj)];exact hb)
           have hlim2:∀ b,(fun b=>if ω b=some j then some (n+1)else ω b) b=some (n+1)→ω2 b=some (n+1):=fun b hb=>l2 (n+1) (by omega) (by omega) b hb
           have dst2:=dst.mono (ω':=ω2) (fun b L hb _ hL=>by
             have:=hob1 b hb
             have hL:=this.symm.trans hL
             simp only[Option.some.injEq]at hL
             subst hL
             exact hlim2 b this)
           have hBB:∀ i∈bs,ω2 i=some (n+1):=fun i hi=>hlim2 i (hbl i hi)
           have hlent2:(lent++news)++news2=lent++(news++news2):=List.append_assoc _ _ _
           have hg4:((ρ.puts [w1 j .junk]).puts ws2).get k=ρ.get k:=hsame2.trans hsame.symm
           obtain⟨v,w',ω',f1,f2⟩:=fin_br (P:=P) (ty:=ty) (c:=c) S2 hB hd hu hTe dst2 (by rw[g2,hssz]) g3 g4 hpl hmx (s:=e4) (ys:=ys++ys2) (bs:=bs++bs2) (lent:=lent) (more:=news++news2) (n1:=n1) (k:=k) (off:=off) hver.1 hssz (by simp;omega) hlent2 b1
             (by rw[List.length_append,b2,g2,List.length_append,Nat.add_mul]) (by
               rcases b3 with b3 | ⟨pc',b,len,cap,row',q1,q2,q3,q4,q5,q6⟩
               · exact .inl b3
               · rw[hg4]
                 exact .inr ⟨pc',b,len,cap,row',q1.move (fun b hb=>⟨hωk b hb,rfl⟩),q2,q3,hωk b q4,q5,q6⟩)
             (GroupsO.append _ _ _ _ _ _ b2 (GroupsO.imp ys news bs (fun x _ cs b _ hp=>EncO.mono m2 e4 cs x b (fun _ _=>rfl) hp) b4) g5) (by
               rw[List.nodup_append]
               refine⟨hbn,g6,fun a ha c hc e=>?_⟩
               subst e
               have:=hBB a ha
               rw[g7 a hc]at this
               simp at this) (fun b hb=>by
               rcases List.mem_append.1 hb with hb | hb
               · exact⟨n+1,by omega,hBB b hb⟩
               · exact⟨n,Nat.le_refl _,g7 b hb⟩) (fun b hb=>by
               rcases List.mem_append.1 hb with hb | hb
               · exact hob2 b hb
               · intro e
                 have:=hlim2 b (hob1 b e.symm)
                 rw[g7 b hb]at this
                 simp at this)
           refine⟨v,w',M2,ω',?_,?_⟩
           · rw[g1];exact f1
           · rw[Env.puts_append,Env.puts_append]
             rw[hg4,c1,c2]at f2
             exact f2
         · cases h2
       · cases h2
   · cases h
 · cases h
theorem exAppZ_ok (hE0:∀ e:Sh,e.noref=true→e.ty=E→e.size=E.size)(S:St0 n B X w0 M0 M ω ρ tmps w)(hB:B≤w0.heap.size){gd:Gd}(hg:GuardOk ρ (vl tmps) gd){t te:TypeId}(hu:P.underlying t=some (.slice te))(hTe:TyR P te E)
   {d:Nat} (hd:d<n) {oa ob:Operand} {ws:List Wr} {cs:List Prop}
   (h:exAppZ E d gd ρ oa ob=some (ws,cs)) (hcs:∀ p∈cs,p) (df:List Deferred) (ty:TypeId):
   Res n B X w0 M0 ρ tmps d ws ((Builtin.append_ #[t,t] ty #[Act.eval ⟨tmps,df⟩ oa,Act.eval ⟨tmps,df⟩ ob]).run P w):=by
 unfold exAppZ at h
 split at h
 · rename_i k g ver off n1 s ys j ha hj
   cases ys with
   | cons y ys=>cases h
   | nil=>
   have hqa:=opd_rel S hg oa df
   have hra:=hqa.rel (by rw[ha];intro _ _ _ _ _ e;cases e)
   rw[ha,hj]at hra
   obtain⟨hver,hcl⟩:=hra
   simp only[Option.getD_some]at hcl
   simp only at h
   split at h
   · rename_i hc
     obtain⟨c1,c2,c3,c4⟩:=hc
     have hssz:=hE0 s c4 c3
     obtain⟨lent,news,bs,b1,b2,b3,b4,b5⟩:=hcl ⟨c1,c2⟩
     have hn0:news=[]:=List.length_eq_zero_iff.1 (by rw[b2];simp)
     subst hn0
     obtain⟨e1,e2,e3⟩:=hqa.slot j hj
     have hjn:=e3 (by rw[ha];simp)
     obtain⟨S1,m1⟩:=move_ok S (L:=n+1) hjn
     have hωj:∀ b,ω b=some j→(fun b=>if ω b=some j then some (n+1)else ω b) b=some (n+1):=fun b hb=>if_pos hb
     have hdst:∃ ob',DstR n (fun b=>if ω b=some j then some (n+1)else ω b) w (Act.eval ⟨tmps,df⟩ oa) E.size n1 lent ob':=by
       rcases b5 with⟨a,q1,q2,q3,q4⟩ | ⟨d0,cap,spare,q1,q2,q3,q4,q5,q6,q7⟩
       · subst q2
         have h1:lent=[]:=List.length_eq_zero_iff.1 (by rw[b1,Nat.zero_mul])
         exact⟨none,⟨a,q1,rfl,h1⟩⟩
       · simp only[List.length_nil,Nat.add_zero,List.append_nil]at q1 q2 q4 q5
         exact⟨some d0,⟨cap,spare,n+1,q1,by omega,hωj d0 (q7 d0 (by simp)),q4,by rw[b1,hssz],by rw[q5,hssz],q2,q3⟩⟩
     obtain⟨ob',dst⟩:=hdst
     have hqb:=opd_rel S1 (guard_next hg [w1 j .junk]) ob df
     split at h
     · rename_i k2 g2 ver2 e' y2 off2 lo hb
       split at h
       · rename_i hc
         obtain⟨rfl,rfl,c5,d1,d2,rfl,rfl⟩:=hc
         have c5:=c5.symm
         subst c5
         have hrb:=hqb.rel (by rw[hb];intro _ _ _ _ _ e;cases e)
         rw[hb]at hrb
         obtain⟨_,hclb⟩:=hrb
         obtain⟨csb,p0,_,_,_,p5⟩:=hclb ⟨d1,d2⟩
         obtain⟨pc,ab,lenb,capb,p1,p2,p3,p4⟩:=p5
         have eb:csb=[Act.eval ⟨tmps,df⟩ ob]:=p0
         rw[p4]at eb
         simp only[List.cons.injEq,and_true]at eb
         have hsame:ρ.get k2=(ρ.puts [w1 j .junk]).get k2:=(Older.puts [w1 j .junk] ρ k2).same hver.2.1 hver.2.2 d1 d2
         have hpc:(pc.drop off2).take 1=[.slice ab lenb capb]:=by rw[List.take_one];simp[p2]
         obtain⟨s0,x0,h3,hA⟩:=contK_inv h
         obtain⟨bsk,q1,q2,q3⟩:=cont_enc S1 hver.1 hA p1
         obtain⟨s1,zs,s2,x2,h4,h5,_,h6⟩:=Sh.cutK_ok s0 x0 off2 _ _ _ h3
         split at h4
         · rename_i e zs'
           split at h4
           · rename_i he
             subst he
             simp only[Option.some.injEq,Prod.mk.injEq]at h4
             obtain⟨rfl,rfl⟩:=h4
             have hn1:n1≤lo:=hcs _ (by simp)
             have hmx:n1+(zs'.length-lo)≤maxApp:=hcs _ (by simp)
             obtain⟨bb1,bb2,bb3,r1,r2,_⟩:=h6 _ _ _ _ q1
             have r2':EncO M (rows w) (.own e) ((pc.drop off2).take 1) zs' bb2:=r2
             rw[hpc]at r2'
             have hbb:bb2.Nodup:=by
               rw[r1]at q2
               rw[List.nodup_append]at q2
               have:=q2.1
               rw[List.nodup_append]at this
               exact this.2.1
             obtain⟨hl0,row,d3,d4,news2,t1,t2,t3,t4,t5,t6,t7,t8,t9,t10⟩:=tail_src2 c4 r2' hbb p3 hn1
             subst hl0
             have hadd:(if capb=lo then ab else ab.map (·.add (lo*(Ty.slice E).esz)))=(if capb=lo then ab else ab.map (·.add (lo*e.size))):=by rw[hssz];rfl
             have hsrc:zs'.length=0∨∃ b row,ab=some ⟨b,0,none⟩∧(fun b=>if ω b=some j then some (n+1)else ω b) b=some k2∧rows w b=some row∧lent=row.take (n1*e.size)∧news2=(row.drop (lo*e.size)).take ((zs'.length-lo)*e.size):=by
               rcases t10 with⟨z1,_⟩ | ⟨b,z1,z2,z3,z4,z5,z6,z7,z8⟩
               · exact .inl z1
               · refine .inr ⟨b,row,z1,q3 b (by rw[r1];simp[z4]),z2,?_,z8⟩
                 rcases b3 with b3 | ⟨pc',b',len,cap,row',g1,g2,g3,g4,g5,g6⟩
                 · subst b3
                   rw[Nat.zero_mul,List.take_zero]
                   exact List.length_eq_zero_iff.1 (by rw[b1,Nat.zero_mul])
                 · rw[hsame]at g1
                   have hkj:k2≠j:=fun e=>by
                     subst e
                     have hh:(ρ.puts [w1 k2 .junk]).get k2=⟨(ρ.get k2).g+1,0,.junk⟩:=get_w1_self ρ k2 .junk
                     rw[hh]at d1
                     simp only at d1
                     omega
                   have g1':=g1.move (ω':=fun b=>if ω b=some j then some (n+1)else ω b) (w':=w) (fun b hb=>⟨by
                     show (if ω b=some j then some (n+1)else ω b)=some k2
                     rw[if_neg (by rw[hb];simpa using hkj)];exact hb,rfl⟩)
                   have:=Place.fun_ p1 g1'
                   subst this
                   rw[p2]at g2
                   simp only[Option.some.injEq,Value.slice.injEq]at g2
                   obtain⟨rfl,rfl,rfl⟩:=g2
                   simp only[Option.some.injEq,Addr.mk.injEq,and_true]at z1
                   subst z1
                   rw[g5]at z2
                   simp only[Option.some.injEq]at z2
                   rw[g6,z2]
             obtain⟨v,w',ω',f1,f2⟩:=fin_lz (P:=P) (ty:=ty) (c:=capb - lo) S1 hB hd hu hTe (s:=e) dst (by rw[t4,hssz]) t8 t9 t5 hmx hver.1 hssz b1 p1 p2 hn1 p3 hsrc
             refine⟨v,w',M,ω',?_,?_⟩
             · rw[←eb,hadd]
               exact f1
             · rw[Env.puts_append]
               rw[d1,d2]at f2
               exact f2
           · cases h4
         · cases h4
       · cases h
     · cases h
   · cases h
 · cases h
theorem preW_inv {ws0:List Wr}{o:Out}{ws:List Wr}{cs:List Prop}(h:preW ws0 o=some (ws,cs)):∃ ws',o=some (ws',cs)∧ws=ws0++ws':=by
 unfold preW at h
 split at h
 · simp only[Option.some.injEq,Prod.mk.injEq]at h
   obtain⟨rfl,rfl⟩:=h
   exact⟨_,rfl,rfl⟩
 · cases h
theorem isRef_inv {a:A}(h:isRef a=true):∃ s x,a=.c (.ref s) x:=by
 unfold isRef at h
 split at h
 · exact⟨_,_,rfl⟩
 · cases h
theorem place_ref (S:St0 n B X w0 M0 M ω ρ tmps w){k:Nat}(hk:k<n)(hr:isRef (ρ.get k).a=true){b:Nat}(hv:vl tmps k=.pointer (some ⟨b,0,none⟩)){pc:List Value}(hb:rows w b=some pc):Place ω w k (ρ.get k).a (vl tmps k) pc:=by
 obtain⟨s,x,ha⟩:=isRef_inv hr
 have hs:=S.slots k hk
 rw[ha]at hs ⊢
 obtain⟨cs,bs,h1,⟨b',row,bss,h2,h3,h4,h5⟩,h6,h7⟩:=hs
 have e1:cs=[vl tmps k]:=h1
 rw[e1,hv]at h3
 simp only[List.cons.injEq,Value.pointer.injEq,Option.some.injEq,Addr.mk.injEq,and_true]at h3
 subst h3
 rw[hb]at h4
 simp only[Option.some.injEq]at h4
 subst h4
 exact⟨b,hv,h7 b (by rw[h2];simp),hb⟩
theorem set_self (tmps:Array Value)(j:Nat):tmps.setIfInBounds j (vl tmps j)=tmps:=by
 apply Array.ext_getElem?
 intro i
 rw[Array.getElem?_setIfInBounds]
 split
 · rename_i h
   subst h
   split
   · rename_i h
     simp[h]
   · rename_i h
     simp at h
     simp[h]
 · rfl
theorem exBuildZ2_ok (hC:CtxOk P C)(S:St0 n B X w0 M0 M ω ρ tmps w){t:TypeId}{d:Nat}(hd:d<n){ps:Array (Nat×Operand)}{ws:List Wr}{cs:List Prop}{k off2 j2:Nat}{t2:Ty}
   (h:exBuildZ2 C t d ρ ps.toList k off2 t2 j2=some (ws,cs)) (df:List Deferred) (hk:k<n) (hj:j2<n) {b:Nat} (hv:vl tmps k=.pointer (some ⟨b,0,none⟩)) {pc:List Value} (hb:rows w b=some pc)
   (h2:ValC t2.ag (vl tmps j2) ((pc.drop off2).take t2.size)):
   Res n B X w0 M0 ρ tmps d ws ((Instr.build t (ps.map fun(i,x)=>(i,Act.eval ⟨tmps,df⟩ x))).run P w):=by
 unfold exBuildZ2 at h
 split at h
 · rename_i hr
   obtain⟨s,x,ws2,h3,M2,ω2,S2,m2,u2⟩:=tkCut_ok S n hk h (place_ref S hk hr hv hb) h2
   obtain⟨ws3,h4,rfl⟩:=preW_inv h3
   obtain⟨ws4,h5,rfl⟩:=preW_inv h4
   obtain⟨cs3,bsA,u1,u2,u3,u4⟩:=u2.enc
   have S3:=put_c S2 hj (v:=vl tmps j2) u1 u2 u3 (fun b hb=>⟨n,Nat.le_refl _,u4 b hb⟩)
   rw[set_self]at S3
   obtain⟨v',w',M',ω',f1,f2⟩:=exBuild_ok hC S3 (gd:=none) (fun _ _ _ _ e=>by cases e) hd h5 df
   exact⟨v',w',M',ω',f1,by rw[Env.puts_append,Env.puts_append];exact f2⟩
 · cases h
theorem exBuildZ_ok (hC:CtxOk P C)(S:St0 n B X w0 M0 M ω ρ tmps w){t:TypeId}{d:Nat}(hd:d<n){ps:Array (Nat×Operand)}{ws:List Wr}{cs:List Prop}
   (h:exBuildZ C t d ρ ps.toList=some (ws,cs)) (df:List Deferred):
   Res n B X w0 M0 ρ tmps d ws ((Instr.build t (ps.map fun(i,x)=>(i,Act.eval ⟨tmps,df⟩ x))).run P w):=by
 unfold exBuildZ at h
 split at h
 · rename_i i1 j1 i2 j2 hps
   split at h
   · rename_i k g ver off n1 lo s k2 g2 ver2 t2 y2 off2 ha1 ha2
     split at h
     · rename_i hc
       obtain⟨c1,c2,rfl,rfl,rfl,c3,c4⟩:=hc
       have hj1:j1<n:=Nat.lt_of_not_le fun hh=>by rw[S.high j1 hh]at ha1;cases ha1
       have hj2:j2<n:=Nat.lt_of_not_le fun hh=>by rw[S.high j2 hh]at ha2;cases ha2
       obtain⟨s0,x0,hk0⟩:=isRef_inv c4
       have hkj:k2≠j1:=fun e=>by rw[e,ha1]at hk0;cases hk0
       have hs1:=S.slots j1 hj1
       rw[ha1]at hs1
       obtain⟨hver,hcl⟩:=(show Rel0 n M ω w ρ (vl tmps) j1 (vl tmps j1) (.lz k2 g2 ver2 off n1 lo s)from hs1)
       obtain⟨pc,a,len,cap,lent,tls,q1,q2,q3,q4,q5,q6,q7,q8⟩:=hcl ⟨c1,c2⟩
       have hs2:=S.slots j2 hj2
       rw[ha2]at hs2
       obtain⟨_,hcl2⟩:=(show Rel0 n M ω w ρ (vl tmps) j2 (vl tmps j2) (.bor k2 g2 ver2 t2 y2 (some off2) .t)from hs2)
       obtain⟨cs2,p1,_,p3,_⟩:=hcl2 ⟨c1,c2⟩
       obtain⟨pc',p4,p5⟩:=p3 off2 rfl
       simp only[Bx.isT,if_true]at p5
       have:=Place.fun_ q1 p4
       subst this
       subst p5
       obtain⟨bk,y1,y2',y3⟩:∃ b,vl tmps k2=.pointer (some ⟨b,0,none⟩)∧ω b=some k2∧rows w b=some pc:=by
         have q1':=q1
         rw[hk0]at q1'
         exact q1'
       obtain⟨S1,m1⟩:=move_ok S (L:=n+1) hj1
       have hωj:∀ b,ω b=some j1→(fun b=>if ω b=some j1 then some (n+1)else ω b) b=some (n+1):=fun b hb=>if_pos hb
       have hk1:(ρ.puts [w1 j1 .junk]).get k2=ρ.get k2:=Env.puts_other _ _ _ (fun w hw=>by simp only[List.mem_singleton]at hw;subst hw;exact fun e=>hkj e.symm)
       have hP1:Place (fun b=>if ω b=some j1 then some (n+1)else ω b) w k2 ((ρ.puts [w1 j1 .junk]).get k2).a (vl tmps k2) pc:=by
         rw[hk1]
         exact q1.move (fun b hb=>⟨by
           show (if ω b=some j1 then some (n+1)else ω b)=some k2
           rw[if_neg (by rw[hb];simpa using hkj)];exact hb,rfl⟩)
       have hpc:(pc.drop off).take 1=[.slice a len cap]:=by rw[List.take_one];simp[q2]
       obtain⟨s1,zs,ws1,h1,M2,ω2,S2,m2,u0⟩:=tkCut_ok S1 n (v:=.slice a len cap) hver.1 h hP1 (by show _=_;rw[show (Ty.slice s.ty).size=1 from rfl,hpc])
       obtain⟨cs3,bsA,u1,u2,u3,u4⟩:=u0.enc
       split at h1
       · rename_i e zs'
         split at h1
         · rename_i he
           subst he
           rw[castSh_rfl]at h1
           obtain⟨ws3,h3,rfl⟩:=preW_inv h1
           obtain⟨ws4,h4,rfl⟩:=preW_inv h3
           obtain⟨ws5,h5,rfl⟩:=preW_inv h4
           have u1':cs3=[.slice a len cap]:=u1
           subst u1'
           obtain⟨hl0,row,d3,d4,news2,t1,t2',t3,t4,t5,t6,t7,t8,t9,t10⟩:=tail_src2 c3 u2 u3 q4 q3
           have hcells:lent=row.take (n1*e.size)∧tls=news2:=by
             rcases q7 with q7 | ⟨b,row',g1,g2,g3,g4,g5⟩
             · have h0:n1=0:=by omega
               have h1:len-lo=0:=by omega
               refine⟨?_,?_⟩
               · rw[h0,Nat.zero_mul,List.take_zero]
                 exact List.length_eq_zero_iff.1 (by rw[q5,h0,Nat.zero_mul])
               · have e1:tls=[]:=List.length_eq_zero_iff.1 (by rw[q6,h1,Nat.zero_mul])
                 have e2:news2=[]:=List.length_eq_zero_iff.1 (by rw[t4,h1,Nat.zero_mul])
                 rw[e1,e2]
             · rcases t10 with⟨z1,z2,z3⟩ | ⟨b',z1,z2,z3,z4,z5,z6,z7,z8⟩
               · have h0:n1=0:=by omega
                 have h1:len-lo=0:=by omega
                 refine⟨?_,?_⟩
                 · rw[h0,Nat.zero_mul,List.take_zero]
                   exact List.length_eq_zero_iff.1 (by rw[q5,h0,Nat.zero_mul])
                 · have e1:tls=[]:=List.length_eq_zero_iff.1 (by rw[q6,h1,Nat.zero_mul])
                   have e2:news2=[]:=List.length_eq_zero_iff.1 (by rw[t4,h1,Nat.zero_mul])
                   rw[e1,e2]
               · rw[g1]at z1
                 simp only[Option.some.injEq,Addr.mk.injEq,and_true]at z1
                 subst z1
                 rw[g3]at z2
                 simp only[Option.some.injEq]at z2
                 subst z2
                 exact⟨g4,by rw[g5,z8]⟩
           obtain⟨hlent,htls⟩:=hcells
           subst htls
           have hzl:(zs'.take n1).length=n1:=by rw[List.length_take];omega
           have hgo:GroupsO (EncO M2 (rows w) e) e.size (lent++tls) (zs'.take n1++zs'.drop lo) (d3++d4):=
             GroupsO.append _ _ _ _ _ _ (by rw[q5,hzl]) (by rw[hlent];exact t1) t3
           have hlen:(zs'.take n1++zs'.drop lo).length=n1+(len-lo):=by rw[List.length_append,hzl,List.length_drop,hl0]
           have S3:St0 n B X w0 M0 M2 (settle n j1 ω2) (((ρ.puts [w1 j1 .junk]).puts ws1).puts [w1 j1 (.c (.own e) (zs'.take n1++zs'.drop lo))]) tmps w:=by
             rw[←set_self tmps j1]
             rcases q8 with⟨a0,z1,z2⟩ | ⟨d0,cap',spare,z1,z2,z3,z4,z5,z6⟩
             · have hz0:zs'.take n1++zs'.drop lo=[]:=List.length_eq_zero_iff.1 (by rw[hlen,z2])
               rw[hz0]
               have z1':vl tmps j1=.slice a0 0 0:=z1
               rw[z1']
               exact put_c S2 hj1 (s:=.own e) (x:=[]) (cs:=[.slice a0 0 0]) (bs:=[]) rfl (.inl ⟨rfl,⟨a0,rfl,trivial⟩,rfl⟩) List.nodup_nil (by simp)
             · have z1':vl tmps j1=.slice (some ⟨d0,0,none⟩) (n1+(len-lo)) cap':=z1
               have hd0:ω2 d0=some (n+1):=m2.limbo (n+1) (by omega) (by omega) d0 (hωj d0 z6)
               have hdn:d0∉d3++d4:=fun hm=>by
                 have:=u4 d0 (t7 d0 hm)
                 rw[hd0]at this
                 simp at this
               refine put_c S2 hj1 (v:=vl tmps j1) (s:=.own e) (x:=zs'.take n1++zs'.drop lo) (cs:=[vl tmps j1]) (bs:=d0::(d3++d4)) rfl
                 (.inr ⟨d0,cap',_,d3++d4,rfl,by rw[z1',hlen],by rw[hlen];exact z2,z3,z4,z5,GroupsO.spare _ _ _ _ hgo⟩) (List.nodup_cons.2 ⟨hdn,t6⟩) fun b hb=>?_
               rcases List.mem_cons.1 hb with rfl | hb
               · exact⟨n+1,by omega,hd0⟩
               · exact⟨n,Nat.le_refl _,u4 b (t7 b hb)⟩
           obtain⟨v',w',M',ω',f1,f2⟩:=exBuildZ2_ok hC S3 hd h5 df hver.1 hj2 y1 y3 p1
           exact⟨v',w',M',ω',f1,by rw[Env.puts_append,Env.puts_append,Env.puts_append];exact f2⟩
         · cases h1
       · cases h1
     · cases h
   · cases h
 · cases h
theorem exBuildX_ok (hC:CtxOk P C)(S:St0 n B X w0 M0 M ω ρ tmps w){gd:Gd}(hg:GuardOk ρ (vl tmps) gd){t:TypeId}{d:Nat}(hd:d<n){ps:Array (Nat×Operand)}{ws:List Wr}{cs:List Prop}
   (h:exBuildX C t d gd ρ ps.toList=some (ws,cs)) (df:List Deferred):
   Res n B X w0 M0 ρ tmps d ws ((Instr.build t (ps.map fun(i,x)=>(i,Act.eval ⟨tmps,df⟩ x))).run P w):=by
 unfold exBuildX at h
 split at h
 · split at h
   · split at h
     · rename_i r hr
       rw[h]at hr
       exact exBuildZ_ok hC S hd hr df
     · exact exBuild_ok hC S hg hd h df
   · exact exBuild_ok hC S hg hd h df
 · exact exBuild_ok hC S hg hd h df
theorem appX_ok (hC:CtxOk P C)(S:St0 n B X w0 M0 M ω ρ tmps w)(hB:B≤w0.heap.size){gd:Gd}(hg:GuardOk ρ (vl tmps) gd){t:TypeId}{d:Nat}(hd:d<n){oa ob:Operand}{ws:List Wr}{cs:List Prop}
   (h:appX C t d gd ρ oa ob=some (ws,cs)) (hcs:∀ p∈cs,p) (df:List Deferred) (ty:TypeId):
   Res n B X w0 M0 ρ tmps d ws ((Builtin.append_ #[t,t] ty #[Act.eval ⟨tmps,df⟩ oa,Act.eval ⟨tmps,df⟩ ob]).run P w):=by
 unfold appX at h
 split at h
 · rename_i E hT
   obtain⟨te,hu,hTe⟩:=(hC.ty t _ hT).under
   have hE0:∀ e:Sh,e.noref=true→e.ty=E→e.size=E.size:=fun e h1 h2=>by rw[Sh.size_ty e h1,h2]
   split at h
   · exact exAppend_ok hC S hB hg hd h hcs df ty
   · split at h
     · split at h
       · split at h
         · rename_i r hr
           rw[h]at hr
           exact exAppZ_ok hE0 S hB hg hu hTe hd hr hcs df ty
         · exact exAppB_ok hE0 S hB hg hu hTe hd h hcs df ty
       · exact exAppB_ok hE0 S hB hg hu hTe hd h hcs df ty
     · exact exAppD_ok hE0 S hB hg hu hTe hd h hcs df ty
     · split at h
       · exact exAppA_ok hE0 S hB hg hu hTe hd h hcs df ty
       · exact exAppend_ok hC S hB hg hd h hcs df ty
 · cases h
end
end Fw
namespace Fw
open Go
def exMakeFunc (d f:Nat)(o:Opd):Out:=ptrK o fun j g off e=>if e.g=g∧off=0 then some ([w1 d (.clo f j g)],[])else none
def exFieldV (C:Ctx)(t d:Nat)(a:Opd)(f:Nat):Out:=
 match C.ty t,look C.flds t with
 | some T,some l=>match l[f]? with
   | some (o,ft)=>if ft.flat=true∧ft.ag=false∧T.ag=true then rd T a fun x=>El.subK T x o ft fun y=>out1 d (.c (.pure ft) y)else none
   | none=>none
 | _,_=>none
def exCallK (C:Ctx)(d:Nat)(o:Opd)(qs:List Opd):Out:=
 match o.a with
 | .clo f k g=>if o.tgt.g=g then
     (match C.fnK f with
     | some F=>argsFK F.args qs fun xs=>
         (match o.tgt.a with
         | .c (.ref s) x=>if h:upB s F.s=true then castK (upB_ty s F.s h) (fun y=>some ([⟨k,true,.c (.ref F.s) (F.out y xs)⟩,w1 d .junk],[F.pre y xs])) x else none
         | _=>none)
     | none=>none)else none
 | _=>none
section
variable {C:Ctx} {n B:Nat} {X:List Nat} {w0:World} {M0 M:Mem} {ω:Own} {ρ:Env} {tmps:Array Value} {w:World} {P:Program}
theorem exMakeFunc_ok (S:St0 n B X w0 M0 M ω ρ tmps w){d f:Nat}(hd:d<n){q:Opd}{ws:List Wr}{cs:List Prop}(h:exMakeFunc d f q=some (ws,cs)){v:Value}(hq:OpdR n M ω w ρ (vl tmps) q v):
   Res n B X w0 M0 ρ tmps d ws ((Instr.makeFunc (.func f) #[] #[v]).run P w):=by
 unfold exMakeFunc at h
 obtain⟨j,g,off,e,h1,h2⟩:=ptrK_ok S h
 split at h1
 · rename_i hc
   obtain⟨c1,c2⟩:=hc
   simp only[Option.some.injEq,Prod.mk.injEq]at h1
   obtain⟨rfl,rfl⟩:=h1
   obtain⟨hj,he,hr,hp⟩:=h2 v hq
   obtain⟨b,k1,k2⟩:=hp c1
   subst c2
   refine⟨.func (.func f) #[] #[v],w,M,settle n d ω,rfl,put_ok S hd fun hst=>?_⟩
   show Rel0 n M (settle n d ω) w (ρ.puts [w1 d (.clo f j g)]) (vl (tmps.setIfInBounds d (.func (.func f) #[] #[v]))) d (.func (.func f) #[] #[v]) (.clo f j g)
   refine⟨⟨hr.1,Nat.le_trans hr.2 (hst.old j).g_le⟩,fun h3=>⟨b,?_,by rw[k2]⟩⟩
   have h4:(ρ.get j).g=g:=by rw[←he];exact c1
   rw[hst.ptr j (by omega)];exact k1
 · cases h1
theorem exFieldV_ok (hC:CtxOk P C)(S:St0 n B X w0 M0 M ω ρ tmps w){t:TypeId}{d f:Nat}(hd:d<n){q:Opd}{ws:List Wr}{cs:List Prop}
   (h:exFieldV C t d q f=some (ws,cs)) {v:Value} (hq:OpdR n M ω w ρ (vl tmps) q v):Res n B X w0 M0 ρ tmps d ws ((Instr.field t v f).run P w):=by
 unfold exFieldV at h
 split at h
 · rename_i T l hT hl
   split at h
   · rename_i o ft hf
     split at h
     · rename_i hc
       obtain⟨c1,c2,c3⟩:=hc
       obtain⟨x,h3,h4⟩:=rd_ok S h
       obtain⟨c,e1,g1⟩:=h4 v hq
       obtain⟨y,h5,h6⟩:=El.subK_ok T x o ft _ _ h3
       simp only[out1,Option.some.injEq,Prod.mk.injEq]at h5
       obtain⟨rfl,rfl⟩:=h5
       have hen:=h6 _ _ g1
       have hv:v=.agg c.toArray:=by rw[c3]at e1;exact e1
       subst hv
       have hsz:=Ty.size_sc ft c2
       have hlen:=Enc.length _ _ _ hen
       rw[hsz]at hen hlen
       obtain⟨u,hu⟩:∃ u,(c.drop o).take 1=[u]:=by
         match (c.drop o).take 1,hlen with
         | [u],_=>exact⟨u,rfl⟩
       rw[hu]at hen
       have hci:c[o]?=some u:=by
         have:=congrArg (fun l=>l[0]?) hu
         simpa using this
       obtain⟨fs,k1,k2⟩:=hC.flds t l hl
       obtain⟨fd,k3,k4,k5,k6⟩:=k2 f o ft hf
       refine⟨u,w,_,_,?_,put_pure S hd (t:=ft) (cs:=[u]) (by unfold ValC;rw[c2];simp) (Enc.flat ft _ _ c1 hen)⟩
       have hpart:(part fd.type c.toArray fd.offset).run P w=.ok u w:=by
         simp only[part,Sem.run_bind,run_isAgg k5,c2,Result.andThen_ok,Bool.false_eq_true,if_false]
         have:c.toArray[fd.offset]?=some u:=by rw[k4];simpa using hci
         rw[this];rfl
       simp only[Instr.field,Sem.run_bind,run_underlying' k1,Result.andThen_ok,k3,asAgg,Sem.run_pure,hpart]
     · cases h
   · cases h
 · cases h
theorem exCallK_ok (hC:CtxOk P C)(S:St0 n B X w0 M0 M ω ρ tmps w)(hB:B≤w0.heap.size){d:Nat}(hd:d<n){q:Opd}{qs:List Opd}{ws:List Wr}{cs:List Prop}
   (h:exCallK C d q qs=some (ws,cs)) (hcs:∀ p∈cs,p) {v:Value} (hq:OpdR n M ω w ρ (vl tmps) q v) {vs:List Value} (hqs:OpdsR n M ω w ρ (vl tmps) qs vs):
   ∃ f p, v = .func (.func f) #[] #[p] ∧ (∃ fn, P.funcs[f]? = some fn ∧ (fn.name == "runtime.NumGoroutine") = false ∧ fn.body.isNone = false) ∧
   Calls P f (vs++[p]).toArray w fun e w'=>∃ v M' ω',e=.returned v∧St0 n B X w0 M0 M' ω' (ρ.puts ws) (tmps.setIfInBounds d v) w':=by
 unfold exCallK at h
 split at h
 · rename_i f k g ha
   split at h
   · rename_i hg
     split at h
     · rename_i F hf
       have hF:=hC.fnK f F hf
       obtain⟨xs,h,hargs⟩:=argsFK_ok S F.args qs vs _ h hqs
       have hrel:=hq.rel (by rw[ha];intro _ _ _ _ _ e;cases e)
       have htg:=hq.tgt k (by rw[ha];rfl)
       rw[ha]at hrel
       obtain⟨⟨hkn,_⟩,hcl⟩:=hrel
       rw[htg]at hg h
       obtain⟨b,hvk,hv⟩:=hcl hg
       split at h
       · rename_i s x hA
         split at h
         · rename_i hu
           obtain⟨y,p3,p4⟩:=castK_heq (upB_ty s F.s hu) (fun y=>some ([⟨k,true,.c (.ref F.s) (F.out y xs)⟩,w1 d .junk],[F.pre y xs])) x
           rw[p3]at h
           simp only[Option.some.injEq,Prod.mk.injEq]at h
           obtain⟨rfl,rfl⟩:=h
           have hs:=S.slots k hkn
           rw[hA]at hs
           obtain⟨cs0,bs,a1,a2,a3,a4⟩:=(show Owns M ω w k (.ref s) x (vl tmps k)from hs)
           obtain⟨b1,row,bss,e1,e2,e3,e4⟩:=a2
           have hp:vl tmps k=.pointer (some ⟨b1,0,none⟩):=by
             have:cs0=[vl tmps k]:=a1
             rw[e2]at this
             simpa using this.symm
           have hbb:b1=b:=by rw[hvk]at hp;simpa using hp.symm
           subst hbb
           have hE:EncO emp (rows w) (.ref F.s) [.pointer (some ⟨b1,0,none⟩)] y bs:=⟨b1,row,bss,e1,rfl,e3,EncO.closed _ _ _ _ hF.closed (upB_enc s F.s hu x y row bss p4 e4)⟩
           refine⟨f,.pointer (some ⟨b1,0,none⟩),hv,hF.fn,?_⟩
           refine(hF.call w M _ y bs vs xs S.mem (fun b hb=>(S.dis b k (a4 b hb)).2.2) hE a3 (hargs M (Mem.le_refl _)) (hcs _ (by simp))).mono ?_
           rintro e w' ⟨r,bs',rfl,hfr,he',hn',hb'⟩
           have hsame:∀ b,b<w.heap.size→b∉bs→w'.heap[b]?=w.heap[b]?:=fun b hb hx=>hfr.block b hb hx
           have hbs':∀ b∈bs',b<w'.heap.size:=fun b hb=>by obtain⟨row,hrow⟩:=EncO.rows _ _ _ _ he' b hb;exact rows_lt hrow
           have S2:St0 n B X w0 M0 M (fun b=>if b∈bs' then some k else ω b) (ρ.puts [⟨k,true,.c (.ref F.s) (F.out y xs)⟩]) tmps w':=by
             refine S.step _ S.size ⟨hfr.os,hfr.tape,hfr.output,hfr.size,fun j hkB hx=>hsame j (Nat.lt_of_lt_of_le hkB (S.bnd hB)) (fun hm=>?_)⟩ (Mem.le_refl _) (fun _ _ _ _=>rfl) ?_ ?_ (fun _ _=>rfl) (by simpa using hkn) ?_ ?_
             · rcases (S.dis j k (a4 j hm)).1 with h | h
               · omega
               · exact hx h
             · intro b o u hM
               have hc:=S.mem b o u hM
               have hbl:=World.block_lt_of_cell? _ _ hc
               rw[cell_of_block (hsame b hbl (fun hx=>by have:=(S.dis b k (a4 b hx)).2.2 o;rw[this]at hM;cases hM))]
               exact hc
             · intro b j hbk
               by_cases hb:b∈bs'
               · by_cases hx:b∈bs
                 · obtain⟨q1,q2,q3⟩:=S.dis b k (a4 b hx)
                   exact⟨q1,hbs' b hb,q3⟩
                 · have h1:=(hb' b hb).resolve_left hx
                   refine⟨.inl (Nat.le_trans (S.bnd hB) h1),hbs' b hb,fun o=>?_⟩
                   cases hm:M b o with
                   | none=>rfl
                   | some u=>have:=World.block_lt_of_cell? _ _ (S.mem b o u hm);simp at this;omega
               · have:ω b=some j:=by simpa [hb] using hbk
                 obtain⟨q1,q2,q3⟩:=S.dis b j this
                 exact⟨q1,Nat.lt_of_lt_of_le q2 hfr.size,q3⟩
             · intro t ht hnk b hb
               have htk:t≠k:=fun e=>hnk ⟨k,true,.c (.ref F.s) (F.out y xs)⟩ (by simp) e.symm
               have hbm:b∉bs:=fun hx=>by have:=a4 b hx;rw[hb]at this;simp at this;exact htk this
               have hbl:=(S.dis b t hb).2.1
               refine⟨?_,hsame b hbl hbm⟩
               show (if b∈bs' then some k else ω b)=some t
               rw[if_neg (fun hx=>by have:=(hb' b hx).resolve_left hbm;omega)];exact hb
             · rintro t ⟨x1,hx1,ht⟩ _
               simp only[List.mem_singleton]at hx1
               subst hx1
               subst ht
               show Rel n M _ w' _ _ k _ ((ρ.put ⟨k,true,.c (.ref F.s) (F.out y xs)⟩).get k).a
               rw[Env.get_put,if_pos rfl]
               show Owns M _ w' k (.ref F.s) (F.out y xs) (tmps.getD k undef)
               have hE':=EncO.closed (M':=M) (.ref F.s) _ _ _ (by simpa [Sh.closed] using hF.closed) he'
               have hpk:tmps.getD k undef=.pointer (some ⟨b1,0,none⟩):=hvk
               rw[hpk]
               exact⟨_,bs',rfl,hE',hn',fun b hb=>by simp[hb]⟩
           have S3:=put_ok S2 hd (v:=r) (A:=.junk) (fun _=>trivial)
           exact⟨r,M,_,rfl,S3⟩
         · cases h
       · cases h
     · cases h
   · cases h
 · cases h
end
end Fw
namespace Fw
open Go
def isNilSl:Operand→Bool
 | .const (.slice none 0 0)=>true
 | _=>false
def nilOpd:Option Ty→Opd
 | some (.slice e)=>⟨none,noEnt,.c (.nil e) [],noEnt⟩
 | _=>⟨none,noEnt,.junk,noEnt⟩
def isNilP:Operand→Bool
 | .const (.pointer none)=>true
 | _=>false
def isTp:A→Bool
 | .bor _ _ _ _ _ _ (.tp _)=>true
 | _=>false
def isBorR:A→Bool
 | .bor _ _ _ _ _ _ _=>true
 | .c (.ref _) _=>true
 | _=>false
def isElp:A→Bool
 | .elp _ _ _ _ _ _ _ _=>true
 | _=>false
def exAt (C:Ctx)(gd:Gd)(ρ:Env)(o:Oper)(d:Nat):Out:=
 match o.op with
 | .move x=>if isNilSl x=true then exNil C o.type d else exCopy C false d (opd ρ gd x)
 | .nilCheck x=>exMovePtr d (opd ρ gd x) 0
 | .assign x=>if isNilP x=true then some ([w1 d .junk],[])else if isNilSl x=true then exNil C o.type d else if (isTp (opd ρ gd x).a||C.res.contains d&&isBorR (opd ρ gd x).a)=true then(if C.late=true then exCopy C false d (opd ρ gd x)else exTake d (opd ρ gd x))else exCopy C true d (opd ρ gd x)
 | .pick c a b=>exPick d (opd ρ gd c) (fun s g ver=>(opd ρ (some (s,g,ver,true)) a,opd ρ (some (s,g,ver,false)) b))
 | .box t x=>exBox C t d (opd ρ gd x)
 | .alloc t=>exAlloc C t d
 | .load t x=>exLoad C t d (opd ρ gd x)
 | .fieldAddr t x f=>exFieldAddr C t d (opd ρ gd x) f
 | .binOp op t x y u=>exBin C op t u d (opd ρ gd x) (opd ρ gd y)
 | .unOp op t x=>match C.ty t with | some T=>exUn op d T (opd ρ gd x) | none=>none
 | .index t x i=>exIndex C t d (opd ρ gd x) (opd ρ gd i)
 | .indexAddr t x i=>exIndexAddr C t d (opd ρ gd x) (opd ρ gd i)
 | .build t ps=>exBuildX C t d gd ρ ps.toList
 | .buildSlice t len ps=>exBuildSlice C t d len gd ρ ps.toList
 | .convert t u x=>exConvert C t u d (opd ρ gd x)
 | .extract x i=>exExtract d (opd ρ gd x) i
 | .field t x f=>exFieldV C t d (opd ρ gd x) f
 | .makeSlice t x y=>exMakeSlice C t d (opd ρ gd x) (opd ρ gd y)
 | .makeFunc fn first cap=>match fn,first.toList,cap.toList with
   | .func f,[],[x]=>exMakeFunc d f (opd ρ gd x)
   | _,_,_=>none
 | .slice t x lo hi mx=>if mx.isSome=true then none else exSlice C t d (opd ρ gd x) (lo.map (opd ρ gd)) (hi.map (opd ρ gd))
 | .call c=>
   match c.callee with
   | .value (.func f)=>exCall C f d (c.args.toList.map (opd ρ gd))
   | .builtin .len=>match c.args.toList,c.argTypes.toList with
     | [x],[t]=>exLen C t d (opd ρ gd x)
     | _,_=>none
   | .builtin .append=>match c.args.toList,c.argTypes.toList with
     | [x,y],[t,u]=>if t=u then appX C t d gd ρ x y else none
     | _,_=>none
   | .builtin .min=>match c.args.toList with
     | [x,y]=>exMinMax false d (opd ρ gd x) (opd ρ gd y)
     | _=>none
   | .builtin .max=>match c.args.toList with
     | [x,y]=>exMinMax true d (opd ρ gd x) (opd ρ gd y)
     | _=>none
   | .value (.tmp t)=>exCallK C d (opd ρ gd (.tmp t)) (c.args.toList.map (opd ρ gd))
   | _=>none
 | _=>none
def ex (C:Ctx)(gd:Gd)(ρ:Env)(o:Oper):Out:=
 match o.dst with
 | some d=>if d<C.n then exAt C gd ρ o d else none
 | none=>
   match o.op with
   | .store t x v=>if isElp (opd ρ gd x).a=true then exStoreEl C t (opd ρ gd x) (opd ρ gd v)else exStore C t (opd ρ gd x) (if isNilSl v=true then nilOpd (C.ty t)else opd ρ gd v)
   | _=>none
section
variable {B:Nat} {X:List Nat} {w0:World} {M0 M:Mem} {ω:Own} {ρ:Env} {a:Act} {w:World} {P:Program} {C:Ctx}
theorem exNil_ok (_:CtxOk P C){n:Nat}{tmps:Array Value}(S:St0 n B X w0 M0 M ω ρ tmps w){t:TypeId}{d:Nat}(hd:d<n){ws:List Wr}{cs:List Prop}(h:exNil C t d=some (ws,cs)):
   ∃ M' ω',St0 n B X w0 M0 M' ω' (ρ.puts ws) (tmps.setIfInBounds d (.slice none 0 0)) w:=by
 unfold exNil at h
 split at h
 · rename_i e hT
   simp only[out1,Option.some.injEq,Prod.mk.injEq]at h
   obtain⟨rfl,rfl⟩:=h
   exact⟨_,_,put_c S hd (s:=.nil e) (cs:=[.slice none 0 0]) rfl ⟨rfl,⟨none,rfl,by simp⟩,rfl⟩ List.nodup_nil (by simp)⟩
 · cases h
theorem opds_rel {n:Nat}{tmps:Array Value}(S:St0 n B X w0 M0 M ω ρ tmps w){gd:Gd}(hg:GuardOk ρ (vl tmps) gd)(df:List Deferred):∀ (l:List Operand),
   OpdsR n M ω w ρ (vl tmps) (l.map (opd ρ gd)) (l.map (Act.eval ⟨tmps,df⟩))
 | []=>trivial
 | x::l=>⟨opd_rel S hg x df,opds_rel S hg df l⟩
def Goes (P:Program)(o:Oper)(a:Act)(w:World)(R:Act→World→Prop):Prop:=
 match (execOp a.eval o).run P w with
 | .ok (.value v) w'=>R (a.put o.dst v) w'
 | .ok .skip w'=>R (a.put o.dst undef) w'
 | .ok (.enter f args) w'=>Calls P f args w' fun e w''=>∃ v,e=.returned v∧R (a.put o.dst v) w''
 | _=>False
theorem Goes.wp {o:Oper}{R:Act→World→Prop}{Q:Exit→Act→World→Prop}(h:Goes P o a w R):o.wp P a w R Q:=by
 unfold Goes at h
 unfold Oper.wp
 generalize (execOp a.eval o).run P w=r at h
 cases r with
 | halt x w'=>cases h
 | ok nx w'=>
   cases nx<;>first | exact h | exact False.elim h | skip
   exact Calls.mono h fun e w'' ⟨v,he,hr⟩=>by subst he;exact hr
theorem goes_run {o:Oper}{R:Act→World→Prop}{v:Value}{w':World}(hr:(execOp a.eval o).run P w=.ok (.value v) w')(h:R (a.put o.dst v) w'):Goes P o a w R:=by
 unfold Goes
 rw[hr];exact h
theorem goes_value {o:Oper}{R:Act→World→Prop}{s:Sem Value}{v:Value}{w':World}(he:execOp a.eval o=(do pure (.value (←s)):Sem Next))(hr:s.run P w=.ok v w')(h:R (a.put o.dst v) w'):Goes P o a w R:=by
 unfold Goes
 rw[he]
 simp only[Sem.run_bind,hr,Result.andThen_ok,Sem.run_pure]
 exact h
theorem run_callFunc {f : FuncId} {fn : Func} (h1 : P.funcs[f]? = some fn) (h2 : (fn.name == "runtime.NumGoroutine") = false) (h3 : fn.body.isNone = false) (args : Array Value) :
   (callFunc f args).run P w=.ok (.enter f args) w:=by
 unfold callFunc
 simp only[Sem.run_bind,run_program,Result.andThen_ok,h1]
 rw[if_neg (by rw[h2];simp),if_neg (by rw[h3];simp)]
 rfl
theorem ex_ok (hC:CtxOk P C)(hF:∀ f F,C.fn f=some F→Meets P f F)(S:St0 C.n B X w0 M0 M ω ρ a.tmps w)(hB:B≤w0.heap.size){gd:Gd}(hg:GuardOk ρ (vl a.tmps) gd)
   {o:Oper} {ws:List Wr} {cs:List Prop} (h:ex C gd ρ o=some (ws,cs)) (hcs:∀ p∈cs,p):
   Goes P o a w fun a' w'=>(∃ v,a'=a.put o.dst v)∧∃ M' ω',St0 C.n B X w0 M0 M' ω' (ρ.puts ws) a'.tmps w':=by
 obtain⟨tmps,df⟩:=a
 simp only at S hg
 unfold ex at h
 split at h
 · rename_i d hdst
   split at h
   · rename_i hd
     have hput:∀ v,(Act.put ⟨tmps,df⟩ o.dst v)=⟨tmps.setIfInBounds d v,df⟩:=fun v=>by rw[hdst];rfl
     have val:∀ {s:Sem Value},execOp (Act.eval ⟨tmps,df⟩) o=(do pure (.value (←s)):Sem Next)→Res C.n B X w0 M0 ρ tmps d ws (s.run P w)→
         Goes P o ⟨tmps,df⟩ w fun a' w'=>(∃ v,a'=Act.put ⟨tmps,df⟩ o.dst v)∧∃ M' ω',St0 C.n B X w0 M0 M' ω' (ρ.puts ws) a'.tmps w':=by
       intro s he ⟨v',w',M',ω',hr,hS⟩
       exact goes_value he hr ⟨⟨v',rfl⟩,by rw[hput];exact⟨M',ω',hS⟩⟩
     have q:=fun x=>opd_rel S hg x df
     unfold exAt at h
     split at h
     · -- move
       rename_i x hop
       have he:execOp (Act.eval ⟨tmps,df⟩) o=(do pure (.value (←(pure (Act.eval ⟨tmps,df⟩ x):Sem Value))):Sem Next):=by unfold execOp;rw[hop];rfl
       split at h
       · rename_i hnil
         obtain⟨M',ω',hS⟩:=exNil_ok hC S hd h
         have hx:x=.const (.slice none 0 0):=by unfold isNilSl at hnil;split at hnil<;>first | rfl | cases hnil
         exact val he ⟨_,w,M',ω',rfl,by rw[hx];exact hS⟩
       · obtain⟨M',ω',hS⟩:=exCopy_ok S hd h (q x)
         exact val he ⟨_,w,M',ω',rfl,hS⟩
     · rename_i x hop
       obtain⟨b,p,hv,M',ω',hS⟩:=exMovePtr_ok S hd h (q x)
       have he:execOp (Act.eval ⟨tmps,df⟩) o=(do pure (.value (←(pure (Act.eval ⟨tmps,df⟩ x):Sem Value))):Sem Next):=by
         unfold execOp;rw[hop];simp only[hv];rfl
       exact val he ⟨_,w,M',ω',rfl,by rw[hv];exact hS⟩
     · rename_i x hop
       have he:execOp (Act.eval ⟨tmps,df⟩) o=(do pure (.value (←(pure (Act.eval ⟨tmps,df⟩ x):Sem Value))):Sem Next):=by unfold execOp;rw[hop];rfl
       split at h
       · simp only[Option.some.injEq,Prod.mk.injEq]at h
         obtain⟨rfl,rfl⟩:=h
         exact val he ⟨_,w,_,_,rfl,put_ok S hd (A:=.junk) fun _=>trivial⟩
       split at h
       · rename_i hnil
         obtain⟨M',ω',hS⟩:=exNil_ok hC S hd h
         have hx:x=.const (.slice none 0 0):=by unfold isNilSl at hnil;split at hnil<;>first | rfl | cases hnil
         exact val he ⟨_,w,M',ω',rfl,by rw[hx];exact hS⟩
       · split at h
         · split at h
           · obtain⟨M',ω',hS⟩:=exCopy_ok S hd h (q x)
             exact val he ⟨_,w,M',ω',rfl,hS⟩
           · obtain⟨M',ω',hS⟩:=exTake_ok S hd h (q x)
             exact val he ⟨_,w,M',ω',rfl,hS⟩
         · obtain⟨M',ω',hS⟩:=exCopy_ok S hd h (q x)
           exact val he ⟨_,w,M',ω',rfl,hS⟩
     · rename_i c x y hop
       refine val (s:=do pure (if ←asBool (Act.eval ⟨tmps,df⟩ c)then Act.eval ⟨tmps,df⟩ x else Act.eval ⟨tmps,df⟩ y)) ?_ (exPick_ok S hg hd h df)
       unfold execOp;rw[hop];simp only[bind_assoc,pure_bind]
     · rename_i t x hop
       exact val (by unfold execOp;rw[hop]) (exBox_ok S hB hd h (q x))
     · rename_i t hop
       exact val (by unfold execOp;rw[hop]) (exAlloc_ok hC S hB hd h)
     · rename_i t x hop
       exact val (by unfold execOp;rw[hop]) (exLoad_ok hC S hd h (q x))
     · rename_i t x f hop
       exact val (by unfold execOp;rw[hop]) (exFieldAddr_ok hC S hd h (q x))
     · rename_i op t x y u hop
       exact val (by unfold execOp;rw[hop]) (exBin_ok hC S hd h hcs (q x) (q y) x y)
     · rename_i op t x hop
       split at h
       · exact val (by unfold execOp;rw[hop]) (exUn_ok S hd h (q x))
       · cases h
     · rename_i t x i hop
       exact val (by unfold execOp;rw[hop]) (exIndex_ok hC S hd h hcs (q x) (q i))
     · rename_i t x i hop
       exact val (by unfold execOp;rw[hop]) (exIndexAddr_ok hC S hd h hcs (q x) (q i))
     · rename_i t ps hop
       exact val (by unfold execOp;rw[hop]) (exBuildX_ok hC S hg hd h df)
     · rename_i t len ps hop
       exact val (by unfold execOp;rw[hop]) (exBuildSlice_ok hC S hB hg hd h df)
     · rename_i t u x hop
       exact val (by unfold execOp;rw[hop]) (exConvert_ok hC S hB hd h hcs (q x))
     · rename_i x i hop
       exact val (by unfold execOp;rw[hop]) (exExtract_ok S hd h (q x))
     · rename_i t x f hop
       exact val (by unfold execOp;rw[hop]) (exFieldV_ok hC S hd h (q x))
     · rename_i t x y hop
       exact val (by unfold execOp;rw[hop]) (exMakeSlice_ok hC S hB hd h hcs (q x) (q y))
     · rename_i fn first cap hop
       split at h
       · rename_i f x he1 he2
         have e1:first=#[]:=by cases first;simpa using he1
         have e2:cap=#[x]:=by cases cap;simpa using he2
         subst e1
         subst e2
         exact val (by unfold execOp;rw[hop];simp only[List.map_toArray,List.map_cons,List.map_nil]) (exMakeFunc_ok S hd h (q x))
       · cases h
     · rename_i t x lo hi mx hop
       split at h
       · cases h
       · rename_i hmx
         have hmx':mx=none:=by cases mx with | none=>rfl | some _=>simp at hmx
         subst hmx'
         exact val (by unfold execOp;rw[hop];rfl) (exSlice_ok hC S hg hd h hcs df (q x))
     · rename_i c hop
       obtain⟨callee,args,argTypes⟩:=c
       simp only at h
       split at h
       · rename_i f
         have hc:=exCall_ok S hB hF hd h hcs (opds_rel S hg df args.toList) (fun h=>exCallM_ok hC S hB hd h hcs (opds_rel S hg df args.toList)) (fun h=>exCallS_ok S hB hF hd h hcs (opds_rel S hg df args.toList))
         obtain ⟨fn, h1, h2, h3⟩ : ∃ fn, P.funcs[f]? = some fn ∧ (fn.name == "runtime.NumGoroutine") = false ∧ fn.body.isNone = false := by
           unfold exCall at h
           split at h
           · rename_i F hf;exact(hF f F hf).fn
           · unfold exCallM at h
             split at h
             · rename_i F _ _ hf _;exact(hC.fnM f F hf).fn
             · unfold exCallT at h
               split at h
               · rename_i F _ _ hf _;exact(hC.fnT f F hf).fn
               · unfold exCallP at h
                 split at h
                 · rename_i F _ _ hf _;exact(hC.fnP f F hf).fn
                 · cases h
               · cases h
             · cases h
         have hrun:(execOp (Act.eval ⟨tmps,df⟩) o).run P w=.ok (.enter f (args.map (Act.eval ⟨tmps,df⟩))) w:=by
           unfold execOp;rw[hop]
           have hcf:=run_callFunc (w:=w) h1 h2 h3 (args.map (Act.eval ⟨tmps,df⟩))
           simp only[resolve,Act.eval,Deferred.ofValue,Sem.run_bind,Sem.run_pure,Result.andThen_ok,invoke,Array.empty_append,Array.append_empty]
           exact hcf
         unfold Goes
         rw[hrun]
         have e2:(args.toList.map (Act.eval ⟨tmps,df⟩)).toArray=args.map (Act.eval ⟨tmps,df⟩):=by rw[←Array.toList_map]
         simp only
         rw[←e2]
         exact hc.mono fun e w' ⟨v,M',ω',he,hS⟩=>⟨v,he,⟨v,rfl⟩,by rw[hput];exact⟨M',ω',hS⟩⟩
       · rename_i hb
         split at h
         · rename_i x t ha ht
           have ha':args=#[x]:=by rw[←Array.toArray_toList (xs:=args),ha]
           have ht':argTypes=#[t]:=by rw[←Array.toArray_toList (xs:=argTypes),ht]
           subst ha';subst ht'
           obtain⟨v',w',M',ω',hr,hS⟩:=exLen_ok (P:=P) hC S hd h (q x) o.type
           refine goes_run (v:=v') (w':=w') ?_ ⟨⟨v',rfl⟩,by rw[hput];exact⟨M',ω',hS⟩⟩
           unfold execOp;rw[hop];simp[resolve,invoke,builtin,hr]
         · cases h
       · split at h
         · rename_i x y t u ha ht
           have ha':args=#[x,y]:=by rw[←Array.toArray_toList (xs:=args),ha]
           have ht':argTypes=#[t,u]:=by rw[←Array.toArray_toList (xs:=argTypes),ht]
           subst ha';subst ht'
           split at h
           · rename_i htu
             subst htu
             obtain⟨v',w',M',ω',hr,hS⟩:=appX_ok (P:=P) hC S hB hg hd h hcs df o.type
             refine goes_run (v:=v') (w':=w') ?_ ⟨⟨v',rfl⟩,by rw[hput];exact⟨M',ω',hS⟩⟩
             unfold execOp;rw[hop];simp[resolve,invoke,builtin,hr]
           · cases h
         · cases h
       · split at h
         · rename_i x y ha
           have ha':args=#[x,y]:=by rw[←Array.toArray_toList (xs:=args),ha]
           subst ha'
           obtain⟨v',w',M',ω',hr,hS⟩:=exMinMax_ok (P:=P) S hd h (q x) (q y) argTypes o.type
           simp only[Bool.false_eq_true,if_false]at hr
           refine goes_run (v:=v') (w':=w') ?_ ⟨⟨v',rfl⟩,by rw[hput];exact⟨M',ω',hS⟩⟩
           unfold execOp;rw[hop];simp[resolve,invoke,builtin,hr]
         · cases h
       · split at h
         · rename_i x y ha
           have ha':args=#[x,y]:=by rw[←Array.toArray_toList (xs:=args),ha]
           subst ha'
           obtain⟨v',w',M',ω',hr,hS⟩:=exMinMax_ok (P:=P) S hd h (q x) (q y) argTypes o.type
           simp only[if_true]at hr
           refine goes_run (v:=v') (w':=w') ?_ ⟨⟨v',rfl⟩,by rw[hput];exact⟨M',ω',hS⟩⟩
           unfold execOp;rw[hop];simp[resolve,invoke,builtin,hr]
         · cases h
       · rename_i t
         obtain⟨f,p,hv,⟨fn,h1,h2,h3⟩,hc⟩:=exCallK_ok hC S hB hd h hcs (q (.tmp t)) (opds_rel S hg df args.toList)
         have hrun:(execOp (Act.eval ⟨tmps,df⟩) o).run P w=.ok (.enter f (args.map (Act.eval ⟨tmps,df⟩)++#[p])) w:=by
           unfold execOp;rw[hop]
           have hcf:=run_callFunc (w:=w) h1 h2 h3 (args.map (Act.eval ⟨tmps,df⟩)++#[p])
           simp only[resolve,hv,Deferred.ofValue,Sem.run_bind,Sem.run_pure,Result.andThen_ok,invoke,Array.empty_append]
           exact hcf
         unfold Goes
         rw[hrun]
         have e2:(args.toList.map (Act.eval ⟨tmps,df⟩)++[p]).toArray=args.map (Act.eval ⟨tmps,df⟩)++#[p]:=by
           apply Array.toList_inj.1
           simp
         simp only
         rw[←e2]
         exact hc.mono fun e w' ⟨v,M',ω',he,hS⟩=>⟨v,he,⟨v,rfl⟩,by rw[hput];exact⟨M',ω',hS⟩⟩
       · cases h
     · cases h
   · cases h
 · rename_i hdst
   split at h
   · rename_i t x v hop
     have hst:∃ w',(Instr.storeAt t (Act.eval ⟨tmps,df⟩ x) (Act.eval ⟨tmps,df⟩ v)).run P w=.ok () w'∧∃ M' ω',St0 C.n B X w0 M0 M' ω' (ρ.puts ws) tmps w':=by
       split at h
       · exact exStoreEl_ok hC S h hcs (opd_rel S hg x df) (opd_rel S hg v df)
       · refine exStore_ok hC S h (opd_rel S hg x df) ?_
         split
         · rename_i hnil
           have hv:v=.const (.slice none 0 0):=by unfold isNilSl at hnil;split at hnil<;>first | rfl | cases hnil
           subst hv
           refine⟨fun _=>?_,fun k hk=>?_,fun j hj=>?_⟩
           · unfold nilOpd
             split
             · exact⟨[.slice none 0 0],[],rfl,⟨rfl,⟨none,rfl,trivial⟩,rfl⟩,List.nodup_nil,by simp⟩
             · exact trivial
           · unfold nilOpd at hk;split at hk<;>cases hk
           · unfold nilOpd at hj;split at hj<;>cases hj
         · exact opd_rel S hg v df
     obtain⟨w',hr,M',ω',hS⟩:=hst
     have hrun:(execOp (Act.eval ⟨tmps,df⟩) o).run P w=.ok .skip w':=by
       unfold execOp;rw[hop]
       simp only[Sem.run_bind,hr,Result.andThen_ok,Sem.run_pure]
     unfold Goes
     rw[hrun]
     exact⟨⟨undef,rfl⟩,by rw[hdst];exact⟨M',ω',hS⟩⟩
   · cases h
end
end Fw
namespace Fw
open Go
def coreB0:A→Option Bool
 | .c (.pure .bool) y=>some y
 | _=>none
def coreB (ρ:Env):A→Option Bool
 | .c (.pure .bool) y=>some y
 | .cond s g ver _ a=>if (ρ.get s).g=g∧(ρ.get s).ver=ver then coreB0 a else none
 | _=>none
def isCond:A→Bool
 | .cond _ _ _ _ _=>true
 | _=>false
def dstOf (ops:List Oper)(j:Nat):Option Nat:=
 match ops[j]? with
 | some o=>o.dst
 | none=>none
def step (C:Ctx)(ops:List Oper)(ρ:Env)(o:Oper):Out:=
 match o.guard with
 | none=>ex C none ρ o
 | some (j,b)=>
   match dstOf ops j with
   | some s=>
     match coreB ρ (ρ.get s).a with
     | some y=>
       match ex C (some (s,(ρ.get s).g,(ρ.get s).ver,b)) ρ o with
       | some ([⟨d,false,A⟩],cs)=>
         if isCond A=false∧s≠d∧o.dst=some d∧A.tgt≠some d then some ([w1 d (.cond s (ρ.get s).g (ρ.get s).ver b A)],cs.map fun p=>y=b→p)else none
       | _=>none
     | none=>none
   | none=>none
section
variable {n B:Nat} {X:List Nat} {w0:World} {M0 M:Mem} {ω:Own} {ρ:Env} {a:Act} {w:World} {P:Program} {C:Ctx}
def A.ageLe (ρ:Env):A→Prop
 | .ptr k g _=>g≤(ρ.get k).g
 | .bor k g _ _ _ _ _=>g≤(ρ.get k).g
 | .elp k g _ _ _ _ _ _=>g≤(ρ.get k).g
 | .al k g _ _=>g≤(ρ.get k).g
 | .cond s g _ _ a=>g≤(ρ.get s).g∧a.ageLe ρ
 | .br k g _ _ _ _ _=>g≤(ρ.get k).g
 | .lz k g _ _ _ _ _=>g≤(ρ.get k).g
 | .rb k g _ _ _ _ _=>g≤(ρ.get k).g
 | .clo _ k g=>g≤(ρ.get k).g
 | _=>True
theorem Rel0.age {vals:Vl}{t:Nat}{v:Value}:∀ {b:A},Rel0 n M ω w ρ vals t v b→b.ageLe ρ
 | .junk,_=>trivial
 | .c _ _,_=>trivial
 | .ptr _ _ _,h=>h.1.2
 | .bor _ _ _ _ _ _ _,h=>h.1.2.1
 | .elp _ _ _ _ _ _ _ _,h=>h.1.2.1
 | .al _ _ _ _,h=>h.1.2
 | .eptr _ _ _,_=>trivial
 | .cond _ _ _ _ _,h=>h.elim
 | .tup _,_=>trivial
 | .fn _,_=>trivial
 | .br _ _ _ _ _ _ _,h=>h.1.2.1
 | .lz _ _ _ _ _ _ _,h=>h.1.2.1
 | .rb _ _ _ _ _ _ _,⟨_,_,_,_,_,_,_,h,_⟩=>h.2.1
 | .clo _ _ _,h=>h.1.2
theorem get_puts1 (ρ:Env)(d t:Nat)(U:A):(ρ.puts [w1 d U]).get t=if t=d then⟨(ρ.get t).g+1,0,U⟩else ρ.get t:=by
 show (ρ.put (w1 d U)).get t=_
 rw[Env.get_put];rfl
theorem Rel0.swap {vals:Vl}{t d:Nat}{v:Value}{U U':A}:∀ {b:A},b.ageLe ρ→Rel0 n M ω w (ρ.puts [w1 d U]) vals t v b→Rel0 n M ω w (ρ.puts [w1 d U']) vals t v b
 | .junk,_,h=>h
 | .c _ _,_,h=>h
 | .ptr k g off,ha,⟨h1,h2⟩=>by
   refine⟨⟨h1.1,?_⟩,fun hg=>h2 ?_⟩
   · have:=h1.2;rw[get_puts1]at this ⊢;split at this<;>simp_all
   · rw[get_puts1]at hg ⊢;split at hg<;>simp_all
 | .bor k g ver u x org e,ha,⟨h1,h2⟩=>by
   have ha':g≤(ρ.get k).g:=ha
   by_cases hk:k=d
   · subst hk
     refine⟨⟨h1.1,?_,fun hg=>?_⟩,fun hc=>?_⟩
     · rw[get_puts1];simp;omega
     · rw[get_puts1]at hg;simp at hg;omega
     · have:=hc.1;rw[get_puts1]at this;simp at this;omega
   · have e:(ρ.puts [w1 d U']).get k=(ρ.puts [w1 d U]).get k:=by rw[get_puts1,get_puts1];simp[hk]
     refine⟨⟨h1.1,by rw[e];exact h1.2.1,by rw[e];exact h1.2.2⟩,fun hc=>?_⟩
     rw[e];exact h2 (by unfold curK at *;rw[←e];exact hc)
 | .elp k g ver off et i eo arr,ha,⟨h1,h2⟩=>by
   have ha':g≤(ρ.get k).g:=ha
   by_cases hk:k=d
   · subst hk
     refine⟨⟨h1.1,?_,fun hg=>?_⟩,fun hc=>?_⟩
     · rw[get_puts1];simp;omega
     · rw[get_puts1]at hg;simp at hg;omega
     · have:=hc.1;rw[get_puts1]at this;simp at this;omega
   · have e:(ρ.puts [w1 d U']).get k=(ρ.puts [w1 d U]).get k:=by rw[get_puts1,get_puts1];simp[hk]
     refine⟨⟨h1.1,by rw[e];exact h1.2.1,by rw[e];exact h1.2.2⟩,fun hc=>?_⟩
     rw[e];exact h2 (by unfold curK at *;rw[←e];exact hc)
 | .al k g ag off,ha,⟨h1,b,cs,h2,h3,h4⟩=>by
   have ha':g≤(ρ.get k).g:=ha
   refine⟨⟨h1.1,?_⟩,b,cs,h2,h3,fun hg=>h4 ?_⟩
   · have:=h1.2;rw[get_puts1]at this ⊢;split at this<;>simp_all
   · rw[get_puts1]at hg ⊢;split at hg<;>simp_all
 | .eptr _ _ _,_,h=>h
 | .cond _ _ _ _ _,_,h=>h.elim
 | .tup _,_,h=>h
 | .fn _,_,h=>h
 | .clo f k g,ha,⟨h1,h2⟩=>by
   refine⟨⟨h1.1,?_⟩,fun hg=>h2 ?_⟩
   · have:=h1.2;rw[get_puts1]at this ⊢;split at this<;>simp_all
   · rw[get_puts1]at hg ⊢;split at hg<;>simp_all
 | .br k g ver off n1 s ys,ha,⟨h1,h2⟩=>by
   have ha':g≤(ρ.get k).g:=ha
   by_cases hk:k=d
   · subst hk
     refine⟨⟨h1.1,?_,fun hg=>?_⟩,fun hc=>?_⟩
     · rw[get_puts1];simp;omega
     · rw[get_puts1]at hg;simp at hg;omega
     · have:=hc.1;rw[get_puts1]at this;simp at this;omega
   · have e:(ρ.puts [w1 d U']).get k=(ρ.puts [w1 d U]).get k:=by rw[get_puts1,get_puts1];simp[hk]
     refine⟨⟨h1.1,by rw[e];exact h1.2.1,by rw[e];exact h1.2.2⟩,fun hc=>?_⟩
     rw[e];exact h2 (by unfold curK at *;rw[←e];exact hc)
 | .lz k g ver off n1 lo s,ha,⟨h1,h2⟩=>by
   have ha':g≤(ρ.get k).g:=ha
   by_cases hk:k=d
   · subst hk
     refine⟨⟨h1.1,?_,fun hg=>?_⟩,fun hc=>?_⟩
     · rw[get_puts1];simp;omega
     · rw[get_puts1]at hg;simp at hg;omega
     · have:=hc.1;rw[get_puts1]at this;simp at this;omega
   · have e:(ρ.puts [w1 d U']).get k=(ρ.puts [w1 d U]).get k:=by rw[get_puts1,get_puts1];simp[hk]
     refine⟨⟨h1.1,by rw[e];exact h1.2.1,by rw[e];exact h1.2.2⟩,fun hc=>?_⟩
     rw[e];exact h2 (by unfold curK at *;rw[←e];exact hc)
 | .rb k g ver u x org ee,ha,⟨b,v0,cs,q1,q2,q3,q4,h1,h0,h2⟩=>by
   have ha':g≤(ρ.get k).g:=ha
   refine⟨b,v0,cs,q1,q2,q3,q4,?_⟩
   by_cases hk:k=d
   · subst hk
     refine⟨⟨h1.1,?_,fun hg=>?_⟩,fun i _ hg=>?_,fun hc=>?_⟩
     · rw[get_puts1];simp;omega
     · rw[get_puts1]at hg;simp at hg;omega
     · rw[get_puts1]at hg;simp at hg;omega
     · have:=hc.1;rw[get_puts1]at this;simp at this;omega
   · have e:(ρ.puts [w1 d U']).get k=(ρ.puts [w1 d U]).get k:=by rw[get_puts1,get_puts1];simp[hk]
     refine⟨⟨h1.1,by rw[e];exact h1.2.1,by rw[e];exact h1.2.2⟩,by rw[e];exact h0,fun hc=>?_⟩
     rw[e];exact h2 (by unfold curK at *;rw[←e];exact hc)
theorem Rel0.swapNe {vals:Vl}{t d:Nat}{v:Value}{U U':A}:∀ {b:A},b.tgt≠some d→Rel0 n M ω w (ρ.puts [w1 d U]) vals t v b→Rel0 n M ω w (ρ.puts [w1 d U']) vals t v b
 | .junk,_,h=>h
 | .c _ _,_,h=>h
 | .ptr k g off,ha,⟨h1,h2⟩=>by
   have hk:k≠d:=fun e=>ha (by rw[e];rfl)
   have e:(ρ.puts [w1 d U']).get k=(ρ.puts [w1 d U]).get k:=by rw[get_puts1,get_puts1];simp[hk]
   exact⟨⟨h1.1,by rw[e];exact h1.2⟩,fun hg=>h2 (by rw[←e];exact hg)⟩
 | .bor k g ver u x org ee,ha,⟨h1,h2⟩=>by
   have hk:k≠d:=fun e=>ha (by rw[e];rfl)
   have e:(ρ.puts [w1 d U']).get k=(ρ.puts [w1 d U]).get k:=by rw[get_puts1,get_puts1];simp[hk]
   refine⟨⟨h1.1,by rw[e];exact h1.2.1,by rw[e];exact h1.2.2⟩,fun hc=>?_⟩
   rw[e];exact h2 (by unfold curK at *;rw[←e];exact hc)
 | .elp k g ver off et i eo arr,ha,⟨h1,h2⟩=>by
   have hk:k≠d:=fun e=>ha (by rw[e];rfl)
   have e:(ρ.puts [w1 d U']).get k=(ρ.puts [w1 d U]).get k:=by rw[get_puts1,get_puts1];simp[hk]
   refine⟨⟨h1.1,by rw[e];exact h1.2.1,by rw[e];exact h1.2.2⟩,fun hc=>?_⟩
   rw[e];exact h2 (by unfold curK at *;rw[←e];exact hc)
 | .al k g ag off,ha,⟨h1,b,cs,h2,h3,h4⟩=>by
   have hk:k≠d:=fun e=>ha (by rw[e];rfl)
   have e:(ρ.puts [w1 d U']).get k=(ρ.puts [w1 d U]).get k:=by rw[get_puts1,get_puts1];simp[hk]
   exact⟨⟨h1.1,by rw[e];exact h1.2⟩,b,cs,h2,h3,fun hg=>h4 (by rw[←e];exact hg)⟩
 | .eptr _ _ _,_,h=>h
 | .cond _ _ _ _ _,_,h=>h.elim
 | .tup _,_,h=>h
 | .fn _,_,h=>h
 | .clo f k g,ha,⟨h1,h2⟩=>by
   have hk:k≠d:=fun e=>ha (by rw[e];rfl)
   have e:(ρ.puts [w1 d U']).get k=(ρ.puts [w1 d U]).get k:=by rw[get_puts1,get_puts1];simp[hk]
   exact⟨⟨h1.1,by rw[e];exact h1.2⟩,fun hg=>h2 (by rw[←e];exact hg)⟩
 | .br k g ver off n1 s ys,ha,⟨h1,h2⟩=>by
   have hk:k≠d:=fun e=>ha (by rw[e];rfl)
   have e:(ρ.puts [w1 d U']).get k=(ρ.puts [w1 d U]).get k:=by rw[get_puts1,get_puts1];simp[hk]
   refine⟨⟨h1.1,by rw[e];exact h1.2.1,by rw[e];exact h1.2.2⟩,fun hc=>?_⟩
   rw[e];exact h2 (by unfold curK at *;rw[←e];exact hc)
 | .lz k g ver off n1 lo s,ha,⟨h1,h2⟩=>by
   have hk:k≠d:=fun e=>ha (by rw[e];rfl)
   have e:(ρ.puts [w1 d U']).get k=(ρ.puts [w1 d U]).get k:=by rw[get_puts1,get_puts1];simp[hk]
   refine⟨⟨h1.1,by rw[e];exact h1.2.1,by rw[e];exact h1.2.2⟩,fun hc=>?_⟩
   rw[e];exact h2 (by unfold curK at *;rw[←e];exact hc)
 | .rb k g ver u x org ee,ha,⟨b,v0,cs,q1,q2,q3,q4,h1,h0,h2⟩=>by
   have hk:k≠d:=fun e=>ha (by rw[e];rfl)
   have e:(ρ.puts [w1 d U']).get k=(ρ.puts [w1 d U]).get k:=by rw[get_puts1,get_puts1];simp[hk]
   refine⟨b,v0,cs,q1,q2,q3,q4,⟨h1.1,by rw[e];exact h1.2.1,by rw[e];exact h1.2.2⟩,by rw[e];exact h0,fun hc=>?_⟩
   rw[e];exact h2 (by unfold curK at *;rw[←e];exact hc)
theorem St0.rewrap {tmps tmps':Array Value}{w':World}{M':Mem}{ω':Own}(S0:St0 n B X w0 M0 M ω ρ tmps w){d:Nat}(hd:d<n){U U':A}(hval:∀ t,t≠d→vl tmps' t=vl tmps t)
   (S1:St0 n B X w0 M0 M' ω' (ρ.puts [w1 d U]) tmps' w') (hrel:Rel n M' ω' w' (ρ.puts [w1 d U']) (vl tmps') d (vl tmps' d) U'):
   St0 n B X w0 M0 M' ω' (ρ.puts [w1 d U']) tmps' w':=by
 refine⟨S1.size,S1.fr,S1.m0,S1.old,S1.mem,S1.dis,fun t ht=>?_,fun t ht=>?_⟩
 · rw[get_puts1,if_neg (by omega)];exact S0.high t ht
 · by_cases h:t=d
   · subst h
     rw[get_puts1,if_pos rfl];exact hrel
   · have h1:=S1.slots t ht
     rw[get_puts1,if_neg h]at h1 ⊢
     have h0:=S0.slots t ht
     generalize (ρ.get t).a=b at h0 h1
     cases b with
     | cond s g ver bb a=>
       obtain⟨k1,k2⟩:=h0
       obtain⟨g1,g2⟩:=h1
       by_cases hk:s=d
       · subst hk
         have:=k1.2.1
         refine⟨⟨g1.1,?_,fun hg=>?_⟩,fun hc=>?_⟩
         · rw[get_puts1];simp;omega
         · rw[get_puts1]at hg;simp at hg;omega
         · have:=hc.1;rw[get_puts1]at this;simp at this;omega
       · have e:(ρ.puts [w1 d U']).get s=(ρ.puts [w1 d U]).get s:=by rw[get_puts1,get_puts1];simp[hk]
         have e0:(ρ.puts [w1 d U]).get s=ρ.get s:=by rw[get_puts1];simp[hk]
         refine⟨⟨g1.1,by rw[e];exact g1.2.1,by rw[e];exact g1.2.2⟩,fun hc=>?_⟩
         have hc':curK (ρ.puts [w1 d U]) s g ver:=by unfold curK at *;rw[←e];exact hc
         obtain⟨c1,c2⟩:=g2 hc'
         refine⟨fun hv=>?_,c2⟩
         have hr:=c1 hv
         have hs:vl tmps' s=vl tmps s:=hval s hk
         have hr0:=(k2 (by unfold curK at *;rw[←e0,←e];exact hc)).1 (hs.symm.trans hv)
         exact Rel0.swap (ρ:=ρ) (d:=d) (U:=U) (U':=U') (Rel0.age hr0) hr
     | junk=>exact trivial
     | c s x=>exact h1
     | ptr k g off=>
       have h0':Rel0 n M ω w ρ (vl tmps) t (vl tmps t) (.ptr k g off):=h0
       have h1':Rel0 n M' ω' w' (ρ.puts [w1 d U]) (vl tmps') t (vl tmps' t) (.ptr k g off):=h1
       exact Rel0.swap (b:=.ptr k g off) (Rel0.age h0') h1'
     | clo f k g=>
       have h0':Rel0 n M ω w ρ (vl tmps) t (vl tmps t) (.clo f k g):=h0
       have h1':Rel0 n M' ω' w' (ρ.puts [w1 d U]) (vl tmps') t (vl tmps' t) (.clo f k g):=h1
       exact Rel0.swap (b:=.clo f k g) (Rel0.age h0') h1'
     | bor k g ver u x org e=>
       have h0':Rel0 n M ω w ρ (vl tmps) t (vl tmps t) (.bor k g ver u x org e):=h0
       have h1':Rel0 n M' ω' w' (ρ.puts [w1 d U]) (vl tmps') t (vl tmps' t) (.bor k g ver u x org e):=h1
       exact Rel0.swap (b:=.bor k g ver u x org e) (Rel0.age h0') h1'
     | elp k g ver off et i eo arr=>
       have h0':Rel0 n M ω w ρ (vl tmps) t (vl tmps t) (.elp k g ver off et i eo arr):=h0
       have h1':Rel0 n M' ω' w' (ρ.puts [w1 d U]) (vl tmps') t (vl tmps' t) (.elp k g ver off et i eo arr):=h1
       exact Rel0.swap (b:=.elp k g ver off et i eo arr) (Rel0.age h0') h1'
     | al k g ag off=>
       have h0':Rel0 n M ω w ρ (vl tmps) t (vl tmps t) (.al k g ag off):=h0
       have h1':Rel0 n M' ω' w' (ρ.puts [w1 d U]) (vl tmps') t (vl tmps' t) (.al k g ag off):=h1
       exact Rel0.swap (b:=.al k g ag off) (Rel0.age h0') h1'
     | br k g ver off n1 s ys=>
       have h0':Rel0 n M ω w ρ (vl tmps) t (vl tmps t) (.br k g ver off n1 s ys):=h0
       have h1':Rel0 n M' ω' w' (ρ.puts [w1 d U]) (vl tmps') t (vl tmps' t) (.br k g ver off n1 s ys):=h1
       exact Rel0.swap (b:=.br k g ver off n1 s ys) (Rel0.age h0') h1'
     | lz k g ver off n1 lo s=>
       have h0':Rel0 n M ω w ρ (vl tmps) t (vl tmps t) (.lz k g ver off n1 lo s):=h0
       have h1':Rel0 n M' ω' w' (ρ.puts [w1 d U]) (vl tmps') t (vl tmps' t) (.lz k g ver off n1 lo s):=h1
       exact Rel0.swap (b:=.lz k g ver off n1 lo s) (Rel0.age h0') h1'
     | rb k g ver u x org e=>
       have h0':Rel0 n M ω w ρ (vl tmps) t (vl tmps t) (.rb k g ver u x org e):=h0
       have h1':Rel0 n M' ω' w' (ρ.puts [w1 d U]) (vl tmps') t (vl tmps' t) (.rb k g ver u x org e):=h1
       exact Rel0.swap (b:=.rb k g ver u x org e) (Rel0.age h0') h1'
     | eptr u x off=>exact h1
     | tup l=>exact h1
     | fn f=>exact h1
theorem wanted_iff {opsA:Array Oper}{o:Oper}{j:Nat}{b:Bool}{s:Nat}{tmps:Array Value}(hg:o.guard=some (j,b))(hs:dstOf opsA.toList j=some s)(hlt:s<tmps.size):
   Region.wanted o (yielded opsA tmps)=true↔tmps.getD s undef=.bool b:=by
 have hj:(opsA[j]?).bind (·.dst)=some s:=by
   unfold dstOf at hs
   rw[Array.getElem?_toList]at hs
   cases h:opsA[j]? with
   | none=>rw[h]at hs;cases hs
   | some o=>rw[h]at hs;exact hs
 have hv:tmps[s]?=some (tmps.getD s undef):=by
   rw[Array.getD_eq_getD_getElem?,Array.getElem?_eq_getElem hlt];rfl
 unfold Region.wanted yielded
 rw[hg]
 simp only[hj,Option.bind_some,hv]
 generalize tmps.getD s undef=v
 cases v<;>simp
theorem coreB_val {tmps:Array Value}(S:St0 n B X w0 M0 M ω ρ tmps w){s:Nat}{y:Bool}(h:coreB ρ (ρ.get s).a=some y):s<n∧∀ b,vl tmps s=.bool b→y=b:=by
 have hs:s<n:=by
   rcases Nat.lt_or_ge s n with h' | h'
   · exact h'
   · rw[S.high s h']at h;cases h
 refine⟨hs,fun b hb=>?_⟩
 have hr:=S.slots s hs
 have base:∀ {A':A},coreB0 A'=some y→Rel0 n M ω w ρ (vl tmps) s (vl tmps s) A'→y=b:=by
   intro A' h1 h2
   unfold coreB0 at h1
   split at h1
   · simp only[Option.some.injEq]at h1
     subst h1
     obtain⟨cs,bs,k1,⟨k2,k3⟩,_⟩:=h2
     have e1:cs=[vl tmps s]:=k1
     have e2:cs=[.bool _]:=k3
     rw[e1,hb]at e2
     simpa using e2.symm
   · cases h1
 generalize hA:(ρ.get s).a=A' at h hr
 cases A' with
 | cond s1 g1 v1 b1 a1=>
   obtain⟨h1,h2⟩:=hr
   simp only[coreB]at h
   split at h
   · rename_i hc
     obtain⟨h3,h4⟩:=h2 hc
     by_cases hv:vl tmps s1=.bool b1
     · exact base h (h3 hv)
     · have:=h4 hv
       have hb':tmps.getD s undef=.bool b:=hb
       rw[this]at hb'
       cases hb'
   · cases h
 | junk=>cases h
 | c s' x=>
   refine base (A':=.c s' x) ?_ hr
   unfold coreB at h
   split at h
   · rename_i heq;cases heq;exact h
   · rename_i heq;cases heq
   · cases h
 | ptr k g off=>cases h
 | bor k g ver u x org e=>cases h
 | elp k g ver off et i eo arr=>cases h
 | eptr u x off=>cases h
 | al k g ag off=>cases h
 | tup l=>cases h
 | fn f=>cases h
 | clo _ _ _=>cases h
 | br k g ver off n1 s ys=>cases h
 | lz k g ver off n1 lo s=>cases h
 | rb k g ver u x org e=>cases h
theorem puts1_g (ρ:Env){d t:Nat}(A':A)(h:t≠d):(ρ.puts [w1 d A']).get t=ρ.get t:=by rw[get_puts1,if_neg h]
theorem step_ok (hC:CtxOk P C)(hF:∀ f F,C.fn f=some F→Meets P f F){opsA:Array Oper}(S:St0 C.n B X w0 M0 M ω ρ a.tmps w)(hB:B≤w0.heap.size)
   {i:Nat} {o:Oper} (hi:opsA[i]?=some o) {ws:List Wr} {cs:List Prop} (h:step C opsA.toList ρ o=some (ws,cs)) (hcs:∀ p∈cs,p) {K:Act→World→Prop}
   {Q:Exit→Act→World→Prop} (hK:∀ a' w',a'.defers=a.defers→(∃ v,a'=a.put o.dst v)→(∃ M' ω',St0 C.n B X w0 M0 M' ω' (ρ.puts ws) a'.tmps w')→K a' w'):
   wpOp P opsA Q i K a w:=by
 unfold wpOp
 simp only[hi]
 unfold step at h
 split at h
 · rename_i hg
   have hw:Region.wanted o (yielded opsA a.tmps)=true:=by unfold Region.wanted;rw[hg]
   rw[if_pos hw]
   have hgo:=ex_ok hC hF S hB (gd:=none) (by intro _ _ _ _ e;cases e) h hcs
   exact .inl (Oper.wp_mono (fun a' w' ⟨⟨v,h1⟩,h2⟩=>hK a' w' (by rw[h1];cases o.dst<;>rfl) ⟨v,h1⟩ h2) (Goes.wp hgo))
 · rename_i j b hg
   split at h
   · rename_i s hs
     split at h
     · rename_i y hy
       obtain⟨hsn,hyv⟩:=coreB_val S hy
       split at h
       · rename_i d A' cs' he
         split at h
         · rename_i hc
           obtain⟨hcd,hsd,hdst,htd⟩:=hc
           simp only[Option.some.injEq,Prod.mk.injEq]at h
           obtain⟨rfl,rfl⟩:=h
           have hd:d<C.n:=by
             unfold ex at he
             rw[hdst]at he
             simp only at he
             split at he
             · assumption
             · cases he
           have hiff:=wanted_iff hg hs (by rw[S.size];exact hsn)
           have hput:∀ v,(a.put o.dst v)=⟨a.tmps.setIfInBounds d v,a.defers⟩:=fun v=>by rw[hdst];rfl
           have hdz:d<a.tmps.size:=by rw[S.size];exact hd
           by_cases hw:Region.wanted o (yielded opsA a.tmps)=true
           · rw[if_pos hw]
             have hval:vl a.tmps s=.bool b:=hiff.1 hw
             have hyb:=hyv b hval
             have hgo:=ex_ok hC hF S hB (gd:=some (s,(ρ.get s).g,(ρ.get s).ver,b)) (by rintro _ _ _ _ ⟨⟩;exact⟨⟨rfl,rfl⟩,hval⟩) he
               (fun p hp=>hcs _ (List.mem_map.2 ⟨p,hp,rfl⟩) hyb)
             refine .inl (Oper.wp_mono ?_ (Goes.wp hgo))
             rintro a' w' ⟨⟨v,rfl⟩,M',ω',hS⟩
             rw[hput]at hS ⊢
             refine hK _ _ rfl ⟨v,(hput v).symm⟩ ⟨M',ω',?_⟩
             have hs':vl (a.tmps.setIfInBounds d v) s=.bool b:=by
               show (a.tmps.setIfInBounds d v).getD s undef=_
               rw[getD_set a.tmps hdz,if_neg hsd];exact hval
             refine St0.rewrap S hd (U:=A') (fun t ht=>?_) hS ?_
             · show (a.tmps.setIfInBounds d v).getD t undef=_
               rw[getD_set a.tmps hdz,if_neg ht]
             · refine⟨⟨hsn,?_,fun _=>?_⟩,fun _=>⟨fun _=>?_,fun e=>(e hs').elim⟩⟩
               · rw[puts1_g ρ _ hsd];exact Nat.le_refl _
               · rw[puts1_g ρ _ hsd];exact Nat.le_refl _
               · have hr:=hS.slots d hd
                 have hgd:(ρ.puts [w1 d A']).get d=⟨(ρ.get d).g+1,0,A'⟩:=by rw[get_puts1,if_pos rfl]
                 have hr:Rel C.n M' ω' w' (ρ.puts [w1 d A']) (vl (a.tmps.setIfInBounds d v)) d (vl (a.tmps.setIfInBounds d v) d) ((ρ.puts [w1 d A']).get d).a:=hr
                 rw[hgd]at hr
                 have hr0:Rel0 C.n M' ω' w' (ρ.puts [w1 d A']) (vl (a.tmps.setIfInBounds d v)) d (vl (a.tmps.setIfInBounds d v) d) A':=by
                   cases A'<;>first | exact hr | cases hcd
                 exact Rel0.swapNe htd hr0
           · rw[if_neg hw]
             have hval:vl a.tmps s≠.bool b:=fun e=>hw (hiff.2 e)
             refine hK _ _ (by rw[hput]) ⟨_,rfl⟩ ?_
             rw[hput]
             refine⟨_,_,put_ok S hd fun hst=>?_⟩
             refine⟨⟨hsn,?_,fun _=>?_⟩,fun _=>⟨fun e=>?_,fun _=>rfl⟩⟩
             · rw[puts1_g ρ _ hsd];exact Nat.le_refl _
             · rw[puts1_g ρ _ hsd];exact Nat.le_refl _
             · have e':(a.tmps.setIfInBounds d undef).getD s undef=.bool b:=e
               rw[getD_set a.tmps hdz,if_neg hsd]at e'
               exact(hval e').elim
         · cases h
       · cases h
     · cases h
   · cases h
end
end Fw
namespace Fw
open Go
def forceA {R:Type}(a:A)(k:A→R):R:=
 match a with
 | .junk=>k .junk
 | .c s x=>k (.c s x)
 | .ptr j g o=>k (.ptr j g o)
 | .bor j g v t x o e=>k (.bor j g v t x o e)
 | .elp j g v o t i e r=>k (.elp j g v o t i e r)
 | .eptr t x o=>k (.eptr t x o)
 | .al j g e o=>k (.al j g e o)
 | .cond s g v w a=>k (.cond s g v w a)
 | .tup l=>k (.tup l)
 | .fn f=>k (.fn f)
 | .br j g v o n s y=>k (.br j g v o n s y)
 | .lz j g v o n l s=>k (.lz j g v o n l s)
 | .rb j g v t x o e=>k (.rb j g v t x o e)
 | .clo f j g=>k (.clo f j g)
theorem forceA_eq {R:Type}(a:A)(k:A→R):forceA a k=k a:=by cases a<;>rfl
def natF {R:Type}(n:Nat)(k:Nat→R):R:=
 match n with
 | 0=>k 0
 | 1=>k 1
 | 2=>k 2
 | 3=>k 3
 | 4=>k 4
 | 5=>k 5
 | 6=>k 6
 | m=>k m
theorem natF_eq {R:Type}(n:Nat)(k:Nat→R):natF n k=k n:=by
 unfold natF;split<;>rfl
def putK {R:Type}(ρ:Env)(w:Wr)(k:Env→R):R:=
 match w with
 | ⟨s,true,a⟩=>natF (ρ.get s).g fun g=>natF ((ρ.get s).ver+1) fun v=>forceA a fun a=>k ((s,⟨g,v,a⟩)::ρ)
 | ⟨s,false,a⟩=>natF ((ρ.get s).g+1) fun g=>forceA a fun a=>k ((s,⟨g,0,a⟩)::ρ)
theorem putK_eq {R:Type}(ρ:Env)(w:Wr)(k:Env→R):putK ρ w k=k (ρ.put w):=by
 obtain⟨s,kp,a⟩:=w
 cases kp<;>simp only[putK,forceA_eq,natF_eq,Env.put]<;>rfl
def putsK {R:Type}:Env→List Wr→(Env→R)→R
 | ρ,[],k=>k ρ
 | ρ,w::r,k=>putK ρ w fun ρ'=>putsK ρ' r k
theorem putsK_eq {R:Type}:∀ (ws:List Wr) (ρ:Env) (k:Env→R),putsK ρ ws k=k (ρ.puts ws)
 | [],_,_=>rfl
 | w::r,ρ,k=>by simp only[putsK,putK_eq];exact putsK_eq r (ρ.put w) k
def opdReads (ρ:Env):Operand→List Nat
 | .tmp t=>match (ρ.get t).a.tgt with | some k=>[t,k] | none=>[t]
 | _=>[]
def condReads:A→List Nat
 | .cond s _ _ _ _=>[s]
 | _=>[]
def isRefB:A→Bool
 | .c (.ref _) _=>true
 | _=>false
def noDst (t:Nat):List Oper→Bool
 | []=>true
 | p::r=>(match p.dst with | some d=>!(Nat.beq d t) | none=>true)&&noDst t r
def ptrMv (ops:List Oper)(ρ:Env)(o:Oper):Option Nat:=
 match o.guard,o.op with
 | none,.move (.tmp t)=>if (isRefB (ρ.get t).a&&noDst t ops)=true then some t else none
 | _,_=>none
def readsOf0 (ops:List Oper)(ρ:Env)(o:Oper):List Nat:=
 (match o.guard with
   | some (j,_)=>(match dstOf ops j with | some s=>s::condReads (ρ.get s).a | none=>[])
   | none=>[])++o.op.operands.toList.flatMap (opdReads ρ)
def readsOf (ops:List Oper)(ρ:Env)(o:Oper):List Nat:=
 match ptrMv ops ρ o with
 | some _=>[]
 | none=>readsOf0 ops ρ o
def prOf (ops:List Oper)(ρ:Env)(o:Oper):List Nat:=
 match ptrMv ops ρ o with
 | some t=>[t]
 | none=>[]
def bSl:List Wr→List Nat
 | []=>[]
 | w::r=>if (w.keep&&isRefB w.a)=true then bSl r else w.slot::bSl r
theorem bSl_bad:∀ (ws:List Wr) (w:Wr),w∈ws→(w.keep&&isRefB w.a)=false→w.slot∈bSl ws
 | x::r,w,h,hb=>by
   unfold bSl
   rcases List.mem_cons.1 h with rfl | h
   · rw[hb];simp
   · have:=bSl_bad r w h hb
     split<;>simp[this]
structure Tr where
 rd:List Nat
 pr:List Nat
 ws:List Wr
 cs:List Prop
def trace (C:Ctx)(ops:List Oper):List Oper→Env→Option (List Tr×Env)
 | [],ρ=>some ([],ρ)
 | o::r,ρ=>
   match step C ops ρ o with
   | some (ws,cs)=>putsK ρ ws fun ρ'=>
     match trace C ops r ρ' with
     | some (T,ρ2)=>some (⟨readsOf ops ρ o,prOf ops ρ o,ws,cs⟩::T,ρ2)
     | none=>none
   | none=>none
def condsOf:List Tr→Prop
 | []=>True
 | t::T=>(∀ p∈t.cs,p)∧condsOf T
def appK {R:Type}:List Prop→List Prop→(List Prop→R)→R
 | [],l,k=>k l
 | p::r,l,k=>appK r l fun l'=>k (p::l')
theorem appK_eq {R:Type}:∀ (a b:List Prop) (k:List Prop→R),appK a b k=k (a++b)
 | [],_,_=>rfl
 | p::r,b,k=>by simp only[appK,appK_eq r];rfl
def conj:List Prop→Prop
 | []=>True
 | [p]=>p
 | p::q::r=>p∧conj (q::r)
theorem conj_mem:∀ (l:List Prop),conj l→∀ p∈l,p
 | [],_,p,hp=>by simp at hp
 | [q],h,p,hp=>by rw[List.mem_singleton.1 hp];exact h
 | q::q'::r,h,p,hp=>by
   rcases List.mem_cons.1 hp with rfl | hp
   · exact h.1
   · exact conj_mem (q'::r) h.2 p hp
def runK {R:Type}(C:Ctx)(ops:List Oper):List Oper→Env→(List Prop→Env→Option R)→Option R
 | [],ρ,k=>k [] ρ
 | o::r,ρ,k=>
   match step C ops ρ o with
   | some (ws,cs)=>putsK ρ ws fun ρ'=>runK C ops r ρ' fun cs' ρ2=>appK cs cs' fun cs''=>k cs'' ρ2
   | none=>none
def condsL (T:List Tr):List Prop:=T.flatMap (·.cs)
theorem condsL_of (T:List Tr)(h:∀ p∈condsL T,p):condsOf T:=by
 induction T with
 | nil=>trivial
 | cons t T ih=>exact⟨fun p hp=>h p (by simp[condsL];exact .inl hp),ih fun p hp=>h p (by simp[condsL]at hp ⊢;exact .inr hp)⟩
theorem runK_ok {R:Type}{C:Ctx}{ops:List Oper}:∀ (l:List Oper) (ρ:Env) (k:List Prop→Env→Option R) (r:R),runK C ops l ρ k=some r→
   ∃ T ρ2,trace C ops l ρ=some (T,ρ2)∧k (condsL T) ρ2=some r
 | [],ρ,k,r,h=>⟨[],ρ,rfl,h⟩
 | o::l,ρ,k,r,h=>by
   simp only[runK]at h
   split at h
   · rename_i ws cs hs
     rw[putsK_eq]at h
     obtain⟨T,ρ2,h1,h2⟩:=runK_ok l _ _ r h
     rw[appK_eq]at h2
     refine⟨⟨readsOf ops ρ o,prOf ops ρ o,ws,cs⟩::T,ρ2,?_,h2⟩
     simp only[trace,hs,putsK_eq,h1]
   · cases h
section
variable {B:Nat} {X:List Nat} {w0:World} {M0:Mem} {P:Program} {C:Ctx}
def PinOk (pins:List Nat)(ops:Array Oper):Prop:=∀ o∈ops.toList,∀ t∈pins,o.dst≠some t
def Pinned (pins:List Nat)(a a':Array Value):Prop:=∀ t∈pins,vl a' t=vl a t
theorem pin_put {pins:List Nat}{ops:Array Oper}(hp:PinOk pins ops){i:Nat}{o:Oper}(hi:ops[i]?=some o){a a':Act}(h:∃ v,a'=a.put o.dst v){b:Array Value}(hb:Pinned pins b a.tmps):Pinned pins b a'.tmps:=by
 obtain⟨v,rfl⟩:=h
 intro t ht
 have hm:o∈ops.toList:=by
   have:=(Array.getElem?_eq_some_iff.1 hi)
   obtain⟨h1,h2⟩:=this
   rw[←h2];simp
 have hne:=hp o hm t ht
 rw[←hb t ht]
 cases hd:o.dst with
 | none=>rfl
 | some d=>
   have hdt:t≠d:=fun e=>hne (by rw[hd,e])
   show (a.tmps.setIfInBounds d v).getD t undef=a.tmps.getD t undef
   rw[Array.getD_eq_getD_getElem?,Array.getD_eq_getD_getElem?,Array.getElem?_setIfInBounds_ne (Ne.symm hdt)]
theorem seq_ok (hC:CtxOk P C)(hF:∀ f F,C.fn f=some F→Meets P f F)(hB:B≤w0.heap.size){ops:Array Oper}{Q:Exit→Act→World→Prop}{df:List Deferred}{ρ2:Env}
   {b:Array Value} (hp:PinOk C.pins ops) (hQ:∀ a' w',a'.defers=df→Pinned C.pins b a'.tmps→Sim C.n B X w0 M0 ρ2 a'.tmps w'→Q .normal a' w'):
   ∀ (l:List Oper) (k:Nat) (T:List Tr) (ρ:Env) (a:Act) (w:World),(∀ j,l[j]?=ops[k+j]?)→trace C ops.toList l ρ=some (T,ρ2)→condsOf T→
     a.defers=df→Pinned C.pins b a.tmps→Sim C.n B X w0 M0 ρ a.tmps w→wpOps P ops Q (List.range' k l.length) a w
 | [],k,T,ρ,a,w,_,h,_,hd,hb,hS=>by
   simp only[trace,Option.some.injEq,Prod.mk.injEq]at h
   obtain⟨_,rfl⟩:=h
   exact hQ a w hd hb hS
 | o::l,k,T,ρ,a,w,hl,h,hc,hd,hb,hS=>by
   obtain⟨M,ω,S⟩:=hS
   simp only[trace]at h
   split at h
   · rename_i ws cs hs
     rw[putsK_eq]at h
     split at h
     · rename_i T' ρ' ht
       simp only[Option.some.injEq,Prod.mk.injEq]at h
       obtain⟨rfl,rfl⟩:=h
       have h0:ops[k]?=some o:=by simpa using (hl 0).symm
       show wpOps P ops Q (List.range' k (l.length+1)) a w
       rw[List.range'_succ,wpOps_cons]
       refine step_ok hC hF S hB h0 hs hc.1 fun a' w' hd' hv hS'=>?_
       exact seq_ok hC hF hB hp hQ l (k+1) T' _ a' w' (fun j=>by have:=hl (j+1);simpa [Nat.add_assoc,Nat.add_comm 1 j] using this) ht hc.2 (hd'.trans hd) (pin_put hp h0 hv hb) hS'
     · cases h
   · cases h
theorem region_seq (hC:CtxOk P C)(hF:∀ f F,C.fn f=some F→Meets P f F)(hB:B≤w0.heap.size){id:Nat}{ops:Array Oper}{Q:Exit→Act→World→Prop}{ρ ρ2:Env}{T:List Tr}
   (h:trace C ops.toList ops.toList ρ=some (T,ρ2)) (hc:condsOf T) {a:Act} {w:World} (hS:Sim C.n B X w0 M0 ρ a.tmps w)
   (hp:PinOk C.pins ops) (hQ:∀ a' w',a'.defers=a.defers→Pinned C.pins a.tmps a'.tmps→Sim C.n B X w0 M0 ρ2 a'.tmps w'→Q .normal a' w'):(Code.region id ops false).wp P Q a w:=by
 refine wp_region ?_
 have:=seq_ok hC hF hB hp hQ ops.toList 0 T ρ a w (by simp) h hc rfl (fun _ _=>rfl) hS
 rw[List.range_eq_range']
 simpa using this
end
def maskOf (acc:List Nat)(o:Oper):Nat:=
 o.after.toList.foldl (fun s e=>if Region.binds .any e=true then s||| 2 ^ e.on||| acc.getD e.on 0 else s) 0
def masks:List Oper→List Nat→List Nat
 | [],acc=>acc
 | o::r,acc=>masks r (acc++[maskOf acc o])
def meets (a b:List Nat):Bool:=a.any fun x=>b.any fun y=>Nat.beq x y
abbrev RW:=List (List Nat×List Nat)
def rwOf (T:List Tr):RW:=T.map fun t=>(t.rd,t.ws.map (·.slot))
def rpOf (T:List Tr):RW:=T.map fun t=>(t.pr,bSl t.ws)
def noneB (r:Nat):List Nat→Bool
 | []=>true
 | s::l=>!(Nat.beq s r)&&noneB r l
def noneRW (r:Nat):RW→Bool
 | []=>true
 | y::l=>noneB r y.2&&noneRW r l
def ptrB1 (ρ:Env)(rp:RW):List Nat→Bool
 | []=>true
 | r::l=>(isRefB (ρ.get r).a&&noneRW r rp)&&ptrB1 ρ rp l
def ptrB2 (ρ:Env)(rp:RW):RW→Bool
 | []=>true
 | x::l=>ptrB1 ρ rp x.1&&ptrB2 ρ rp l
def ptrB (ρ:Env)(rp:RW):Bool:=ptrB2 ρ rp rp
theorem noneB_ok {r:Nat}:∀ {l:List Nat},noneB r l=true→r∉l
 | [],_,h=>by simp at h
 | s::l,h,hm=>by
   simp only[noneB,Bool.and_eq_true,Bool.not_eq_true']at h
   rcases List.mem_cons.1 hm with e | hm
   · rw[←e]at h
     have:Nat.beq r r=true:=Nat.beq_refl r
     rw[this]at h;cases h.1
   · exact noneB_ok h.2 hm
theorem noneRW_ok {r:Nat}:∀ {l:RW},noneRW r l=true→∀ y∈l,r∉y.2
 | y::l,h,z,hz=>by
   simp only[noneRW,Bool.and_eq_true]at h
   rcases List.mem_cons.1 hz with rfl | hz
   · exact noneB_ok h.1
   · exact noneRW_ok h.2 z hz
theorem ptrB1_ok {ρ:Env}{rp:RW}:∀ {l:List Nat},ptrB1 ρ rp l=true→∀ r∈l,isRefB (ρ.get r).a=true∧∀ y∈rp,r∉y.2
 | x::l,h,r,hr=>by
   simp only[ptrB1,Bool.and_eq_true]at h
   rcases List.mem_cons.1 hr with rfl | hr
   · exact⟨h.1.1,noneRW_ok h.1.2⟩
   · exact ptrB1_ok h.2 r hr
theorem ptrB2_ok {ρ:Env}{rp:RW}:∀ {l:RW},ptrB2 ρ rp l=true→∀ x∈l,∀ r∈x.1,isRefB (ρ.get r).a=true∧∀ y∈rp,r∉y.2
 | x::l,h,y,hy=>by
   simp only[ptrB2,Bool.and_eq_true]at h
   rcases List.mem_cons.1 hy with rfl | hy
   · exact ptrB1_ok h.1
   · exact ptrB2_ok h.2 y hy
def pairOk (ms:List Nat)(i j:Nat)(x y:List Nat×List Nat):Bool:=
 -- i before j in the text
 !(meets x.2 (y.1++y.2)||meets y.2 (x.1++x.2))||(ms.getD j 0).testBit i
def rowOk (ms:List Nat)(i:Nat)(x:List Nat×List Nat):Nat→RW→Bool
 | _,[]=>true
 | j,y::r=>pairOk ms i j x y&&rowOk ms i x (j+1) r
def allOk (ms:List Nat):Nat→RW→Bool
 | _,[]=>true
 | i,x::r=>rowOk ms i x (i+1) r&&allOk ms (i+1) r
def edgesOk:Nat→List Oper→Bool
 | _,[]=>true
 | i,o::r=>o.after.toList.all (fun e=>!Region.binds .any e||decide (e.on<i))&&edgesOk (i+1) r
def anyOk (ops:List Oper)(T:List Tr):Bool:=edgesOk 0 ops&&allOk (masks ops []) 0 (rwOf T)
end Fw
namespace Fw
open Go
def memb (x:Nat):List Nat→Bool
 | []=>false
 | y::r=>if y=x then true else memb x r
def filtK {R:Type}(ks:List Nat)(a:A)(k:A→R):R:=
 match a with
 | .c s x=>k (.c s x)
 | .ptr j g o=>if memb j ks=true then k (.ptr j g o)else k .junk
 | .bor j g v t x o e=>if memb j ks=true then k (.bor j g v t x o e)else k .junk
 | .elp j g v o t i e r=>if memb j ks=true then k (.elp j g v o t i e r)else k .junk
 | .al j g e o=>if memb j ks=true then k (.al j g e o)else k .junk
 | .clo f j g=>if memb j ks=true then k (.clo f j g)else k .junk
 | .rb j g v t x o e=>if memb j ks=true then k (.rb j g v t x o e)else k .junk
 | .eptr t x o=>k (.eptr t x o)
 | .tup l=>k (.tup l)
 | .fn f=>k (.fn f)
 | _=>k .junk
def filt (ks:List Nat)(a:A):A:=filtK ks a id
theorem filtK_eq {R:Type}(ks:List Nat)(a:A)(k:A→R):filtK ks a k=k (filt ks a):=by
 unfold filt filtK
 cases a<;>simp only[]<;>(try rfl)<;>split<;>rfl
def keepK {R:Type}(all:List Nat):List Nat→Env→(Env→R)→R
 | [],_,k=>k []
 | s::r,ρ,k=>natF (ρ.get s).g fun g=>natF (ρ.get s).ver fun v=>filtK all (ρ.get s).a fun a=>keepK all r ρ fun ρ'=>k ((s,⟨g,v,a⟩)::ρ')
def keepE (all:List Nat):List Nat→Env→Env
 | [],_=>[]
 | s::r,ρ=>(s,⟨(ρ.get s).g,(ρ.get s).ver,filt all (ρ.get s).a⟩)::keepE all r ρ
theorem keepK_eq {R:Type}(all:List Nat):∀ (l:List Nat) (ρ:Env) (k:Env→R),keepK all l ρ k=k (keepE all l ρ)
 | [],_,_=>rfl
 | s::r,ρ,k=>by simp only[keepK,natF_eq,filtK_eq,keepK_eq all r];rfl
theorem keepE_get (all:List Nat):∀ (l:List Nat) (ρ:Env) (t:Nat),(keepE all l ρ).get t=if t∈l then⟨(ρ.get t).g,(ρ.get t).ver,filt all (ρ.get t).a⟩else noEnt
 | [],_,_=>rfl
 | s::r,ρ,t=>by
   unfold keepE
   simp only[Env.get]
   by_cases h:s=t
   · subst h;simp
   · rw[if_neg h,keepE_get all r ρ t];simp[Ne.symm h]
theorem memb_mem {x:Nat}:∀ {l:List Nat},memb x l=true→x∈l
 | y::r,h=>by
   unfold memb at h
   split at h
   · rename_i e;simp[e]
   · simp[memb_mem h]
section
variable {n B:Nat} {X:List Nat} {w0:World} {M0:Mem} {ρ:Env} {tmps:Array Value} {w:World}
theorem keep_ok (ks:List Nat)(hS:Sim n B X w0 M0 ρ tmps w):Sim n B X w0 M0 (keepE ks ks ρ) tmps w:=by
 obtain⟨M,ω,S⟩:=hS
 have hg:=keepE_get ks ks ρ
 refine⟨M,ω,S.size,S.fr,S.m0,S.old,S.mem,S.dis,fun t ht=>?_,fun t ht=>?_⟩
 · rw[hg]
   split
   · simp only[S.high t ht];rfl
   · rfl
 · rw[hg]
   split
   · simp only
     have hr:=S.slots t ht
     generalize (ρ.get t).a=a at hr
     -- a reference that is kept points to a slot that is kept, and current is what was current
     have hent:∀ k,memb k ks=true→(((keepE ks ks ρ).get k).g=(ρ.get k).g∧((keepE ks ks ρ).get k).ver=(ρ.get k).ver∧((keepE ks ks ρ).get k).a=filt ks (ρ.get k).a):=by
       intro k hk
       rw[hg,if_pos (memb_mem hk)]
       exact⟨rfl,rfl,rfl⟩
     have hpl:∀ k cs,Place ω w k (ρ.get k).a (vl tmps k) cs→Place ω w k (filt ks (ρ.get k).a) (vl tmps k) cs:=by
       intro k cs h
       cases h':(ρ.get k).a<;>rw[h']at h<;>first | exact h | exact h.elim
     cases a with
     | junk=>exact trivial
     | c s x=>exact hr
     | ptr k g off=>
       by_cases hk:memb k ks=true
       · have ef:filt ks (.ptr k g off)=.ptr k g off:=by simp[filt,filtK,hk]
         rw[ef]
         obtain⟨e1,e2,e3⟩:=hent k hk
         obtain⟨h1,h2⟩:=hr
         exact⟨⟨h1.1,by rw[e1];exact h1.2⟩,fun h=>h2 (by rw[←e1];exact h)⟩
       · have ef:filt ks (.ptr k g off)=.junk:=by simp[filt,filtK,hk]
         rw[ef];exact trivial
     | clo f k g=>
       by_cases hk:memb k ks=true
       · have ef:filt ks (.clo f k g)=.clo f k g:=by simp[filt,filtK,hk]
         rw[ef]
         obtain⟨e1,e2,e3⟩:=hent k hk
         obtain⟨h1,h2⟩:=hr
         exact⟨⟨h1.1,by rw[e1];exact h1.2⟩,fun h=>h2 (by rw[←e1];exact h)⟩
       · have ef:filt ks (.clo f k g)=.junk:=by simp[filt,filtK,hk]
         rw[ef];exact trivial
     | bor k g ver u x org e=>
       by_cases hk:memb k ks=true
       · have ef:filt ks (.bor k g ver u x org e)=.bor k g ver u x org e:=by simp[filt,filtK,hk]
         rw[ef]
         obtain⟨e1,e2,e3⟩:=hent k hk
         obtain⟨h1,h2⟩:=hr
         refine⟨⟨h1.1,by rw[e1];exact h1.2.1,by rw[e1,e2];exact h1.2.2⟩,fun h=>?_⟩
         obtain⟨cs,g1,g2,g3,g4⟩:=h2 ⟨by rw[←e1];exact h.1,by rw[←e2];exact h.2⟩
         refine⟨cs,g1,g2,fun off ho=>?_,fun off et i eo he=>by
           obtain⟨pc,b,len,cap,row,q1,q⟩:=g4.1 off et i eo he
           exact⟨pc,b,len,cap,row,by rw[e3];exact hpl k pc q1,q⟩,by rw[e3];exact g4.2.place (hpl k)⟩
         obtain⟨pc,p1,p2⟩:=g3 off ho
         exact⟨pc,by rw[e3];exact hpl k pc p1,p2⟩
       · have ef:filt ks (.bor k g ver u x org e)=.junk:=by simp[filt,filtK,hk]
         rw[ef];exact trivial
     | elp k g ver off et i eo arr=>
       by_cases hk:memb k ks=true
       · have ef:filt ks (.elp k g ver off et i eo arr)=.elp k g ver off et i eo arr:=by simp[filt,filtK,hk]
         rw[ef]
         obtain⟨e1,e2,e3⟩:=hent k hk
         obtain⟨h1,h2⟩:=hr
         refine⟨⟨h1.1,by rw[e1];exact h1.2.1,by rw[e1,e2];exact h1.2.2⟩,fun h=>?_⟩
         have h3:=h2 ⟨by rw[←e1];exact h.1,by rw[←e2];exact h.2⟩
         unfold ElpR at *
         cases arr with
         | none=>
           simp only[Option.isSome_none,Bool.false_eq_true,if_false]at h3 ⊢
           obtain⟨pc,k1,k2⟩:=h3
           exact⟨pc,by rw[e3];exact hpl k pc k1,k2⟩
         | some m=>exact h3
       · have ef:filt ks (.elp k g ver off et i eo arr)=.junk:=by simp[filt,filtK,hk]
         rw[ef];exact trivial
     | al k g ag off=>
       by_cases hk:memb k ks=true
       · have ef:filt ks (.al k g ag off)=.al k g ag off:=by simp[filt,filtK,hk]
         rw[ef]
         obtain⟨e1,e2,e3⟩:=hent k hk
         obtain⟨h1,b,cs,h2,h3,h4⟩:=hr
         exact⟨⟨h1.1,by rw[e1];exact h1.2⟩,b,cs,h2,h3,fun h=>h4 (by rw[←e1];exact h)⟩
       · have ef:filt ks (.al k g ag off)=.junk:=by simp[filt,filtK,hk]
         rw[ef];exact trivial
     | eptr u x off=>exact hr
     | cond s g v b a=>exact trivial
     | tup l=>exact hr
     | fn f=>exact hr
     | br _ _ _ _ _ _ _=>exact trivial
     | lz _ _ _ _ _ _ _=>exact trivial
     | rb k g ver u x org e=>
       by_cases hk:memb k ks=true
       · have ef:filt ks (.rb k g ver u x org e)=.rb k g ver u x org e:=by simp[filt,filtK,hk]
         rw[ef]
         obtain⟨e1,e2,e3⟩:=hent k hk
         obtain⟨b,v0,cs,q1,q2,q3,q4,h1,h0,h2⟩:=hr
         refine⟨b,v0,cs,q1,q2,q3,q4,⟨h1.1,by rw[e1];exact h1.2.1,by rw[e1,e2];exact h1.2.2⟩,by rw[e1];exact h0,fun h=>?_⟩
         obtain⟨cs,g1,g2,g3,g4⟩:=h2 ⟨by rw[←e1];exact h.1,by rw[←e2];exact h.2⟩
         refine⟨cs,g1,g2,fun off ho=>?_,fun off et i eo he=>by
           obtain⟨pc,b,len,cap,row,q1,q⟩:=g4.1 off et i eo he
           exact⟨pc,b,len,cap,row,by rw[e3];exact hpl k pc q1,q⟩,by rw[e3];exact g4.2.place (hpl k)⟩
         obtain⟨pc,p1,p2⟩:=g3 off ho
         exact⟨pc,by rw[e3];exact hpl k pc p1,p2⟩
       · have ef:filt ks (.rb k g ver u x org e)=.junk:=by simp[filt,filtK,hk]
         rw[ef];exact trivial
   · exact trivial
def normA {R:Type}(a:A)(k:A→R):R:=
 match a with
 | .c (.nil e) _=>k (.c (.own (.pure e)) [])
 | .c s x=>k (.c s x)
 | .eptr t x o=>k (.eptr t x o)
 | .fn f=>k (.fn f)
 | _=>k .junk
def normE:List Nat→Env→Env
 | [],_=>[]
 | s::r,ρ=>(s,⟨0,0,normA (ρ.get s).a id⟩)::normE r ρ
theorem normE_get:∀ (l:List Nat) (ρ:Env) (t:Nat),(normE l ρ).get t=if t∈l then⟨0,0,normA (ρ.get t).a id⟩else noEnt
 | [],_,_=>rfl
 | s::r,ρ,t=>by
   unfold normE
   simp only[Env.get]
   by_cases h:s=t
   · subst h;simp
   · rw[if_neg h,normE_get r ρ t];simp[Ne.symm h]
theorem norm_ok (L:List Nat)(hS:Sim n B X w0 M0 ρ tmps w):Sim n B X w0 M0 (normE L ρ) tmps w:=by
 obtain⟨M,ω,S⟩:=hS
 have hg:=normE_get L ρ
 refine⟨M,ω,S.size,S.fr,S.m0,S.old,S.mem,S.dis,fun t ht=>?_,fun t ht=>?_⟩
 · rw[hg]
   split
   · simp only[S.high t ht];rfl
   · rfl
 · rw[hg]
   split
   · simp only
     have hr:=S.slots t ht
     generalize (ρ.get t).a=a at hr
     cases a with
     | c s x=>
       cases s with
       | nil e=>
         obtain⟨cs,bs,h1,⟨h2,h3,h4⟩,h5,h6⟩:=hr
         exact⟨cs,bs,h1,.inl ⟨h2,h3,rfl⟩,h5,h6⟩
       | _=>exact hr
     | eptr u x off=>exact hr
     | fn f=>exact hr
     | _=>exact trivial
   · exact trivial
end
structure Cfg where
 P:Program
 C:Ctx
 B:Nat
 X:List Nat
 w0:World
 M0:Mem
 pv:Vl
structure Cfg.Ok (G:Cfg):Prop where
 ctx:CtxOk G.P G.C
 fn:∀ f F,G.C.fn f=some F→Meets G.P f F
 base:G.B≤G.w0.heap.size
def Cfg.Sim (G:Cfg)(ρ:Env)(tmps:Array Value)(w:World):Prop:=Fw.Sim G.C.n G.B G.X G.w0 G.M0 ρ tmps w∧∀ t∈G.C.pins,vl tmps t=G.pv t
def Vc (G:Cfg)(c:Code)(ρ:Env)(K:Exit→Env→Prop):Prop:=
 ∀ (a:Act) (w:World),a.defers=[]→G.Sim ρ a.tmps w→c.wp G.P (fun e a' w'=>∃ ρ',K e ρ'∧a'.defers=[]∧G.Sim ρ' a'.tmps w') a w
section
variable {G:Cfg} {ρ:Env} {K:Exit→Env→Prop}
theorem Vc.mono {c:Code}{K':Exit→Env→Prop}(h:Vc G c ρ K)(hk:∀ e ρ',K e ρ'→K' e ρ'):Vc G c ρ K':=
 fun a w hd hS=>wp_mono (h a w hd hS) fun e _ _ ⟨ρ',h1,h2⟩=>⟨ρ',hk e ρ' h1,h2⟩
theorem Vs (h:K .normal ρ):Vc G .skip ρ K:=fun _ _ hd hS=>wp_skip ⟨ρ,h,hd,hS⟩
theorem Vt (h:K .ret ρ):Vc G .ret ρ K:=fun _ _ hd hS=>wp_ret ⟨ρ,h,hd,hS⟩
theorem Vx {id:Nat}(h:K (.exit id) ρ):Vc G (.exit id) ρ K:=fun _ _ hd hS=>wp_exit ⟨ρ,h,hd,hS⟩
def seqK (G:Cfg)(y:Code)(K:Exit→Env→Prop):Exit→Env→Prop
 | .normal,ρ=>Vc G y ρ K
 | e,ρ=>K e ρ
theorem Vq {x y:Code}(h:Vc G x ρ (seqK G y K)):Vc G (.seq x y) ρ K:=fun a w hd hS=>
 wp_seq (wp_mono (h a w hd hS) fun e a' w' ⟨ρ',h1,h2,h3⟩=>by
   cases e<;>first | exact h1 a' w' h2 h3 | exact⟨ρ',h1,h2,h3⟩)
def blockK (id:Nat)(K:Exit→Env→Prop):Exit→Env→Prop
 | .exit i,ρ=>if i=id then K .normal ρ else K (.exit i) ρ
 | e,ρ=>K e ρ
theorem Vb {id:Nat}{c:Code}(h:Vc G c ρ (blockK id K)):Vc G (.block id c) ρ K:=fun a w hd hS=>
 wp_block (wp_mono (h a w hd hS) fun e a' w' ⟨ρ',h1,h2,h3⟩=>by
   cases e with
   | exit i=>
     show if i=id then _ else _
     have h1:if i=id then K .normal ρ' else K (.exit i) ρ':=h1
     split
     · rename_i e;rw[if_pos e]at h1;exact⟨ρ',h1,h2,h3⟩
     · rename_i e;rw[if_neg e]at h1;exact⟨ρ',h1,h2,h3⟩
   | _=>exact⟨ρ',h1,h2,h3⟩)
def boolOf (ρ:Env)(c:Operand):Option Bool:=
 match c with
 | .tmp t=>match (ρ.get t).a with | .c (.pure .bool) b=>some b | _=>none
 | _=>none
theorem Vk {c:Operand}{x y:Code}{b:Bool}(hc:boolOf ρ c=some b)(ht:b=true→Vc G x ρ K)(hf:b=false→Vc G y ρ K):Vc G (.cond c x y) ρ K:=by
 intro a w hd hS
 obtain⟨⟨M,ω,S⟩,hpn⟩:=hS
 have hv:a.eval c=.bool b:=by
   unfold boolOf at hc
   split at hc
   · rename_i t
     split at hc
     · rename_i b' hb
       simp only[Option.some.injEq]at hc
       subst hc
       have htn:t<G.C.n:=by
         rcases Nat.lt_or_ge t G.C.n with h | h
         · exact h
         · rw[S.high t h]at hb;cases hb
       have hr:=S.slots t htn
       rw[hb]at hr
       obtain⟨cs,bs,k1,⟨k2,k3⟩,_⟩:=hr
       have e1:cs=[a.tmps.getD t undef]:=k1
       have e2:cs=[.bool _]:=k3
       rw[e1]at e2
       exact(List.cons.inj e2).1
     · cases hc
   · cases hc
 exact wp_cond_split hv (fun h=>ht h a w hd ⟨⟨M,ω,S⟩,hpn⟩) (fun h=>hf h a w hd ⟨⟨M,ω,S⟩,hpn⟩)
def pinB (pins:List Nat)(ops:List Oper):Bool:=
 match pins with
 | []=>true
 | p::r=>ops.all fun o=>match o.dst with | some d=>!(memb d (p::r)) | none=>true
theorem pinB_ok {pins:List Nat}{ops:Array Oper}(h:pinB pins ops.toList=true):PinOk pins ops:=by
 intro o ho t ht hd
 unfold pinB at h
 split at h
 · simp at ht
 · rename_i p r
   have:=List.all_eq_true.1 h o ho
   rw[hd]at this
   simp only[Bool.not_eq_true']at this
   have hm:memb t (p::r)=true:=by
     have key:∀ (l:List Nat),t∈l→memb t l=true:=by
       intro l
       induction l with
       | nil=>intro h;simp at h
       | cons y l ih=>
         intro h
         unfold memb
         split
         · rfl
         · rename_i hne
           rcases List.mem_cons.1 h with h | h
           · exact(hne h.symm).elim
           · exact ih h
     exact key _ ht
   rw[hm]at this;cases this
def regK (C:Ctx)(ops:List Oper)(ρ:Env):Option (List Prop×Env):=
 if pinB C.pins ops=true then runK C ops ops ρ fun cs ρ2=>keepK C.keep C.keep ρ2 (fun ρ'=>some (cs,ρ'))else none
theorem Vr (hG:G.Ok){id:Nat}{ops:Array Oper}{cs:List Prop}{ρ2:Env}(h:regK G.C ops.toList ρ=some (cs,ρ2))(hc:conj cs)(hK:K .normal ρ2):
   Vc G (.region id ops false) ρ K:=by
 intro a w hd hS
 unfold regK at h
 split at h
 case isFalse=>cases h
 rename_i hpin
 obtain⟨T,ρ',ht,h2⟩:=runK_ok _ _ _ _ h
 rw[keepK_eq]at h2
 simp only[Option.some.injEq,Prod.mk.injEq]at h2
 obtain⟨rfl,rfl⟩:=h2
 exact region_seq hG.ctx hG.fn hG.base ht (condsL_of T (conj_mem _ hc)) hS.1 (pinB_ok hpin) fun a' w' hd' hpn hS'=>⟨_,hK,hd'.trans hd,keep_ok _ hS',fun t ht=>(hpn t ht).trans (hS.2 t ht)⟩
theorem Vn (hG:G.Ok){id:Nat}{ops:Array Oper}{cs:List Prop}{ρ2:Env}(h:regK G.C ops.toList ρ=some (cs,ρ2))(hK:K .normal ρ2)(hc:conj cs:=by trivial):Vc G (.region id ops false) ρ K:=Vr hG h hc hK
theorem Vm (hG:G.Ok){id:Nat}{ops:Array Oper}{cs:List Prop}{ρ2:Env}{y:Code}(h:regK G.C ops.toList ρ=some (cs,ρ2))(hK:seqK G y K .normal ρ2)(hc:conj cs:=by trivial):Vc G (.seq (.region id ops false) y) ρ K:=Vq (Vr hG h hc hK)
theorem oTr {p:Prop} [Decidable p](h:decide p=true):p:=of_decide_eq_true h
theorem oFa {p:Prop} [Decidable p](h:decide p=false):¬p:=of_decide_eq_false h
theorem Vc.loop {c:Code}{V:Type}(L:List Nat)(σ:V→Env)(I:V→Prop)(μ:V→Nat)(h0:∃ v,I v∧normE L ρ=σ v)
   (round:∀ v,I v→Vc G c (σ v) (fun e ρ'=>match e with
     | .normal=>∃ v',I v'∧μ v'<μ v∧normE L ρ'=σ v'
     | e=>K e ρ')):Vc G (.loop c) ρ K:=by
 intro a w hd hS
 obtain⟨v0,hI0,e0⟩:=h0
 have hS0:G.Sim (σ v0) a.tmps w:=by rw[←e0];exact⟨norm_ok L hS.1,hS.2⟩
 have key:∀ (m:Nat) (v:V) (a:Act) (w:World),μ v=m→I v→a.defers=[]→G.Sim (σ v) a.tmps w→
     ∀ (b:Frame) (k:List Item) (cs:List Frame),∃ e a' w',(∃ ρ',K e ρ'∧a'.defers=[]∧G.Sim ρ' a'.tmps w')∧
       Arrives G.P (lone (b.at a (.code c::.inLoop c::k)) cs w) b k cs e a' w':=by
   intro m
   induction m using Nat.strongRecOn with
   | _ m ih=>
     intro v a w hm hI hd hS b k cs
     obtain⟨e,a₁,w₁,⟨ρ',hq,hd',hS'⟩,harr⟩:=round v hI a w hd hS b (.inLoop c::k) cs
     cases e with
     | normal=>
       obtain⟨v',hI',hlt,he⟩:=hq
       have hS2:G.Sim (σ v') a₁.tmps w₁:=by rw[←he];exact⟨norm_ok L hS'.1,hS'.2⟩
       obtain⟨e₂,a₂,w₂,hq₂,harr₂⟩:=ih (μ v') (hm ▸ hlt) v' a₁ w₁ rfl hI' hd' hS2 b k cs
       exact⟨e₂,a₂,w₂,hq₂,.of_steps (Steps.trans harr (.one step_inLoop)) harr₂⟩
     | exit id=>exact⟨_,a₁,w₁,⟨ρ',hq,hd',hS'⟩,.pass (x:=.inLoop c) rfl (fun _ _=>.inl (by simp)) harr⟩
     | goto l=>exact⟨_,a₁,w₁,⟨ρ',hq,hd',hS'⟩,.pass (x:=.inLoop c) rfl (fun _ _=>.inl (by simp)) harr⟩
     | ret=>exact⟨_,a₁,w₁,⟨ρ',hq,hd',hS'⟩,.pass (x:=.inLoop c) rfl (fun _ _=>.inl (by simp)) harr⟩
     | panic ch=>exact⟨_,a₁,w₁,⟨ρ',hq,hd',hS'⟩,.pass (x:=.inLoop c) rfl (fun _ _=>.inl (by simp)) harr⟩
     | outgrown=>exact⟨_,a₁,w₁,⟨ρ',hq,hd',hS'⟩,.pass (x:=.inLoop c) rfl (fun _ _=>.inl (by simp)) harr⟩
 intro b k cs
 obtain⟨e,a',w',hq,harr⟩:=key _ v0 a w rfl hI0 hd hS0 b k cs
 exact⟨e,a',w',hq,.of_steps (.one step_loop) harr⟩
end
end Fw
namespace Fw
open Go
def emptyK:(a b:Sh)→El a.ty→(El b.ty→Prop)→Prop
 | .own e,.own e',[],k=>if e.ty=e'.ty∧e.noref=true∧e'.noref=true then k []else False
 | _,_,_,_=>False
def conv (a b:Sh)(y:El a.ty)(k:El b.ty→Prop):Prop:=if h:upB a b=true then castK (upB_ty a b h) k y else emptyK a b y k
theorem emptyK_ok {M:Mem}{R:RowFn}(a b:Sh)(y:El a.ty)(k:El b.ty→Prop)(h:emptyK a b y k):∃ z,k z∧a.ag=b.ag∧∀ cs bs,EncO M R a cs y bs→EncO M R b cs z bs:=by
 unfold emptyK at h
 split at h
 · rename_i e e' k
   split at h
   · rename_i hc
     obtain⟨c1,c2,c3⟩:=hc
     refine⟨[],h,rfl,fun cs bs he=>?_⟩
     rcases he with⟨h1,h2,_⟩ | ⟨b,cap,row,bss,h1,h2,h3,h4,h5,h6,h7⟩
     · exact .inl ⟨h1,h2,rfl⟩
     · exact .inr ⟨b,cap,row,bss,h1,h2,h3,h4,h5,by rw[h6,Sh.size_ty e c2,Sh.size_ty e' c3,c1],h7⟩
   · exact h.elim
 · exact h.elim
theorem conv_ok {M:Mem}{R:RowFn}(a b:Sh)(y:El a.ty)(k:El b.ty→Prop)(h:conv a b y k):∃ z,k z∧a.ag=b.ag∧∀ cs bs,EncO M R a cs y bs→EncO M R b cs z bs:=by
 unfold conv at h
 split at h
 · rename_i hu
   obtain⟨z,h1,h2⟩:=castK_heq (upB_ty a b hu) k y
   rw[h1]at h
   exact⟨z,h,upB_ag a b hu,fun cs bs he=>upB_enc a b hu y z cs bs h2 he⟩
 · exact emptyK_ok a b y k h
def resOf {R:Type}(C:Ctx)(ρ:Env)(r:ResultVar)(d:R)(k:(s:Sh)→El s.ty→R):R:=
 match r with
 | .tmp t=>match (ρ.get t).a with | .c s x=>k s x | _=>d
 | .cell t u=>match C.ty u with
   | some T=>match (ρ.get t).a with | .c (.ref s) x=>if s.ty=T∧s.noref=true then k s x else d | _=>d
   | none=>d
def slotOf:ResultVar→Nat
 | .tmp t=>t
 | .cell t _=>t
def DoneR (C:Ctx):(ss:List Sh)→Vals (ss.map Sh.ty)→List ResultVar→Env→Prop
 | [],_,[],_=>True
 | s::ss,x,r::rs,ρ=>resOf C ρ r False (fun s' y=>conv s' s y (fun z=>z=x.1))∧DoneR C ss x.2 rs ρ
 | _,_,_,_=>False
def distinct:List Nat→Bool
 | []=>true
 | x::r=>!(memb x r)&&distinct r
def doneK (F:Fun)(C:Ctx)(rs:List ResultVar)(xs:Vals F.args):Exit→Env→Prop
 | .normal,ρ=>DoneR C F.res (F.run xs) rs ρ
 | .ret,ρ=>DoneR C F.res (F.run xs) rs ρ
 | _,_=>False
def argEnv:Nat→(ts:List Ty)→Vals ts→Env
 | _,[],_=>[]
 | i,t::ts,x=>(i,⟨0,0,.c (.pure t) x.1⟩)::argEnv (i+1) ts x.2
def WfAll:(ts:List Ty)→Vals ts→Prop
 | [],_=>True
 | t::ts,x=>Wf t x.1∧WfAll ts x.2
theorem argEnv_get (M:Mem):∀ (ts:List Ty) (xs:Vals ts) (vs:List Value) (i t:Nat),ArgsR M ts vs xs→
   (∃ (T:Ty) (x:El T) (v:Value) (cs:List Value),i≤t∧vs[t-i]?=some v∧(argEnv i ts xs).get t=⟨0,0,.c (.pure T) x⟩∧ValC T.ag v cs∧Enc M T cs x)∨
   ((t<i∨i+ts.length≤t)∧(argEnv i ts xs).get t=noEnt)
 | [],_,_,i,t,_=>.inr ⟨by simp;omega,rfl⟩
 | T::ts,xs,[],i,t,h=>h.elim
 | T::ts,xs,v::vs,i,t,⟨⟨cs,h1,h2⟩,h3⟩=>by
   unfold argEnv
   simp only[Env.get]
   by_cases h:i=t
   · subst h
     exact .inl ⟨T,xs.1,v,cs,Nat.le_refl _,by simp,by simp,h1,h2⟩
   · rw[if_neg h]
     rcases argEnv_get M ts xs.2 vs (i+1) t h3 with⟨T',x',v',cs',k1,k2,k3,k4,k5⟩ | ⟨k1,k2⟩
     · exact .inl ⟨T',x',v',cs',by omega,by rw[show t-i=(t-(i+1))+1 by omega];simpa using k2,k3,k4,k5⟩
     · exact .inr ⟨by simp;omega,k2⟩
theorem argsR_wf {M:Mem}:∀ (ts:List Ty) (vs:List Value) (xs:Vals ts),ArgsR M ts vs xs→WfAll ts xs
 | [],[],_,_=>trivial
 | [],_::_,_,h=>h.elim
 | _::_,[],_,h=>h.elim
 | t::ts,_::vs,xs,⟨⟨cs,_,h2⟩,h3⟩=>⟨Enc.wf t cs xs.1 h2,argsR_wf ts vs xs.2 h3⟩
theorem argsR_len {M:Mem}:∀ (ts:List Ty) (vs:List Value) (xs:Vals ts),ArgsR M ts vs xs→vs.length=ts.length
 | [],[],_,_=>rfl
 | [],_::_,_,h=>h.elim
 | _::_,[],_,h=>h.elim
 | t::ts,v::vs,xs,⟨_,h3⟩=>by simp[argsR_len ts vs xs.2 h3]
theorem memb_of_mem {x:Nat}:∀ {l:List Nat},x∈l→memb x l=true
 | y::r,h=>by
   unfold memb
   split
   · rfl
   · rename_i hne
     rcases List.mem_cons.1 h with h | h
     · exact(hne h.symm).elim
     · exact memb_of_mem h
section
variable {n B:Nat} {X:List Nat} {w0:World} {M0 M:Mem} {ω:Own} {ρ:Env} {tmps:Array Value} {w:World} {P:Program} {C:Ctx}
theorem resOf_ok (hC:CtxOk P C)(S:St0 n B X w0 M0 M ω ρ tmps w){r:ResultVar}{Q:(s:Sh)→El s.ty→Prop}(h:resOf C ρ r False Q):
   ∃ v s x cs bs,((match r with | .tmp t=>pure (tmps.getD t undef) | .cell a t=>do loadVar t (←asAddr (tmps.getD a undef)):Sem Value)).run P w=.ok v w∧Q s x∧ValC s.ag v cs∧
     EncO M (rows w) s cs x bs∧bs.Nodup∧∀ b∈bs,ω b=some (slotOf r):=by
 cases r with
 | tmp t=>
   simp only[resOf]at h
   split at h
   · rename_i s x ha
     have ht:t<n:=by
       rcases Nat.lt_or_ge t n with h' | h'
       · exact h'
       · rw[S.high t h']at ha;cases ha
     have hr:=S.slots t ht
     rw[ha]at hr
     obtain⟨cs,bs,h1,h2,h3,h4⟩:=hr
     exact⟨_,s,x,cs,bs,rfl,h,h1,h2,h3,h4⟩
   · exact h.elim
 | cell t u=>
   simp only[resOf]at h
   split at h
   · rename_i T hT
     split at h
     · rename_i s x ha
       split at h
       · rename_i hc
         have ht:t<n:=by
           rcases Nat.lt_or_ge t n with h' | h'
           · exact h'
           · rw[S.high t h']at ha;cases ha
         obtain⟨b,row,bss,k1,k2,k3,k4,k5⟩:=ref_ptr S ht ha
         have hl:=EncO.length s row x bss k3
         have hsz:s.size=T.size:=by rw[Sh.size_ty s hc.2,hc.1]
         have hv:=mkVal_ok (ag:=T.ag) (cs:=row) (fun hg=>by rw[hl,hsz];exact Ty.size_sc T hg)
         rw[List.nodup_cons]at k4
         refine⟨mkVal T.ag row,s,x,row,bss,?_,h,by rw[Sh.ag_ty s hc.2,hc.1];exact hv,k3,k4.2,fun i hi=>k5 i (by simp[hi])⟩
         have k1':tmps.getD t undef=.pointer (some ⟨b,0,none⟩):=k1
         simp only[k1',asAddr,Sem.run_bind,Sem.run_pure,Result.andThen_ok]
         exact run_loadVar (hC.ty u T hT) (by rw[hl,hsz]) (rows_full k2) hv
       · exact h.elim
     · exact h.elim
   · exact h.elim
theorem run_mapM_res (hC:CtxOk P C)(S:St0 n B X w0 M0 M ω ρ tmps w):∀ (ss:List Sh) (xs:Vals (ss.map Sh.ty)) (rs:List ResultVar),DoneR C ss xs rs ρ→distinct (rs.map slotOf)=true→
   ∃ vs bs,(rs.mapM (fun r=>(match r with | .tmp t=>pure (tmps.getD t undef) | .cell a t=>do loadVar t (←asAddr (tmps.getD a undef)):Sem Value))).run P w=.ok vs w∧
     TupR M (rows w) (resK ss xs) vs bs∧bs.Nodup∧(∀ b∈bs,∃ r∈rs,ω b=some (slotOf r))
 | [],_,[],_,_=>⟨[],[],rfl,rfl,List.nodup_nil,by simp⟩
 | [],_,_::_,h,_=>h.elim
 | _::_,_,[],h,_=>h.elim
 | s::ss,xs,r::rs,⟨h1,h2⟩,hd=>by
   obtain⟨v,s',y,cs,bs,e1,e2,e3,e4,e5,e6⟩:=resOf_ok hC S h1
   obtain⟨z,rfl,hag,hz⟩:=conv_ok (M:=M) (R:=rows w) s' s y _ e2
   simp only[List.map_cons,distinct,Bool.and_eq_true,Bool.not_eq_true']at hd
   obtain⟨vs,bs2,g1,g2,g3,g4⟩:=run_mapM_res hC S ss xs.2 rs h2 hd.2
   refine⟨v::vs,bs++bs2,?_,⟨cs,bs,bs2,by rw[←hag];exact e3,hz cs bs e4,rfl,g2⟩,?_,?_⟩
   · rw[List.mapM_cons]
     simp only[Sem.run_bind,e1,Result.andThen_ok,g1,Sem.run_pure]
   · rw[List.nodup_append]
     refine⟨e5,g3,fun a ha b hb hab=>?_⟩
     subst hab
     obtain⟨r',hr',ho⟩:=g4 a hb
     have h1:=e6 a ha
     rw[h1]at ho
     simp only[Option.some.injEq]at ho
     have:memb (slotOf r) (rs.map slotOf)=true:=memb_of_mem (List.mem_map.2 ⟨r',hr',ho.symm⟩)
     rw[this]at hd
     exact absurd hd.1 (by simp)
   · intro b hb
     rcases List.mem_append.1 hb with hb | hb
     · exact⟨r,by simp,e6 b hb⟩
     · obtain⟨r',h3,h4⟩:=g4 b hb
       exact⟨r',by simp[h3],h4⟩
end
theorem tupR_len {M:Mem}{R:RowFn}:∀ (ss:List Sh) (x:Vals (ss.map Sh.ty)) (vs:List Value) (bs:List Nat),TupR M R (resK ss x) vs bs→vs.length=ss.length
 | [],_,[],_,_=>rfl
 | [],_,_::_,_,h=>h.elim
 | s::ss,x,v::vs,bs,⟨_,_,b2,_,_,_,h4⟩=>by simp[tupR_len ss x.2 vs b2 h4]
 | _::_,_,[],_,h=>h.elim
theorem resR_of_tup {M:Mem}{R:RowFn}(ss:List Sh)(x:Vals (ss.map Sh.ty))(vs:List Value)(bs:List Nat)(h:TupR M R (resK ss x) vs bs):
   ResR M R ss (if h:vs.toArray.size=1 then vs.toArray[0]else .tuple vs.toArray) x bs:=by
 have hl:=tupR_len ss x vs bs h
 match ss,x,vs,h,hl with
 | [],x,[],h,_=>exact⟨[],rfl,h⟩
 | [s],x,[v],⟨cs,b1,b2,h1,h2,h3,h4⟩,_=>
   have:b2=[]:=h4
   subst this
   rw[List.append_nil]at h3
   subst h3
   exact⟨cs,h1,h2⟩
 | s::s'::ss,x,v::v'::vs,h,_=>exact⟨v::v'::vs,by simp,h⟩
theorem mZ {P:Program}{C:Ctx}{f:Nat}{F:Fun}{fn:Func}{code:Code}(hC:CtxOk P C)(hF:∀ f F,C.fn f=some F→Meets P f F)
   (h1 : P.funcs[f]? = some fn) (h2 : (fn.name == "runtime.NumGoroutine") = false) (hb : fn.body = some code) (hn : fn.ntmps = C.n) (ha : F.args.length ≤ C.n)
   (hd:distinct (fn.results.toList.map slotOf)=true)
   (h:∀ xs:Vals F.args,WfAll F.args xs→F.pre xs→∀ G:Cfg,G.Ok→G.P=P→G.C=C→Vc G code (argEnv 0 F.args xs) (doneK F C fn.results.toList xs)):Meets P f F:=by
 refine⟨⟨fn,h1,h2,by rw[hb];rfl⟩,fun w M vs xs hM hargs hpre=>?_⟩
 have hlen:=argsR_len _ _ _ hargs
 refine calls_of_wp h1 hb ?_
 have hvc:=h xs (argsR_wf _ _ _ hargs) hpre ⟨P,C,w.heap.size,[],w,M,vl (vs.toArray++Array.replicate (fn.ntmps-vs.toArray.size) undef)⟩ ⟨hC,hF,Nat.le_refl _⟩ rfl rfl
 have hsz:(vs.toArray++Array.replicate (fn.ntmps-vs.toArray.size) undef).size=C.n:=by simp[hn,hlen];omega
 have hget:∀ t,(vs.toArray++Array.replicate (fn.ntmps-vs.toArray.size) undef).getD t undef=vs.getD t undef:=by
   intro t
   rw[Array.getD_eq_getD_getElem?,List.getD_eq_getElem?_getD]
   rw[Array.getElem?_append]
   split
   · simp
   · rename_i hlt
     have hge:vs.length≤t:=by simpa using hlt
     rw[List.getElem?_eq_none hge]
     rw[Array.getElem?_replicate]
     split<;>rfl
 have hS:Sim C.n w.heap.size [] w M (argEnv 0 F.args xs) (vs.toArray++Array.replicate (fn.ntmps-vs.toArray.size) undef) w:=by
   refine⟨M,fun _=>none,hsz,Fr.refl _ _ _,Mem.le_refl _,fun _ _ _ _=>rfl,hM,by simp,fun t ht=>?_,fun t ht=>?_⟩
   · rcases argEnv_get M F.args xs vs 0 t hargs with⟨T,x,v,cs,k1,k2,k3,k4,k5⟩ | ⟨_,k2⟩
     · have:=(List.getElem?_eq_some_iff.1 k2).1;omega
     · rw[k2];rfl
   · rcases argEnv_get M F.args xs vs 0 t hargs with⟨T,x,v,cs,k1,k2,k3,k4,k5⟩ | ⟨_,k2⟩
     · rw[k3,hget]
       have:vs.getD t undef=v:=by rw[List.getD_eq_getElem?_getD];simp at k2;rw[k2];rfl
       rw[this]
       exact⟨cs,[],k4,⟨rfl,k5⟩,List.nodup_nil,by simp⟩
     · rw[k2];exact trivial
 refine wp_mono (hvc _ w rfl ⟨hS,fun _ _=>rfl⟩) ?_
 rintro e a' w' ⟨ρ',hK,hd',⟨M',ω',S⟩,_⟩
 have fin:DoneR C F.res (F.run xs) fn.results.toList ρ'→a'.defers=[]∧∃ v,(results fn a'.tmps).run P w'=.ok v w'∧
     (∃ v' M' bs,Ending.returned v=.returned v'∧Fr w.heap.size [] w w'∧After w M w' M'∧ResR M' (rows w') F.res v' (F.run xs) bs∧bs.Nodup∧∀ b∈bs,w.heap.size≤b∧∀ o,M' b o=none):=by
   intro hD
   obtain⟨rvs,bs,g1,g2,g3,g4⟩:=run_mapM_res hC S F.res (F.run xs) fn.results.toList hD hd
   have hmap:(fn.results.mapM (fun r=>(match r with | .tmp t=>pure (a'.tmps.getD t undef) | .cell a t=>do loadVar t (←asAddr (a'.tmps.getD a undef)):Sem Value))).run P w'=.ok rvs.toArray w':=by
     rw[Array.mapM_eq_mapM_toList,Sem.run_map,g1];rfl
   have hbs:∀ b∈bs,w.heap.size≤b∧∀ o,M' b o=none:=fun b hb=>by
     obtain⟨r,_,ho⟩:=g4 b hb
     obtain⟨k1,_,k3⟩:=S.dis b _ ho
     exact⟨by simpa using k1,k3⟩
   have haf:After w M w' M':=⟨S.m0,S.mem,fun b o hb=>S.old b o hb (by simp)⟩
   have hrun:(results fn a'.tmps).run P w'=.ok (if h:rvs.toArray.size=1 then rvs.toArray[0]else .tuple rvs.toArray) w':=by
     unfold results
     rw[Sem.run_bind]
     refine(congrArg (fun x=>(Sem.run P x w').andThen _) (?_:_=fn.results.mapM (fun r=>(match r with | .tmp t=>pure (a'.tmps.getD t undef) | .cell a t=>do loadVar t (←asAddr (a'.tmps.getD a undef)):Sem Value)))).trans ?_
     · congr 1
     · rw[hmap];rfl
   refine⟨hd',_,hrun,_,M',bs,rfl,S.fr,haf,?_,g3,hbs⟩
   exact resR_of_tup _ _ _ _ g2
 cases e with
 | normal=>exact fin hK
 | ret=>exact fin hK
 | _=>exact hK.elim
def argEnvT (F:TFun)(x:El F.s.ty)(xs:Vals F.args):Env:=(0,⟨0,0,.c F.s x⟩)::argEnv 1 F.args xs
def doneT (F:TFun)(C:Ctx)(r:ResultVar)(x:El F.s.ty)(xs:Vals F.args):Exit→Env→Prop
 | .normal,ρ=>DoneR C [F.res] (F.run x xs,()) [r] ρ
 | .ret,ρ=>DoneR C [F.res] (F.run x xs,()) [r] ρ
 | _,_=>False
theorem meetsT_of_vc {P:Program}{C:Ctx}{f:Nat}{F:TFun}{fn:Func}{code:Code}{r:ResultVar}(hC:CtxOk P C)(hF:∀ f F,C.fn f=some F→Meets P f F)
   (h1 : P.funcs[f]? = some fn) (h2 : (fn.name == "runtime.NumGoroutine") = false) (hb : fn.body = some code) (hn : fn.ntmps = C.n) (ha : F.args.length + 1 ≤ C.n)
   (hr:fn.results=#[r]) (hcl:F.s.closed=true) (hnr:F.s.noref=true) (hrc:F.res.closed=true)
   (h:∀ (x:El F.s.ty) (xs:Vals F.args),Wf F.s.ty x→WfAll F.args xs→F.pre x xs→∀ G:Cfg,G.Ok→G.P=P→G.C=C→Vc G code (argEnvT F x xs) (doneT F C r x xs)) (hp:C.pins=[]):MeetsT P f F:=by
 refine⟨⟨fn,h1,h2,by rw[hb];rfl⟩,hcl,hnr,hrc,fun w M v cs x bs vs xs hM hMb hv he hnd hargs hpre=>?_⟩
 refine calls_of_wp h1 hb ?_
 have hlen:=argsR_len _ _ _ hargs
 have hvc:=h x xs (EncO.wf _ _ _ _ hnr he) (argsR_wf _ _ _ hargs) hpre ⟨P,C,w.heap.size,bs,w,M,fun _=>undef⟩ ⟨hC,hF,Nat.le_refl _⟩ rfl rfl
 have hsz:((v::vs).toArray++Array.replicate (fn.ntmps-(v::vs).toArray.size) undef).size=C.n:=by simp[hn,hlen];omega
 have hget:∀ t,((v::vs).toArray++Array.replicate (fn.ntmps-(v::vs).toArray.size) undef).getD t undef=(v::vs).getD t undef:=by
   intro t
   rw[Array.getD_eq_getD_getElem?,List.getD_eq_getElem?_getD]
   rw[Array.getElem?_append]
   split
   · simp
   · rename_i hlt
     have hge:(v::vs).length≤t:=by simpa using hlt
     rw[List.getElem?_eq_none hge]
     rw[Array.getElem?_replicate]
     split<;>rfl
 have hS:Sim C.n w.heap.size bs w M (argEnvT F x xs) ((v::vs).toArray++Array.replicate (fn.ntmps-(v::vs).toArray.size) undef) w:=by
   refine⟨M,fun b=>if b∈bs then some 0 else none,hsz,Fr.refl _ _ _,Mem.le_refl _,fun _ _ _ _=>rfl,hM,fun b k hb=>?_,fun t ht=>?_,fun t ht=>?_⟩
   · have hb:b∈bs:=by
       by_cases hm:b∈bs
       · exact hm
       · simp[hm]at hb
     obtain⟨row,hrow⟩:=EncO.rows _ _ _ _ he b hb
     exact⟨.inr hb,rows_lt hrow,hMb b hb⟩
   · have ht0:t≠0:=by omega
     show (if 0=t then _ else Env.get (argEnv 1 F.args xs) t).a=_
     rw[if_neg (Ne.symm ht0)]
     rcases argEnv_get M F.args xs vs 1 t hargs with⟨T,x',v',cs',k1,k2,k3,k4,k5⟩ | ⟨_,k2⟩
     · have:=(List.getElem?_eq_some_iff.1 k2).1;omega
     · rw[k2];rfl
   · by_cases h0:t=0
     · subst h0
       rw[hget]
       exact⟨cs,bs,hv,EncO.closed _ _ _ _ hcl he,hnd,fun b hb=>by simp[hb]⟩
     · have hge:(argEnvT F x xs).get t=(argEnv 1 F.args xs).get t:=by
         show (if 0=t then _ else Env.get (argEnv 1 F.args xs) t)=_
         rw[if_neg (Ne.symm h0)]
       rw[hge]
       rcases argEnv_get M F.args xs vs 1 t hargs with⟨T,x',v',cs',k1,k2,k3,k4,k5⟩ | ⟨_,k2⟩
       · rw[k3,hget]
         have:(v::vs).getD t undef=v':=by
           rw[List.getD_eq_getElem?_getD]
           have:(v::vs)[t]?=vs[t-1]?:=by
             cases t with
             | zero=>exact(h0 rfl).elim
             | succ t=>simp
           rw[this,k2];rfl
         rw[this]
         exact⟨cs',[],k4,⟨rfl,k5⟩,List.nodup_nil,by simp⟩
       · rw[k2];exact trivial
 refine wp_mono (hvc _ w rfl ⟨hS,fun t ht=>by
   have ht:t∈C.pins:=ht
   rw[hp]at ht;simp at ht⟩) ?_
 rintro e a' w' ⟨ρ',hK,hd',⟨M',ω',S⟩,_⟩
 have fin:DoneR C [F.res] (F.run x xs,()) [r] ρ'→a'.defers=[]∧∃ v,(results fn a'.tmps).run P w'=.ok v w'∧
     (∃ r cs' bs',Ending.returned v=.returned r∧Fr w.heap.size bs w w'∧ValC F.res.ag r cs'∧EncO emp (rows w') F.res cs' (F.run x xs) bs'∧bs'.Nodup∧∀ b∈bs',b∈bs∨w.heap.size≤b):=by
   rintro⟨hD1,_⟩
   obtain⟨u,s',y,cs1,bs1,e1,e2,e3,e4,e5,e6⟩:=resOf_ok hC S hD1
   obtain⟨z,rfl,hag,hz⟩:=conv_ok (M:=M') (R:=rows w') s' _ y _ e2
   have hrun:(results fn a'.tmps).run P w'=.ok u w':=by
     unfold results
     rw[hr,Sem.run_bind]
     have hm:(#[r].mapM (fun r=>(match r with | .tmp t=>pure (a'.tmps.getD t undef) | .cell a t=>do loadVar t (←asAddr (a'.tmps.getD a undef)):Sem Value))).run P w'=.ok #[u] w':=by
       rw[Array.mapM_eq_mapM_toList,Sem.run_map]
       simp only[List.mapM_cons,List.mapM_nil,Sem.run_bind,e1,Result.andThen_ok,Sem.run_pure]
     refine(congrArg (fun q=>(Sem.run P q w').andThen _) (?_:_=#[r].mapM (fun r=>(match r with | .tmp t=>pure (a'.tmps.getD t undef) | .cell a t=>do loadVar t (←asAddr (a'.tmps.getD a undef)):Sem Value)))).trans ?_
     · congr 1
     · rw[hm];rfl
   exact⟨hd',_,hrun,u,cs1,bs1,rfl,S.fr,by rw[←hag];exact e3,EncO.closed _ _ _ _ hrc (hz cs1 bs1 e4),e5,fun b hb=>((S.dis b _ (e6 b hb)).1).symm⟩
 cases e with
 | normal=>exact fin hK
 | ret=>exact fin hK
 | _=>exact hK.elim
def argEnvK (F:KFun)(x:El F.s.ty)(xs:Vals F.args):Env:=(F.args.length,⟨0,0,.c (.ref F.s) x⟩)::argEnv 0 F.args xs
def doneKK (F:KFun)(C:Ctx)(x:El F.s.ty)(xs:Vals F.args):Exit→Env→Prop
 | .normal,ρ=>DoneR C [.ref F.s] (F.out x xs,()) [.tmp F.args.length] ρ
 | .ret,ρ=>DoneR C [.ref F.s] (F.out x xs,()) [.tmp F.args.length] ρ
 | _,_=>False
theorem meetsK_of_vc {P:Program}{C:Ctx}{f:Nat}{F:KFun}{fn:Func}{code:Code}(hC:CtxOk P C)(hF:∀ f F,C.fn f=some F→Meets P f F)
   (h1 : P.funcs[f]? = some fn) (h2 : (fn.name == "runtime.NumGoroutine") = false) (hb : fn.body = some code) (hn : fn.ntmps = C.n) (ha : F.args.length + 1 ≤ C.n)
   (hr:fn.results=#[]) (hcl:F.s.closed=true) (hnr:F.s.noref=true)
   (h:∀ (x:El F.s.ty) (xs:Vals F.args),Wf F.s.ty x→WfAll F.args xs→F.pre x xs→∀ G:Cfg,G.Ok→G.P=P→G.C=C→Vc G code (argEnvK F x xs) (doneKK F C x xs)) (hp:C.pins=[F.args.length]):MeetsK P f F:=by
 refine⟨⟨fn,h1,h2,by rw[hb];rfl⟩,hcl,hnr,fun w M p x bs vs xs hM hMb he hnd hargs hpre=>?_⟩
 refine calls_of_wp h1 hb ?_
 have hlen:=argsR_len _ _ _ hargs
 have hwx:Wf F.s.ty x:=by
   obtain⟨b,row,bss,_,_,_,h4⟩:=id he
   exact EncO.wf _ _ _ _ hnr h4
 have hvc:=h x xs hwx (argsR_wf _ _ _ hargs) hpre ⟨P,C,w.heap.size,bs,w,M,fun t=>(vs++[p]).getD t undef⟩ ⟨hC,hF,Nat.le_refl _⟩ rfl rfl
 have hsz:((vs++[p]).toArray++Array.replicate (fn.ntmps-(vs++[p]).toArray.size) undef).size=C.n:=by simp[hn,hlen];omega
 have hget:∀ t,((vs++[p]).toArray++Array.replicate (fn.ntmps-(vs++[p]).toArray.size) undef).getD t undef=(vs++[p]).getD t undef:=by
   intro t
   rw[Array.getD_eq_getD_getElem?,List.getD_eq_getElem?_getD]
   rw[Array.getElem?_append]
   split
   · simp
   · rename_i hlt
     have hge:(vs++[p]).length≤t:=by simpa using hlt
     rw[List.getElem?_eq_none hge]
     rw[Array.getElem?_replicate]
     split<;>rfl
 have hm:(vs++[p]).getD F.args.length undef=p:=by
   rw[List.getD_eq_getElem?_getD,←hlen];simp
 have hS:Sim C.n w.heap.size bs w M (argEnvK F x xs) ((vs++[p]).toArray++Array.replicate (fn.ntmps-(vs++[p]).toArray.size) undef) w:=by
   refine⟨M,fun b=>if b∈bs then some F.args.length else none,hsz,Fr.refl _ _ _,Mem.le_refl _,fun _ _ _ _=>rfl,hM,fun b k hb=>?_,fun t ht=>?_,fun t ht=>?_⟩
   · have hb:b∈bs:=by
       by_cases hm:b∈bs
       · exact hm
       · simp[hm]at hb
     obtain⟨row,hrow⟩:=EncO.rows _ _ _ _ he b hb
     exact⟨.inr hb,rows_lt hrow,hMb b hb⟩
   · have ht0:t≠F.args.length:=by omega
     show (if F.args.length=t then _ else Env.get (argEnv 0 F.args xs) t).a=_
     rw[if_neg (Ne.symm ht0)]
     rcases argEnv_get M F.args xs vs 0 t hargs with⟨T,x',v',cs',k1,k2,k3,k4,k5⟩ | ⟨_,k2⟩
     · have:=(List.getElem?_eq_some_iff.1 k2).1;omega
     · rw[k2];rfl
   · by_cases h0:t=F.args.length
     · subst h0
       rw[hget,hm]
       have hge:(argEnvK F x xs).get F.args.length=⟨0,0,.c (.ref F.s) x⟩:=by
         show (if F.args.length=F.args.length then _ else _)=_
         rw[if_pos rfl]
       rw[hge]
       exact⟨[p],bs,rfl,EncO.closed (.ref F.s) _ _ _ (by simpa [Sh.closed] using hcl) he,hnd,fun b hb=>by simp[hb]⟩
     · have hge:(argEnvK F x xs).get t=(argEnv 0 F.args xs).get t:=by
         show (if F.args.length=t then _ else Env.get (argEnv 0 F.args xs) t)=_
         rw[if_neg (Ne.symm h0)]
       rw[hge]
       rcases argEnv_get M F.args xs vs 0 t hargs with⟨T,x',v',cs',k1,k2,k3,k4,k5⟩ | ⟨_,k2⟩
       · rw[k3,hget]
         have:(vs++[p]).getD t undef=v':=by
           have k2':vs[t]?=some v':=by simpa using k2
           rw[List.getD_eq_getElem?_getD,List.getElem?_append_left (List.getElem?_eq_some_iff.1 k2').1,k2'];rfl
         rw[this]
         exact⟨cs',[],k4,⟨rfl,k5⟩,List.nodup_nil,by simp⟩
       · rw[k2];exact trivial
 refine wp_mono (hvc _ w rfl ⟨hS,fun t _=>hget t⟩) ?_
 rintro e a' w' ⟨ρ',hK,hd',⟨M',ω',S⟩,hpn⟩
 have fin:DoneR C [.ref F.s] (F.out x xs,()) [.tmp F.args.length] ρ'→a'.defers=[]∧∃ v,(results fn a'.tmps).run P w'=.ok v w'∧
     (∃ r bs',Ending.returned v=.returned r∧Fr w.heap.size bs w w'∧EncO emp (rows w') (.ref F.s) [p] (F.out x xs) bs'∧bs'.Nodup∧∀ b∈bs',b∈bs∨w.heap.size≤b):=by
   rintro⟨hD1,_⟩
   obtain⟨u,s',y,cs1,bs1,e1,e2,e3,e4,e5,e6⟩:=resOf_ok hC S hD1
   obtain⟨z,rfl,hag,hz⟩:=conv_ok (M:=M') (R:=rows w') s' _ y _ e2
   have hu:u=p:=by
     have:a'.tmps.getD F.args.length undef=u:=by
       have:=e1
       simp only[Sem.run_pure,Result.ok.injEq,and_true]at this
       exact this
     rw[←this]
     have:=hpn F.args.length (by show F.args.length∈C.pins;rw[hp];simp)
     exact this.trans hm
   subst hu
   have hcs:cs1=[u]:=by rw[hag]at e3;exact e3
   subst hcs
   have hrun:(results fn a'.tmps).run P w'=.ok (.tuple #[]) w':=by
     unfold results
     rw[hr,Sem.run_bind]
     have hm:((#[]:Array ResultVar).mapM (fun r=>(match r with | .tmp t=>pure (a'.tmps.getD t undef) | .cell a t=>do loadVar t (←asAddr (a'.tmps.getD a undef)):Sem Value))).run P w'=.ok #[] w':=by
       rw[Array.mapM_eq_mapM_toList,Sem.run_map]
       simp only[List.mapM_nil,Sem.run_pure,Result.andThen_ok]
     refine(congrArg (fun q=>(Sem.run P q w').andThen _) (?_:_=(#[]:Array ResultVar).mapM (fun r=>(match r with | .tmp t=>pure (a'.tmps.getD t undef) | .cell a t=>do loadVar t (←asAddr (a'.tmps.getD a undef)):Sem Value)))).trans ?_
     · congr 1
     · rw[hm];rfl
   exact⟨hd',_,hrun,_,bs1,rfl,S.fr,EncO.closed (.ref F.s) _ _ _ (by simpa [Sh.closed] using hcl) (hz _ bs1 e4),e5,fun b hb=>((S.dis b _ (e6 b hb)).1).symm⟩
 cases e with
 | normal=>exact fin hK
 | ret=>exact fin hK
 | _=>exact hK.elim
def argEnvP (F:PFun)(x:El F.s.ty)(xs:Vals F.args):Env:=(0,⟨0,0,.c (.ref F.s) x⟩)::argEnv 1 F.args xs
def donePP (F:PFun)(C:Ctx)(rs:List ResultVar)(x:El F.s.ty)(xs:Vals F.args):Exit→Env→Prop
 | .normal,ρ=>DoneR C [.ref F.s] (F.out x xs,()) [.tmp 0] ρ∧DoneR C F.res (F.run x xs) rs ρ
 | .ret,ρ=>DoneR C [.ref F.s] (F.out x xs,()) [.tmp 0] ρ∧DoneR C F.res (F.run x xs) rs ρ
 | _,_=>False
theorem meetsP_of_vc {P:Program}{C:Ctx}{f:Nat}{F:PFun}{fn:Func}{code:Code}(hC:CtxOk P C)(hF:∀ f F,C.fn f=some F→Meets P f F)
   (h1 : P.funcs[f]? = some fn) (h2 : (fn.name == "runtime.NumGoroutine") = false) (hb : fn.body = some code) (hn : fn.ntmps = C.n) (ha : F.args.length + 1 ≤ C.n)
   (hd:distinct (fn.results.toList.map slotOf)=true) (hrs:memb 0 (fn.results.toList.map slotOf)=false) (hnr:F.s.noref=true)
   (h:∀ (x:El F.s.ty) (xs:Vals F.args),Wf F.s.ty x→WfAll F.args xs→F.pre x xs→∀ G:Cfg,G.Ok→G.P=P→G.C=C→Vc G code (argEnvP F x xs) (donePP F C fn.results.toList x xs)) (hp:C.pins=[0]):MeetsP P f F:=by
 refine⟨⟨fn,h1,h2,by rw[hb];rfl⟩,hnr,fun w M p x bs vs xs hM hMb he hnd hargs hpre=>?_⟩
 refine calls_of_wp h1 hb ?_
 have hlen:=argsR_len _ _ _ hargs
 have hwx:Wf F.s.ty x:=by
   obtain⟨b,row,bss,_,_,_,h4⟩:=id he
   exact EncO.wf _ _ _ _ hnr h4
 have hvc:=h x xs hwx (argsR_wf _ _ _ hargs) hpre ⟨P,C,w.heap.size,bs,w,M,fun t=>(p::vs).getD t undef⟩ ⟨hC,hF,Nat.le_refl _⟩ rfl rfl
 have hsz:((p::vs).toArray++Array.replicate (fn.ntmps-(p::vs).toArray.size) undef).size=C.n:=by simp[hn,hlen];omega
 have hget:∀ t,((p::vs).toArray++Array.replicate (fn.ntmps-(p::vs).toArray.size) undef).getD t undef=(p::vs).getD t undef:=by
   intro t
   rw[Array.getD_eq_getD_getElem?,List.getD_eq_getElem?_getD]
   rw[Array.getElem?_append]
   split
   · simp
   · rename_i hlt
     have hge:(p::vs).length≤t:=by simpa using hlt
     rw[List.getElem?_eq_none hge]
     rw[Array.getElem?_replicate]
     split<;>rfl
 have hm:(p::vs).getD 0 undef=p:=rfl
 have hS:Sim C.n w.heap.size bs w M (argEnvP F x xs) ((p::vs).toArray++Array.replicate (fn.ntmps-(p::vs).toArray.size) undef) w:=by
   refine⟨M,fun b=>if b∈bs then some 0 else none,hsz,Fr.refl _ _ _,Mem.le_refl _,fun _ _ _ _=>rfl,hM,fun b k hb=>?_,fun t ht=>?_,fun t ht=>?_⟩
   · have hb:b∈bs:=by
       by_cases hm:b∈bs
       · exact hm
       · simp[hm]at hb
     obtain⟨row,hrow⟩:=EncO.rows _ _ _ _ he b hb
     exact⟨.inr hb,rows_lt hrow,hMb b hb⟩
   · have ht0:t≠0:=by omega
     show (if 0=t then _ else Env.get (argEnv 1 F.args xs) t).a=_
     rw[if_neg (Ne.symm ht0)]
     rcases argEnv_get M F.args xs vs 1 t hargs with⟨T,x',v',cs',k1,k2,k3,k4,k5⟩ | ⟨_,k2⟩
     · have:=(List.getElem?_eq_some_iff.1 k2).1;omega
     · rw[k2];rfl
   · by_cases h0:t=0
     · subst h0
       rw[hget,hm]
       exact⟨[p],bs,rfl,he,hnd,fun b hb=>by simp[hb]⟩
     · have hge:(argEnvP F x xs).get t=(argEnv 1 F.args xs).get t:=by
         show (if 0=t then _ else Env.get (argEnv 1 F.args xs) t)=_
         rw[if_neg (Ne.symm h0)]
       rw[hge]
       rcases argEnv_get M F.args xs vs 1 t hargs with⟨T,x',v',cs',k1,k2,k3,k4,k5⟩ | ⟨_,k2⟩
       · rw[k3,hget]
         have:(p::vs).getD t undef=v':=by
           rw[List.getD_eq_getElem?_getD]
           have:(p::vs)[t]?=vs[t-1]?:=by
             cases t with
             | zero=>exact(h0 rfl).elim
             | succ t=>simp
           rw[this,k2];rfl
         rw[this]
         exact⟨cs',[],k4,⟨rfl,k5⟩,List.nodup_nil,by simp⟩
       · rw[k2];exact trivial
 refine wp_mono (hvc _ w rfl ⟨hS,fun t _=>hget t⟩) ?_
 rintro e a' w' ⟨ρ',hK,hd',⟨M',ω',S⟩,hpn⟩
 have fin:(DoneR C [.ref F.s] (F.out x xs,()) [.tmp 0] ρ'∧DoneR C F.res (F.run x xs) fn.results.toList ρ')→a'.defers=[]∧∃ v,(results fn a'.tmps).run P w'=.ok v w'∧
     (∃ r M' bs' bs2,Ending.returned v=.returned r∧Fr w.heap.size bs w w'∧M.le M'∧(∀ b o,b<w.heap.size→b∉bs→M' b o=M b o)∧(∀ b o u,M' b o=some u→w'.cell? ⟨b,o,none⟩=some u)∧
       EncO M' (rows w') (.ref F.s) [p] (F.out x xs) bs'∧ResR M' (rows w') F.res r (F.run x xs) bs2∧(bs'++bs2).Nodup∧∀ b∈bs'++bs2,(b∈bs∨w.heap.size≤b)∧∀ o,M' b o=none):=by
   rintro⟨⟨hD2,_⟩,hD1⟩
   obtain⟨u2,s2,y2,cs2,bs2,g1,g2,g3,g4,g5,g6⟩:=resOf_ok hC S hD2
   obtain⟨z2,rfl,hag2,hz2⟩:=conv_ok (M:=M') (R:=rows w') s2 _ y2 _ g2
   have hu2:u2=p:=by
     have:a'.tmps.getD 0 undef=u2:=by
       have:=g1
       simp only[Sem.run_pure,Result.ok.injEq,and_true]at this
       exact this
     rw[←this]
     have:=hpn 0 (by show 0∈C.pins;rw[hp];simp)
     exact this
   subst hu2
   have hcs:cs2=[u2]:=by rw[hag2]at g3;exact g3
   subst hcs
   obtain⟨rvs,bs1,e1,e2,e3,e4⟩:=run_mapM_res hC S F.res (F.run x xs) fn.results.toList hD1 hd
   have hmap:(fn.results.mapM (fun r=>(match r with | .tmp t=>pure (a'.tmps.getD t undef) | .cell a t=>do loadVar t (←asAddr (a'.tmps.getD a undef)):Sem Value))).run P w'=.ok rvs.toArray w':=by
     rw[Array.mapM_eq_mapM_toList,Sem.run_map,e1];rfl
   have hrun:(results fn a'.tmps).run P w'=.ok (if h:rvs.toArray.size=1 then rvs.toArray[0]else .tuple rvs.toArray) w':=by
     unfold results
     rw[Sem.run_bind]
     refine(congrArg (fun x=>(Sem.run P x w').andThen _) (?_:_=fn.results.mapM (fun r=>(match r with | .tmp t=>pure (a'.tmps.getD t undef) | .cell a t=>do loadVar t (←asAddr (a'.tmps.getD a undef)):Sem Value)))).trans ?_
     · congr 1
     · rw[hmap];rfl
   refine⟨hd',_,hrun,_,M',bs2,bs1,rfl,S.fr,S.m0,S.old,S.mem,hz2 _ bs2 g4,resR_of_tup _ _ _ _ e2,?_,fun b hb=>?_⟩
   · rw[List.nodup_append]
     refine⟨g5,e3,fun a ha b hb hab=>?_⟩
     subst hab
     have q1:=g6 a ha
     obtain⟨r',hr',q2⟩:=e4 a hb
     rw[q1]at q2
     simp only[Option.some.injEq]at q2
     have:memb 0 (fn.results.toList.map slotOf)=true:=memb_of_mem (List.mem_map.2 ⟨r',hr',q2.symm⟩)
     rw[this]at hrs
     cases hrs
   · rcases List.mem_append.1 hb with hb | hb
     · have:=S.dis b _ (g6 b hb)
       exact⟨this.1.symm,this.2.2⟩
     · obtain⟨r',_,q2⟩:=e4 b hb
       have:=S.dis b _ q2
       exact⟨this.1.symm,this.2.2⟩
 cases e with
 | normal=>exact fin hK
 | ret=>exact fin hK
 | _=>exact hK.elim
end Fw
namespace Fw
open Go
def fldsB (P:Program):List Go.Field→List (Nat×Ty)→Bool
 | [],[]=>true
 | f::fs,(o,T)::l=>f.offset==o&&(tyOf P 12 f.type==some T)&&(T.size != 0)&&fldsB P fs l
 | _,_=>false
def tysB (P:Program):List (Nat×Ty)→Bool
 | []=>true
 | (t,T)::l=>(tyOf P 12 t==some T)&&tysB P l
def allFldsB (P:Program):List (Nat×List (Nat×Ty))→Bool
 | []=>true
 | (t,l)::r=>(match P.underlying t with | some (.struct fs)=>fldsB P fs.toList l | _=>false)&&allFldsB P r
theorem tysB_ok {P:Program}:∀ (l:List (Nat×Ty)),tysB P l=true→∀ t T,look l t=some T→TyR P t T
 | (t',T')::l,h,t,T,hl=>by
   simp only[tysB,Bool.and_eq_true,beq_iff_eq]at h
   unfold look at hl
   split at hl
   · rename_i e
     simp only[Option.some.injEq]at hl
     subst hl;subst e
     exact⟨12,h.1⟩
   · exact tysB_ok l h.2 t T hl
theorem fldsB_ok {P:Program}:∀ (fs:List Go.Field) (l:List (Nat×Ty)),fldsB P fs l=true→∀ (i o:Nat) (T:Ty),l[i]?=some (o,T)→
   ∃ f:Go.Field,fs[i]?=some f∧f.offset=o∧TyR P f.type T∧T.size≠0
 | [],[],_,i,o,T,h=>by simp at h
 | f::fs,(o',T')::l,h,0,o,T,hi=>by
   simp only[fldsB,Bool.and_eq_true,beq_iff_eq,bne_iff_ne]at h
   simp at hi
   obtain⟨rfl,rfl⟩:=hi
   exact⟨f,rfl,h.1.1.1,⟨12,h.1.1.2⟩,h.1.2⟩
 | f::fs,(o',T')::l,h,i+1,o,T,hi=>by
   simp only[fldsB,Bool.and_eq_true,beq_iff_eq]at h
   exact fldsB_ok fs l h.2 i o T (by simpa using hi)
 | [],_::_,h,_,_,_,_=>by simp[fldsB]at h
 | _::_,[],h,_,_,_,_=>by simp[fldsB]at h
theorem allFldsB_ok {P:Program}:∀ (l:List (Nat×List (Nat×Ty))),allFldsB P l=true→∀ t fl,look l t=some fl→FldR P t fl
 | (t',l')::r,h,t,fl,hl=>by
   simp only[allFldsB,Bool.and_eq_true]at h
   unfold look at hl
   split at hl
   · rename_i e
     simp only[Option.some.injEq]at hl
     subst hl;subst e
     have h1:=h.1
     split at h1
     · rename_i fs hu
       refine⟨fs,hu,fun i o T hi=>?_⟩
       obtain⟨f,g1,g2⟩:=fldsB_ok fs.toList l' h1 i o T hi
       exact⟨f,by simpa using g1,g2⟩
     · cases h1
   · exact allFldsB_ok r h.2 t fl hl
def eqsB (P:Program)(tys:List (Nat×Ty)):List Nat→Bool
 | []=>true
 | t::r=>(match look tys t with | some T=>eqB P 8 t T&&!(P.eqGuardType P.depth t) | none=>true)&&eqsB P tys r
theorem eqsB_ok {P:Program}{tys:List (Nat×Ty)}:∀ (l:List Nat),eqsB P tys l=true→∀ t T,l.contains t=true→look tys t=some T→EqR P t T
 | [],_,t,T,h,_=>by simp at h
 | t'::r,h,t,T,hc,hl=>by
   simp only[eqsB,Bool.and_eq_true]at h
   by_cases e:t=t'
   · subst e
     have h1:=h.1
     rw[hl]at h1
     simp only[Bool.and_eq_true,Bool.not_eq_true']at h1
     exact h1
   · refine eqsB_ok r h.2 t T ?_ hl
     simpa [e] using hc
theorem ctxOk {P:Program}{C:Ctx}(h1:tysB P C.tys=true)(h2:allFldsB P C.flds=true)(h3:eqsB P C.tys C.eqs=true)(h4:∀ f F,C.fnM f=some F→MeetsM P f F)(h5:∀ f F,C.fnT f=some F→MeetsT P f F)
   (h6:∀ f F,C.fnK f=some F→MeetsK P f F:=by intro f F h;cases h) (h7:∀ f F,C.fnP f=some F→MeetsP P f F:=by intro f F h;cases h):CtxOk P C:=
 ⟨eqsB_ok C.eqs h3,tysB_ok C.tys h1,allFldsB_ok C.flds h2,h4,h5,h6,h7⟩
structure Known (P:Program) where
 f:Nat
 F:Fun
 ok:Meets P f F
def fnOf {P:Program}:List (Known P)→Nat→Option Fun
 | [],_=>none
 | k::r,f=>if k.f=f then some k.F else fnOf r f
theorem fO {P:Program}:∀ (l:List (Known P)) (f:Nat) (F:Fun),fnOf l f=some F→Meets P f F
 | k::r,f,F,h=>by
   unfold fnOf at h
   split at h
   · rename_i e
     simp only[Option.some.injEq]at h
     subst h;subst e
     exact k.ok
   · exact fO r f F h
structure KnownM (P:Program) where
 f:Nat
 F:MFun
 ok:MeetsM P f F
def fnOfM {P:Program}:List (KnownM P)→Nat→Option MFun
 | [],_=>none
 | k::r,f=>if k.f=f then some k.F else fnOfM r f
theorem fnOfM_ok {P:Program}:∀ (l:List (KnownM P)) (f:Nat) (F:MFun),fnOfM l f=some F→MeetsM P f F
 | k::r,f,F,h=>by
   unfold fnOfM at h
   split at h
   · rename_i e
     simp only[Option.some.injEq]at h
     subst h;subst e
     exact k.ok
   · exact fnOfM_ok r f F h
structure KnownT (P:Program) where
 f:Nat
 F:TFun
 ok:MeetsT P f F
def fnOfT {P:Program}:List (KnownT P)→Nat→Option TFun
 | [],_=>none
 | k::r,f=>if k.f=f then some k.F else fnOfT r f
theorem fnOfT_ok {P:Program}:∀ (l:List (KnownT P)) (f:Nat) (F:TFun),fnOfT l f=some F→MeetsT P f F
 | k::r,f,F,h=>by
   unfold fnOfT at h
   split at h
   · rename_i e
     simp only[Option.some.injEq]at h
     subst h;subst e
     exact k.ok
   · exact fnOfT_ok r f F h
structure KnownK (P:Program) where
 f:Nat
 F:KFun
 ok:MeetsK P f F
def fnOfK {P:Program}:List (KnownK P)→Nat→Option KFun
 | [],_=>none
 | k::r,f=>if k.f=f then some k.F else fnOfK r f
theorem fnOfK_ok {P:Program}:∀ (l:List (KnownK P)) (f:Nat) (F:KFun),fnOfK l f=some F→MeetsK P f F
 | k::r,f,F,h=>by
   unfold fnOfK at h
   split at h
   · rename_i e
     simp only[Option.some.injEq]at h
     subst h;subst e
     exact k.ok
   · exact fnOfK_ok r f F h
structure KnownP (P:Program) where
 f:Nat
 F:PFun
 ok:MeetsP P f F
def fnOfP {P:Program}:List (KnownP P)→Nat→Option PFun
 | [],_=>none
 | k::r,f=>if k.f=f then some k.F else fnOfP r f
theorem fnOfP_ok {P:Program}:∀ (l:List (KnownP P)) (f:Nat) (F:PFun),fnOfP l f=some F→MeetsP P f F
 | k::r,f,F,h=>by
   unfold fnOfP at h
   split at h
   · rename_i e
     simp only[Option.some.injEq]at h
     subst h;subst e
     exact k.ok
   · exact fnOfP_ok r f F h
end Fw
namespace Fw
open Go Go.ChangeShapes Go.WideShapes Go.ChangeAt Go.RowKit
theorem Fr.below {w w':World}(h:Fr w.heap.size [] w w'):Below w.heap.size w w':=
 ⟨h.os,h.tape,h.output,h.size,fun k hk=>h.block k hk (by simp)⟩
theorem trodAll_below {H:Type}{enc:TypeId×Value→H}{P:Program}(hl:laidOutB P=true){W W':World}(hb:Below W.heap.size W W'):
   ∀ (ts:List TypeId) (vs:List Value) (ds:List (DataW H)) (p:List MemPlace),(ts.all fun t=>P.readableRec t&&decide (t<P.types.size))=true→
     (∀ x∈p,x.block<W.heap.size)→DataW.TrodAll enc P W 0 (fun _=>true) true ts vs ds p→DataW.TrodAll enc P W' 0 (fun b=>decide (b<W.heap.size)) true ts vs ds p
 | [],vs,ds,p,_,_,h=>by
   obtain⟨rfl,rfl,rfl⟩:=trodAll_nil h
   exact h
 | t::ts,vs,ds,p,hr,hlt,h=>by
   obtain⟨v,vs1,d,ds1,a,b,rfl,rfl,rfl,h1,h2⟩:=trodAll_cons h
   simp only[List.all_cons,Bool.and_eq_true,decide_eq_true_eq]at hr
   exact⟨a,b,Below.trod hl hr.1.1 hr.1.2 h1 hb (fun x hx=>hlt x (by simp[hx])),
     trodAll_below hl hb ts vs1 ds1 b hr.2 (fun x hx=>hlt x (by simp[hx])) h2,rfl⟩
theorem post_yes {H:Type}{enc:TypeId×Value→H}{P:Program}{f:Func}{s:ChangeSpec}{W W':World}{args:Array Value}{ds:List (DataW H)}{before:List MemPlace}{t:TypeId}
   (hl:laidOutB P=true) (hrd:(f.params.toList.all fun t=>P.readableRec t&&decide (t<P.types.size))=true) (hvars:s.vars=[]) (hspec:s.fn H ds={ results:=[.lit (.bool true)],args:=ds })
   (hrt:f.resultTypes=#[t]) (ht:P.underlying t=some .bool) (hW:DataW.Whole enc P f.params.toList s.vars false W args.toList ds [] before) (hfr:Fr W.heap.size [] W W'):
   s.post enc P f false true false false W args (.bool true) W':=by
 have hlt:=hW.lt
 have hb:=hfr.below
 obtain⟨p,q,hA,hV,rfl,hz,hn⟩:=id hW
 rw[hvars]at hV
 obtain⟨_,rfl⟩:=trodVars_none hV
 refine⟨ds,[],p++[],[],p,[],hW,?_,?_,?_,hb.frame _,fun h=>by cases h⟩
 · rw[List.append_nil,hspec,hrt]
   exact trodAll_mk1 (shut_bool ht true)
 · rw[List.append_nil,hspec]
   exact trodAll_below hl hb _ _ _ _ hrd (fun x hx=>by simpa using hlt x (by simpa using hx)) hA
 · rw[List.append_nil,hspec,hvars]
   rfl
end Fw
namespace Fw
open Go Go.ChangeShapes Go.WideShapes Go.ChangeAt Go.RowKit
def fldLayB (go:TypeId→Ty→Bool):List Go.Field→Nat→Ty→Bool
 | [f],off,T=>f.offset==off&&go f.type T
 | f::f'::r,off,.pair A B=>f.offset==off&&go f.type A&&fldLayB go (f'::r) (off+A.size) B
 | _,_,_=>false
def layB (P:Program):Nat→TypeId→Ty→Bool
 | 0,_,_=>false
 | n+1,t,T=>(P.cellsOf t==T.size)&&(match T,P.underlying t with
   | .int k,some (.int k')=>decide (k=k')
   | .bool,some .bool=>true
   | .str,some .string=>true
   | .slice E,some (.slice e)=>(E.size != 0)&&layB P n e E
   | .pair a b,some (.struct fs)=>fldLayB (layB P n) fs.toList 0 (.pair a b)
   | _,_=>false)
section
variable {H:Type} {enc:TypeId×Value→H} {P:Program} {w:World} {held:Bool}
theorem cell_spot {w:World}{a:Addr}{v:Value}(h:w.cell? a=some v):a.spot=none:=by
 unfold World.cell? at h
 split at h
 · cases hs:a.spot with
   | none=>rfl
   | some _=>rw[hs]at h;simp at h
 · cases h
theorem sliceAt_of {α:Type}{M:Mem}{p:List Value→α→Prop}{sz b:Nat}:∀ (len o:Nat) (f:Nat→α),(∀ i,i<len→∃ cs,cs.length=sz∧CellsAt M b (o+i*sz) cs∧p cs (f i))→
   SliceAt M p sz b o ((List.range len).map f)
 | 0,_,_,_=>trivial
 | len+1,o,f,h=>by
   rw[List.range_succ_eq_map,List.map_cons,List.map_map]
   refine⟨by simpa using h 0 (by omega),?_⟩
   refine sliceAt_of len (o+sz) (f ∘ Nat.succ) fun i hi=>?_
   have:=h (i+1) (by omega)
   rwa [Nat.add_mul,Nat.one_mul,Nat.add_comm (i*sz) sz,←Nat.add_assoc]at this
theorem fields_enc {n:Nat}{go:TypeId→Ty→Bool}(hgo:∀ t T,go t T=true→P.cellsOf t=T.size∧∀ cs d,DataW.trod enc P w 0 (fun _=>true) held n t cs=some d→∃ x:El T,Enc (full w) T cs x):
   ∀ (fs:List Go.Field) (off:Nat) (T:Ty) (cs:List Value),fldLayB go fs off T=true→
     (∀ (i:Nat) (f:Go.Field),fs[i]?=some f→∃ d,DataW.trod enc P w 0 (fun _=>true) held n f.type ((cs.drop f.offset).take (P.cellsOf f.type))=d∧d.isSome=true)→cs.length=off+T.size→∃ x:El T,Enc (full w) T (cs.drop off) x
 | [],_,_,_,h,_,_=>by simp[fldLayB]at h
 | [f],off,T,cs,h,hm,hl=>by
   simp only[fldLayB,Bool.and_eq_true,beq_iff_eq]at h
   obtain⟨h1,h2⟩:=h
   obtain⟨h3,h4⟩:=hgo _ _ h2
   obtain⟨d,hd,hs⟩:=hm 0 f rfl
   obtain⟨y,hy⟩:=Option.isSome_iff_exists.1 hs
   rw[hy]at hd
   have:=h4 _ _ hd
   rwa [h1,h3,List.take_of_length_le (by simp;omega)]at this
 | f::f'::r,off,T,cs,h,hm,hl=>by
   cases T with
   | pair A B=>
     simp only[fldLayB,Bool.and_eq_true,beq_iff_eq]at h
     obtain⟨⟨h1,h2⟩,h3⟩:=h
     obtain⟨h4,h5⟩:=hgo _ _ h2
     obtain⟨d,hd,hs⟩:=hm 0 f rfl
     obtain⟨y,hy⟩:=Option.isSome_iff_exists.1 hs
     rw[hy]at hd
     obtain⟨x,hx⟩:=h5 _ _ hd
     have hl':cs.length=off+(A.size+B.size):=hl
     obtain⟨z,hz⟩:=fields_enc hgo (f'::r) (off+A.size) B cs h3 (fun i g hg=>hm (i+1) g (by simpa using hg)) (by omega)
     rw[h1,h4]at hx
     refine⟨(x,z),_,_,?_,hx,hz⟩
     rw[←List.drop_drop,List.take_append_drop]
   | _=>simp[fldLayB]at h
theorem trod_enc:∀ (n:Nat) (t:TypeId) (T:Ty),layB P n t T=true→∀ (fuel:Nat) (cs:List Value) (d:DataW H×List MemPlace),DataW.trod enc P w 0 (fun _=>true) held fuel t cs=some d→∃ x:El T,Enc (full w) T cs x
 | 0,_,_,h,_,_,_,_=>by simp[layB]at h
 | n+1,t,T,h,0,cs,d,hd=>by simp[DataW.trod]at hd
 | n+1,t,T,h,fuel+1,cs,d,hd=>by
   simp only[layB,Bool.and_eq_true,beq_iff_eq]at h
   obtain⟨hsz,h⟩:=h
   cases hu:P.underlying t with
   | none=>rw[hu]at h;cases T<;>cases h
   | some dsc=>
     rw[hu]at h
     cases T with
     | int k=>
       cases dsc with
       | int k'=>
         have hk:k=k':=by simpa using h
         subst hk
         obtain⟨x,e1,e2,e3⟩:=DataW.trod_int hu hd
         simp only[Lit.wf,Bool.and_eq_true,decide_eq_true_eq]at e3
         exact⟨x,e1,e3⟩
       | _=>cases h
     | bool=>
       cases dsc with
       | bool=>
         obtain⟨b,e1,_⟩:=DataW.trod_bool hu hd
         exact⟨b,e1⟩
       | _=>cases h
     | str=>
       cases dsc with
       | string=>
         obtain⟨s,e1,_,e3⟩:=DataW.trod_string hu hd
         refine⟨s.data.toList,?_,?_⟩
         · rw[e1]
         · show s.data.toList.length≤bigLen
           rw[Array.length_toList];exact e3
       | _=>cases h
     | slice E=>
       cases dsc with
       | slice e=>
         simp only[Bool.and_eq_true,bne_iff_ne]at h
         obtain⟨hE,h⟩:=h
         have hce:P.cellsOf e=E.size:=by
           cases n with
           | zero=>simp[layB]at h
           | succ n=>simp only[layB,Bool.and_eq_true,beq_iff_eq]at h;exact h.1
         rcases Deep.open_slice hu hd with⟨rfl,_⟩ | ⟨a,len,cap,m,nf,D,Pl,rfl,_,hl,hm,hmm,_,hx⟩
         · exact⟨[],none,0,rfl,Nat.le_refl _,by simp[bigLen],rfl⟩
         · rw[hce]at hx
           have hmc:m=cap:=by simpa using hmm
           have hsp:0<m→a.spot=none:=by
             intro hm0
             obtain⟨cs',h1,_⟩:=hx 0 hm0
             obtain⟨_,h4,h5⟩:=World.cells?_some h1
             have h0:=h5 0 (by omega)
             rw[List.getElem?_eq_getElem (by omega)]at h0
             have:=cell_spot h0
             simpa [Addr.add] using this
           -- every element
           have hel:∀ i,i<m→∃ (x:El E) (cs:List Value),cs.length=E.size∧CellsAt (full w) a.block (a.off+i*E.size) cs∧Enc (full w) E cs x:=by
             intro i hi
             obtain⟨cs',h1,h2⟩:=hx i hi
             obtain⟨_,h4,h5⟩:=World.cells?_some h1
             obtain⟨x,h6⟩:=trod_enc n e E h nf cs' _ h2
             refine⟨x,cs',h4,fun j c hj=>?_,h6⟩
             have hjl:=(List.getElem?_eq_some_iff.1 hj).1
             have:=h5 j (by omega)
             rw[hj]at this
             show w.cell? _=_
             rw[←this]
             have hsp:=hsp (by omega)
             obtain⟨b,o,sp⟩:=a
             simp only at hsp
             subst hsp
             simp only[addr_add]
           have hlm:len≤m:=by omega
           have hch:∃ f:Nat→El E,∀ i,i<m→∃ cs,cs.length=E.size∧CellsAt (full w) a.block (a.off+i*E.size) cs∧Enc (full w) E cs (f i):=by
             refine⟨fun i=>if hi:i<m then Classical.choose (hel i hi)else dflt E,fun i hi=>?_⟩
             obtain⟨cs,h1,h2,h3⟩:=Classical.choose_spec (hel i hi)
             refine⟨cs,h1,h2,?_⟩
             simp only[dif_pos hi];exact h3
           obtain⟨f,hf⟩:=hch
           refine⟨(List.range len).map f,some a,cap,by simp,by simpa using hl,hm,?_,sliceAt_of len a.off f fun i hi=>hf i (by omega)⟩
           by_cases h0:m=0
           · exact .inr (by omega)
           · exact .inl (hsp (by omega))
       | _=>cases h
     | arr m e=>cases dsc<;>cases h
     | pair a b=>
       cases dsc with
       | struct fs=>
         obtain⟨xs,m,e1,e2,e3,e4,e5⟩:=DataW.trod_struct hu hd
         have hf:∃ x:El (.pair a b),Enc (full w) (.pair a b) (cs.drop 0) x:=fields_enc (P:=P) (w:=w) (enc:=enc) (held:=held) (n:=m) (go:=layB P n) (fun t T ht=>⟨by
             cases n with
             | zero=>simp[layB]at ht
             | succ n=>simp only[layB,Bool.and_eq_true,beq_iff_eq]at ht;exact ht.1,fun cs d hd=>trod_enc n t T ht m cs d hd⟩) fs.toList 0 (.pair a b) cs h (fun i f hf=>⟨_,e5 i f (by simpa using hf),by
             have hi:i<fs.size:=by have:=(List.getElem?_eq_some_iff.1 hf).1;simpa using this
             rw[List.getElem?_eq_getElem (by rw[e4];exact hi)];rfl⟩) (by rw[e3,hsz,Nat.zero_add])
         simpa using hf
       | _=>cases h
def layAll (P:Program):List TypeId→List Ty→Bool
 | [],[]=>true
 | t::ts,T::Ts=>layB P 12 t T&&layAll P ts Ts
 | _,_=>false
theorem layB_val {n:Nat}{t:TypeId}{T:Ty}(h:layB P n t T=true){r:Reach}{b0:Nat}{v:Value}(hval:Value.okWide P w r b0 t v):ValC T.ag v v.cells.toList:=by
 cases n with
 | zero=>simp[layB]at h
 | succ n=>
   simp only[layB,Bool.and_eq_true,beq_iff_eq]at h
   obtain⟨_,h⟩:=h
   cases hu:P.underlying t with
   | none=>rw[hu]at h;cases T<;>cases h
   | some dsc=>
     rw[hu]at h
     cases T with
     | int k=>
       cases dsc with
       | int k'=>obtain⟨x,rfl⟩:=okWide_int hu hval;rfl
       | _=>cases h
     | bool=>
       cases dsc with
       | bool=>obtain⟨x,rfl⟩:=okWide_bool hu hval;rfl
       | _=>cases h
     | str=>
       cases dsc with
       | string=>obtain⟨x,rfl⟩:=okWide_string hu hval;rfl
       | _=>cases h
     | slice E=>
       cases dsc with
       | slice e=>obtain⟨a,l,c,rfl⟩:=okWide_slice hu hval;rfl
       | _=>cases h
     | arr m e=>cases dsc<;>cases h
     | pair a b=>
       cases dsc with
       | struct fs=>
         unfold Value.okWide at hval
         rw[hu]at hval
         obtain⟨cs,rfl,_⟩:=hval
         rfl
       | _=>cases h
theorem argsR_of {r:Reach}{b0:Nat}:∀ (ts:List TypeId) (Ts:List Ty) (vs:List Value) (ds:List (DataW H)) (p:List MemPlace),layAll P ts Ts=true→DataW.TrodAll enc P w 0 (fun _=>true) held ts vs ds p→
   (∀ (j:Nat) t v,ts[j]?=some t→vs[j]?=some v→Value.okWide P w r b0 t v)→∃ xs:Vals Ts,ArgsR (full w) Ts vs xs
 | [],[],[],_,_,_,_,_=>⟨(),trivial⟩
 | [],[],_::_,ds,_,_,h,_=>by cases ds<;>exact h.elim
 | [],_::_,_,_,_,h,_,_=>by cases h
 | _::_,[],_,_,_,h,_,_=>by cases h
 | _::_,_::_,[],_,_,_,h,_=>h.elim
 | _::_,_::_,_::_,[],_,_,h,_=>h.elim
 | t::ts,T::Ts,v::vs,d::ds,p,hl,h,hval=>by
   simp only[layAll,Bool.and_eq_true]at hl
   obtain⟨p1,p2,⟨fuel,hd⟩,h2,_⟩:=h
   obtain⟨x,hx⟩:=trod_enc 12 t T hl.1 fuel _ _ hd
   obtain⟨xs,hxs⟩:=argsR_of ts Ts vs ds p2 hl.2 h2 (fun j t v h1 h2=>hval (j+1) t v (by simpa using h1) (by simpa using h2))
   exact⟨(x,xs),⟨_,layB_val hl.1 (hval 0 t v rfl rfl),hx⟩,hxs⟩
theorem trodAll_len {w:World}{held:Bool}:∀ {ts:List TypeId} {vs:List Value} {ds:List (DataW H)} {p:List MemPlace},DataW.TrodAll enc P w 0 (fun _=>true) held ts vs ds p→ds.length=ts.length
 | [],[],[],_,_=>rfl
 | [],[],_::_,_,h=>h.elim
 | [],_::_,[],_,h=>h.elim
 | [],_::_,_::_,_,h=>h.elim
 | _::_,[],[],_,h=>h.elim
 | _::_,[],_::_,_,h=>h.elim
 | _::_,_::_,[],_,h=>h.elim
 | t::ts,v::vs,d::ds,p,⟨_,_,_,h2,_⟩=>by simp[trodAll_len h2]
theorem yes_call {f:Nat}{Ts:List Ty}{pre:Vals Ts→Prop}{run:Vals Ts→Vals ([Sh.pure .bool].map Sh.ty)}(hm:Meets P f ⟨Ts,[.pure .bool],pre,run⟩)(hpre:∀ xs,WfAll Ts xs→pre xs)(hrun:∀ xs,WfAll Ts xs→run xs=(true,()))
   {ts:List TypeId} (hlay:layAll P ts Ts=true) {args:Array Value} {ds:List (DataW H)} {p:List MemPlace} {r:Reach} {b0:Nat} (hA:DataW.TrodAll enc P w 0 (fun _=>true) held ts args.toList ds p)
   (hval:∀ (j:Nat) t v,ts[j]?=some t→args.toList[j]?=some v→Value.okWide P w r b0 t v):
   Calls P f args w fun e w'=>e=.returned (.bool true)∧Fr w.heap.size [] w w':=by
 obtain⟨xs,hxs⟩:=argsR_of ts Ts args.toList ds p hlay hA hval
 have hwf:=argsR_wf _ _ _ hxs
 have:=hm.call w (full w) args.toList xs (fun _ _ _ h=>h) hxs (hpre xs hwf)
 rw[Array.toArray_toList]at this
 refine this.mono fun e w' ⟨v,M',bs,he,hfr,_,hres,_⟩=>?_
 subst he
 refine⟨?_,hfr⟩
 obtain⟨cs,h1,h2⟩:=hres
 have e0:(run xs).1=true:=by rw[hrun xs hwf]
 have e1:cs=[.bool (run xs).1]:=h2.2
 have e2:cs=[v]:=by simpa [ValC,Sh.ag,Ty.ag] using h1
 rw[e1,e0]at e2
 simp only[List.cons.injEq,and_true]at e2
 rw[←e2]
end
end Fw
namespace Fw
open Go
section
variable {n B:Nat} {X:List Nat} {w0:World} {M0 M:Mem} {ω:Own} {ρ ρ':Env} {tmps:Array Value} {w:World}
theorem Rel0.congr (h:∀ t,ρ'.get t=ρ.get t){vals:Vl}{t:Nat}{v:Value}{a:A}(hr:Rel0 n M ω w ρ vals t v a):Rel0 n M ω w ρ' vals t v a:=by
 revert hr
 cases a<;>simp only[Rel0,refOk,verOk,curK,h]<;>exact id
theorem Rel.congr (h:∀ t,ρ'.get t=ρ.get t){vals:Vl}{t:Nat}{v:Value}{a:A}(hr:Rel n M ω w ρ vals t v a):Rel n M ω w ρ' vals t v a:=by
 cases a with
 | cond s g ver b a=>
   obtain⟨h1,h2⟩:=hr
   refine⟨by unfold verOk at *;rw[h];exact h1,fun hc=>?_⟩
   have hc':curK ρ s g ver:=by unfold curK at *;rw[h]at hc;exact hc
   exact⟨fun e=>Rel0.congr h ((h2 hc').1 e),(h2 hc').2⟩
 | junk=>exact trivial
 | c s x=>exact Rel0.congr (n:=n) (M:=M) (ω:=ω) (w:=w) (vals:=vals) (t:=t) (a:=.c s x) h hr
 | ptr k g off=>exact Rel0.congr (n:=n) (M:=M) (ω:=ω) (w:=w) (vals:=vals) (t:=t) (a:=.ptr k g off) h hr
 | bor k g ver u x org e=>exact Rel0.congr (n:=n) (M:=M) (ω:=ω) (w:=w) (vals:=vals) (t:=t) (a:=.bor k g ver u x org e) h hr
 | elp k g ver off et i eo arr=>exact Rel0.congr (n:=n) (M:=M) (ω:=ω) (w:=w) (vals:=vals) (t:=t) (a:=.elp k g ver off et i eo arr) h hr
 | al k g ag off=>exact Rel0.congr (n:=n) (M:=M) (ω:=ω) (w:=w) (vals:=vals) (t:=t) (a:=.al k g ag off) h hr
 | eptr u x off=>exact Rel0.congr (n:=n) (M:=M) (ω:=ω) (w:=w) (vals:=vals) (t:=t) (a:=.eptr u x off) h hr
 | tup l=>exact Rel0.congr (n:=n) (M:=M) (ω:=ω) (w:=w) (vals:=vals) (t:=t) (a:=.tup l) h hr
 | fn f=>exact Rel0.congr (n:=n) (M:=M) (ω:=ω) (w:=w) (vals:=vals) (t:=t) (a:=.fn f) h hr
 | br k g ver off n1 s ys=>exact Rel0.congr (n:=n) (M:=M) (ω:=ω) (w:=w) (vals:=vals) (t:=t) (a:=.br k g ver off n1 s ys) h hr
 | lz k g ver off n1 lo s=>exact Rel0.congr (n:=n) (M:=M) (ω:=ω) (w:=w) (vals:=vals) (t:=t) (a:=.lz k g ver off n1 lo s) h hr
 | rb k g ver u x org e=>exact Rel0.congr (n:=n) (M:=M) (ω:=ω) (w:=w) (vals:=vals) (t:=t) (a:=.rb k g ver u x org e) h hr
 | clo f k g=>exact Rel0.congr (n:=n) (M:=M) (ω:=ω) (w:=w) (vals:=vals) (t:=t) (a:=.clo f k g) h hr
theorem St0.congr (S:St0 n B X w0 M0 M ω ρ tmps w)(h:∀ t,ρ'.get t=ρ.get t):St0 n B X w0 M0 M ω ρ' tmps w:=
 ⟨S.size,S.fr,S.m0,S.old,S.mem,S.dis,fun t ht=>by rw[h];exact S.high t ht,fun t ht=>by rw[h];exact Rel.congr h (S.slots t ht)⟩
theorem Fr.drawn {w w':World}(h:Fr B X w w')(k:Nat):Fr B X w { w' with drawn:=k }:=
 ⟨h.os,h.tape,h.output,h.size,h.block⟩
theorem St0.drawn (S:St0 n B X w0 M0 M ω ρ tmps w)(k:Nat):St0 n B X w0 M0 M ω ρ tmps { w with drawn:=k }:=
 ⟨S.size,S.fr.drawn k,S.m0,S.old,fun b o v h=>S.mem b o v h,fun b k h=>S.dis b k h,S.high,fun t ht=>by
   have:=S.slots t ht
   revert this
   generalize (ρ.get t).a=a
   have key:∀ a,Rel0 n M ω w ρ (fun t=>tmps.getD t undef) t (tmps.getD t undef) a→Rel0 n M ω { w with drawn:=k } ρ (fun t=>tmps.getD t undef) t (tmps.getD t undef) a:=by
     intro a h
     cases a<;>exact h
   intro h
   cases a with
   | cond s g ver b a=>exact⟨h.1,fun hc=>⟨fun e=>key a ((h.2 hc).1 e),(h.2 hc).2⟩⟩
   | _=>exact h⟩
end
def Same (ρ ρ':Env)(x:Operand):Prop:=∀ gd,opd ρ' gd x=opd ρ gd x
theorem same_tmp {ρ ρ':Env}{t:Nat}(h:ρ'.get t=ρ.get t)(ht:∀ gd k,((ρ.get t).a.stripG gd).tgt=some k→ρ'.get k=ρ.get k):Same ρ ρ' (.tmp t):=by
 intro gd
 simp only[opd,h]
 congr 1
 unfold tgtOf
 split
 · rename_i k hk;exact ht gd k hk
 · rfl
theorem same_const {ρ ρ':Env}(v:Value):Same ρ ρ' (.const v):=fun _=>rfl
theorem same_func {ρ ρ':Env}(f:Nat):Same ρ ρ' (.func f):=fun _=>rfl
theorem same_global {ρ ρ':Env}(f:Nat):Same ρ ρ' (.global f):=fun _=>rfl
def notBuild:Op→Bool
 | .build _ _=>false
 | .buildSlice _ _ _=>false
 | .call c=>match c.callee with | .builtin .append=>false | _=>true
 | _=>true
theorem ex_congr {C:Ctx}{gd:Gd}{ρ ρ':Env}{o:Oper}(hb:notBuild o.op=true)(h:∀ x∈o.op.operands.toList,Same ρ ρ' x):ex C gd ρ' o=ex C gd ρ o:=by
 obtain⟨dst,op,type,pos,after,guard⟩:=o
 simp only at h hb
 cases op with
 | call c=>
   obtain⟨callee,args,tys⟩:=c
   have hmap:args.toList.map (opd ρ' gd)=args.toList.map (opd ρ gd):=List.map_congr_left fun x hx=>h x (by simp[Op.operands,Call.operands];right;simpa using hx) gd
   have hx:∀ x∈args.toList,opd ρ' gd x=opd ρ gd x:=fun x hx=>h x (by simp[Op.operands,Call.operands];right;simpa using hx) gd
   unfold ex exAt
   simp only[hmap]
   cases dst with
   | none=>rfl
   | some d=>
     simp only
     split
     · split
       · rfl
       · split
         · rename_i x t ha ht;rw[hx x (by simp[ha])]
         · rfl
       · simp[notBuild]at hb
       · split
         · rename_i x y ha;rw[hx x (by simp[ha]),hx y (by simp[ha])]
         · rfl
       · split
         · rename_i x y ha;rw[hx x (by simp[ha]),hx y (by simp[ha])]
         · rfl
       · rename_i t;rw[h (.tmp t) (by simp[Op.operands,Call.operands]) gd]
       · rfl
     · rfl
 | makeFunc fn first cap=>
   unfold ex exAt
   cases dst with
   | none=>rfl
   | some d=>
     simp only
     split
     · split
       · rename_i f x h1 h2
         rw[h x (by simp[Op.operands,h2]) gd]
       · rfl
     · rfl
 | build t ps=>simp[notBuild]at hb
 | buildSlice t l ps=>simp[notBuild]at hb
 | pick c a b=>
   have h1:=h c (by simp[Op.operands])
   have h2:=h a (by simp[Op.operands])
   have h3:=h b (by simp[Op.operands])
   unfold ex exAt
   simp only[h1 _,h2 _,h3 _]
 | move x=>have h1:=h x (by simp[Op.operands]);unfold ex exAt;simp only[h1 _]
 | assign x=>have h1:=h x (by simp[Op.operands]);unfold ex exAt;simp only[h1 _]
 | box t x=>have h1:=h x (by simp[Op.operands]);unfold ex exAt;simp only[h1 _]
 | load t x=>have h1:=h x (by simp[Op.operands]);unfold ex exAt;simp only[h1 _]
 | fieldAddr t x f=>have h1:=h x (by simp[Op.operands]);unfold ex exAt;simp only[h1 _]
 | unOp op t x=>have h1:=h x (by simp[Op.operands]);unfold ex exAt;simp only[h1 _]
 | store t a v=>have h1:=h a (by simp[Op.operands]);have h2:=h v (by simp[Op.operands]);unfold ex exAt;simp only[h1 _,h2 _]
 | convert t u x=>have h1:=h x (by simp[Op.operands]);unfold ex exAt;simp only[h1 _]
 | nilCheck x=>have h1:=h x (by simp[Op.operands]);unfold ex exAt;simp only[h1 _]
 | field t x i=>have h1:=h x (by simp[Op.operands]);unfold ex exAt;simp only[h1 _]
 | extract x i=>have h1:=h x (by simp[Op.operands]);unfold ex exAt;simp only[h1 _]
 | makeSlice t a v=>have h1:=h a (by simp[Op.operands]);have h2:=h v (by simp[Op.operands]);unfold ex exAt;simp only[h1 _,h2 _]
 | slice t x lo hi mx=>
   have h1:=h x (by simp[Op.operands])
   have h2:lo.map (opd ρ' gd)=lo.map (opd ρ gd):=by
     cases lo with
     | none=>rfl
     | some l=>simp only[Option.map_some];rw[h l (by simp[Op.operands]) gd]
   have h3:hi.map (opd ρ' gd)=hi.map (opd ρ gd):=by
     cases hi with
     | none=>rfl
     | some l=>simp only[Option.map_some];rw[h l (by simp[Op.operands]) gd]
   unfold ex exAt;simp only[h1 _,h2,h3]
 | binOp op t a v u=>have h1:=h a (by simp[Op.operands]);have h2:=h v (by simp[Op.operands]);unfold ex exAt;simp only[h1 _,h2 _]
 | index t a v=>have h1:=h a (by simp[Op.operands]);have h2:=h v (by simp[Op.operands]);unfold ex exAt;simp only[h1 _,h2 _]
 | indexAddr t a v=>have h1:=h a (by simp[Op.operands]);have h2:=h v (by simp[Op.operands]);unfold ex exAt;simp only[h1 _,h2 _]
 | _=>rfl
theorem strip_tgt (gd:Gd)(a:A):(a.stripG gd).tgt=a.tgt:=by
 cases gd with
 | none=>rfl
 | some q=>
   obtain⟨s,g,ver,b⟩:=q
   cases a with
   | cond s' g' ver' w' a=>simp only[A.stripG,A.strip];split<;>rfl
   | _=>rfl
theorem same_reads {ρ ρ':Env}{x:Operand}(h:∀ t∈opdReads ρ x,ρ'.get t=ρ.get t):Same ρ ρ' x:=by
 cases x with
 | tmp t=>
   simp only[opdReads]at h
   refine same_tmp (h t (by split<;>simp)) fun gd k hk=>?_
   rw[strip_tgt]at hk
   rw[hk]at h
   exact h k (by simp)
 | const v=>exact same_const v
 | func f=>exact same_func f
 | global g=>exact same_global g
theorem puts_get_congr:∀ (ws:List Wr) {ρ ρ':Env} {t:Nat},ρ'.get t=ρ.get t→(ρ'.puts ws).get t=(ρ.puts ws).get t
 | [],_,_,_,h=>h
 | w::r,ρ,ρ',t,h=>puts_get_congr r (by rw[Env.get_put,Env.get_put,h])
def foldE:List Tr→(Nat→Bool)→Nat→Env→Env
 | [],_,_,ρ=>ρ
 | t::r,L,k,ρ=>foldE r L (k+1) (if L k=true then ρ.puts t.ws else ρ)
theorem foldE_get {t:Nat}{L L':Nat→Bool}:∀ (T:List Tr) (k:Nat) {ρ ρ':Env},(∀ i x,T[i]?=some x→(∃ w∈x.ws,w.slot=t)→L' (k+i)=L (k+i))→ρ'.get t=ρ.get t→
   (foldE T L' k ρ').get t=(foldE T L k ρ).get t
 | [],_,_,_,_,h=>h
 | x::r,k,ρ,ρ',hL,h=>by
   refine foldE_get r (k+1) (fun i y hi hw=>by have:=hL (i+1) y (by simpa using hi) hw;rwa [←Nat.add_assoc,Nat.add_right_comm]at this) ?_
   by_cases hw:∃ w∈x.ws,w.slot=t
   · have:=hL 0 x rfl hw
     rw[Nat.add_zero]at this
     rw[this]
     split
     · exact puts_get_congr _ h
     · exact h
   · have hne:∀ w∈x.ws,w.slot≠t:=fun w hm e=>hw ⟨w,hm,e⟩
     have e1:∀ (b:Bool) (σ:Env),(if b=true then σ.puts x.ws else σ).get t=σ.get t:=fun b σ=>by
       split
       · exact Env.puts_other x.ws σ t hne
       · rfl
     rw[e1,e1];exact h
theorem foldE_skip {t:Nat}{L:Nat→Bool}:∀ (T:List Tr) (k:Nat) {ρ:Env},(∀ i x,T[i]?=some x→L (k+i)=true→∀ w∈x.ws,w.slot≠t)→(foldE T L k ρ).get t=ρ.get t
 | [],_,_,_=>rfl
 | x::r,k,ρ,h=>by
   have ih:=foldE_skip (L:=L) r (k+1) (ρ:=if L k=true then ρ.puts x.ws else ρ) (fun i y hi hl=>h (i+1) y (by simpa using hi) (by rwa [←Nat.add_assoc,Nat.add_right_comm]))
   show (foldE r L (k+1) _).get t=_
   rw[ih]
   split
   · rename_i hl
     exact Env.puts_other x.ws ρ t (h 0 x rfl (by rwa [Nat.add_zero]))
   · rfl
theorem foldE_add {L:Nat→Bool}{x:Tr}{m:Nat}(t:Nat):∀ (T:List Tr) (k:Nat) (ρ:Env),T[m]?=some x→L (k+m)=false→
   (∀ j y,T[j]?=some y→m<j→L (k+j)=true→∀ w∈y.ws,∀ w'∈x.ws,w.slot≠w'.slot)→
   (foldE T (fun j=>L j||j==k+m) k ρ).get t=((foldE T L k ρ).puts x.ws).get t:=by
 induction m with
 | zero=>
   intro T k ρ hx hL hlate
   cases T with
   | nil=>simp at hx
   | cons y r=>
     simp at hx
     subst hx
     rw[Nat.add_zero]at hL
     have e1:foldE (y::r) (fun j=>L j||j==k+0) k ρ=foldE r (fun j=>L j||j==k+0) (k+1) (ρ.puts y.ws):=by simp[foldE]
     have e2:foldE (y::r) L k ρ=foldE r L (k+1) ρ:=by simp[foldE,hL]
     rw[e1,e2]
     by_cases hw:∃ w∈y.ws,w.slot=t
     · obtain⟨w,hw1,hw2⟩:=hw
       have hsk:∀ i z,r[i]?=some z→L (k+1+i)=true→∀ u∈z.ws,u.slot≠t:=fun i z hi hl u hu e=>
         hlate (i+1) z (by simpa using hi) (by omega) (by rwa [←Nat.add_assoc,Nat.add_right_comm]) u hu w hw1 (by rw[e,hw2])
       rw[foldE_skip r (k+1) (fun i z hi hl=>hsk i z hi (by
         have:(k+1+i==k+0)=false:=by simp;omega
         rwa [this,Bool.or_false]at hl))]
       exact puts_get_congr y.ws (foldE_skip r (k+1) hsk).symm
     · have hne:∀ w∈y.ws,w.slot≠t:=fun w hm e=>hw ⟨w,hm,e⟩
       rw[Env.puts_other y.ws _ t hne]
       refine foldE_get r (k+1) (fun i z _ _=>?_) (Env.puts_other y.ws ρ t hne)
       have:(k+1+i==k+0)=false:=by simp;omega
       rw[this,Bool.or_false]
 | succ m ih=>
   intro T k ρ hx hL hlate
   cases T with
   | nil=>simp at hx
   | cons y r=>
     have hk:(k==k+(m+1))=false:=by simp
     have:=ih r (k+1) (if L k=true then ρ.puts y.ws else ρ) (by simpa using hx) (by rwa [Nat.add_right_comm,Nat.add_assoc]) (fun j z hj hlt hl=>hlate (j+1) z (by simpa using hj) (by omega) (by rwa [←Nat.add_assoc,Nat.add_right_comm]))
     have hsame:k+1+m=k+(m+1):=by omega
     rw[hsame]at this
     show (foldE r _ (k+1) (if (L k||k==k+(m+1))=true then ρ.puts y.ws else ρ)).get t=_
     rw[hk,Bool.or_false]
     exact this
theorem mask_fold {acc:List Nat}{i:Nat}:∀ (l:List Edge) (s:Nat),(l.foldl (fun s e=>if Region.binds .any e=true then s||| 2 ^ e.on||| acc.getD e.on 0 else s) s).testBit i=true→
   s.testBit i=true∨∃ e∈l,Region.binds .any e=true∧(e.on=i∨(acc.getD e.on 0).testBit i=true)
 | [],s,h=>.inl h
 | e::l,s,h=>by
   rcases mask_fold l _ h with h | ⟨e',h1,h2⟩
   · simp only at h
     split at h
     · rename_i hb
       rw[Nat.testBit_or,Nat.testBit_or,Nat.testBit_two_pow]at h
       simp only[Bool.or_eq_true,decide_eq_true_eq]at h
       rcases h with(h | h) | h
       · exact .inl h
       · exact .inr ⟨e,by simp,hb,.inl h⟩
       · exact .inr ⟨e,by simp,hb,.inr h⟩
     · exact .inl h
   · exact .inr ⟨e',by simp[h1],h2⟩
theorem masks_pre:∀ (ops:List Oper) (acc:List Nat),∃ r,masks ops acc=acc++r∧r.length=ops.length
 | [],acc=>⟨[],by simp[masks],rfl⟩
 | o::ops,acc=>by
   obtain⟨r,h1,h2⟩:=masks_pre ops (acc++[maskOf acc o])
   exact⟨maskOf acc o::r,by simp[masks,h1],by simp[h2]⟩
theorem masks_at:∀ (ops:List Oper) (acc:List Nat) (j:Nat) (o:Oper),ops[j]?=some o→
   ∃ pre,pre.length=acc.length+j∧(∃ r,masks ops acc=pre++r)∧(masks ops acc).getD (acc.length+j) 0=maskOf pre o
 | [],_,_,_,h=>by simp at h
 | o'::ops,acc,0,o,h=>by
   simp at h;subst h
   obtain⟨r,h1,_⟩:=masks_pre ops (acc++[maskOf acc o'])
   refine⟨acc,rfl,⟨maskOf acc o'::r,by simp[masks,h1]⟩,?_⟩
   simp[masks,h1]
 | o'::ops,acc,j+1,o,h=>by
   obtain⟨pre,h1,h2,h3⟩:=masks_at ops (acc++[maskOf acc o']) j o (by simpa using h)
   refine⟨pre,by rw[h1];simp;omega,h2,?_⟩
   rw[←h3]
   simp[masks]
   congr 2;omega
theorem edges_lt:∀ (ops:List Oper) (k j:Nat) (o:Oper),edgesOk k ops=true→ops[j]?=some o→∀ e∈o.after.toList,Region.binds .any e=true→e.on<k+j
 | [],_,_,_,_,h=>by simp at h
 | o'::ops,k,0,o,hE,h=>by
   simp at h;subst h
   intro e he hb
   simp only[edgesOk,Bool.and_eq_true]at hE
   have:=List.all_eq_true.1 hE.1 e he
   simpa [hb] using this
 | o'::ops,k,j+1,o,hE,h=>by
   intro e he hb
   simp only[edgesOk,Bool.and_eq_true]at hE
   have:=edges_lt ops (k+1) j o hE.2 (by simpa using h) e he hb
   omega
theorem mask_anc {ops:List Oper}(hE:edgesOk 0 ops=true){L:Nat→Bool}
   (hc:∀ j o,ops[j]?=some o→L j=true→∀ e∈o.after.toList,Region.binds .any e=true→L e.on=true):
   ∀ (N j:Nat) (o:Oper),j<N→ops[j]?=some o→(∀ e∈o.after.toList,Region.binds .any e=true→L e.on=true)→∀ i,((masks ops []).getD j 0).testBit i=true→L i=true
 | 0,j,o,h,_,_,_,_=>by omega
 | N+1,j,o,hN,ho,hd,i,hi=>by
   obtain⟨pre,h1,⟨r,h2⟩,h3⟩:=masks_at ops [] j o ho
   simp only[List.length_nil,Nat.zero_add]at h1 h3
   rw[h3]at hi
   rcases mask_fold _ _ hi with h | ⟨e,he,hb,h⟩
   · simp at h
   · rcases h with rfl | h
     · exact hd e he hb
     · have hlt:=edges_lt ops 0 j o hE ho e he hb
       rw[Nat.zero_add]at hlt
       have hj:=(List.getElem?_eq_some_iff.1 ho).1
       have ho':ops[e.on]?=some ops[e.on]:=List.getElem?_eq_getElem (by omega)
       have heq:(masks ops []).getD e.on 0=pre.getD e.on 0:=by
         rw[h2,List.getD_eq_getElem?_getD,List.getD_eq_getElem?_getD,List.getElem?_append_left (by omega)]
       exact mask_anc hE hc N e.on _ (by omega) ho' (hc e.on _ ho' (hd e he hb)) i (by rw[heq];exact h)
end Fw
namespace Fw
open Go
def Agree (ρ ρ':Env)(x:Operand):Prop:=∀ t∈opdReads ρ x,ρ'.get t=ρ.get t
theorem froz_tgt {a a':A}(ha:froz a=some a'):a'.tgt=none:=by
 unfold froz at ha
 split at ha
 · split at ha
   · simp only[Option.some.injEq]at ha;subst ha;rfl
   · cases ha
 · split at ha
   · simp only[Option.some.injEq]at ha;subst ha;rfl
   · cases ha
 · cases ha
theorem tkTp_congr {R:Type}(j i:Nat)(e:Ent)(k k':(s:Sh)→El s.ty→List Wr→Option R)(h:∀ s x ws,(∀ w∈ws,w.a.tgt=none)→k s x ws=k' s x ws):tkTp j i e k=tkTp j i e k':=by
 unfold tkTp
 split
 · split
   · exact h _ _ _ (by simp[A.tgt])
   · rfl
 · rfl
theorem tkCut_congr {R:Type}(j off:Nat)(t:Ty)(e:Ent)(k k':(s:Sh)→El s.ty→List Wr→Option R)(h:∀ s x ws,(∀ w∈ws,w.a.tgt=none)→k s x ws=k' s x ws):tkCut j off t e k=tkCut j off t e k':=by
 unfold tkCut
 split
 · congr 1
   funext s' y s2 x2
   split
   · exact h _ _ _ (by simp[A.tgt])
   · rfl
 · congr 1
   funext s' y s2 x2
   split
   · exact h _ _ _ (by simp[A.tgt])
   · rfl
 · rfl
theorem tk_congr {R:Type}(o:Opd)(k k':(s:Sh)→El s.ty→List Wr→Option R)(h:∀ s x ws,(∀ w∈ws,w.a.tgt=none)→k s x ws=k' s x ws):tk o k=tk o k':=by
 unfold tk
 split
 · rename_i s x _
   split
   · exact h s x [] (by simp)
   · split
     · exact h _ _ _ (by simp[A.tgt])
     · rfl
 · split
   · split
     · exact tkTp_congr _ _ _ _ _ h
     · cases hf:froz o.tgt.a with
       | none=>rfl
       | some a'=>
         refine h _ _ _ ?_
         intro w hw
         rw[List.mem_singleton.1 hw]
         exact froz_tgt hf
   · rfl
 · rfl
theorem agree_opd {ρ ρ':Env}{x:Operand}(h:Agree ρ ρ' x)(gd:Gd):opd ρ' gd x=opd ρ gd x:=same_reads h gd
theorem puts_ent (ws:List Wr):∀ (ρ:Env) (t:Nat),(∀ w∈ws,w.a.tgt=none)→((ρ.puts ws).get t=ρ.get t∨((ρ.puts ws).get t).a.tgt=none):=by
 induction ws with
 | nil=>intro ρ t _;exact .inl rfl
 | cons w r ih=>
   intro ρ t h
   rcases ih (ρ.put w) t (fun w' hw=>h w' (by simp[hw]))with h1 | h1
   · show ((ρ.put w).puts r).get t=_∨(((ρ.put w).puts r).get t).a.tgt=none
     rw[h1,Env.get_put]
     split
     · right
       have:=h w (by simp)
       split<;>exact this
     · exact .inl rfl
   · exact .inr h1
theorem agree_puts {ρ ρ':Env}{x:Operand}{ws:List Wr}(hw:∀ w∈ws,w.a.tgt=none)(h:Agree ρ ρ' x):Agree (ρ.puts ws) (ρ'.puts ws) x:=by
 intro t ht
 cases x with
 | tmp s=>
   simp only[opdReads]at ht
   have hs:ρ'.get s=ρ.get s:=h s (by simp only[opdReads];split<;>simp)
   have hin:∀ u,ρ'.get u=ρ.get u→(ρ'.puts ws).get u=(ρ.puts ws).get u:=fun u e=>puts_get_congr ws e
   rcases puts_ent ws ρ s hw with e | e
   · rw[e]at ht
     exact hin t (h t ht)
   · rw[e]at ht
     simp only[List.mem_singleton]at ht
     subst ht;exact hin _ hs
 | const _=>simp[opdReads]at ht
 | func _=>simp[opdReads]at ht
 | global _=>simp[opdReads]at ht
theorem look_mem2 {α:Type}:∀ (l:List (Nat×α)) (i:Nat) (o:α),look l i=some o→(i,o)∈l
 | (k,a)::r,i,o,h=>by
   unfold look at h
   split at h
   · rename_i e;simp only[Option.some.injEq]at h;subst h;subst e;simp
   · exact List.mem_cons_of_mem _ (look_mem2 r i o h)
 | [],_,_,h=>by simp[look]at h
theorem buildK_congr {R:Type}:∀ (fl:List (Nat×Ty)) (i:Nat) (gd:Gd) (ρ ρ':Env) (ps:List (Nat×Operand)) (k:(s:Sh)→El s.ty→List Wr→Option R),
   (∀ p∈ps,Agree ρ ρ' p.2)→buildK fl i gd ρ' ps k=buildK fl i gd ρ ps k
 | [],_,_,_,_,_,_,_=>rfl
 | [(_,t)],i,gd,ρ,ρ',ps,k,h=>by
   unfold buildK
   split
   · rename_i o ho
     rw[agree_opd (h _ (look_mem2 ps i o ho)) gd]
   · rfl
 | (_,t)::f::r,i,gd,ρ,ρ',ps,k,h=>by
   unfold buildK
   split
   · rename_i o ho
     rw[agree_opd (h _ (look_mem2 ps i o ho)) gd]
     refine tk_congr _ _ _ fun s x ws hw=>?_
     split
     · rw[buildK_congr (f::r) (i+1) (nextG gd ws) (ρ.puts ws) (ρ'.puts ws) ps _ fun p hp=>agree_puts hw (h p hp)]
     · rfl
   · congr 1
     funext s x
     rw[buildK_congr (f::r) (i+1) gd ρ ρ' ps _ h]
theorem tkOwn_congr {R:Type}(o:Opd)(k k':(s:Sh)→El s.ty→List Wr→Option R)(h:∀ s x ws,(∀ w∈ws,w.a.tgt=none)→k s x ws=k' s x ws):tkOwn o k=tkOwn o k':=by
 unfold tkOwn
 split
 · split
   · exact tkCut_congr _ _ _ _ _ _ h
   · rfl
 · split
   · exact tkTp_congr _ _ _ _ _ h
   · rfl
 · split
   · exact h _ _ [] (by simp)
   · split
     · exact h _ _ _ (by simp[A.tgt])
     · rfl
 · rfl
theorem elemsK_congr {R:Type}(s:Sh):∀ (ps:List (Nat×Operand)) (gd:Gd) (ρ ρ':Env) (i:Nat) (k:List (El s.ty)→List Wr→Option R),
   (∀ p∈ps,Agree ρ ρ' p.2)→elemsK s gd ρ' ps i k=elemsK s gd ρ ps i k
 | [],_,_,_,_,_,_=>rfl
 | (j,o)::r,gd,ρ,ρ',i,k,h=>by
   unfold elemsK
   split
   · rw[agree_opd (h (j,o) (by simp)) gd]
     unfold tkEl
     have ih:=fun(ws:List Wr) (hw:∀ w∈ws,w.a.tgt=none) k=>elemsK_congr (R:=R) s r (nextG gd ws) (ρ.puts ws) (ρ'.puts ws) (i+1) k fun p hp=>agree_puts hw (h p (by simp[hp]))
     split
     · unfold tkAs
       refine tk_congr _ _ _ fun s' x ws hw=>?_
       split
       · split
         · congr 1;funext y;exact ih ws hw _
         · split
           · congr 1;funext y;exact ih ws hw _
           · rfl
       · rfl
     · refine tkOwn_congr _ _ _ fun s' x ws hw=>?_
       split
       · split
         · congr 1;funext y;exact ih ws hw _
         · rfl
       · rfl
   · rfl
theorem arrK_congr {R:Type}(e:Ty)(gd:Gd)(ρ ρ':Env)(ps:List (Nat×Operand))(h:∀ p∈ps,Agree ρ ρ' p.2):∀ (n i:Nat) (k:List (El e)→Option R),
   arrK e gd ρ' n i ps k=arrK e gd ρ n i ps k
 | 0,_,_=>rfl
 | n+1,i,k=>by
   unfold arrK
   split
   · rename_i o ho
     rw[agree_opd (h _ (look_mem2 ps i o ho)) gd]
     congr 1;funext x;exact arrK_congr e gd ρ ρ' ps h n (i+1) _
   · exact arrK_congr e gd ρ ρ' ps h n (i+1) _
theorem elemSh_congr (e:Ty)(gd:Gd)(ρ ρ':Env)(ps:List (Nat×Operand))(h:∀ p∈ps,Agree ρ ρ' p.2):elemSh e gd ρ' ps=elemSh e gd ρ ps:=by
 cases ps with
 | nil=>rfl
 | cons p r=>
   obtain⟨i,o⟩:=p
   have e:opd ρ' gd o=opd ρ gd o:=agree_opd (h (i,o) (by simp)) gd
   unfold elemSh
   simp only[e]
theorem agree_tgt {ρ ρ':Env}{x:Operand}{gd:Gd}(h:Agree ρ ρ' x){k:Nat}(hk:(opd ρ gd x).a.tgt=some k):ρ'.get k=ρ.get k:=by
 cases x with
 | tmp t=>
   have hk:((ρ.get t).a.stripG gd).tgt=some k:=hk
   rw[strip_tgt]at hk
   exact h k (by simp only[opdReads,hk];simp)
 | const v=>rw[show (opd ρ gd (.const v)).a=ofConst v from rfl,ofConst_tgt]at hk;cases hk
 | func f=>cases hk
 | global f=>cases hk
theorem exAppA_congr {E:Ty}{d:Nat}{gd:Gd}{ρ ρ':Env}{a b:Operand}(ha:Agree ρ ρ' a)(hb:Agree ρ ρ' b):exAppA E d gd ρ' a b=exAppA E d gd ρ a b:=by
 unfold exAppA
 rw[agree_opd ha gd]
 refine tkOwn_congr _ _ _ fun s x' ws hw=>?_
 have hb':=agree_puts hw hb
 rw[agree_opd hb' (nextG gd ws)]
 split
 · congr 1
   cases hq:(opd (ρ.puts ws) (nextG gd ws) b).a with
   | bor k g ver t y org bx=>
     have:=agree_tgt (gd:=nextG gd ws) hb' (k:=k) (by rw[hq];rfl)
     cases t<;>cases org<;>cases bx<;>first | rfl | simp only[this]
   | _=>rfl
 · rfl
theorem exAppB_congr {E:Ty}{d:Nat}{gd:Gd}{ρ ρ':Env}{a b:Operand}(ha:Agree ρ ρ' a)(hb:Agree ρ ρ' b):exAppB E d gd ρ' a b=exAppB E d gd ρ a b:=by
 unfold exAppB
 rw[agree_opd ha gd]
 cases hq:(opd ρ gd a).a with
 | br k g ver off n1 s ys=>
   cases hs:(opd ρ gd a).slot with
   | none=>rfl
   | some j=>
     have hk:=agree_tgt (gd:=gd) ha (k:=k) (by rw[hq];rfl)
     have hb':=agree_puts (ws:=[w1 j .junk]) (by simp[w1,A.tgt]) hb
     have hk':(ρ'.puts [w1 j .junk]).get k=(ρ.puts [w1 j .junk]).get k:=puts_get_congr _ hk
     simp only[hk,hk',agree_opd hb' (nextG gd [w1 j .junk])]
     cases hq2:(opd (ρ.puts [w1 j .junk]) (nextG gd [w1 j .junk]) b).a with
     | bor k2 g2 ver2 t2 y2 org2 bx=>
       have:=agree_tgt (gd:=nextG gd [w1 j .junk]) hb' (k:=k2) (by rw[hq2];rfl)
       cases t2<;>cases org2<;>cases bx<;>first | rfl | simp only[this]
     | _=>rfl
 | _=>rfl
theorem exAppD_congr {E:Ty}{d:Nat}{gd:Gd}{ρ ρ':Env}{a b:Operand}(ha:Agree ρ ρ' a)(hb:Agree ρ ρ' b):exAppD E d gd ρ' a b=exAppD E d gd ρ a b:=by
 unfold exAppD
 rw[agree_opd ha gd,agree_opd hb gd]
 cases hq:(opd ρ gd a).a with
 | bor k g ver t y org bx=>
   have:=agree_tgt (gd:=gd) ha (k:=k) (by rw[hq];rfl)
   cases t<;>cases org<;>cases bx<;>first | rfl | skip
   cases hq2:(opd ρ gd b).a with
   | bor k2 g2 ver2 t2 y2 org2 bx2=>cases t2<;>cases org2<;>cases bx2<;>first | rfl | simp only[this]
   | _=>rfl
 | _=>rfl
theorem exAppend_congr {C:Ctx}{t:TypeId}{d:Nat}{gd:Gd}{ρ ρ':Env}{a b:Operand}(ha:Agree ρ ρ' a)(hb:Agree ρ ρ' b):exAppend C t d gd ρ' a b=exAppend C t d gd ρ a b:=by
 unfold exAppend
 split
 · rw[agree_opd ha gd]
   refine tkOwn_congr _ _ _ fun s x' ws hw=>?_
   rw[agree_opd (agree_puts hw hb) _]
 · rfl
theorem exAppZ_congr {E:Ty}{d:Nat}{gd:Gd}{ρ ρ':Env}{a b:Operand}(ha:Agree ρ ρ' a)(hb:Agree ρ ρ' b):exAppZ E d gd ρ' a b=exAppZ E d gd ρ a b:=by
 unfold exAppZ
 rw[agree_opd ha gd]
 cases hq:(opd ρ gd a).a with
 | br k g ver off n1 s ys=>
   cases hs:(opd ρ gd a).slot with
   | none=>rfl
   | some j=>
     cases ys with
     | cons y ys=>rfl
     | nil=>
     have hk:=agree_tgt (gd:=gd) ha (k:=k) (by rw[hq];rfl)
     have hb':=agree_puts (ws:=[w1 j .junk]) (by simp[w1,A.tgt]) hb
     have hk':(ρ'.puts [w1 j .junk]).get k=(ρ.puts [w1 j .junk]).get k:=puts_get_congr _ hk
     simp only[hk,hk',agree_opd hb' (nextG gd [w1 j .junk])]
     cases hq2:(opd (ρ.puts [w1 j .junk]) (nextG gd [w1 j .junk]) b).a with
     | bor k2 g2 ver2 t2 y2 org2 bx=>
       have:=agree_tgt (gd:=nextG gd [w1 j .junk]) hb' (k:=k2) (by rw[hq2];rfl)
       cases t2<;>cases org2<;>cases bx<;>first | rfl | simp only[this]
     | _=>rfl
 | _=>rfl
theorem appX_congr {C:Ctx}{t:TypeId}{d:Nat}{gd:Gd}{ρ ρ':Env}{a b:Operand}(ha:Agree ρ ρ' a)(hb:Agree ρ ρ' b):appX C t d gd ρ' a b=appX C t d gd ρ a b:=by
 unfold appX
 rw[agree_opd ha gd,agree_opd hb gd]
 cases C.ty t with
 | none=>rfl
 | some T=>cases T<;>first | rfl | simp only[exAppend_congr ha hb,exAppA_congr ha hb,exAppB_congr ha hb,exAppD_congr ha hb,exAppZ_congr ha hb]
theorem exBuild_congr {C:Ctx}{t:TypeId}{d:Nat}{gd:Gd}{ρ ρ':Env}{ps:List (Nat×Operand)}(hp:∀ p∈ps,Agree ρ ρ' p.2):exBuild C t d gd ρ' ps=exBuild C t d gd ρ ps:=by
 simp only[exBuild]
 split
 · split
   · split
     · rw[buildK_congr _ _ _ ρ ρ' _ _ hp]
     · rfl
   · rfl
 · split
   · rw[arrK_congr _ _ ρ ρ' _ hp]
   · rfl
 · rfl
theorem exBuildZ2_congr {C:Ctx}{t:TypeId}{d:Nat}{ρ ρ':Env}{ps:List (Nat×Operand)}{k off2 j2:Nat}{t2:Ty}(hk:ρ'.get k=ρ.get k)(hp:∀ p∈ps,Agree ρ ρ' p.2):
   exBuildZ2 C t d ρ' ps k off2 t2 j2=exBuildZ2 C t d ρ ps k off2 t2 j2:=by
 unfold exBuildZ2
 rw[hk]
 split
 · refine tkCut_congr _ _ _ _ _ _ fun s x ws hw=>?_
   rw[exBuild_congr (fun p hp'=>agree_puts (ws:=[w1 j2 (.c s x)]) (by simp[w1,A.tgt]) (agree_puts hw (hp p hp')))]
 · rfl
theorem exBuildZ_congr {C:Ctx}{t:TypeId}{d:Nat}{ρ ρ':Env}{ps:List (Nat×Operand)}(hp:∀ p∈ps,Agree ρ ρ' p.2):exBuildZ C t d ρ' ps=exBuildZ C t d ρ ps:=by
 cases ps with
 | nil=>rfl
 | cons p r=>
 obtain⟨i1,o1⟩:=p
 cases o1 with
 | tmp j1=>
   cases r with
   | nil=>rfl
   | cons p r=>
   obtain⟨i2,o2⟩:=p
   cases o2 with
   | tmp j2=>
     cases r with
     | cons p r=>rfl
     | nil=>
       have h1:=hp (i1,.tmp j1) (by simp)
       have h2:=hp (i2,.tmp j2) (by simp)
       have e1:ρ'.get j1=ρ.get j1:=h1 j1 (by simp only[opdReads];split<;>simp)
       have e2:ρ'.get j2=ρ.get j2:=h2 j2 (by simp only[opdReads];split<;>simp)
       simp only[exBuildZ,e1,e2]
       cases hq1:(ρ.get j1).a with
       | lz k g ver off n1 lo s=>
         cases hq2:(ρ.get j2).a with
         | bor k2 g2 ver2 t2 y2 org2 bx=>
           have ek:ρ'.get k=ρ.get k:=h1 k (by simp only[opdReads];rw[hq1];simp[A.tgt])
           have ek1:(ρ'.puts [w1 j1 .junk]).get k=(ρ.puts [w1 j1 .junk]).get k:=puts_get_congr _ ek
           cases org2<;>cases bx<;>first | rfl | skip
           simp only[ek,ek1]
           split
           · refine tkCut_congr _ _ _ _ _ _ fun s1 zs ws1 hw=>?_
             cases s1<;>first | rfl | skip
             rename_i e
             simp only
             split
             · rename_i he
               subst he
               rw[castSh_rfl,castSh_rfl]
               rw[exBuildZ2_congr (puts_get_congr _ (puts_get_congr _ ek1)) (fun p hp'=>agree_puts (ws:=[w1 j1 (.c (.own e) (List.take n1 zs++List.drop lo zs))]) (by simp[w1,A.tgt]) (agree_puts hw (agree_puts (ws:=[w1 j1 .junk]) (by simp[w1,A.tgt]) (hp p hp'))))]
             · rfl
           · rfl
         | _=>rfl
       | _=>rfl
   | _=>rfl
 | _=>rfl
theorem exBuildX_congr {C:Ctx}{t:TypeId}{d:Nat}{gd:Gd}{ρ ρ':Env}{ps:List (Nat×Operand)}(hp:∀ p∈ps,Agree ρ ρ' p.2):exBuildX C t d gd ρ' ps=exBuildX C t d gd ρ ps:=by
 unfold exBuildX
 rw[exBuildZ_congr hp,exBuild_congr hp]
 cases gd with
 | none=>rfl
 | some q=>simp only[exBuild_congr hp]
theorem ex_agree {C:Ctx}{gd:Gd}{ρ ρ':Env}{o:Oper}(h:∀ x∈o.op.operands.toList,Agree ρ ρ' x):ex C gd ρ' o=ex C gd ρ o:=by
 by_cases hb:notBuild o.op=true
 · exact ex_congr hb fun x hx=>same_reads (h x hx)
 · obtain⟨dst,op,type,pos,after,guard⟩:=o
   simp only at h hb
   cases op with
   | build t ps=>
     have hp:∀ p∈ps.toList,Agree ρ ρ' p.2:=fun p hp=>h p.2 (by simp[Op.operands];exact⟨p.1,by simpa using hp⟩)
     unfold ex exAt
     cases dst with
     | none=>rfl
     | some d=>
       simp only
       rw[exBuildX_congr hp]
   | buildSlice t l ps=>
     have hp:∀ p∈ps.toList,Agree ρ ρ' p.2:=fun p hp=>h p.2 (by simp[Op.operands];exact⟨p.1,by simpa using hp⟩)
     unfold ex exAt
     cases dst with
     | none=>rfl
     | some d=>
       simp only[exBuildSlice]
       split
       · split
         · rw[elemSh_congr _ _ ρ ρ' _ hp]
           split
           · rw[elemsK_congr _ _ _ ρ ρ' _ _ hp]
           · rfl
         · rfl
       · rfl
   | call c=>
     obtain⟨callee,args,tys⟩:=c
     have hx:∀ x∈args.toList,Agree ρ ρ' x:=fun x hx=>h x (by simp[Op.operands,Call.operands];right;simpa using hx)
     cases callee with
     | builtin b=>
       cases b with
       | append=>
         unfold ex exAt
         cases dst with
         | none=>rfl
         | some d=>
           simp only
           split
           · split
             · rename_i x y t u ha ht
               split
               · exact appX_congr (hx x (by simp[ha])) (hx y (by simp[ha]))
               · rfl
             · rfl
           · rfl
       | _=>simp[notBuild]at hb
     | _=>simp[notBuild]at hb
   | _=>simp[notBuild]at hb
theorem ptrMv_ok {ops:List Oper}{ρ:Env}{o:Oper}{t:Nat}(h:ptrMv ops ρ o=some t):o.guard=none∧o.op=.move (.tmp t)∧isRefB (ρ.get t).a=true:=by
 unfold ptrMv at h
 split at h
 · rename_i u hg ho
   split at h
   · rename_i hc
     simp only[Option.some.injEq]at h
     subst h
     rw[Bool.and_eq_true]at hc
     exact⟨hg,ho,hc.1⟩
   · cases h
 · cases h
theorem isRefB_ok {a:A}(h:isRefB a=true):∃ (s:Sh) (x:El s.ty),a=.c (.ref s) x:=by
 unfold isRefB at h
 split at h
 · exact⟨_,_,rfl⟩
 · cases h
theorem step_ptr {C:Ctx}{ops:List Oper}{ρ ρ':Env}{o:Oper}{t:Nat}(h:ptrMv ops ρ o=some t)(hr:isRefB (ρ'.get t).a=true)(hg:(ρ'.get t).g=(ρ.get t).g):step C ops ρ' o=step C ops ρ o:=by
 obtain⟨h1,h2,h3⟩:=ptrMv_ok h
 obtain⟨s,x,e⟩:=isRefB_ok h3
 obtain⟨s',x',e'⟩:=isRefB_ok hr
 obtain⟨dst,op,type,pos,after,guard⟩:=o
 simp only at h1 h2
 subst h1;subst h2
 unfold step
 simp only
 unfold ex exAt
 cases dst with
 | none=>rfl
 | some d=>
   simp only[isNilSl,Bool.false_eq_true,if_false]
   have key:∀ (σ:Env) (s:Sh) (x:El s.ty),(σ.get t).a=.c (.ref s) x→exCopy C false d (opd σ none (.tmp t))=out1 d (.ptr t (σ.get t).g 0):=by
     intro σ s x hx
     unfold exCopy
     simp only[opd,A.stripG,hx,Sh.free,Bool.false_eq_true,if_false]
   rw[key ρ s x e,key ρ' s' x' e',hg]
theorem puts_ref {t:Nat}:∀ (ws:List Wr) (ρ:Env),(∀ w∈ws,w.slot=t→(w.keep&&isRefB w.a)=true)→isRefB (ρ.get t).a=true→isRefB ((ρ.puts ws).get t).a=true∧((ρ.puts ws).get t).g=(ρ.get t).g
 | [],_,_,h=>⟨h,rfl⟩
 | w::r,ρ,hw,h=>by
   show isRefB (((ρ.put w).puts r).get t).a=true∧(((ρ.put w).puts r).get t).g=(ρ.get t).g
   have hp:isRefB ((ρ.put w).get t).a=true∧((ρ.put w).get t).g=(ρ.get t).g:=by
     rw[Env.get_put]
     split
     · rename_i e
       have:=hw w (by simp) e.symm
       rw[Bool.and_eq_true]at this
       rw[if_pos this.1]
       subst e
       exact⟨this.2,rfl⟩
     · exact⟨h,rfl⟩
   have:=puts_ref r (ρ.put w) (fun y hy=>hw y (by simp[hy])) hp.1
   exact⟨this.1,this.2.trans hp.2⟩
theorem foldE_ref {t:Nat}{L:Nat→Bool}:∀ (T:List Tr) (k:Nat) (ρ:Env),(∀ x∈T,∀ w∈x.ws,w.slot=t→(w.keep&&isRefB w.a)=true)→isRefB (ρ.get t).a=true→
   isRefB ((foldE T L k ρ).get t).a=true∧((foldE T L k ρ).get t).g=(ρ.get t).g
 | [],_,_,_,h=>⟨h,rfl⟩
 | x::r,k,ρ,hT,h=>by
   show isRefB ((foldE r L (k+1) (if L k=true then ρ.puts x.ws else ρ)).get t).a=true∧((foldE r L (k+1) (if L k=true then ρ.puts x.ws else ρ)).get t).g=(ρ.get t).g
   have hp:isRefB ((if L k=true then ρ.puts x.ws else ρ).get t).a=true∧((if L k=true then ρ.puts x.ws else ρ).get t).g=(ρ.get t).g:=by
     split
     · exact puts_ref x.ws ρ (hT x (by simp)) h
     · exact⟨h,rfl⟩
   have:=foldE_ref (L:=L) r (k+1) _ (fun y hy=>hT y (by simp[hy])) hp.1
   exact⟨this.1,this.2.trans hp.2⟩
theorem step_agree {C:Ctx}{ops:List Oper}{ρ ρ':Env}{o:Oper}(h:∀ t∈readsOf ops ρ o,ρ'.get t=ρ.get t)(hpm:ptrMv ops ρ o=none):step C ops ρ' o=step C ops ρ o:=by
 have h:∀ t∈readsOf0 ops ρ o,ρ'.get t=ρ.get t:=by
   unfold readsOf at h
   rw[hpm]at h
   exact h
 have hs:∀ x∈o.op.operands.toList,Agree ρ ρ' x:=fun x hx t ht=>h t (by
   unfold readsOf0
   rw[List.mem_append]
   exact .inr (List.mem_flatMap.2 ⟨x,hx,ht⟩))
 unfold step
 cases hg:o.guard with
 | none=>exact ex_agree hs
 | some q=>
   obtain⟨j,b⟩:=q
   simp only
   cases hd:dstOf ops j with
   | none=>rfl
   | some s=>
     have hr:∀ t∈s::condReads (ρ.get s).a,ρ'.get t=ρ.get t:=fun t ht=>h t (by
       unfold readsOf0
       rw[hg]
       simp only[hd]
       rw[List.mem_append]
       exact .inl ht)
     have h0:=hr s (by simp)
     have hc:coreB ρ' (ρ.get s).a=coreB ρ (ρ.get s).a:=by
       cases ha:(ρ.get s).a with
       | cond s' g ver w a=>
         rw[ha]at hr
         have:=hr s' (by simp[condReads])
         simp only[coreB,this]
       | c s x=>cases s<;>first | rfl | (rename_i t;cases t<;>rfl)
       | _=>rfl
     simp only[h0,hc,ex_agree hs]
theorem trace_at {C:Ctx}{ops:List Oper}:∀ (l:List Oper) (ρ ρ2:Env) (T:List Tr),trace C ops l ρ=some (T,ρ2)→
   T.length=l.length∧∀ (k:Nat),foldE T (fun _=>true) k ρ=ρ2∧∀ (i:Nat) (o:Oper),l[i]?=some o→∃ t,T[i]?=some t∧
     step C ops (foldE T (fun j=>decide (j<k+i)) k ρ) o=some (t.ws,t.cs)∧t.rd=readsOf ops (foldE T (fun j=>decide (j<k+i)) k ρ) o∧t.pr=prOf ops (foldE T (fun j=>decide (j<k+i)) k ρ) o
 | [],ρ,ρ2,T,h=>by
   simp only[trace,Option.some.injEq,Prod.mk.injEq]at h
   obtain⟨rfl,rfl⟩:=h
   exact⟨rfl,fun k=>⟨rfl,fun i o h=>by simp at h⟩⟩
 | o::l,ρ,ρ2,T,h=>by
   simp only[trace]at h
   split at h
   · rename_i ws cs hs
     rw[putsK_eq]at h
     split at h
     · rename_i T' ρ' ht
       simp only[Option.some.injEq,Prod.mk.injEq]at h
       obtain⟨rfl,rfl⟩:=h
       obtain⟨h1,h2⟩:=trace_at l _ _ _ ht
       refine⟨by simp[h1],fun k=>⟨?_,fun i o' hi=>?_⟩⟩
       · simp only[foldE,if_true];exact(h2 (k+1)).1
       · have none_le:∀ (T:List Tr) (m:Nat) (σ:Env),k≤m→foldE T (fun j=>decide (j<k)) m σ=σ:=by
           intro T
           induction T with
           | nil=>intro m σ _;rfl
           | cons t r ih=>
             intro m σ hm
             simp only[foldE]
             rw[if_neg (by simp;omega)]
             exact ih (m+1) σ (by omega)
         cases i with
         | zero=>
           simp at hi
           subst hi
           refine⟨_,rfl,?_⟩
           rw[Nat.add_zero,none_le _ k ρ (Nat.le_refl _)]
           exact⟨hs,rfl,rfl⟩
         | succ i=>
           obtain⟨t,g1,g2⟩:=(h2 (k+1)).2 i o' (by simpa using hi)
           refine⟨t,by simpa using g1,?_⟩
           have e:foldE (⟨readsOf ops ρ o,prOf ops ρ o,ws,cs⟩::T') (fun j=>decide (j<k+(i+1))) k ρ=foldE T' (fun j=>decide (j<k+1+i)) (k+1) (ρ.puts ws):=by
             simp only[foldE]
             rw[if_pos (by simp)]
             congr 1
             funext j;congr 1;simp;omega
           rw[e];exact g2
     · cases h
   · cases h
theorem rowOk_at {ms:List Nat}{i:Nat}{x:List Nat×List Nat}:∀ (r:RW) (j k:Nat) (y:List Nat×List Nat),rowOk ms i x j r=true→r[k]?=some y→pairOk ms i (j+k) x y=true
 | [],_,_,_,_,h=>by simp at h
 | z::r,j,0,y,h,hk=>by
   simp only[rowOk,Bool.and_eq_true]at h
   simp at hk;subst hk;exact h.1
 | z::r,j,k+1,y,h,hk=>by
   simp only[rowOk,Bool.and_eq_true]at h
   have:=rowOk_at r (j+1) k y h.2 (by simpa using hk)
   rwa [show j+(k+1)=j+1+k by omega]
theorem allOk_at {ms:List Nat}:∀ (r:RW) (k i j:Nat) (x y:List Nat×List Nat),allOk ms k r=true→r[i]?=some x→r[j]?=some y→i<j→pairOk ms (k+i) (k+j) x y=true
 | [],_,_,_,_,_,_,h,_,_=>by simp at h
 | z::r,k,0,j+1,x,y,h,hi,hj,_=>by
   simp only[allOk,Bool.and_eq_true]at h
   simp at hi;subst hi
   have:=rowOk_at r (k+1) j y h.1 (by simpa using hj)
   rwa [Nat.add_zero,show k+(j+1)=k+1+j by omega]
 | z::r,k,i+1,j+1,x,y,h,hi,hj,hlt=>by
   simp only[allOk,Bool.and_eq_true]at h
   have:=allOk_at r (k+1) i j x y h.2 (by simpa using hi) (by simpa using hj) (by omega)
   rwa [show k+(i+1)=k+1+i by omega,show k+(j+1)=k+1+j by omega]
 | _,_,0,0,_,_,_,_,_,h=>by omega
 | _,_,_+1,0,_,_,_,_,_,h=>by omega
theorem meets_of {a b:List Nat}{t:Nat}(ha:t∈a)(hb:t∈b):meets a b=true:=by
 unfold meets
 rw[List.any_eq_true]
 exact⟨t,ha,List.any_eq_true.2 ⟨t,hb,by simp⟩⟩
section
variable {B:Nat} {X:List Nat} {w0:World} {M0:Mem} {P:Program} {C:Ctx}
theorem touch {ops:List Oper}{T:List Tr}(hok:anyOk ops T=true){i j:Nat}{x y:Tr}(hi:T[i]?=some x)(hj:T[j]?=some y)(hlt:i<j){t:Nat}
   (h:(t∈x.ws.map (·.slot)∧(t∈y.rd∨t∈y.ws.map (·.slot)))∨(t∈y.ws.map (·.slot)∧(t∈x.rd∨t∈x.ws.map (·.slot)))):
   ((masks ops []).getD j 0).testBit i=true:=by
 unfold anyOk at hok
 simp only[Bool.and_eq_true]at hok
 have hp:=allOk_at (rwOf T) 0 i j (x.rd,x.ws.map (·.slot)) (y.rd,y.ws.map (·.slot)) hok.2 (by unfold rwOf;rw[List.getElem?_map,hi];rfl) (by unfold rwOf;rw[List.getElem?_map,hj];rfl) hlt
 rw[Nat.zero_add,Nat.zero_add]at hp
 unfold pairOk at hp
 simp only[Bool.or_eq_true,Bool.not_eq_true']at hp
 rcases hp with hp | hp
 · exfalso
   rw[Bool.or_eq_false_iff]at hp
   rcases h with⟨h1,h2⟩ | ⟨h1,h2⟩
   · rw[meets_of h1 (List.mem_append.2 h2)]at hp;cases hp.1
   · rw[meets_of h1 (List.mem_append.2 h2)]at hp;cases hp.2
 · exact hp
theorem any_ok (hC:CtxOk P C)(hF:∀ f F,C.fn f=some F→Meets P f F)(hB:B≤w0.heap.size){ops:Array Oper}{Q:Exit→Act→World→Prop}{df:List Deferred}{ρ ρ2:Env}{T:List Tr}
   (ht:trace C ops.toList ops.toList ρ=some (T,ρ2)) (hok:anyOk ops.toList T=true) (hptr:ptrB ρ (rpOf T)=true) (hc:condsOf T)
   {b:Array Value} (hp:PinOk C.pins ops) (hQ:∀ a' w',a'.defers=df→Pinned C.pins b a'.tmps→Sim C.n B X w0 M0 ρ2 a'.tmps w'→Q .normal a' w'):
   ∀ (fuel:Nat) (listed:Array Bool) (a:Act) (w:World),listed.size=ops.size→(listed.toList.filter (fun b=>!b)).length=fuel→
     (∀ (j:Nat) (o:Oper),ops[j]?=some o→listed.getD j false=true→∀ e∈o.after,Region.binds .any e=true→listed.getD e.on false=true)→
     a.defers=df→Pinned C.pins b a.tmps→Sim C.n B X w0 M0 (foldE T (fun j=>listed.getD j false) 0 ρ) a.tmps w→wpAny P .any ops Q fuel listed a w:=by
 obtain⟨hlen,hat⟩:=trace_at ops.toList ρ ρ2 T ht
 obtain⟨hall,hat⟩:=hat 0
 have hE:edgesOk 0 ops.toList=true:=by unfold anyOk at hok;simp only[Bool.and_eq_true]at hok;exact hok.1
 have hcond:∀ (i:Nat) (t:Tr),T[i]?=some t→∀ p∈t.cs,p:=by
   have key:∀ (T:List Tr),condsOf T→∀ (i:Nat) (t:Tr),T[i]?=some t→∀ p∈t.cs,p:=by
     intro T
     induction T with
     | nil=>intro _ i t h;simp at h
     | cons x r ih=>
       intro h i t hi
       cases i with
       | zero=>simp at hi;subst hi;exact h.1
       | succ i=>exact ih h.2 i t (by simpa using hi)
   exact key T hc
 -- nothing ready: all are listed
 have done:∀ (listed:Array Bool),listed.size=ops.size→Region.ready .any ops listed=[]→∀ (N j:Nat),j<N→j<ops.size→listed.getD j false=true:=by
   intro listed hsz hr N
   induction N with
   | zero=>intro j h;omega
   | succ N ih=>
     intro j hj hlt
     cases hl:listed.getD j false with
     | true=>rfl
     | false=>
       exfalso
       have ho:ops[j]?=some ops[j]:=Array.getElem?_eq_getElem hlt
       have:j∈Region.ready .any ops listed:=mem_ready.2 ⟨by
         rw[Array.getD_eq_getD_getElem?]at hl ⊢
         rw[Array.getElem?_eq_getElem (by omega)]at hl ⊢
         exact hl,ops[j],ho,fun e he hb=>by
           have hlt':=edges_lt ops.toList 0 j ops[j] hE (by simp) e (by simpa using he) hb
           exact ih e.on (by omega) (by omega)⟩
       rw[hr]at this;simp at this
 have fin:∀ (listed:Array Bool) (a:Act) (w:World),listed.size=ops.size→Region.ready .any ops listed=[]→a.defers=df→Pinned C.pins b a.tmps→
     Sim C.n B X w0 M0 (foldE T (fun j=>listed.getD j false) 0 ρ) a.tmps w→Q .normal a w:=by
   intro listed a w hsz hr hd hb ⟨M,ω,hS⟩
   refine hQ a w hd hb ⟨M,ω,hS.congr fun t=>?_⟩
   rw[←hall]
   refine foldE_get T 0 (fun i x hi _=>?_) rfl
   have:i<T.length:=(List.getElem?_eq_some_iff.1 hi).1
   have hi':i<ops.size:=by rw[hlen]at this;simpa using this
   rw[Nat.zero_add]
   exact(done listed hsz hr (i+1) i (by omega) hi').symm
 intro fuel
 induction fuel with
 | zero=>
   intro listed a w hsz hcnt hcl hd hb hS
   have hr:Region.ready .any ops listed=[]:=by
     rw[List.eq_nil_iff_forall_not_mem]
     intro j hj
     obtain⟨h0,o,ho,_⟩:=mem_ready.1 hj
     have hlt:=(Array.getElem?_eq_some_iff.1 ho).1
     have hm:listed[j]'(by omega)∈listed.toList.filter (fun b=>!b):=by
       rw[List.mem_filter]
       refine⟨by simp,?_⟩
       rw[Array.getD_eq_getD_getElem?,Array.getElem?_eq_getElem (by omega)]at h0
       simp at h0;simp[h0]
     rw[List.length_eq_zero_iff.1 hcnt]at hm
     simp at hm
   exact⟨hr,fin listed a w hsz hr hd hb hS⟩
 | succ fuel ih=>
   intro listed a w hsz hcnt hcl hd hb hS
   refine⟨fun hr=>fin listed a w hsz hr hd hb hS,fun i hi=>?_⟩
   obtain⟨h0,o,ho,hedge⟩:=mem_ready.1 hi
   have hlt:=(Array.getElem?_eq_some_iff.1 ho).1
   have hli:listed.getD i false=false:=by
     rw[Array.getD_eq_getD_getElem?]at h0 ⊢
     rw[Array.getElem?_eq_getElem (by omega)]at h0 ⊢
     exact h0
   obtain⟨x,hx,hst,hrd,hpr⟩:=hat i o (by simpa using ho)
   rw[Nat.zero_add]at hst hrd hpr
   have hclL:∀ j o,ops.toList[j]?=some o→(fun j=>listed.getD j false) j=true→∀ e∈o.after.toList,Region.binds .any e=true→(fun j=>listed.getD j false) e.on=true:=
     fun j o hj hl e he hb=>hcl j o (by simpa using hj) hl e (by simpa using he) hb
   have anc:∀ (j:Nat) (oj:Oper),ops[j]?=some oj→(∀ e∈oj.after,Region.binds .any e=true→listed.getD e.on false=true)→∀ k,((masks ops.toList []).getD j 0).testBit k=true→listed.getD k false=true:=
     fun j oj hj hh k hk=>mask_anc hE hclL (j+1) j oj (by omega) (by simpa using hj) (fun e he hb=>hh e (by simpa using he) hb) k hk
   have inops:∀ (j:Nat) (y:Tr),T[j]?=some y→∃ oj,ops[j]?=some oj:=fun j y hy=>by
     have:j<T.length:=(List.getElem?_eq_some_iff.1 hy).1
     exact⟨ops[j]'(by rw[hlen]at this;simpa using this),Array.getElem?_eq_getElem _⟩
   -- what it reads is as in the text's run
   have hread:∀ t∈readsOf ops.toList (foldE T (fun j=>decide (j<i)) 0 ρ) o,(foldE T (fun j=>listed.getD j false) 0 ρ).get t=(foldE T (fun j=>decide (j<i)) 0 ρ).get t:=by
     intro t htr
     rw[←hrd]at htr
     refine foldE_get T 0 (fun j y hy ⟨wr,hw1,hw2⟩=>?_) rfl
     rw[Nat.zero_add]
     have hm:t∈y.ws.map (·.slot):=List.mem_map.2 ⟨wr,hw1,hw2⟩
     rcases Nat.lt_trichotomy j i with hji | hji | hji
     · have hb:=touch hok hy hx hji (.inl ⟨hm,.inl htr⟩)
       have:=anc i o ho hedge j hb
       simp[this,hji]
     · subst hji;simp[hli]
     · have hb:=touch hok hx hy hji (.inr ⟨hm,.inl htr⟩)
       obtain⟨oj,hoj⟩:=inops j y hy
       have hn:listed.getD j false=false:=by
         cases hl:listed.getD j false with
         | false=>rfl
         | true=>
           have:=anc j oj hoj (hcl j oj hoj hl) i hb
           rw[hli]at this;cases this
       simp only[hn]
       symm;simp;omega
   have hst':step C ops.toList (foldE T (fun j=>listed.getD j false) 0 ρ) o=some (x.ws,x.cs):=by
     cases hpm:ptrMv ops.toList (foldE T (fun j=>decide (j<i)) 0 ρ) o with
     | none=>rw[step_agree hread hpm];exact hst
     | some t=>
       have hrx:t∈x.pr:=by
         rw[hpr];unfold prOf;rw[hpm];simp
       have hxT:x∈T:=List.mem_of_getElem? hx
       obtain⟨r1,r2⟩:=ptrB2_ok hptr (x.pr,bSl x.ws) (List.mem_map.2 ⟨x,hxT,rfl⟩) t hrx
       have hgood:∀ y∈T,∀ w∈y.ws,w.slot=t→(w.keep&&isRefB w.a)=true:=by
         intro y hy w hw hs
         cases hb:w.keep&&isRefB w.a with
         | true=>rfl
         | false=>
           exfalso
           have:=bSl_bad y.ws w hw hb
           rw[hs]at this
           exact r2 (y.pr,bSl y.ws) (List.mem_map.2 ⟨y,hy,rfl⟩) this
       have f1:=foldE_ref (L:=fun j=>listed.getD j false) T 0 ρ hgood r1
       have f2:=foldE_ref (L:=fun j=>decide (j<i)) T 0 ρ hgood r1
       rw[step_ptr hpm f1.1 (f1.2.trans f2.2.symm)];exact hst
   obtain⟨M,ω,S⟩:=hS
   refine step_ok hC hF S hB ho hst' (hcond i x hx) fun a' w' hd' hv ⟨M',ω',S'⟩=>?_
   refine ih _ a' w' (by simp[hsz]) ?_ ?_ (hd'.trans hd) (pin_put hp ho hv hb) ⟨M',ω',S'.congr fun t=>?_⟩
   · -- one fewer
     have hil:i<listed.toList.length:=by simp;omega
     have hval:listed.toList[i]=false:=by
       rw[Array.getD_eq_getD_getElem?,Array.getElem?_eq_getElem (by omega)]at hli
       simpa using hli
     rw[Array.toList_setIfInBounds]
     have key:∀ (l:List Bool) (i:Nat) (h:i<l.length),l[i]=false→((l.set i true).filter (fun b=>!b)).length+1=(l.filter (fun b=>!b)).length:=by
       intro l
       induction l with
       | nil=>intro i h;simp at h
       | cons b l ih=>
         intro i h hv
         cases i with
         | zero=>simp at hv;subst hv;simp
         | succ i=>
           have:=ih i (by simpa using h) (by simpa using hv)
           cases b<;>simp at this ⊢<;>omega
     have:=key listed.toList i hil hval
     omega
   · intro j oj hj hl e he hb
     by_cases hij:i=j
     · subst hij
       rw[hj]at ho
       simp only[Option.some.injEq]at ho
       subst ho
       exact getD_set_true (hedge e he hb)
     · rw[getD_set_ne false hij]at hl
       exact getD_set_true (hcl j oj hj hl e he hb)
   · -- the writes come last
     rw[←foldE_add (L:=fun j=>listed.getD j false) (x:=x) (m:=i) t T 0 ρ hx (by rw[Nat.zero_add];exact hli) ?_]
     · congr 2
       funext j
       rw[Nat.zero_add]
       by_cases hij:i=j
       · subst hij
         simp only[beq_self_eq_true,Bool.or_true]
         rw[Array.getD_eq_getD_getElem?,Array.getElem?_setIfInBounds_self_of_lt (by omega)]
         rfl
       · rw[getD_set_ne false hij]
         have:(j==i)=false:=by simp;omega
         rw[this,Bool.or_false]
     · intro j y hy hij hl wr hw1 wr' hw2 heq
       rw[Nat.zero_add]at hl
       obtain⟨oj,hoj⟩:=inops j y hy
       have hb:=touch hok hx hy hij (t:=wr.slot) (.inr ⟨List.mem_map.2 ⟨wr,hw1,rfl⟩,.inr (List.mem_map.2 ⟨wr',hw2,heq.symm⟩)⟩)
       have:=anc j oj hoj (hcl j oj hoj hl) i hb
       rw[hli]at this;cases this
theorem region_any (hm:P.follows .mixedOrders=true)(hC:CtxOk P C)(hF:∀ f F,C.fn f=some F→Meets P f F)(hB:B≤w0.heap.size){id:Nat}{ops:Array Oper}{Q:Exit→Act→World→Prop}{ρ ρ2:Env}{T:List Tr}
   (h:trace C ops.toList ops.toList ρ=some (T,ρ2)) (hok:anyOk ops.toList T=true) (hptr:ptrB ρ (rpOf T)=true) (hc:condsOf T) {a:Act} {w:World} (hS:Sim C.n B X w0 M0 ρ a.tmps w)
   (hp:PinOk C.pins ops) (hQ:∀ a' w',a'.defers=a.defers→Pinned C.pins a.tmps a'.tmps→Sim C.n B X w0 M0 ρ2 a'.tmps w'→Q .normal a' w'):(Code.region id ops true).wp P Q a w:=by
 refine wp_region_any hm ?_
 obtain⟨M,ω,S⟩:=hS
 refine any_ok hC hF hB h hok hptr hc hp hQ ops.size _ a _ (by simp) ?_ ?_ rfl (fun _ _=>rfl) ⟨M,ω,(S.drawn _).congr fun t=>?_⟩
 · simp
 · intro j o _ hl
   rw[Array.getD_eq_getD_getElem?,Array.getElem?_replicate]at hl
   split at hl<;>cases hl
 · refine foldE_skip T 0 fun i x _ hl=>?_
   rw[Array.getD_eq_getD_getElem?,Array.getElem?_replicate]at hl
   split at hl<;>cases hl
end
end Fw
