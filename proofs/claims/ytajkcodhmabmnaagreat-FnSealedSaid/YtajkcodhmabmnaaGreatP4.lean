/- What is sealed: the archive as it is drawn. Conditions: none. -/
import Derived.Test.YtajkcodhmabmnaaGreatP3
namespace Fw
open Go
set_option linter.unusedSimpArgs false
noncomputable def lf0 (code:List Int):Archive×Cur:=archD (curNewF code)
noncomputable def lfD (code:List Int):Archive×Int:=((lf0 code).1,IntKind.i64.wrap (1+(belowF (lf0 code).2 4).1))
noncomputable def sa1 (code:List Int):Int×Cur:=belowF (curNewF code) 60
noncomputable def saSt (code:List Int):List Stamp:=stampAllF keysT authsT [1,2,3] 1 [(sa1 code).1,(sa1 code).1,IntKind.i64.wrap ((sa1 code).1+1)] (rootForF (lfD code).1 (lfD code).2)
def padS (s:Strand):Strand:=(s.1,s.2++[((s.1.length:Int),0,0,[],[])])
def padA (a:Archive):Archive:=(a.1,a.2.set 0 (setStrand (itK a 0) (padS (itK a 0).2.2.2.2)))
def padN:Nat→Archive→Archive
 | 0,a=>a
 | n+1,a=>padN n (padA a)
def chN (a:Archive):Nat:=(itK a 0).2.2.2.2.2.length
def padAll (a:Archive):Archive:=padN (8-chN a) a
noncomputable def sealD (code:List Int):Archive×Int×List Stamp:=
 (if pick2 (onceF (sa1 code).2 10).1 (decide (((lfD code).1.2.length:Int)>0)) false=true then padAll (lfD code).1 else(lfD code).1,(lfD code).2,saSt code)
theorem padS_sm {s:Strand}(h:Sm big20 TStrand s)(hl:s.2.length+1≤big20):Sm big20 TStrand (padS s):=by
 refine⟨h.1,?_,fun r hr=>?_⟩
 · show (s.2++[_]).length≤big20
   rw[List.length_append];exact hl
 · rcases List.mem_append.1 hr with hr | hr
   · exact h.2.2 r hr
   · rw[List.mem_singleton.1 hr]
     exact⟨trivial,trivial,trivial,⟨Nat.zero_le _,fun x hx=>by simp at hx⟩,⟨Nat.zero_le _,fun x hx=>by simp at hx⟩⟩
theorem padA_pos {a:Archive}(h:a.2≠[]):(padA a).2≠[]:=fun e=>h (by
 have q:(a.2.set 0 (setStrand (itK a 0) (padS (itK a 0).2.2.2.2))).length=0:=by rw[show a.2.set 0 (setStrand (itK a 0) (padS (itK a 0).2.2.2.2))=[]from e];rfl
 rw[List.length_set]at q
 exact List.length_eq_zero_iff.1 q)
theorem padA_get {a:Archive}(h:a.2≠[]):itK (padA a) 0=setStrand (itK a 0) (padS (itK a 0).2.2.2.2):=by
 have hl:0<a.2.length:=List.length_pos_iff.2 h
 show (a.2.set 0 _).getD 0 (dflt TItem)=_
 rw[List.getD_eq_getElem?_getD,List.getElem?_set_self hl];rfl
theorem padA_chN {a:Archive}(h:a.2≠[]):chN (padA a)=chN a+1:=by
 unfold chN
 rw[padA_get h]
 show ((itK a 0).2.2.2.2.2++[_]).length=_
 rw[List.length_append];rfl
theorem itK0_sm {a:Archive}(ha:Sm big20 TArch a)(h:a.2≠[]):Sm big20 TItem (itK a 0):=by
 have hl:0<a.2.length:=List.length_pos_iff.2 h
 refine ha.2.2 _ ?_
 unfold itK
 rw[List.getD_eq_getElem?_getD,List.getElem?_eq_getElem hl];exact List.getElem_mem _
theorem padA_sm {a:Archive}(ha:Sm big20 TArch a)(h:a.2≠[])(hl:chN a<8):Sm big20 TArch (padA a):=by
 have hx:=itK0_sm ha h
 refine⟨trivial,?_,fun y hy=>?_⟩
 · show (List.set _ _ _).length≤big20
   rw[List.length_set];exact ha.2.1
 · rcases List.mem_or_eq_of_mem_set hy with hy | rfl
   · exact ha.2.2 y hy
   · exact⟨hx.1,hx.2.1,hx.2.2.1,hx.2.2.2.1,padS_sm hx.2.2.2.2 (by show chN a+1≤big20;unfold big20;omega)⟩
def pdInv (a0 a:Archive):Prop:=Sm big20 TArch a∧a.2≠[]∧padAll a=padAll a0
theorem pdStart {a:Archive}(ha:Sm big20 TArch a)(h:a.2≠[]):pdInv a a:=⟨ha,h,rfl⟩
theorem pdStep {a0 a:Archive}(h:pdInv a0 a)(g:((itK a 0).2.2.2.2.2.length:Int)<8):pdInv a0 (padA a)∧8-chN (padA a)<8-chN a:=by
 have g:chN a<8:=by show (itK a 0).2.2.2.2.2.length<8;omega
 have e:=padA_chN h.2.1
 refine⟨⟨padA_sm h.1 h.2.1 g,padA_pos h.2.1,?_⟩,by omega⟩
 rw[←h.2.2]
 unfold padAll
 rw[e,show 8-chN a=(8-(chN a+1))+1 by omega]
 rfl
theorem pdEnd {a0 a:Archive}(h:pdInv a0 a)(g:¬((itK a 0).2.2.2.2.2.length:Int)<8):a=padAll a0:=by
 have g:¬chN a<8:=by show ¬(itK a 0).2.2.2.2.2.length<8;omega
 rw[←h.2.2]
 unfold padAll
 rw[show 8-chN a=0 by omega];rfl
theorem padN_sm:∀ (n:Nat) (a:Archive),Sm big20 TArch a→a.2≠[]→chN a+n≤8→Sm big20 TArch (padN n a)
 | 0,_,h,_,_=>h
 | n+1,a,h,hp,hn=>padN_sm n (padA a) (padA_sm h hp (by omega)) (padA_pos hp) (by rw[padA_chN hp];omega)
theorem padAll_sm {a:Archive}(ha:Sm big20 TArch a)(h:a.2≠[]):Sm big20 TArch (padAll a):=by
 by_cases g:chN a≤8
 · exact padN_sm _ a ha h (by omega)
 · unfold padAll
   rw[show 8-chN a=0 by omega];exact ha
theorem sealApp {a:Archive}(g:((itK a 0).2.2.2.2.2.length:Int)<8):(itK a 0).2.2.2.2.2.length+1≤maxApp:=by unfold maxApp;omega
theorem pd_range {a:Archive}(h:a.2≠[]):inRange 0 a.2.length:=⟨Int.le_refl 0,by have:=List.length_pos_iff.2 h;omega⟩
theorem upF_get (m:Int)(d:Int):∀ (l:List Int) (j:Nat),2*j<l.length→(upF m l).getD j d=if 2*j+1<l.length then pairDF m (l.getD (2*j) d) (l.getD (2*j+1) d)else l.getD (2*j) d
 | [],j,h=>by simp at h
 | [a],j,h=>by
   have:j=0:=by simp at h;omega
   subst this
   simp[upF]
 | a::b::r,0,_=>by simp[upF]
 | a::b::r,j+1,h=>by
   have h2:2*j<r.length:=by simp at h;omega
   have q:=upF_get m d r j h2
   have e1:(upF m (a::b::r)).getD (j+1) d=(upF m r).getD j d:=by simp[upF]
   have e2:(a::b::r).getD (2*(j+1)) d=r.getD (2*j) d:=by rw[show 2*(j+1)=2*j+1+1 by omega];simp
   have e3:(a::b::r).getD (2*(j+1)+1) d=r.getD (2*j+1) d:=by rw[show 2*(j+1)+1=(2*j+1)+1+1 by omega];simp
   rw[e1,q,e2,e3]
   simp only[List.length_cons]
   by_cases g:2*j+1<r.length
   · rw[if_pos g,if_pos (by omega)]
   · rw[if_neg g,if_neg (by omega)]
theorem follow_app (m x:Int)(p q:List Step1):followF m x (p++q)=followF m (followF m x p) q:=by unfold followF;rw[List.foldl_append]
theorem follow_step (m:Int)(l:List Int)(i:Nat)(_:2≤l.length)(h:i<l.length):followF m (l.getD i (dflt TI)) (stepF l (i:Int))=(upF m l).getD (i / 2) (dflt TI):=by
 rw[upF_get m (dflt TI) l (i / 2) (by omega)]
 have em:((i:Int)).tmod 2=(i:Int) % 2:=Int.tmod_eq_emod_of_nonneg (by omega)
 unfold stepF
 by_cases g:(i:Int).tmod 2=1
 · rw[if_pos g,if_pos (by omega)]
   rw[em]at g
   have e1:((i:Int)-1).toNat=2*(i / 2):=by omega
   have e2:2*(i / 2)+1=i:=by omega
   show flStep m (l.getD i (dflt TI)) (l.getD ((i:Int)-1).toNat (dflt TI),true)=_
   rw[flL rfl,e1,e2]
 · rw[if_neg g]
   rw[em]at g
   have e2:2*(i / 2)=i:=by omega
   rw[e2]
   by_cases g2:(i:Int)+1<(l.length:Int)
   · rw[if_pos g2,if_pos (by omega)]
     show flStep m (l.getD i (dflt TI)) (l.getD ((i:Int)+1).toNat (dflt TI),false)=_
     rw[flR rfl,show ((i:Int)+1).toNat=i+1 by omega]
   · rw[if_neg g2,if_neg (by omega)];rfl
theorem path_ok (m:Int):∀ (n:Nat) (l:List Int) (i:Nat),l.length≤n→i<l.length→followF m (l.getD i (dflt TI)) (pathL m l (i:Int))=(rootL m l).getD 0 (dflt TI)
 | 0,l,i,h1,h2=>by omega
 | n+1,l,i,h1,h2=>by
   by_cases g:2≤l.length
   · have hh:=upF_half m l
     rw[pathL,dif_pos g,rootL_up g,follow_app,follow_step m l i g h2]
     have e:(i:Int).tdiv 2=((i / 2:Nat):Int):=by rw[Int.tdiv_eq_ediv_of_nonneg (by omega)];omega
     rw[e]
     exact path_ok m n (upF m l) (i / 2) (by omega) (by omega)
   · rw[pathL,dif_neg g,rootL_end g]
     have:i=0:=by omega
     subst this;rfl
theorem path_len (m:Int):∀ (k:Nat) (l:List Int) (i:Int),l.length≤2 ^ k→(pathL m l i).length≤k
 | 0,l,i,h=>by rw[pathL,dif_neg (by have:l.length≤1:=h;omega)];exact Nat.le_refl _
 | k+1,l,i,h=>by
   rw[pathL]
   split
   · have hh:=upF_half m l
     have q:=path_len m k (upF m l) (i.tdiv 2) (by rw[Nat.pow_succ]at h;omega)
     have:=stepF_len l i
     rw[List.length_append];omega
   · exact Nat.zero_le _
def levN (n:Int):Nat:=if n≤1 then 0 else if n≤2 then 1 else if n≤4 then 2 else if n≤8 then 3 else 4
def levF (n:Int):Int:=if inRangeF n 1 16=true then(levN n:Int)else 0
theorem levN_pow {n:Nat}(h:n≤16):n≤2 ^ levN (n:Int):=by
 unfold levN
 split
 · show n≤1;omega
 · split
   · show n≤2;omega
   · split
     · show n≤4;omega
     · split
       · show n≤8;omega
       · exact h
theorem inRa {n a b:Int}(h1:a≤n)(h2:n≤b):inRangeF n a b=true:=by
 unfold inRangeF pick2
 rw[decide_eq_true h1,decide_eq_true h2];rfl
theorem path_lev {m:Int}{l:List Int}{i:Int}(h:l.length≤16)(h1:1≤l.length):((pathF m l i).length:Int)≤levF (l.length:Int):=by
 unfold levF
 rw[if_pos (inRa (by omega) (by omega))]
 unfold pathF
 split
 · have:=path_len m _ l i (levN_pow h)
   omega
 · show (0:Int)≤_;omega
theorem leaves_map (a:Archive)(m:Int):leavesF a m=a.2.map (fun x=>leafForF x m):=pick_true _ _
theorem leaves_get {a:Archive}{m:Int}{k:Nat}(h:k<a.2.length):(leavesF a m).getD k (dflt TI)=leafForF (itK a k) m:=by
 rw[leaves_map,List.getD_eq_getElem?_getD,List.getElem?_map,List.getElem?_eq_getElem h]
 unfold itK
 rw[List.getD_eq_getElem?_getD,List.getElem?_eq_getElem h];rfl
theorem seal_path {a:Archive}{m:Int}{k:Nat}(hl:a.2.length≤8)(h:k<a.2.length):followF m (leafForF (itK a k) m) (pathF m (leavesF a m) (k:Int))=rootForF a m:=by
 have e:(leavesF a m).length=a.2.length:=by rw[leaves_map,List.length_map]
 unfold pathF
 rw[if_pos ⟨by omega,by omega,by omega⟩,←leaves_get h,path_ok m _ _ k (Nat.le_refl _) (by omega)]
 unfold rootForF treeF
 rw[if_pos (inRa (by omega) (by omega))]
theorem leafEq2 (x:Item)(m:Int)(r:Renewal)(h:x.2.2.2.2.2.length≤1048576)(r1:r.1=(x.2.2.2.2.1.length:Int))(r2:r.2.1=m):
   leafAtF (x.2.2.2.2.1,x.2.2.2.2.2++[r]) (docDigsF (x.2.2.2.2.1,x.2.2.2.2.2++[r]) x.2.2.1) (x.2.2.2.2.2.length:Int)=leafForF x m:=by
 have hlen:(x.2.2.2.2.2++[r]).length=x.2.2.2.2.2.length+1:=by simp
 have hdocs:docDigsF (x.2.2.2.2.1,x.2.2.2.2.2++[r]) x.2.2.1=(x.2.2.2.2.2++[r]).map (fun r=>docDigF r.2.1 x.2.2.1):=pick_true _ _
 have hlast:chAt (x.2.2.2.2.1,x.2.2.2.2.2++[r]) (x.2.2.2.2.2.length:Int)=r:=by
   unfold chAt
   rw[List.getD_eq_getElem?_getD]
   simp
 have hd:(docDigsF (x.2.2.2.2.1,x.2.2.2.2.2++[r]) x.2.2.1).getD (x.2.2.2.2.2.length) (dflt TI)=docDigF m x.2.2.1:=by
   rw[hdocs,List.getD_eq_getElem?_getD,←r2]
   simp
 have hbad:leafAtBad (x.2.2.2.2.1,x.2.2.2.2.2++[r]) (docDigsF (x.2.2.2.2.1,x.2.2.2.2.2++[r]) x.2.2.1) (x.2.2.2.2.2.length:Int)=false:=by
   unfold leafAtBad
   have e1:((docDigsF (x.2.2.2.2.1,x.2.2.2.2.2++[r]) x.2.2.1).length:Int)=((x.2.2.2.2.2++[r]).length:Int):=by rw[hdocs,List.length_map]
   rw[hlast,r1,e1]
   have e0:IntKind.i64.wrap (((x.2.2.2.2.2++[r]).length:Int)-1)=(x.2.2.2.2.2.length:Int):=by
     rw[hlen,w64 (by omega) (by omega)];omega
   show pick2 (pick2 (!(inRangeF _ 0 (IntKind.i64.wrap (((x.2.2.2.2.2++[r]).length:Int)-1)))) true (((x.2.2.2.2.2++[r]).length:Int) != ((x.2.2.2.2.2++[r]).length:Int))) true (!(inRangeF _ 0 (x.2.2.2.2.1.length:Int)))=false
   rw[e0,inRa (by omega) (Int.le_refl _),inRa (by omega) (Int.le_refl _)]
   simp[pick2]
 unfold leafAtF
 rw[if_neg (by rw[hbad];decide),hlast,r1,r2]
 have hs:subL x.2.2.2.2.1 0 (x.2.2.2.2.1.length:Int)=x.2.2.2.2.1:=by
   unfold subL
   simp
 have hb:beforeF m (x.2.2.2.2.2++[r]) (x.2.2.2.2.2.length:Int)=beforeF m x.2.2.2.2.2 (x.2.2.2.2.2.length:Int):=by
   unfold beforeF
   split
   · rename_i g
     congr 1
     rw[w64 (by omega) (by omega),List.getD_eq_getElem?_getD,List.getD_eq_getElem?_getD,List.getElem?_append_left (by omega)]
   · rfl
 show leafOfF m ((docDigsF (x.2.2.2.2.1,x.2.2.2.2.2++[r]) x.2.2.1).getD (x.2.2.2.2.2.length:Int).toNat (dflt TI)) (subL x.2.2.2.2.1 0 (x.2.2.2.2.1.length:Int)) (beforeF m (x.2.2.2.2.2++[r]) (x.2.2.2.2.2.length:Int))=leafForF x m
 have e3:((x.2.2.2.2.2.length:Nat):Int).toNat=x.2.2.2.2.2.length:=by omega
 rw[e3,hd,hs,hb]
 rfl
theorem sealOk {a:Archive}{m:Int}{st:List Stamp}(g:(sealF a m st).2=true):(archF a=true∧a.2≠[]∧(∀ k,k<a.2.length→(sealAt a m st k).2=true)∧archF (a.1,slOut a m st a.2.length)=true)∧(sealF a m st).1=(a.1,slOut a m st a.2.length):=by
 unfold sealF at g ⊢
 split at g
 · rename_i h
   rw[if_pos h]
   exact⟨boolC_iff.1 h,rfl⟩
 · cases g
theorem sealBad {a:Archive}{m:Int}{st:List Stamp}(g:(sealF a m st).2=false):(sealF a m st).1=a:=by
 unfold sealF at g ⊢
 split at g
 · cases g
 · rename_i h;rw[if_neg h]
theorem sealAt_ok {a:Archive}{m:Int}{st:List Stamp}{k:Nat}(h:(sealAt a m st k).2=true):(sealAt a m st k).1=((itK a k).2.2.2.2.1,(itK a k).2.2.2.2.2++[renFor a m st k]):=by
 unfold sealAt addRenF at h ⊢
 split at h
 · rename_i q;rw[if_pos q]
 · cases h
noncomputable def seIt (a:Archive)(m:Int)(st:List Stamp)(k:Nat):Item:=setStrand (itK a k) ((itK a k).2.2.2.2.1,(itK a k).2.2.2.2.2++[renFor a m st k])
theorem slFull {a:Archive}{m:Int}{st:List Stamp}(h:∀ k,k<a.2.length→(sealAt a m st k).2=true):slOut a m st a.2.length=(List.range a.2.length).map (seIt a m st):=by
 unfold slOut
 rw[List.drop_length,List.append_nil]
 refine List.map_congr_left (fun k hk=>?_)
 rw[sealAt_ok (h k (List.mem_range.1 hk))];rfl
theorem rc_eq (B:Nat):∀ (l:List Item) (n:Nat),(∀ x∈l,x.2.2.2.2.2.length≤B)→n+B*l.length≤4611686018427387904→
   l.foldl (fun(n:Int) (s:Item)=>IntKind.i64.wrap (n+(s.2.2.2.2.2.length:Int))) (n:Int)=((n+(l.map (fun x=>x.2.2.2.2.2.length)).sum:Nat):Int)
 | [],n,_,_=>by simp
 | x::l,n,h,hb=>by
   have hx:=h x (by simp)
   have e:B*(x::l).length=B*l.length+B:=by rw[List.length_cons,Nat.mul_add];omega
   rw[e]at hb
   rw[List.foldl_cons,show IntKind.i64.wrap ((n:Int)+(x.2.2.2.2.2.length:Int))=((n+x.2.2.2.2.2.length:Nat):Int)from by rw[w64 (by omega) (by omega)];omega]
   rw[rc_eq B l (n+x.2.2.2.2.2.length) (fun y hy=>h y (by simp[hy])) (by omega)]
   rw[List.map_cons,List.sum_cons,Nat.add_assoc]
theorem sum_succ (g f:Nat→Nat)(h:∀ k,f k=g k+1):∀ l:List Nat,(l.map f).sum=(l.map g).sum+l.length
 | []=>rfl
 | x::l=>by
   have:=sum_succ g f h l
   rw[List.map_cons,List.map_cons,List.sum_cons,List.sum_cons,List.length_cons,this,h];omega
theorem items_range (a:Archive):a.2=(List.range a.2.length).map (itK a):=by
 apply List.ext_getElem
 · rw[List.length_map,List.length_range]
 · intro n h1 h2
   rw[List.getElem_map,List.getElem_range]
   unfold itK
   rw[List.getD_eq_getElem?_getD,List.getElem?_eq_getElem h1];rfl
theorem itK_sm {a:Archive}{k:Nat}(ha:Sm big20 TArch a)(h:k<a.2.length):Sm big20 TItem (itK a k):=by
 refine ha.2.2 _ ?_
 unfold itK
 rw[List.getD_eq_getElem?_getD,List.getElem?_eq_getElem h];exact List.getElem_mem _
theorem seIt_ch (a:Archive)(m:Int)(st:List Stamp)(k:Nat):(seIt a m st k).2.2.2.2.2.length=(itK a k).2.2.2.2.2.length+1:=by
 show ((itK a k).2.2.2.2.2++[renFor a m st k]).length=_
 rw[List.length_append];rfl
abbrev rcS (l:List Item):Int:=l.foldl (fun(n:Int) (s:Item)=>IntKind.i64.wrap (n+(s.2.2.2.2.2.length:Int))) 0
theorem fs_count {a:Archive}{m:Int}{st:List Stamp}(ha:Sm big20 TArch a)(g:(sealF a m st).2=true):rcS (sealF a m st).1.2=IntKind.i64.wrap (rcS a.2+(a.2.length:Int)):=by
 obtain⟨⟨h1,h2,h3,h4⟩,e⟩:=sealOk g
 have h8:=archLen h1
 rw[e]
 show rcS (slOut a m st a.2.length)=_
 rw[slFull h3]
 have q1:rcS ((List.range a.2.length).map (seIt a m st))=((0+(((List.range a.2.length).map (seIt a m st)).map (fun x=>x.2.2.2.2.2.length)).sum:Nat):Int):=by
   refine rc_eq 2000000 _ 0 (fun x hx=>?_) (by rw[List.length_map,List.length_range];omega)
   obtain⟨k,hk,rfl⟩:=List.mem_map.1 hx
   rw[seIt_ch]
   have:=(itK_sm ha (List.mem_range.1 hk)).2.2.2.2.2.1
   unfold big20 at this;omega
 have q2:rcS a.2=((0+(a.2.map (fun x=>x.2.2.2.2.2.length)).sum:Nat):Int):=by
   refine rc_eq 2000000 _ 0 (fun x hx=>?_) (by omega)
   have:=(ha.2.2 x hx).2.2.2.2.2.1
   unfold big20 at this;omega
 have q3:(a.2.map (fun x=>x.2.2.2.2.2.length)).sum≤2000000*8:=by
   have:∀ l:List Item,(∀ x∈l,x.2.2.2.2.2.length≤2000000)→(l.map (fun x=>x.2.2.2.2.2.length)).sum≤2000000*l.length:=by
     intro l
     induction l with
     | nil=>intro _;simp
     | cons x l ih=>
       intro h
       have p1:=h x (by simp)
       have p2:=ih (fun y hy=>h y (by simp[hy]))
       rw[List.map_cons,List.sum_cons,List.length_cons];omega
   refine Nat.le_trans (this a.2 (fun x hx=>?_)) (by omega)
   have:=(ha.2.2 x hx).2.2.2.2.2.1
   unfold big20 at this;omega
 have q4:(((List.range a.2.length).map (seIt a m st)).map (fun x=>x.2.2.2.2.2.length)).sum=(a.2.map (fun x=>x.2.2.2.2.2.length)).sum+a.2.length:=by
   rw[List.map_map]
   have:a.2.map (fun x=>x.2.2.2.2.2.length)=(List.range a.2.length).map (fun k=>(itK a k).2.2.2.2.2.length):=by
     conv=>lhs;rw[items_range a]
     rw[List.map_map];rfl
   rw[this]
   have q:=sum_succ (fun k=>(itK a k).2.2.2.2.2.length) ((fun x:Item=>x.2.2.2.2.2.length) ∘ seIt a m st) (fun k=>seIt_ch a m st k) (List.range a.2.length)
   rw[List.length_range]at q
   exact q
 rw[q1,q2,q4,w64 (by omega) (by omega)]
 omega
theorem fs_bad {a:Archive}{m:Int}{st:List Stamp}(ha:Sm big20 TArch a)(g:(sealF a m st).2=true)
   (h:pick2 (rcS (sealF a m st).1.2 != IntKind.i64.wrap (rcS a.2+(a.2.length:Int))) true (!(archF (sealF a m st).1))=true):False:=by
 obtain⟨⟨_,_,_,h4⟩,e⟩:=sealOk g
 rw[fs_count ha g,e,h4]at h
 simp[pick2]at h
theorem fs_item {a:Archive}{m i:Int}{st:List Stamp}(g:(sealF a m st).2=true)(hi:upInv (sealF a m st).1.2 i)(hl:i<((sealF a m st).1.2.length:Int)):
   (sealF a m st).1.2.length=a.2.length∧i.toNat<a.2.length∧(sealF a m st).1.2.getD i.toNat (dflt TItem)=seIt a m st i.toNat:=by
 obtain⟨⟨h1,h2,h3,h4⟩,e⟩:=sealOk g
 have e2:(sealF a m st).1.2=(List.range a.2.length).map (seIt a m st):=by rw[e];exact slFull h3
 have e3:(sealF a m st).1.2.length=a.2.length:=by rw[e2,List.length_map,List.length_range]
 have hk:i.toNat<a.2.length:=by
   obtain⟨k,hk,rfl⟩:=hi
   omega
 refine⟨e3,hk,?_⟩
 rw[e2,List.getD_eq_getElem?_getD,List.getElem?_map,List.getElem?_range hk];rfl
theorem fs_n {a:Archive}{m:Int}{st:List Stamp}{k:Nat}(ha:Sm big20 TArch a)(hk:k<a.2.length):
   IntKind.i64.wrap (((seIt a m st k).2.2.2.2.2.length:Int)-1)=((itK a k).2.2.2.2.2.length:Int):=by
 have:=(itK_sm ha hk).2.2.2.2.2.1
 unfold big20 at this
 rw[seIt_ch,w64 (by omega) (by omega)];omega
theorem fs_last (a:Archive)(m:Int)(st:List Stamp)(k:Nat):(seIt a m st k).2.2.2.2.2.getD ((itK a k).2.2.2.2.2.length:Int).toNat (dflt TRen)=renFor a m st k:=by
 show ((itK a k).2.2.2.2.2++[renFor a m st k]).getD _ _=_
 rw[List.getD_eq_getElem?_getD]
 simp
abbrev fsX (b:Archive) (i:Int):Item:=b.2.getD i.toNat (dflt TItem)
abbrev fsN (x:Item):Int:=IntKind.i64.wrap ((x.2.2.2.2.2.length:Int)-1)
abbrev fsR (x:Item):Renewal:=x.2.2.2.2.2.getD (fsN x).toNat (dflt TRen)
theorem seIt_sm {a:Archive}{m:Int}{st:List Stamp}{k:Nat}(ha:Sm big20 TArch a)(hst:Sm big20 (.slice TStamp) st)(hk:k<a.2.length):
   Sm big20 (.slice TPiece) (seIt a m st k).2.2.2.2.1∧∀ r∈(seIt a m st k).2.2.2.2.2,Sm big20 TRen r:=by
 have h:=itK_sm ha hk
 refine⟨h.2.2.2.2.1,fun r hr=>?_⟩
 rcases List.mem_append.1 hr with hr | hr
 · exact h.2.2.2.2.2.2 r hr
 · rw[List.mem_singleton.1 hr]
   exact⟨trivial,trivial,trivial,⟨Nat.le_trans (pathF_len _ _ _) (by decide),fun _ _=>⟨trivial,trivial⟩⟩,hst⟩
theorem fs_facts {a:Archive}{m i:Int}{st:List Stamp}(ha:Sm big20 TArch a)(hst:Sm big20 (.slice TStamp) st)(g:(sealF a m st).2=true)(hi:upInv (sealF a m st).1.2 i)(hl:i<((sealF a m st).1.2.length:Int)):
   inRange (fsN (fsX (sealF a m st).1 i)) (fsX (sealF a m st).1 i).2.2.2.2.2.length
   ∧(fsX (sealF a m st).1 i).2.2.2.2.2.length≤2000000
   ∧(Sm big20 (.slice TPiece) (fsX (sealF a m st).1 i).2.2.2.2.1∧∀ r∈(fsX (sealF a m st).1 i).2.2.2.2.2,Sm big20 TRen r)
   ∧(fsR (fsX (sealF a m st).1 i)).2.2.1=rootForF a m
   ∧(fsR (fsX (sealF a m st).1 i)).1=((fsX (sealF a m st).1 i).2.2.2.2.1.length:Int)
   ∧followF m (leafAtF (fsX (sealF a m st).1 i).2.2.2.2 (docDigsF (fsX (sealF a m st).1 i).2.2.2.2 (fsX (sealF a m st).1 i).2.2.1) (fsN (fsX (sealF a m st).1 i))) (fsR (fsX (sealF a m st).1 i)).2.2.2.1=rootForF a m
   ∧((fsR (fsX (sealF a m st).1 i)).2.2.2.1.length:Int)≤levF ((sealF a m st).1.2.length:Int):=by
 obtain⟨e1,hk,e2⟩:=fs_item g hi hl
 obtain⟨⟨h1,h2,h3,h4⟩,_⟩:=sealOk g
 have h8:=archLen h1
 have hc:=(itK_sm ha hk).2.2.2.2.2.1
 unfold big20 at hc
 have en:=fs_n (m:=m) (st:=st) ha hk
 unfold fsX
 rw[e2,e1]
 have en2:fsN (seIt a m st i.toNat)=((itK a i.toNat).2.2.2.2.2.length:Int):=en
 have er:fsR (seIt a m st i.toNat)=renFor a m st i.toNat:=by
   unfold fsR
   rw[en2];exact fs_last a m st i.toNat
 rw[er,en2]
 have ec:=seIt_ch a m st i.toNat
 refine⟨⟨by omega,by omega⟩,by omega,seIt_sm ha hst hk,rfl,rfl,?_,?_⟩
 · have q:=leafEq2 (itK a i.toNat) m (renFor a m st i.toNat) (by omega) rfl rfl
   show followF m (leafAtF ((itK a i.toNat).2.2.2.2.1,(itK a i.toNat).2.2.2.2.2++[renFor a m st i.toNat]) (docDigsF ((itK a i.toNat).2.2.2.2.1,(itK a i.toNat).2.2.2.2.2++[renFor a m st i.toNat]) (itK a i.toNat).2.2.1) ((itK a i.toNat).2.2.2.2.2.length:Int)) (pathF m (leavesF a m) (i.toNat:Int))=rootForF a m
   rw[q]
   exact seal_path h8 hk
 · have el:(leavesF a m).length=a.2.length:=by rw[leaves_map,List.length_map]
   have:=path_lev (m:=m) (l:=leavesF a m) (i:=(i.toNat:Int)) (by omega) (by omega)
   rw[el]at this
   exact this
abbrev shl1 (k:Int):Int:=IntKind.i64.wrap (1*2 ^ (min (IntKind.u64.wrap k).toNat IntKind.i64.bits))
theorem shl_val {k:Int}(h0:0≤k)(h4:k≤4):shl1 k=if k≤0 then 1 else if k≤1 then 2 else if k≤2 then 4 else if k≤3 then 8 else 16:=by
 have:k=0∨k=1∨k=2∨k=3∨k=4:=by omega
 rcases this with rfl | rfl | rfl | rfl | rfl<;>rfl
theorem levN_4 (n:Int):levN n≤4:=by
 unfold levN
 repeat' (first | split | omega)
def lvInv (n k:Int):Prop:=0≤k∧k≤levF n
theorem levF_0 (n:Int):0≤levF n∧levF n≤4:=by
 have:=levN_4 n
 unfold levF
 split<;>omega
theorem lvStart {n:Int}:lvInv n 0:=⟨Int.le_refl 0,(levF_0 n).1⟩
theorem lvPos {n k:Int}(h:lvInv n k):(0:Int)≤IntKind.u64.wrap k:=by
 have:=(levF_0 n).2
 have h1:=h.1
 have h2:=h.2
 have:k=0∨k=1∨k=2∨k=3∨k=4:=by omega
 rcases this with rfl | rfl | rfl | rfl | rfl<;>decide
theorem lvStep {n k:Int}(h:lvInv n k)(g:pick2 (inRangeF n 1 16) (decide (shl1 k<n)) false=true):lvInv n (IntKind.i64.wrap (k+1))∧((4:Int)-IntKind.i64.wrap (k+1)).toNat<((4:Int)-k).toNat:=by
 have hb:=(levF_0 n).2
 obtain⟨h1,h2⟩:=h
 have g1:=(andT g).1
 have g2:=of_decide_eq_true (andT g).2
 rw[shl_val h1 (by omega)]at g2
 have e:IntKind.i64.wrap (k+1)=k+1:=w64 (by omega) (by omega)
 have hr:=rg (x:=n) (a:=1) (b:=16) (by rw[g1];rfl)
 have hlt:k<levF n:=by
   unfold levF at h2 ⊢
   rw[if_pos g1]at h2 ⊢
   unfold levN at h2 ⊢
   have:k=0∨k=1∨k=2∨k=3∨k=4:=by omega
   rcases this with rfl | rfl | rfl | rfl | rfl<;>(simp at g2;repeat' (first | split | omega))
 rw[e]
 exact⟨⟨by omega,by omega⟩,by omega⟩
theorem lvEnd {n k:Int}(h:lvInv n k)(g:pick2 (inRangeF n 1 16) (decide (shl1 k<n)) false=false):k=levF n:=by
 have hb:=(levF_0 n).2
 obtain⟨h1,h2⟩:=h
 cases hc:inRangeF n 1 16 with
 | false=>
   have:levF n=0:=by unfold levF;rw[if_neg (by rw[hc];decide)]
   omega
 | true=>
   rw[hc]at g
   have g2:¬shl1 k<n:=of_decide_eq_false g
   rw[shl_val h1 (by omega)]at g2
   refine Int.le_antisymm h2 ?_
   have hk4:k≤4:=by omega
   unfold levF at h2 ⊢
   rw[if_pos hc]at h2 ⊢
   have hr:=rg (x:=n) (a:=1) (b:=16) (by rw[hc];rfl)
   unfold levN at h2 ⊢
   have:k=0∨k=1∨k=2∨k=3∨k=4:=by omega
   rcases this with rfl | rfl | rfl | rfl | rfl<;>(simp at g2;repeat' (first | split | omega))
theorem lfD_sm {code:List Int}(h:code.length≤bigLen):Sm big20 TArch (lfD code).1:=archD_sm (newCur_ok h)
theorem pickSm {α:Type}{f:α→Stamp×Bool}{l:List α}(h:l.length≤big20):Sm big20 (.slice TStamp) (pickF f l):=⟨Nat.le_trans (pick_len f l) h,fun _ _=>⟨trivial,trivial,trivial,trivial,trivial⟩⟩
theorem saSt_sm (code:List Int):Sm big20 (.slice TStamp) (saSt code):=by
 unfold saSt stampAllF
 refine pickSm ?_
 rw[List.length_zip]
 exact Nat.le_trans (Nat.min_le_left _ _) (by decide)
theorem sealD_sm {code:List Int}(h:code.length≤bigLen):Sm big20 TArch (sealD code).1:=by
 have h1:=lfD_sm h
 unfold sealD
 show Sm big20 TArch (if _ then _ else _)
 split
 · rename_i g
   have g2:=of_decide_eq_true (andT g).2
   exact padAll_sm h1 (fun e=>by rw[e]at g2;simp at g2)
 · exact h1
theorem saGo {code:List Int}(g:pick2 (onceF (sa1 code).2 10).1 (decide (((lfD code).1.2.length:Int)>0)) false=true):(lfD code).1.2≠[]:=fun e=>by
 have g2:=of_decide_eq_true (andT g).2
 rw[e]at g2;simp at g2
theorem sealD_pad {code:List Int}(g:pick2 (onceF (sa1 code).2 10).1 (decide (((lfD code).1.2.length:Int)>0)) false=true):sealD code=(padAll (lfD code).1,(lfD code).2,saSt code):=by
 unfold sealD;rw[if_pos g]
theorem sealD_no {code:List Int}(g:pick2 (onceF (sa1 code).2 10).1 (decide (((lfD code).1.2.length:Int)>0)) false=false):sealD code=((lfD code).1,(lfD code).2,saSt code):=by
 unfold sealD;rw[if_neg (by rw[g];decide)]
theorem fsNo {r R c n f p v:Int}(h1:r=R)(h2:c=n)(h3:f=R)(h4:p≤v)(h:pick2 (pick2 (pick2 (r != R) true (c != n)) true (f != R)) true (decide (p>v))=true):False:=by
 subst h1 h2 h3
 rw[decide_eq_false (by omega)]at h
 simp[pick2]at h
theorem sealBig {a:Archive}{m:Int}{st:List Stamp}(g:(sealF a m st).2=true):(sealF a m st).1.2.length≤bigLen:=by
 obtain⟨⟨_,_,_,h4⟩,e⟩:=sealOk g
 rw[e]
 exact Nat.le_trans (archLen h4) (by decide)
theorem sealSame {a:Archive}{m:Int}{st:List Stamp}(g:(sealF a m st).2=false):eqC a (sealF a m st).1=true:=by
 rw[sealBad g];exact eqC_self a
end Fw
