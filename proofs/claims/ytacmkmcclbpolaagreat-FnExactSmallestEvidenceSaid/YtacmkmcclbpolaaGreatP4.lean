/- Plain laws of the smallest evidence. Conditions: none. -/
import Derived.Test.YtacmkmcclbpolaaGreatP3
namespace Fw
open Go
def lessE (e:Evidence)(i:Int):Evidence:=(([]++subL e.1 0 i)++subL e.1 (IntKind.i64.wrap (i+1)) (List.length e.1:Int),e.2)
theorem less_list {α:Type}{l:List α}{i:Int}(h:inRange i l.length)(hb:l.length≤bigLen):
   ([]++subL l 0 i)++subL l (IntKind.i64.wrap (i+1)) (List.length l:Int)=l.take i.toNat++l.drop (i.toNat+1):=by
 obtain⟨h1,h2⟩:=h
 unfold bigLen at hb
 rw[w64 (by omega) (by omega)]
 unfold subL
 have e1:(i+1).toNat=i.toNat+1:=by omega
 have e2:((List.length l:Int)).toNat=l.length:=by omega
 rw[e1,e2,List.take_length]
 simp
theorem less_eq {e:Evidence}{i:Int}(h:inRange i (List.length e.1))(hb:List.length e.1≤bigLen):(lessE e i).1=e.1.take i.toNat++e.1.drop (i.toNat+1):=less_list h hb
theorem less_len {e:Evidence}{i:Int}(h:inRange i (List.length e.1))(hb:List.length e.1≤bigLen):List.length (lessE e i).1=List.length e.1-1:=by
 rw[less_eq h hb]
 obtain⟨h1,h2⟩:=h
 simp only[List.length_append,List.length_take,List.length_drop]
 omega
theorem less_mem {e:Evidence}{i:Int}(h:inRange i (List.length e.1))(hb:List.length e.1≤bigLen):∀ s∈(lessE e i).1,s∈e.1:=by
 rw[less_eq h hb]
 intro s hs
 rcases List.mem_append.1 hs with hs | hs
 · exact List.mem_of_mem_take hs
 · exact List.mem_of_mem_drop hs
theorem cellsL_del {α:Type}(c:α→Nat):∀ (l:List α) (n:Nat),cellsL c (l.take n++l.drop (n+1))≤cellsL c l
 | [],n=>by simp[cellsL]
 | x::l,0=>by show cellsL c l≤c x+cellsL c l;omega
 | x::l,n+1=>by
   show c x+cellsL c (l.take n++l.drop (n+1))≤c x+cellsL c l
   have:=cellsL_del c l n
   omega
theorem less_cells {e:Evidence}{i:Int}(h:inRange i (List.length e.1))(hb:List.length e.1≤bigLen):cellsC (.slice TStrand) (lessE e i).1≤cellsC (.slice TStrand) e.1:=by
 show cellsL (cellsC TStrand) (lessE e i).1≤cellsL (cellsC TStrand) e.1
 rw[less_eq h hb]
 exact cellsL_del _ _ _
theorem less_sm {e:Evidence}{i:Int}(h:inRange i (List.length e.1))(hb:List.length e.1≤bigLen)(hs:Sm big20 TEv e):Sm big20 TEv (lessE e i):=by
 refine⟨⟨?_,fun s hm=>hs.1.2 s (less_mem h hb s hm)⟩,hs.2⟩
 have:=hs.1.1
 have e1:=less_len h hb
 show List.length (lessE e i).1≤big20
 rw[e1]
 have this:List.length e.1≤big20:=this
 omega
section
variable {f:Frame} {d:Doc} {x:Sig} {code:Int}
noncomputable def smStep (f:Frame)(d:Doc)(x:Sig)(code:Int)(o:Evidence)(i:Int):Evidence:=cond ((judgeDocF f (lessE o i) d x).1==code) (lessE o i) o
noncomputable def smRun (f:Frame)(d:Doc)(x:Sig)(code:Int):Nat→Evidence→Evidence
 | 0,o=>o
 | n+1,o=>smRun f d x code n (smStep f d x code o n)
noncomputable def smallF (f:Frame)(e:Evidence)(d:Doc)(x:Sig):Evidence:=smRun f d x (judgeDocF f e d x).1 (List.length e.1) e
def smInv (f:Frame)(e:Evidence)(d:Doc)(x:Sig)(o:Evidence)(i:Int):Prop:=
 ∃ n:Nat,i=(n:Int)-1∧n≤List.length o.1∧smRun f d x (judgeDocF f e d x).1 n o=smallF f e d x∧Sm big20 TEv o∧cellsC TEv o≤cellsC TEv e∧cellsC (.slice TStrand) o.1≤cellsC (.slice TStrand) e.1
variable {e o:Evidence} {i:Int}
theorem smStart (hs:Sm big20 TEv e):smInv f e d x e (IntKind.i64.wrap ((List.length e.1:Int)-1)):=by
 have h1:List.length e.1≤big20:=hs.1.1
 unfold big20 at h1
 exact⟨List.length e.1,w64 (by omega) (by omega),Nat.le_refl _,rfl,hs,Nat.le_refl _,Nat.le_refl _⟩
theorem smLen (h:smInv f e d x o i):List.length o.1≤big20:=by
 obtain⟨n,_,_,_,hs,_⟩:=h
 exact hs.1.1
theorem smBig (h:smInv f e d x o i):List.length o.1≤bigLen:=Nat.le_trans (smLen h) (by decide)
theorem smRange (h:smInv f e d x o i)(hl:¬i<0):inRange i (List.length o.1):=by
 obtain⟨n,h1,h2,_⟩:=h
 exact⟨by omega,by omega⟩
theorem smPre (h:smInv f e d x o i)(hl:¬i<0)(hc:((cellsC (.slice TStrand) e.1:Nat):Int)≤2000000000):
   Sm big20 TEv (lessE o i)∧((cellsC (.slice TStrand) (lessE o i).1:Nat):Int)≤2000000000:=by
 have hr:=smRange h hl
 have hb:=smBig h
 obtain⟨n,_,_,_,hs,_,hc1⟩:=h
 have:=less_cells hr hb
 exact⟨less_sm hr hb hs,by omega⟩
theorem cellsEv (y:Evidence):cellsC TEv y=cellsC (.slice TStrand) y.1+cellsC (.slice (.slice TStamp)) y.2:=rfl
theorem smYes (h:smInv f e d x o i)(hl:¬i<0)(hd:((judgeDocF f (lessE o i) d x).1==(judgeDocF f e d x).1)=true):
   smInv f e d x (lessE o i) (IntKind.i64.wrap (i-1))∧(IntKind.i64.wrap (i-1)+1).toNat<(i+1).toNat:=by
 have hr:=smRange h hl
 have hb:=smBig h
 have hlen:=less_len hr hb
 have hc:=less_cells hr hb
 obtain⟨n,h1,h2,h3,hs,hc0,hc1⟩:=h
 have hb':List.length o.1≤big20:=hs.1.1
 unfold big20 at hb'
 obtain⟨m,rfl⟩:∃ m,n=m+1:=⟨n - 1,by omega⟩
 have hi:i=(m:Int):=by omega
 subst hi
 rw[w64 (by omega) (by omega)]
 have e1:=cellsEv (lessE o (m:Int))
 have e2:=cellsEv o
 have e3:(lessE o (m:Int)).2=o.2:=rfl
 rw[e3]at e1
 refine⟨⟨m,rfl,by rw[hlen];omega,?_,less_sm hr hb hs,by omega,by omega⟩,by omega⟩
 rw[←h3]
 show _=smRun f d x _ m (smStep f d x _ o m)
 unfold smStep
 rw[hd];rfl
theorem smNo (h:smInv f e d x o i)(hl:¬i<0)(hd:((judgeDocF f (lessE o i) d x).1==(judgeDocF f e d x).1)=false):
   smInv f e d x o (IntKind.i64.wrap (i-1))∧(IntKind.i64.wrap (i-1)+1).toNat<(i+1).toNat:=by
 obtain⟨n,h1,h2,h3,hs,hc0,hc1⟩:=h
 have hb':List.length o.1≤big20:=hs.1.1
 unfold big20 at hb'
 obtain⟨m,rfl⟩:∃ m,n=m+1:=⟨n - 1,by omega⟩
 have hi:i=(m:Int):=by omega
 subst hi
 rw[w64 (by omega) (by omega)]
 refine⟨⟨m,rfl,by omega,?_,hs,hc0,hc1⟩,by omega⟩
 rw[←h3]
 show _=smRun f d x _ m (smStep f d x _ o m)
 unfold smStep
 rw[hd];rfl
theorem smEnd (h:smInv f e d x o i)(hl:i<0):o=smallF f e d x:=by
 obtain⟨n,h1,_,h3,_⟩:=h
 have:n=0:=by omega
 subst this
 exact h3
end
theorem sm_all (f:Frame)(d:Doc)(x:Sig)(code:Int):∀ (n:Nat) (o:Evidence),n≤List.length o.1→Sm big20 TEv o→Sm big20 TEv (smRun f d x code n o)∧cellsC TEv (smRun f d x code n o)≤cellsC TEv o
 | 0,o,_,hs=>⟨hs,Nat.le_refl _⟩
 | n+1,o,hn,hs=>by
   have hl:List.length o.1≤big20:=hs.1.1
   have hb:List.length o.1≤bigLen:=Nat.le_trans hl (by decide)
   have hr:inRange (n:Int) (List.length o.1):=⟨by omega,by omega⟩
   show _∧cellsC TEv (smRun f d x code n (smStep f d x code o n))≤_
   have key:n≤List.length (smStep f d x code o n).1∧Sm big20 TEv (smStep f d x code o n)∧cellsC TEv (smStep f d x code o n)≤cellsC TEv o:=by
     unfold smStep
     cases (judgeDocF f (lessE o n) d x).1==code with
     | true=>
       show n≤List.length (lessE o n).1∧Sm big20 TEv (lessE o n)∧cellsC TEv (lessE o n)≤cellsC TEv o
       have e0:=less_len hr hb
       have e1:=cellsEv (lessE o (n:Int))
       have e2:=cellsEv o
       have e3:(lessE o (n:Int)).2=o.2:=rfl
       rw[e3]at e1
       have:=less_cells hr hb
       exact⟨by omega,less_sm hr hb hs,by omega⟩
     | false=>exact⟨by show n≤List.length o.1;omega,hs,Nat.le_refl _⟩
   obtain⟨k1,k2,k3⟩:=key
   have:=sm_all f d x code n _ k1 k2
   exact⟨this.1,by omega⟩
def lessA (o:Evidence)(i:Int):Evidence:=(List.take (List.length (subL o.1 0 i)) o.1++[]++List.drop (IntKind.i64.wrap (i+1)).toNat o.1,o.2)
theorem subL_len {α:Type}{l:List α}{i:Int}(h:inRange i l.length):(subL l 0 i).length=i.toNat:=by
 obtain⟨h1,h2⟩:=h
 unfold subL
 rw[List.length_drop,List.length_take]
 have:(0:Int).toNat=0:=rfl
 omega
theorem lessA_eq {o:Evidence}{i:Int}(h:inRange i (List.length o.1))(hb:List.length o.1≤bigLen):lessA o i=lessE o i:=by
 have e:=less_eq h hb
 refine Prod.ext ?_ rfl
 rw[e]
 show List.take (List.length (subL o.1 0 i)) o.1++[]++List.drop (IntKind.i64.wrap (i+1)).toNat o.1=_
 rw[subL_len h]
 obtain⟨h1,h2⟩:=h
 unfold bigLen at hb
 rw[w64 (by omega) (by omega),List.append_nil]
 have:(i+1).toNat=i.toNat+1:=by omega
 rw[this]
def lessB (o:Evidence)(i:Int):Evidence:=(List.take (List.length (subL o.1 0 i)) o.1++List.drop (IntKind.i64.wrap (i+1)).toNat o.1,o.2)
theorem lessB_A (o:Evidence)(i:Int):lessB o i=lessA o i:=by
 unfold lessB lessA
 rw[List.append_nil]
section
variable {f:Frame} {d:Doc} {x:Sig} {e o:Evidence} {i:Int}
theorem smFacts (h:smInv f e d x o i)(hl:¬i<0):0≤i∧i≤(List.length o.1:Int)∧(subL o.1 0 i).length≤maxApp∧0≤IntKind.i64.wrap (i+1)∧IntKind.i64.wrap (i+1)≤(List.length o.1:Int)∧
   (subL o.1 0 i).length≤(IntKind.i64.wrap (i+1)).toNat∧(subL o.1 0 i).length+List.length ([]:List Strand)+(List.length o.1-(IntKind.i64.wrap (i+1)).toNat)≤maxApp:=by
 have hr:=smRange h hl
 have hb:=smLen h
 rw[subL_len hr]
 obtain⟨h1,h2⟩:=hr
 unfold big20 at hb
 unfold maxApp
 rw[w64 (by omega) (by omega)]
 refine⟨h1,by omega,by omega,by omega,by omega,by omega,?_⟩
 show i.toNat+0+_≤_
 omega
theorem smPreA (h:smInv f e d x o i)(hl:¬i<0)(hc:((cellsC (.slice TStrand) e.1:Nat):Int)≤2000000000):
   Sm big20 TEv (lessA o i)∧((cellsC (.slice TStrand) (lessA o i).1:Nat):Int)≤2000000000:=by
 rw[lessA_eq (smRange h hl) (smBig h)];exact smPre h hl hc
theorem smSm (h:smInv f e d x o i):Sm big20 TEv o:=by
 obtain⟨_,_,_,_,hs,_⟩:=h;exact hs
theorem smYesA (h:smInv f e d x o i)(hl:¬i<0)(hd:((judgeDocF f (lessA o i) d x).1==(judgeDocF f e d x).1)=true):
   smInv f e d x (lessA o i) (IntKind.i64.wrap (i-1))∧(IntKind.i64.wrap (i-1)+1).toNat<(i+1).toNat:=by
 have e1:=lessA_eq (smRange h hl) (smBig h)
 rw[e1]at hd ⊢
 exact smYes h hl hd
theorem smNoA (h:smInv f e d x o i)(hl:¬i<0)(hd:((judgeDocF f (lessA o i) d x).1==(judgeDocF f e d x).1)=false):
   smInv f e d x o (IntKind.i64.wrap (i-1))∧(IntKind.i64.wrap (i-1)+1).toNat<(i+1).toNat:=by
 have e1:=lessA_eq (smRange h hl) (smBig h)
 rw[e1]at hd
 exact smNo h hl hd
theorem smFactsB (h:smInv f e d x o i)(hl:¬i<0):0+(subL o.1 0 i).length≤maxApp∧(([]:List Strand)++subL o.1 0 i).length+(subL o.1 (IntKind.i64.wrap (i+1)) (List.length o.1)).length≤maxApp∧
   (subL o.1 0 i).length+(List.length o.1-(IntKind.i64.wrap (i+1)).toNat)≤maxApp:=by
 have hr:=smRange h hl
 have hb:=smLen h
 have e1:=subL_len hr
 obtain⟨h1,h2⟩:=hr
 unfold big20 at hb
 unfold maxApp
 rw[w64 (by omega) (by omega),List.nil_append]
 have e2:(subL o.1 (i+1) (List.length o.1)).length≤List.length o.1:=by
   unfold subL
   rw[List.length_drop,List.length_take]
   omega
 omega
theorem smPreB (h:smInv f e d x o i)(hl:¬i<0)(hc:((cellsC (.slice TStrand) e.1:Nat):Int)≤2000000000):
   Sm big20 TEv (lessB o i)∧((cellsC (.slice TStrand) (lessB o i).1:Nat):Int)≤2000000000:=by
 rw[lessB_A];exact smPreA h hl hc
theorem smYesB (h:smInv f e d x o i)(hl:¬i<0)(hd:((judgeDocF f (lessB o i) d x).1==(judgeDocF f e d x).1)=true):
   smInv f e d x (lessB o i) (IntKind.i64.wrap (i-1))∧(IntKind.i64.wrap (i-1)+1).toNat<(i+1).toNat:=by
 rw[lessB_A]at hd ⊢
 exact smYesA h hl hd
theorem tfB {b:Bool}{p:Prop}(h:b=true)(h2:b=false):p:=by rw[h]at h2;cases h2
theorem sm_all0 (hs:Sm big20 TEv e):((cellsC TEv (smallF f e d x):Nat):Int)≤((cellsC TEv e:Nat):Int):=by
 have:=(sm_all f d x (judgeDocF f e d x).1 (List.length e.1) e (Nat.le_refl _) hs).2
 unfold smallF;omega
theorem smCells (hs:Sm big20 TEv e)(h:((cellsC TEv e:Nat):Int)≤2000000000):((cellsV TEv (smallF f e d x):Nat):Int)≤10000000000000000:=by
 have h1:=sm_all0 (f:=f) (d:=d) (x:=x) hs
 have h2:=cellsV_le TEv (smallF f e d x)
 omega
end
end Fw
