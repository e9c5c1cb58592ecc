/- Plain laws of joined spans and of verdicts that are kept when evidence is added. Conditions: none. -/
import Derived.Test.YtpcljloahdbjcaaGreatP3
set_option linter.unusedSimpArgs false
set_option linter.unusedVariables false
namespace Fw
open Go
theorem span_iff {s:Span}:isSpanF s=true↔0≤s.1∧s.1≤s.2∧s.2≤10000:=by
 unfold isSpanF isTimeF inRangeF
 simp only[pick2_and,Bool.and_eq_true,decide_eq_true_eq]
 omega
theorem inside_iff {a b:Span}:isInsideF a b=true↔isSpanF a=true∧isSpanF b=true∧b.1≤a.1∧a.2≤b.2:=by
 unfold isInsideF
 simp only[pick2_and,Bool.and_eq_true,decide_eq_true_eq,and_assoc]
def hasT (l:List Span)(t:Int):Prop:=∃ x∈l,isSpanF x=true∧x.1≤t∧t≤x.2
def apartS (x y:Span):Prop:=x.2+1<y.1∨y.2+1<x.1
theorem apart_symm {x y:Span}(h:apartS x y):apartS y x:=h.elim .inr .inl
def sepS (l:List Span):Prop:=(∀ x∈l,isSpanF x=true)∧l.Pairwise apartS
theorem jApart_iff {x s:Span}(hx:isSpanF x=true)(hs:isSpanF s=true):jApart x s=true↔apartS x s:=by
 have h1:=span_iff.1 hx
 have h2:=span_iff.1 hs
 unfold jApart apartS
 rw[w64 (by omega) (by omega),w64 (by omega) (by omega)]
 simp only[pick2_or,Bool.or_eq_true,decide_eq_true_eq]
theorem jFold:∀ (r n:List Span) (s:Span),sepS (n++r)→isSpanF s=true→(∀ y∈n,apartS y s)→
   sepS (r.foldl jG (n,s)).1∧isSpanF (r.foldl jG (n,s)).2=true∧(∀ y∈(r.foldl jG (n,s)).1,apartS y (r.foldl jG (n,s)).2)∧
     ∀ t,hasT ((r.foldl jG (n,s)).2::(r.foldl jG (n,s)).1) t↔hasT (s::(n++r)) t
 | [],n,s,h1,h2,h3=>by
   rw[List.append_nil]at h1
   exact⟨h1,h2,h3,fun t=>by rw[List.append_nil];exact Iff.rfl⟩
 | x::r,n,s,h1,h2,h3=>by
   rw[List.foldl_cons]
   have hx:isSpanF x=true:=h1.1 x (by simp)
   cases hj:jApart x s with
   | true=>
     rw[←jY hj]
     have e:(n++[x])++r=n++x::r:=by simp
     have:=jFold r (n++[x]) s (by rw[e];exact h1) h2 (by
       intro y hy
       rcases List.mem_append.1 hy with hy | hy
       · exact h3 y hy
       · rw[List.mem_singleton.1 hy];exact(jApart_iff hx h2).1 hj)
     rw[e]at this
     exact this
   | false=>
     rw[←jN hj]
     have hn:¬apartS x s:=fun g=>by rw[(jApart_iff hx h2).2 g]at hj;cases hj
     have a1:=span_iff.1 hx
     have a2:=span_iff.1 h2
     unfold apartS at hn
     have hs2:isSpanF (min s.1 x.1,max s.2 x.2)=true:=span_iff.2 ⟨by show 0≤min s.1 x.1;omega,by show min s.1 x.1≤max s.2 x.2;omega,by show max s.2 x.2≤10000;omega⟩
     have hp:=List.pairwise_append.1 h1.2
     have hr:=List.pairwise_cons.1 hp.2.1
     have hsep:sepS (n++r):=by
       refine⟨fun y hy=>h1.1 y ?_,List.pairwise_append.2 ⟨hp.1,hr.2,fun y hy z hz=>hp.2.2 y hy z (by simp[hz])⟩⟩
       rcases List.mem_append.1 hy with hy | hy
       · simp[hy]
       · simp[hy]
     have:=jFold r n (min s.1 x.1,max s.2 x.2) hsep hs2 (by
       intro y hy
       have g1:=h3 y hy
       have g2:=hp.2.2 y hy x (by simp)
       have g3:=span_iff.1 (h1.1 y (by simp[hy]))
       unfold apartS at g1 g2 ⊢
       show y.2+1<min s.1 x.1∨max s.2 x.2+1<y.1
       omega)
     refine⟨this.1,this.2.1,this.2.2.1,fun t=>(this.2.2.2 t).trans ?_⟩
     constructor
     · rintro⟨y,hy,hy1,hy2,hy3⟩
       rcases List.mem_cons.1 hy with rfl | hy
       · have hy2:min s.1 x.1≤t:=hy2
         have hy3:t≤max s.2 x.2:=hy3
         by_cases ht:s.1≤t∧t≤s.2
         · exact⟨s,by simp,h2,ht.1,ht.2⟩
         · exact⟨x,by simp,hx,by omega,by omega⟩
       · refine⟨y,?_,hy1,hy2,hy3⟩
         rcases List.mem_append.1 hy with hy | hy
         · simp[hy]
         · simp[hy]
     · rintro⟨y,hy,hy1,hy2,hy3⟩
       rcases List.mem_cons.1 hy with rfl | hy
       · exact⟨_,List.mem_cons_self,hs2,by show min y.1 x.1≤t;omega,by show t≤max y.2 x.2;omega⟩
       · rcases List.mem_append.1 hy with hy | hy
         · exact⟨y,by simp[hy],hy1,hy2,hy3⟩
         · rcases List.mem_cons.1 hy with rfl | hy
           · exact⟨_,List.mem_cons_self,hs2,by show min s.1 y.1≤t;omega,by show t≤max s.2 y.2;omega⟩
           · exact⟨y,by simp[hy],hy1,hy2,hy3⟩
theorem ins_perm {α:Type}(p:α→Bool)(x:α)(l:List α):(insP p x l).Perm (x::l):=by
 unfold insP
 have h:=List.perm_middle (a:=x) (l₁:=l.takeWhile p) (l₂:=l.dropWhile p)
 rw[List.takeWhile_append_dropWhile]at h
 exact h
theorem jPut_sep {l:List Span}{s:Span}(h:sepS l)(hs:isSpanF s=true):sepS (jPut l s)∧∀ t,hasT (jPut l s) t↔hasT (s::l) t:=by
 obtain⟨h1,h2,h3,h4⟩:=jFold l [] s h hs (by simp)
 unfold jPut jEndF
 have hp:=ins_perm (jP (l.foldl jG ([],s)).2) (l.foldl jG ([],s)).2 (l.foldl jG ([],s)).1
 refine⟨⟨fun y hy=>?_,?_⟩,fun t=>?_⟩
 · rcases List.mem_cons.1 (hp.mem_iff.1 hy)with e | e
   · rw[e];exact h2
   · exact h1.1 y e
 · exact(hp.pairwise_iff (fun g=>apart_symm g)).2 (List.pairwise_cons.2 ⟨fun y hy=>apart_symm (h3 y hy),h1.2⟩)
 · rw[List.nil_append]at h4
   refine Iff.trans ?_ (h4 t)
   constructor
   · rintro⟨y,hy,g⟩;exact⟨y,hp.mem_iff.1 hy,g⟩
   · rintro⟨y,hy,g⟩;exact⟨y,hp.mem_iff.2 hy,g⟩
theorem joinG_sep:∀ (l acc:List Span),sepS acc→sepS (l.foldl joinG acc)∧∀ t,hasT (l.foldl joinG acc) t↔hasT acc t∨hasT l t
 | [],acc,h=>⟨h,fun t=>⟨.inl,fun g=>g.elim id (by rintro⟨x,hx,_⟩;simp at hx)⟩⟩
 | s::r,acc,h=>by
   rw[List.foldl_cons]
   have k:sepS (joinG acc s)∧∀ t,hasT (joinG acc s) t↔hasT acc t∨(isSpanF s=true∧s.1≤t∧t≤s.2):=by
     cases hs:isSpanF s with
     | true=>
       rw[←joinY hs]
       have:=jPut_sep h hs
       refine⟨this.1,fun t=>(this.2 t).trans ?_⟩
       constructor
       · rintro⟨y,hy,g⟩
         rcases List.mem_cons.1 hy with rfl | hy
         · exact .inr ⟨rfl,g.2⟩
         · exact .inl ⟨y,hy,g⟩
       · rintro(⟨y,hy,g⟩ | g)
         · exact⟨y,by simp[hy],g⟩
         · exact⟨s,by simp,hs,g.2⟩
     | false=>
       rw[←joinN hs]
       exact⟨h,fun t=>⟨.inl,fun g=>g.elim id fun g=>by cases g.1⟩⟩
   have:=joinG_sep r _ k.1
   refine⟨this.1,fun t=>(this.2 t).trans ?_⟩
   rw[k.2 t]
   constructor
   · rintro((g | g) | ⟨y,hy,g⟩)
     · exact .inl g
     · exact .inr ⟨s,by simp,g⟩
     · exact .inr ⟨y,by simp[hy],g⟩
   · rintro(g | ⟨y,hy,g⟩)
     · exact .inl (.inl g)
     · rcases List.mem_cons.1 hy with rfl | hy
       · exact .inl (.inr g)
       · exact .inr ⟨y,hy,g⟩
theorem join_sep (l:List Span):sepS (joinF l):=(joinG_sep l [] ⟨by simp,List.Pairwise.nil⟩).1
theorem join_has (l:List Span)(t:Int):hasT (joinF l) t↔hasT l t:=by
 have:=(joinG_sep l [] ⟨by simp,List.Pairwise.nil⟩).2 t
 refine this.trans ⟨fun g=>g.elim (by rintro⟨x,hx,_⟩;simp at hx) id,.inr⟩
theorem pair_apart {α:Type}{R:α→α→Prop}(hs:∀ {x y},R x y→R y x):∀ {l:List α},l.Pairwise R→∀ {x y:α},x∈l→y∈l→x≠y→R x y
 | [],_,x,y,h,_,_=>by cases h
 | a::r,h,x,y,hx,hy,hn=>by
   obtain⟨h1,h2⟩:=List.pairwise_cons.1 h
   rcases List.mem_cons.1 hx with e | hx
   · rcases List.mem_cons.1 hy with e2 | hy
     · exact(hn (by rw[e,e2])).elim
     · rw[e];exact h1 y hy
   · rcases List.mem_cons.1 hy with e2 | hy
     · rw[e2];exact hs (h1 x hx)
     · exact pair_apart hs h2 hx hy hn
theorem cov_iff {l:List Span}{s:Span}:coversF l s=true↔isSpanF s=true∧∀ t,s.1≤t→t≤s.2→hasT l t:=by
 unfold coversF
 rw[boolC_iff]
 constructor
 · rintro⟨x,hx,hi⟩
   obtain⟨h1,h2,h3,h4⟩:=inside_iff.1 hi
   exact⟨h1,fun t ht1 ht2=>(join_has l t).1 ⟨x,hx,h2,by omega,by omega⟩⟩
 · rintro⟨h1,h2⟩
   have hs:=span_iff.1 h1
   obtain⟨x,hx,g1,g2,g3⟩:=(join_has l s.1).2 (h2 s.1 (by omega) (by omega))
   refine⟨x,hx,inside_iff.2 ⟨h1,g1,g2,?_⟩⟩
   by_cases hb:s.2≤x.2
   · exact hb
   · obtain⟨y,hy,k1,k2,k3⟩:=(join_has l (x.2+1)).2 (h2 (x.2+1) (by omega) (by omega))
     have hne:x≠y:=fun e=>by rw[←e]at k3;omega
     have:=pair_apart (fun g=>apart_symm g) (join_sep l).2 hx hy hne
     have k4:=span_iff.1 g1
     have k5:=span_iff.1 k1
     unfold apartS at this
     omega
theorem cov_join {l:List Span}{s:Span}:coversF (joinF l) s=true↔isSpanF s=true∧∀ t,s.1≤t→t≤s.2→hasT l t:=by
 rw[cov_iff]
 constructor
 · rintro⟨h1,h2⟩;exact⟨h1,fun t a b=>(join_has l t).1 (h2 t a b)⟩
 · rintro⟨h1,h2⟩;exact⟨h1,fun t a b=>(join_has l t).2 (h2 t a b)⟩
theorem has_one {x:Span}{t:Int}:hasT [x] t↔isSpanF x=true∧x.1≤t∧t≤x.2:=by
 unfold hasT
 simp
theorem good_iff {c:Cert}{l:List Status}{s:Span}:coversF (goodSpansF c l) s=true↔isSpanF s=true∧isSpanF (certSpanF c)=true∧0≤goodUntilF l c.1∧goodUntilF l c.1≤10000∧
   (certSpanF c).1≤s.1∧s.2≤(certSpanF c).2∧s.2≤goodUntilF l c.1:=by
 unfold goodSpansF meetAllF
 rw[cov_join]
 generalize certSpanF c=x
 generalize goodUntilF l c.1=u
 show _∧(∀ t,s.1≤t→t≤s.2→hasT (meG x [] (0,u)) t)↔_
 constructor
 · rintro⟨h1,h2⟩
   have hs:=span_iff.1 h1
   have g1:=h2 s.1 (by omega) (by omega)
   have g2:=h2 s.2 (by omega) (by omega)
   unfold meG at g1 g2
   split at g1
   · rename_i hm
     rw[if_pos hm]at g2
     have e:meetF x (0,u)=((max x.1 0,min x.2 u),true):=by
       unfold meetF at hm ⊢
       split at hm
       · cases hm
       · rename_i hn;rw[if_neg hn]
     have hn:pick2 (pick2 (!(isSpanF x)) true (!(isSpanF (0,u)))) true (!(isSpanF (max x.1 0,min x.2 u)))=false:=by
       unfold meetF at hm
       split at hm
       · cases hm
       · rename_i hn;simpa using hn
     have n1:=notF (orF (orF hn).1).1
     have n2:=span_iff.1 (notF (orF (orF hn).1).2)
     rw[e,List.nil_append,has_one]at g1 g2
     have g1:=g1.2
     have g2:=g2.2
     have q1:max x.1 0≤s.1:=g1.1
     have q2:s.2≤min x.2 u:=g2.2
     have q3:0≤u:=n2.2.1
     have q4:u≤10000:=n2.2.2
     exact⟨h1,n1,q3,q4,by omega,by omega,by omega⟩
   · obtain⟨y,hy,_⟩:=g1
     simp at hy
 · rintro⟨h1,h2,h3,h4,h5,h6,h7⟩
   refine⟨h1,fun t t1 t2=>?_⟩
   have hs:=span_iff.1 h1
   have hx:=span_iff.1 h2
   have hu:isSpanF (0,u)=true:=span_iff.2 ⟨Int.le_refl (0:Int),h3,h4⟩
   have hm:isSpanF (max x.1 0,min x.2 u)=true:=span_iff.2 ⟨by show 0≤max x.1 0;omega,by show max x.1 0≤min x.2 u;omega,by show min x.2 u≤10000;omega⟩
   have e:meetF x (0,u)=((max x.1 0,min x.2 u),true):=by
     have:pick2 (pick2 (!(isSpanF x)) true (!(isSpanF (0,u)))) true (!(isSpanF (max x.1 (0,u).1,min x.2 (0,u).2)))=false:=by
       show pick2 (pick2 (!(isSpanF x)) true (!(isSpanF (0,u)))) true (!(isSpanF (max x.1 0,min x.2 u)))=false
       rw[h2,hu,hm];rfl
     exact meI1 this
   unfold meG
   rw[e,if_pos rfl,List.nil_append,has_one]
   exact⟨hm,by show max x.1 0≤t;omega,by show t≤min x.2 u;omega⟩
theorem has_app {l:List Span}{x:Span}{t:Int}:hasT (l++[x]) t↔hasT l t∨(isSpanF x=true∧x.1≤t∧t≤x.2):=by
 unfold hasT
 constructor
 · rintro⟨y,hy,g⟩
   rcases List.mem_append.1 hy with hy | hy
   · exact .inl ⟨y,hy,g⟩
   · rw[List.mem_singleton.1 hy]at g;exact .inr g
 · rintro(⟨y,hy,g⟩ | g)
   · exact⟨y,by simp[hy],g⟩
   · exact⟨x,by simp,g⟩
theorem mk_iff {a b:Int}:(makeSpanF a b).2=true↔max 0 a≤min 10000 b:=by
 unfold makeSpanF
 split
 · rename_i h;exact⟨fun g=>(by cases g),fun g=>(by omega)⟩
 · rename_i h;exact⟨fun _=>by omega,fun _=>rfl⟩
theorem mk_val {a b:Int}(h:max 0 a≤min 10000 b):makeSpanF a b=((max 0 a,min 10000 b),true):=by
 unfold makeSpanF;rw[if_neg (by omega)]
theorem bPut_has {l:List Span}{a b t:Int}:hasT (bPut l a b) t↔hasT l t∨(max 0 a≤t∧t≤min 10000 b):=by
 by_cases h:max 0 a≤min 10000 b
 · rw[←bpY (mk_iff.2 h),has_app,mk_val h]
   have hs:isSpanF (max 0 a,min 10000 b)=true:=span_iff.2 ⟨by show 0≤max 0 a;omega,h,by show min 10000 b≤10000;omega⟩
   constructor
   · rintro(g | g)
     · exact .inl g
     · exact .inr g.2
   · rintro(g | g)
     · exact .inl g
     · exact .inr ⟨hs,g⟩
 · rw[←bpN (by cases hm:(makeSpanF a b).2 with
     | true=>exact absurd (mk_iff.1 hm) h
     | false=>rfl)]
   exact⟨.inl,fun g=>g.elim id fun g=>by omega⟩
theorem bad_iff {c:Cert}{l:List Status}{s:Span}:coversF (badSpansF c l) s=true↔isSpanF s=true∧∀ t,s.1≤t→t≤s.2→hasT (badB c) t∨(max 0 (badFromF l c.1)≤t∧t≤10000):=by
 unfold badSpansF
 rw[cov_join]
 have k:∀ t,hasT (bPut (badB c) (badFromF l c.1) 10000) t↔hasT (badB c) t∨(max 0 (badFromF l c.1)≤t∧t≤10000):=fun t=>by
   rw[bPut_has,show (min 10000 10000:Int)=10000 by decide]
 constructor
 · rintro⟨h1,h2⟩;exact⟨h1,fun t a b=>(k t).1 (h2 t a b)⟩
 · rintro⟨h1,h2⟩;exact⟨h1,fun t a b=>(k t).2 (h2 t a b)⟩
theorem badB_out {c:Cert}{t:Int}(hc:isSpanF (certSpanF c)=true)(h:hasT (badB c) t):t<(certSpanF c).1∨(certSpanF c).2<t:=by
 have hs:=span_iff.1 hc
 have s1:0≤c.2.2.2.1:=hs.1
 have s2:c.2.2.2.1≤c.2.2.2.2.1:=hs.2.1
 have s3:c.2.2.2.2.1≤10000:=hs.2.2
 show t<c.2.2.2.1∨c.2.2.2.2.1<t
 have kA:hasT (badA c) t→t<c.2.2.2.1:=by
   intro g
   unfold badA at g
   split at g
   · rw[bPut_has,w64 (by omega) (by omega)]at g
     rcases g with⟨y,hy,_⟩ | g
     · simp at hy
     · omega
   · obtain⟨y,hy,_⟩:=g;simp at hy
 unfold badB at h
 split at h
 · rw[bPut_has,w64 (by omega) (by omega)]at h
   rcases h with h | h
   · exact .inl (kA h)
   · exact .inr (by omega)
 · exact .inl (kA h)
section
variable {n:Int}
def stE (n:Int)(l:List Status)(a:Int):Prop:=∃ x∈l,x.1=n∧0≤x.2.2.1∧x.2.2.1=a
theorem lsL:∀ (l:List Status) (a:Int),(a=-1∨0≤a)→
   (l.foldl (lsS n) a=-1∧a=-1∧∀ b,¬stE n l b)∨(0≤l.foldl (lsS n) a∧(l.foldl (lsS n) a=a∨stE n l (l.foldl (lsS n) a))∧(0≤a→l.foldl (lsS n) a≤a)∧∀ b,stE n l b→l.foldl (lsS n) a≤b)
 | [],a,h=>by
   rcases h with h | h
   · exact .inl ⟨h,h,fun b=>by rintro⟨x,hx,_⟩;simp at hx⟩
   · exact .inr ⟨h,.inl rfl,fun _=>Int.le_refl _,fun b=>by rintro⟨x,hx,_⟩;simp at hx⟩
 | x::r,a,h=>by
   rw[List.foldl_cons]
   by_cases hx:x.1=n∧0≤x.2.2.1
   · have h2:0≤lsS n a x∧(lsS n a x=a∨lsS n a x=x.2.2.1)∧(0≤a→lsS n a x≤a)∧lsS n a x≤x.2.2.1:=by
       unfold lsS
       split
       · rename_i hc;exact⟨hc.2.1,.inr rfl,fun _=>by omega,Int.le_refl _⟩
       · rename_i hc
         have:¬(a<0∨x.2.2.1<a):=fun g=>hc ⟨hx.1,hx.2,g⟩
         exact⟨by omega,.inl rfl,fun _=>Int.le_refl _,by omega⟩
     generalize lsS n a x=a' at *
     rcases lsL r a' (.inr h2.1)with g | ⟨g1,g2,g3,g4⟩
     · omega
     · refine .inr ⟨g1,?_,fun ha=>by have:=g3 h2.1;have:=h2.2.2.1 ha;omega,fun b hb=>?_⟩
       · rcases g2 with g2 | ⟨y,hy,q⟩
         · rcases h2.2.1 with e | e
           · exact .inl (by omega)
           · exact .inr ⟨x,by simp,hx.1,hx.2,by omega⟩
         · exact .inr ⟨y,by simp[hy],q⟩
       · obtain⟨y,hy,q⟩:=hb
         rcases List.mem_cons.1 hy with rfl | hy
         · have:=g3 h2.1;have:=h2.2.2.2;omega
         · exact g4 b ⟨y,hy,q⟩
   · have e:lsS n a x=a:=by unfold lsS;rw[if_neg fun g=>hx ⟨g.1,g.2.1⟩]
     rw[e]
     have k:∀ b,stE n (x::r) b↔stE n r b:=fun b=>by
       constructor
       · rintro⟨y,hy,q⟩
         rcases List.mem_cons.1 hy with rfl | hy
         · exact(hx ⟨q.1,q.2.1⟩).elim
         · exact⟨y,hy,q⟩
       · rintro⟨y,hy,q⟩;exact⟨y,by simp[hy],q⟩
     rcases lsL r a h with⟨g1,g2,g3⟩ | ⟨g1,g2,g3,g4⟩
     · exact .inl ⟨g1,g2,fun b hb=>g3 b ((k b).1 hb)⟩
     · exact .inr ⟨g1,g2.imp id (k _).2,g3,fun b hb=>g4 b ((k b).1 hb)⟩
theorem least_cases (l:List Status):(leastF l n=-1∧∀ b,¬stE n l b)∨(stE n l (leastF l n)∧∀ b,stE n l b→leastF l n≤b):=by
 rcases lsL (n:=n) l (-1) (.inl rfl)with⟨g1,_,g2⟩ | ⟨g1,g2,_,g4⟩
 · exact .inl ⟨g1,g2⟩
 · rcases g2 with g2 | g2
   · rw[g2]at g1;exact absurd g1 (by decide)
   · exact .inr ⟨g2,g4⟩
theorem most_le:∀ (l:List Status) (a b:Int),l.foldl (msS n) a≤b↔a≤b∧∀ x∈l,x.1=n→0≤x.2.2.1→x.2.2.1≤b
 | [],a,b=>by simp
 | x::r,a,b=>by
   rw[List.foldl_cons,most_le r]
   have k:msS n a x≤b↔a≤b∧(x.1=n→0≤x.2.2.1→x.2.2.1≤b):=by
     unfold msS
     split
     · rename_i h
       constructor
       · intro g;exact⟨by omega,fun _ _=>by omega⟩
       · intro g;have:=g.2 h.1 h.2;omega
     · rename_i h
       exact⟨fun g=>⟨g,fun h1 h2=>absurd ⟨h1,h2⟩ h⟩,fun g=>g.1⟩
   rw[k]
   constructor
   · rintro⟨⟨g1,g2⟩,g3⟩
     refine⟨g1,fun y hy=>?_⟩
     rcases List.mem_cons.1 hy with rfl | hy
     · exact g2
     · exact g3 y hy
   · rintro⟨g1,g2⟩
     exact⟨⟨g1,g2 x (by simp)⟩,fun y hy=>g2 y (by simp[hy])⟩
theorem goodM_le:∀ (l:List Status) (a b:Int),l.foldl (gsS n) a≤b↔a≤b∧∀ x∈l,x.1=n→x.2.2.1<0→x.2.1≤b
 | [],a,b=>by simp
 | x::r,a,b=>by
   rw[List.foldl_cons,goodM_le r]
   have k:gsS n a x≤b↔a≤b∧(x.1=n→x.2.2.1<0→x.2.1≤b):=by
     unfold gsS
     split
     · rename_i h
       constructor
       · intro g;exact⟨by omega,fun _ _=>by omega⟩
       · intro g;have:=g.2 h.1 h.2;omega
     · rename_i h
       exact⟨fun g=>⟨g,fun h1 h2=>absurd ⟨h1,h2⟩ h⟩,fun g=>g.1⟩
   rw[k]
   constructor
   · rintro⟨⟨g1,g2⟩,g3⟩
     refine⟨g1,fun y hy=>?_⟩
     rcases List.mem_cons.1 hy with rfl | hy
     · exact g2
     · exact g3 y hy
   · rintro⟨g1,g2⟩
     exact⟨⟨g1,g2 x (by simp)⟩,fun y hy=>g2 y (by simp[hy])⟩
def smallSt (l:List Status):Prop:=∀ x∈l,x.2.1≤9999∧x.2.2.1≤9999
theorem most_up {l:List Status}{b:Int}(h:stE n l b):b≤mostF l n:=by
 obtain⟨x,hx,h1,h2,h3⟩:=h
 have:=((most_le l (-1) (mostF l n)).1 (Int.le_refl _)).2 x hx h1 h2
 omega
theorem good_lo (l:List Status):-1≤goodF l n:=((goodM_le l (-1) (goodF l n)).1 (Int.le_refl _)).1
theorem most_lo (l:List Status):-1≤mostF l n:=((most_le l (-1) (mostF l n)).1 (Int.le_refl _)).1
theorem good_hi {l:List Status}(h:smallSt l):goodF l n≤9999:=(goodM_le l (-1) 9999).2 ⟨by decide,fun x hx _ _=>(h x hx).1⟩
theorem most_hi {l:List Status}(h:smallSt l):mostF l n≤9999:=(most_le l (-1) 9999).2 ⟨by decide,fun x hx _ _=>(h x hx).2⟩
theorem most_neg {l:List Status}(h:∀ b,¬stE n l b):mostF l n=-1:=by
 have h1:mostF l n≤-1:=(most_le l (-1) (-1)).2 ⟨by decide,fun x hx e1 e2=>absurd ⟨x,hx,e1,e2,rfl⟩ (h _)⟩
 have:=most_lo (n:=n) l
 omega
theorem agreed_cases {l:List Status}(hs:smallSt l)(h:isAgreedF l n=true):
   ((∀ b,¬stE n l b)∧goodUntilF l n=goodF l n∧badFromF l n=10001)∨
   (0≤leastF l n∧leastF l n≤9999∧stE n l (leastF l n)∧(∀ b,stE n l b→b=leastF l n)∧goodF l n<leastF l n∧goodUntilF l n=leastF l n-1∧badFromF l n=leastF l n):=by
 have h1:=good_lo (n:=n) l
 have h2:=good_hi (n:=n) hs
 have h3:=most_hi (n:=n) hs
 rcases least_cases (n:=n) l with⟨g1,g2⟩ | ⟨g1,g2⟩
 · refine .inl ⟨g2,?_,?_⟩
   · unfold goodUntilF;rw[if_neg (by omega)]
   · unfold badFromF;rw[if_pos (by have:=most_neg g2;omega)]
 · have k1:=most_up g1
   have k0:0≤leastF l n:=by obtain⟨x,_,_,e1,e2⟩:=g1;omega
   have eu:goodUntilF l n=leastF l n-1:=by unfold goodUntilF;rw[if_pos k0,w64 (by omega) (by omega)]
   have eb:badFromF l n=max (mostF l n) (goodF l n+1):=by unfold badFromF;rw[if_neg (by omega),w64 (by omega) (by omega)]
   have h4:badFromF l n=leastF l n:=by
     unfold isAgreedF at h
     rw[pick2_or,Bool.or_eq_true,beq_iff_eq,beq_iff_eq,w64 (by omega) (by omega)]at h
     omega
   refine .inr ⟨k0,by omega,g1,fun b hb=>?_,by omega,eu,h4⟩
   have:=most_up hb
   have:=g2 b hb
   omega
theorem st_mono {l m:List Status}{b:Int}(h:∀ x∈l,x∈m)(g:stE n l b):stE n m b:=by
 obtain⟨x,hx,q⟩:=g
 exact⟨x,h x hx,q⟩
theorem until_mono {l m:List Status}(h:∀ x∈l,x∈m)(hs:smallSt m)(ha:isAgreedF m n=true):goodUntilF l n≤goodUntilF m n∧badFromF m n≤badFromF l n:=by
 have hl:smallSt l:=fun x hx=>hs x (h x hx)
 have g0:goodF l n≤goodF m n:=by
   have:=(goodM_le m (-1) (goodF m n)).1 (Int.le_refl _)
   exact(goodM_le l (-1) _).2 ⟨this.1,fun x hx=>this.2 x (h x hx)⟩
 have l1:=good_lo (n:=n) l
 have l2:=good_hi (n:=n) hl
 have l3:=most_hi (n:=n) hl
 rcases agreed_cases hs ha with⟨a1,a2,a3⟩ | ⟨a0,a1,a2,a3,a4,a5,a6⟩
 · have hn:∀ b,¬stE n l b:=fun b hb=>a1 b (st_mono h hb)
   have e1:goodUntilF l n=goodF l n:=by
     unfold goodUntilF
     rcases least_cases (n:=n) l with g | g
     · rw[if_neg (by omega)]
     · exact absurd g.1 (hn _)
   have e2:badFromF l n=10001:=by unfold badFromF;rw[if_pos (by have:=most_neg hn;omega)]
   omega
 · rcases least_cases (n:=n) l with⟨b1,b2⟩ | ⟨b1,b2⟩
   · have e1:goodUntilF l n=goodF l n:=by unfold goodUntilF;rw[if_neg (by omega)]
     have e2:badFromF l n=10001:=by unfold badFromF;rw[if_pos (by have:=most_neg b2;omega)]
     omega
   · have e0:=a3 _ (st_mono h b1)
     have k1:=most_up b1
     have e1:goodUntilF l n=leastF l n-1:=by unfold goodUntilF;rw[if_pos (by omega),w64 (by omega) (by omega)]
     have e2:badFromF l n=max (mostF l n) (goodF l n+1):=by unfold badFromF;rw[if_neg (by omega),w64 (by omega) (by omega)]
     omega
end
end Fw
namespace Fw
open Go
theorem pick_mem {α β:Type}{f:α→β×Bool}{L:List α}{y:β}:y∈pickF f L↔∃ x∈L,(f x).2=true∧(f x).1=y:=by
 unfold pickF
 rw[List.mem_filterMap]
 constructor
 · rintro⟨x,hx,h⟩
   split at h
   · rename_i h2
     exact⟨x,hx,h2,Option.some.inj h⟩
   · cases h
 · rintro⟨x,hx,h1,h2⟩
   exact⟨x,hx,by rw[if_pos h1,h2]⟩
theorem pick_sub {α β:Type}{f:α→β×Bool}{L M:List α}(h:∀ x∈L,x∈M){y:β}(g:y∈pickF f L):y∈pickF f M:=by
 obtain⟨x,hx,q⟩:=pick_mem.1 g
 exact pick_mem.2 ⟨x,h x hx,q⟩
theorem cf_fold (keys:List Key)(g:Sig):∀ (l:List Piece) (c0:Cert) (k:Int),0≤k→k+l.length≤4000000000→
   l.foldl (cfStep keys g) (c0,k)=((l.filter (cfTest keys g)).foldl (fun _ p=>(pieceCertF p).1) c0,k+(l.filter (cfTest keys g)).length)
 | [],c0,k,_,_=>by simp
 | p::r,c0,k,h0,h1=>by
   rw[List.foldl_cons,List.length_cons]at *
   cases ht:cfTest keys g p with
   | true=>
     rw[cfYes ht]
     show r.foldl (cfStep keys g) ((pieceCertF p).1,IntKind.i64.wrap (k+1))=_
     rw[w64 (by omega) (by omega),cf_fold keys g r _ (k+1) (by omega) (by omega),List.filter_cons_of_pos ht,List.foldl_cons,List.length_cons]
     refine Prod.ext rfl ?_
     show k+1+_=k+_
     omega
   | false=>
     rw[cfNo ht,cf_fold keys g r _ k h0 (by omega),List.filter_cons_of_neg (by rw[ht];decide)]
theorem cert_ok {keys:List Key}{g:Sig}{l:List Piece}(hl:l.length≤2000000000):(certForF keys l g).2=true↔(l.filter (cfTest keys g)).length=1:=by
 unfold certForF cfAll
 rw[cf_fold keys g l _ 0 (by decide) (by omega)]
 split
 · rename_i h
   have:=bneT h
   exact⟨fun g=>(by cases g),fun g=>by omega⟩
 · rename_i h
   have h:(0+((l.filter (cfTest keys g)).length:Int) != 1)=false:=by simpa using h
   have:=bneI h
   exact⟨fun _=>by omega,fun _=>rfl⟩
theorem cert_val {keys:List Key}{g:Sig}{l:List Piece}(hl:l.length≤2000000000)(h:(certForF keys l g).2=true):
   certForF keys l g=((l.filter (cfTest keys g)).foldl (fun _ p=>(pieceCertF p).1) (0,0,0,0,0,0,0),true):=by
 have h1:=(cert_ok hl).1 h
 unfold certForF cfAll
 rw[cf_fold keys g l _ 0 (by decide) (by omega)]
 rw[if_neg]
 intro h2
 have:=bneT h2
 omega
theorem cert_mono {keys:List Key}{g:Sig}{l m:List Piece}(h:l.Sublist m)(hm:m.length≤2000000000)(h1:(certForF keys l g).2=true)(h2:(certForF keys m g).2=true):certForF keys l g=certForF keys m g:=by
 have hl:l.length≤2000000000:=Nat.le_trans h.length_le hm
 have e1:=(cert_ok hl).1 h1
 have e2:=(cert_ok hm).1 h2
 have e3:l.filter (cfTest keys g)=m.filter (cfTest keys g):=(h.filter _).eq_of_length_le (by omega)
 rw[cert_val hl h1,cert_val hm h2,e3]
theorem mand_iff {keys:List Key}{l:List Mandate}{org person:Int}{s:Span}:coversF (mandSpansF keys l org person) s=true↔isSpanF s=true∧∀ t,s.1≤t→t≤s.2→hasT (pickF (mdF keys org person) l) t:=cov_join
theorem may_mono {keys:List Key}{l m:List Mandate}{org person:Int}{s t:Span}(h:∀ x∈l,x∈m)(ht:isSpanF t=true)(h1:s.1≤t.1)(h2:t.2≤s.2)(g:maySignF keys l org person s=true):maySignF keys m org person t=true:=by
 unfold maySignF at g ⊢
 split at g
 · rename_i e;rw[if_pos e];exact ht
 · rename_i e
   rw[if_neg e]
   obtain⟨_,g2⟩:=mand_iff.1 g
   refine mand_iff.2 ⟨ht,fun u u1 u2=>?_⟩
   obtain⟨y,hy,q⟩:=g2 u (by omega) (by omega)
   exact⟨y,pick_sub h hy,q⟩
theorem form_code (f:Frame)(own:Int)(x:Sig):(formF f own x).1≠1:=by
 unfold formF
 repeat' split
 all_goals decide
theorem kept_open {r:Int×Span}{v:Verdict}:isKept2 (3,r) v=true:=rfl
theorem kept_eq {a b:Verdict}(h:b.1=a.1):isKept2 a b=true:=by
 unfold isKept2
 rw[pick2_or,h,beq_self_eq_true,Bool.or_true]
section
variable {f:Frame} {a e:Evidence} {d:Doc} {x:Sig}
theorem mono_end {ua ue:List Piece}{c:Cert}{fa fe ba be:Int}(hu:∀ q∈ua,q∈ue)(hq:smallSt (statusesF ue c))(hag:isAgreedF (statusesF ue c) c.1=true)
   (h1:fa≤fe) (h2:fe≤be) (h3:be≤ba):
   isKept2 (endF f ua x c (fa,ba)) (endF f ue x c (fe,be))=true∧((endF f ua x c (fa,ba)).1=1→isNarrowerF (endF f ue x c (fe,be)) (endF f ua x c (fa,ba))=true):=by
 have hst:∀ y∈statusesF ua c,y∈statusesF ue c:=fun y hy=>pick_sub hu hy
 have hmd:∀ y∈mandatesF ua,y∈mandatesF ue:=fun y hy=>pick_sub hu hy
 have hum:=until_mono (n:=c.1) hst hq hag
 have hsp:isSpanF (fa,ba)=true→isSpanF (fe,be)=true:=fun g=>by
   have:=span_iff.1 g
   have g1:0≤fa:=this.1
   have g2:ba≤10000:=this.2.2
   exact span_iff.2 ⟨by show 0≤fe;omega,h2,by show be≤10000;omega⟩
 unfold endF
 by_cases hb:coversF (badSpansF c (statusesF ua c)) (fa,ba)=true
 · have hb2:coversF (badSpansF c (statusesF ue c)) (fe,be)=true:=by
     obtain⟨k1,k2⟩:=bad_iff.1 hb
     refine bad_iff.2 ⟨hsp k1,fun t t1 t2=>?_⟩
     have t1:fe≤t:=t1
     have t2:t≤be:=t2
     rcases k2 t (by show fa≤t;omega) (by show t≤ba;omega)with g | g
     · exact .inl g
     · exact .inr ⟨by omega,g.2⟩
   rw[if_pos hb,if_pos hb2]
   exact⟨kept_eq rfl,fun g=>absurd g (show (2:Int)≠1 by decide)⟩
 rw[if_neg hb]
 by_cases hg:coversF (goodSpansF c (statusesF ua c)) (fa,ba)=true
 · rw[if_neg (by rw[hg];decide)]
   by_cases hm:maySignF f.1 (mandatesF ua) x.2.2.2.2.2.1 c.2.2.1 (fa,ba)=true
   · rw[if_neg (by rw[hm];decide)]
     obtain⟨k1,k2,k3,k4,k5,k6,k7⟩:=good_iff.1 hg
     have k5:(certSpanF c).1≤fa:=k5
     have k6:ba≤(certSpanF c).2:=k6
     have k7:ba≤goodUntilF (statusesF ua c) c.1:=k7
     have hs2:=hsp k1
     have gu:goodUntilF (statusesF ue c) c.1≤9999:=by
       rcases agreed_cases hq hag with q | q
       · have:=good_hi (n:=c.1) hq;omega
       · omega
     have hg2:coversF (goodSpansF c (statusesF ue c)) (fe,be)=true:=
       good_iff.2 ⟨hs2,k2,by omega,by omega,by show (certSpanF c).1≤fe;omega,by show be≤(certSpanF c).2;omega,by show be≤goodUntilF _ _;omega⟩
     have hb2:¬coversF (badSpansF c (statusesF ue c)) (fe,be)=true:=by
       intro q
       rcases (bad_iff.1 q).2 fe (Int.le_refl _) h2 with g | g
       · have:=badB_out k2 g;omega
       · have g1:fe≤goodUntilF (statusesF ue c) c.1:=by omega
         rcases agreed_cases hq hag with q | q<;>omega
     rw[if_neg hb2,if_neg (by rw[hg2];decide),if_neg (by rw[may_mono hmd hs2 h1 h3 hm];decide)]
     exact⟨kept_eq rfl,fun _=>inside_iff.2 ⟨hs2,k1,h1,h3⟩⟩
   · rw[if_pos (by rw[Bool.eq_false_iff.2 hm];rfl)]
     exact⟨kept_open,fun g=>absurd g (show (3:Int)≠1 by decide)⟩
 · rw[if_pos (by rw[Bool.eq_false_iff.2 hg];rfl)]
   exact⟨kept_open,fun g=>absurd g (show (3:Int)≠1 by decide)⟩
theorem mono_main (hq:∀ c,smallSt (statusesF (usablePiecesF f e (allDigsF e d)) c))(hl:(usablePiecesF f e (allDigsF e d)).length≤2000000000)(h:subE a e)(hc:consF f e d x=true):
   isKept2 (judgeDocF f a d x) (judgeDocF f e d x)=true∧((judgeDocF f a d x).1=1→isNarrowerF (judgeDocF f e d x) (judgeDocF f a d x)=true):=by
 have hbd:=evB_mono (f:=f) (d:=d) (p:=signPieceF x) h
 have hus:=us_sub (f:=f) (d:=d) h
 have hfr:=fr_mono (f:=f) (x:=x) h (us:=usablePiecesF f a (allDigsF a d)) (vs:=usablePiecesF f e (allDigsF e d)) (fun q hq=>hus.subset hq)
 unfold consF at hc
 have c1:=(andT (andT hc).1).1
 have c2:=(andT (andT hc).1).2
 have c3:=of_decide_eq_true (andT hc).2
 unfold judgeDocF judgeF
 by_cases hf:((formF f (docDigF x.2.2.1 d) x).1 != 0)=true
 · rw[if_pos hf,if_pos hf]
   exact⟨kept_eq rfl,fun g=>absurd g (form_code _ _ _)⟩
 rw[if_neg hf,if_neg hf]
 unfold boundJ
 by_cases hb:pick2 (decide (evBoundF f a (allDigsF a d) (signPieceF x)≥brkKeyF f x.1)) true (decide (evBoundF f a (allDigsF a d) (signPieceF x)≥breakF f.2.2.1 x.2.2.1))=true
 · rw[if_pos hb]
   exact⟨kept_open,fun g=>absurd g (show (3:Int)≠1 by decide)⟩
 have hb1:=orF (Bool.eq_false_iff.2 hb)
 have g1:=of_decide_eq_false hb1.1
 have g2:=of_decide_eq_false hb1.2
 have hb2:¬pick2 (decide (evBoundF f e (allDigsF e d) (signPieceF x)≥brkKeyF f x.1)) true (decide (evBoundF f e (allDigsF e d) (signPieceF x)≥breakF f.2.2.1 x.2.2.1))=true:=by
   rw[decide_eq_false (by omega),decide_eq_false (by omega)];decide
 rw[if_neg hb,if_neg hb2]
 unfold certJ
 by_cases hca:(certForF f.1 (usablePiecesF f a (allDigsF a d)) x).2=true
 · have e1:=cert_mono hus hl hca c1
   rw[if_neg (show ¬(!(certForF f.1 (usablePiecesF f a (allDigsF a d)) x).2)=true by rw[hca];decide)]
   by_cases hfa:freshG f a (usablePiecesF f a (allDigsF a d)) x>evBoundF f a (allDigsF a d) (signPieceF x)
   · rw[if_pos (decide_eq_true hfa)]
     exact⟨kept_open,fun g=>absurd g (show (3:Int)≠1 by decide)⟩
   · rw[if_neg (by rw[decide_eq_false hfa];decide),if_neg (show ¬(!(certForF f.1 (usablePiecesF f e (allDigsF e d)) x).2)=true by rw[c1];decide),if_neg (by rw[decide_eq_false (by omega)];decide),e1]
     exact mono_end (fun q hq=>hus.subset hq) (hq _) c2 hfr c3 hbd
 · rw[if_pos (by rw[Bool.eq_false_iff.2 hca];rfl)]
   exact⟨kept_open,fun g=>absurd g (show (3:Int)≠1 by decide)⟩
end
end Fw
namespace Fw
open Go
abbrev TCur:Ty:=.pair (.slice (.int .u8)) (.pair (.int .i64) (.int .i64))
abbrev Cur:=El TCur
def curOk (c:Cur):Prop:=(0:Int)≤c.2.1∧List.length c.1≤bigLen
def shr64 (x:Int)(n:Nat):Int:=x.fdiv (2 ^ n)
def and64 (x y:Int):Int:=IntKind.i64.wrap (BitVec.ofInt IntKind.i64.bits x&&& BitVec.ofInt IntKind.i64.bits y).toNat
def xor64 (x y:Int):Int:=IntKind.i64.wrap (BitVec.ofInt IntKind.i64.bits x ^^^ BitVec.ofInt IntKind.i64.bits y).toNat
def curH (c:Cur):Int:=IntKind.i64.wrap (IntKind.i64.wrap (c.2.2*6364136223846793005)+1442695040888963407)
def byteX (h:Int):Int:=and64 (xor64 (shr64 h 33) (shr64 h 47)) 255
def byteRaw (c:Cur):Int×Cur:=
 cond (decide (c.2.1<(List.length c.1:Int)))
   (and64 (IntKind.i64.wrap (byteX (curH c)+IntKind.i64.wrap (c.1.getD c.2.1.toNat (0:Int)))) 255,(c.1,IntKind.i64.wrap (c.2.1+1),curH c))
   (byteX (curH c),(c.1,c.2.1,curH c))
theorem byteEx:∃ f:Cur→Int×Cur,∀ c,f c=byteRaw c:=⟨byteRaw,fun _=>rfl⟩
noncomputable def byteF (c:Cur):Int×Cur:=Classical.choose byteEx c
theorem byte_eq (c:Cur):byteF c=byteRaw c:=Classical.choose_spec byteEx c
theorem and64_lt {x:Int}:0≤and64 x 255∧and64 x 255<256:=by
 show 0≤IntKind.i64.wrap (BitVec.ofInt 64 x&&& BitVec.ofInt 64 255).toNat∧IntKind.i64.wrap (BitVec.ofInt 64 x&&& BitVec.ofInt 64 255).toNat<256
 have h:(BitVec.ofInt 64 x&&& BitVec.ofInt 64 255).toNat≤255:=by
   rw[BitVec.toNat_and]
   exact Nat.and_le_right
 have e:IntKind.i64.wrap (((BitVec.ofInt 64 x&&& BitVec.ofInt 64 255).toNat:Nat):Int)=(((BitVec.ofInt 64 x&&& BitVec.ofInt 64 255).toNat:Nat):Int):=by
   exact w64 (by omega) (by omega)
 rw[e];omega
theorem byte_lt (c:Cur):0≤(byteF c).1∧(byteF c).1<256:=by
 rw[byte_eq]
 unfold byteRaw
 cases decide (c.2.1<(List.length c.1:Int))<;>exact and64_lt
theorem byte_ok {c:Cur}(h:curOk c):curOk (byteF c).2:=by
 rw[byte_eq]
 obtain⟨b,(i:Int),(hh:Int)⟩:=c
 obtain⟨h0,hb⟩:=h
 have h0:(0:Int)≤i:=h0
 have hb:List.length b≤bigLen:=hb
 cases hd:decide (i<(List.length b:Int))with
 | true=>
   have h2:=of_decide_eq_true hd
   have e:(byteRaw (b,i,hh)).2=(b,IntKind.i64.wrap (i+1),curH (b,i,hh)):=by
     have hd':decide ((b,i,hh).2.1<(List.length (b,i,hh).1:Int))=true:=hd
     unfold byteRaw;rw[hd'];rfl
   rw[e]
   refine⟨?_,hb⟩
   show (0:Int)≤IntKind.i64.wrap (i+1)
   unfold bigLen at hb
   rw[w64 (by omega) (by omega)];omega
 | false=>
   have e:(byteRaw (b,i,hh)).2=(b,i,curH (b,i,hh)):=by
     have hd':decide ((b,i,hh).2.1<(List.length (b,i,hh).1:Int))=false:=hd
     unfold byteRaw;rw[hd'];rfl
   rw[e]
   exact⟨h0,hb⟩
theorem tmod_lt {x n:Int}(hx:0≤x)(hn:0<n):0≤x.tmod n∧x.tmod n<n:=by
 rw[Int.tmod_eq_emod_of_nonneg hx]
 exact⟨Int.emod_nonneg _ (by omega),Int.emod_lt_of_pos _ hn⟩
def bel3 (x y z n:Int):Int:=(IntKind.i64.wrap (IntKind.i64.wrap (IntKind.i64.wrap (x*65536)+IntKind.i64.wrap (y*256))+z)).tmod n
noncomputable def belowRaw (c:Cur)(n:Int):Int×Cur:=
 cond (decide (n≤0)) (0,c) (cond (decide (n≤256)) ((byteF c).1.tmod n,(byteF c).2)
   (bel3 (byteF c).1 (byteF (byteF c).2).1 (byteF (byteF (byteF c).2).2).1 n,(byteF (byteF (byteF c).2).2).2))
theorem belowEx:∃ f:Cur→Int→Int×Cur,∀ c n,f c n=belowRaw c n:=⟨belowRaw,fun _ _=>rfl⟩
noncomputable def belowF (c:Cur)(n:Int):Int×Cur:=Classical.choose belowEx c n
theorem bel_eq (c:Cur)(n:Int):belowF c n=belowRaw c n:=Classical.choose_spec belowEx c n
theorem below_lt {c:Cur}{n:Int}(hn:0<n):0≤(belowF c n).1∧(belowF c n).1<n:=by
 have h0:decide (n≤0)=false:=decide_eq_false (by omega)
 rw[bel_eq]
 unfold belowRaw
 rw[h0]
 have hx:=byte_lt c
 have hy:=byte_lt (byteF c).2
 have hz:=byte_lt (byteF (byteF c).2).2
 cases decide (n≤256)with
 | true=>exact tmod_lt hx.1 hn
 | false=>
   show 0≤bel3 _ _ _ n∧bel3 _ _ _ n<n
   unfold bel3
   generalize (byteF c).1=x at *
   generalize (byteF (byteF c).2).1=y at *
   generalize (byteF (byteF (byteF c).2).2).1=z at *
   rw[w64 (x:=x*65536) (by omega) (by omega),w64 (x:=y*256) (by omega) (by omega),w64 (x:=x*65536+y*256) (by omega) (by omega),w64 (by omega) (by omega)]
   exact tmod_lt (by omega) hn
theorem below_ok {c:Cur}{n:Int}(h:curOk c):curOk (belowF c n).2:=by
 rw[bel_eq]
 unfold belowRaw
 cases decide (n≤0)with
 | true=>exact h
 | false=>cases decide (n≤256)with
   | true=>exact byte_ok h
   | false=>exact byte_ok (byte_ok (byte_ok h))
noncomputable def onceF (c:Cur)(n:Int):Bool×Cur:=((belowF c n).1==0,(belowF c n).2)
noncomputable def intF (c:Cur)(l:List Int):Int×Cur:=(l.getD (belowF c l.length).1.toNat 0,(belowF c l.length).2)
theorem int_range {c:Cur}{n:Nat}(hn:0<n):inRange (belowF c n).1 n:=by
 have:=below_lt (c:=c) (n:=(n:Int)) (by omega)
 exact this
theorem int_mem {c:Cur}{l:List Int}(hl:0<l.length):(intF c l).1∈l:=by
 have:=below_lt (c:=c) (n:=(l.length:Int)) (by omega)
 show l.getD (belowF c l.length).1.toNat 0∈l
 rw[List.getD_eq_getElem?_getD,List.getElem?_eq_getElem (by omega)]
 exact List.getElem_mem _
theorem int_ok {c:Cur}{l:List Int}(h:curOk c):curOk (intF c l).2:=below_ok h
def curNewG (h:Int)(b:Int):Int:=and64 (IntKind.i64.wrap (IntKind.i64.wrap (IntKind.i64.wrap (h*137)+IntKind.i64.wrap b)+11)) 1073741823
noncomputable def n4k:Nat:=Classical.choose (⟨4000,rfl⟩:∃ n:Nat,n=4000)
theorem n4k_eq:n4k=4000:=Classical.choose_spec (⟨4000,rfl⟩:∃ n:Nat,n=4000)
noncomputable def curNewF (code:List Int):Cur:=(code,0,(code.take n4k).foldl curNewG (IntKind.i64.wrap (193017+(code.length:Int))))
end Fw
namespace Fw
open Go
theorem cT {α:Type}{b:Bool}{x y:α}(h:b=true):cond b x y=x:=by subst h;rfl
theorem cF {α:Type}{b:Bool}{x y:α}(h:b=false):cond b x y=y:=by subst h;rfl
theorem newCur_ok {code:List Int}(h:List.length code≤bigLen):curOk (curNewF code):=⟨Int.le_refl 0,h⟩
end Fw
namespace Fw
open Go
theorem cnLt {code:List Int}{i:Int}(h:pick2 (decide (i<(code.length:Int))) (decide (i<4000)) false=true):i<((code.take n4k).length:Int):=by
 obtain⟨h1,h2⟩:i<(code.length:Int)∧i<4000:=by
   revert h
   unfold pick2
   cases h1:decide (i<(code.length:Int))with
   | true=>intro h2;exact⟨of_decide_eq_true h1,of_decide_eq_true h2⟩
   | false=>intro h2;cases h2
 rw[List.length_take,n4k_eq];omega
theorem cnGe {code:List Int}{i:Int}(h:pick2 (decide (i<(code.length:Int))) (decide (i<4000)) false=false):¬i<((code.take n4k).length:Int):=by
 intro hl
 rw[List.length_take,n4k_eq]at hl
 have h1:decide (i<(code.length:Int))=true:=decide_eq_true (by omega)
 have h2:decide (i<4000)=true:=decide_eq_true (by omega)
 rw[h1,h2]at h;cases h
theorem cnRange {z:Int}{code:List Int}{h i:Int}(hI:foInv curNewG z (code.take n4k) h i)(hl:i<((code.take n4k).length:Int)):inRange i code.length:=by
 have:=foRange hI hl
 obtain⟨h1,h2⟩:=this
 rw[List.length_take]at h2
 exact⟨h1,by omega⟩
theorem cnElem {z:Int}{code:List Int}{h i:Int}(hI:foInv curNewG z (code.take n4k) h i)(hl:i<((code.take n4k).length:Int)):
   curNewG h (code.getD i.toNat 0)=curNewG h ((code.take n4k).getD i.toNat 0):=by
 obtain⟨h1,h2⟩:=foRange hI hl
 have hl2:i.toNat<(code.take n4k).length:=by omega
 congr 1
 rw[List.getD_eq_getElem?_getD,List.getD_eq_getElem?_getD,List.getElem?_take_of_lt (by rw[List.length_take]at hl2;omega)]
theorem cnEnd {code:List Int}{h i:Int}(hI:foInv curNewG (IntKind.i64.wrap (193017+(code.length:Int))) (code.take n4k) h i)(hl:¬i<((code.take n4k).length:Int)):
   ((code,(0:Int),h):Cur)=curNewF code:=by
 have:=foEnd hI hl
 unfold curNewF
 rw[this]
theorem cnBig (code:List Int):(code.take n4k).length≤bigLen:=by
 rw[List.length_take,n4k_eq];unfold bigLen;omega
end Fw
namespace Fw
open Go
end Fw
namespace Fw
open Go
def keysT:List Key:=[(1,90,1,0,501),(2,90,3,40,502),(11,1,1,0,511),(12,1,2,20,512),(13,2,3,40,513),(21,50,1,0,521),
 (31,81,1,0,531),(32,82,2,20,532),(33,83,3,40,533),(34,84,4,60,534)]
def authsT:List Authority:=[(1,31,1),(2,32,2),(3,33,1),(4,34,0)]
def isStatusF (x:Status):Bool:=pick2 (pick2 (pick2 (inRangeF x.1 1 999) (isTimeF x.2.1) false) (inRangeF x.2.2.1 (-1) (IntKind.i64.wrap (x.2.1+1))) false) (inRangeF x.2.2.2.1 1 99) false
def statusIntsF (x:Status):List Int:=[102,x.1,x.2.1,x.2.2.1,x.2.2.2.1]
def makeStatusF (keys:List Key)(x:Status):Status×Bool:=
 cond (pick2 (!(isStatusF x)) true (decide (keyI keys x.2.2.2.1<0))) ((0,0,0,0,0),false) ((x.1,x.2.1,x.2.2.1,x.2.2.2.1,markWithF (keyAt keys x.2.2.2.1) (statusIntsF x)),true)
def makeMandF (keys:List Key)(x:Mandate):Mandate×Bool:=
 cond (pick2 (!(isMandF x)) true (decide (keyI keys x.2.2.2.2.1<0))) ((0,0,0,0,0,0),false) ((x.1,x.2.1,x.2.2.1,x.2.2.2.1,x.2.2.2.2.1,markWithF (keyAt keys x.2.2.2.2.1) (mandIntsF x)),true)
def signDigestF (keys:List Key)(x:Sig):Sig×Bool:=
 cond (pick2 (!(isSigF x)) true (decide (keyI keys x.1<0))) ((0,0,0,0,0,0,0,0,0),false)
   ((x.1,x.2.1,x.2.2.1,x.2.2.2.1,x.2.2.2.2.1,x.2.2.2.2.2.1,x.2.2.2.2.2.2.1,x.2.2.2.2.2.2.2.1,markWithF (keyAt keys x.1) (sigIntsF x)),true)
def issueCertF (keys:List Key)(x:Cert):Cert×Bool:=
 cond (pick2 (pick2 (!(isCertF x)) true (decide (keyI keys x.2.2.2.2.2.1<0))) true (decide (keyI keys x.2.1<0))) ((0,0,0,0,0,0,0),false)
   ((x.1,x.2.1,x.2.2.1,x.2.2.2.1,x.2.2.2.2.1,x.2.2.2.2.2.1,markWithF (keyAt keys x.2.2.2.2.2.1) (certIntsF x)),true)
noncomputable def signDocF (keys:List Key)(key serial method:Int)(d:Doc)(commit:Int):Sig×Bool:=
 signDigestF keys (key,serial,method,docDigF method d,commit,0,0,0,0)
def certPieceF (x:Cert):Piece:=(x.2.2.2.2.2.1,certIntsF x,x.2.2.2.2.2.2)
def statusPieceF (x:Status):Piece:=(x.2.2.2.1,statusIntsF x,x.2.2.2.2)
def mandPieceF (x:Mandate):Piece:=(x.2.2.2.2.1,mandIntsF x,x.2.2.2.2.2)
def certsT:List Cert:=[(issueCertF keysT (1,11,1,0,60,1,0)).1,(issueCertF keysT (2,12,1,20,100,1,0)).1,(issueCertF keysT (3,13,2,40,150,2,0)).1]
theorem orT {a b:Bool}(h:pick2 a true b=false):a=false∧b=false:=by cases a<;>cases b<;>first | exact⟨rfl,rfl⟩ | cases h
theorem sgRange {α:Type}{b:Bool}{l:List α}{p:α→Bool}(h:pick2 b true (decide (findI p l<0))=false):inRange (findI p l) l.length:=
 findRange (of_decide_eq_false (orT h).2)
theorem icRange {α:Type}{b e:Bool}{l:List α}{p:α→Bool}(h:pick2 (pick2 b true (decide (findI p l<0))) true e=false):inRange (findI p l) l.length:=sgRange (orT h).1
def saltF (seed title:Int)(k:Nat):Int:=max 1 (keyedF seed [title,(k:Int)])
def saltsF (seed title:Int)(n:Nat):List Int:=(List.range n).map (saltF seed title)
theorem salts_succ (seed title:Int)(n:Nat):saltsF seed title (n+1)=saltsF seed title n++[saltF seed title n]:=by
 unfold saltsF;rw[List.range_succ,List.map_append];rfl
noncomputable def makeDocF (title:Int)(parts:List (List UInt8))(seed:Int):Doc×Bool:=
 cond (pick2 (!(docF (title,parts,saltsF seed title parts.length))) true (!(validKeyF seed))) ((0,[],[]),false) ((title,parts,saltsF seed title parts.length),true)
def mdInv (title:Int)(parts:List (List UInt8))(seed:Int)(d:Doc)(i:Int):Prop:=∃ k:Nat,k≤parts.length∧i=k∧d=(title,parts,saltsF seed title k)
section
variable {title seed i:Int} {parts:List (List UInt8)} {d:Doc}
theorem mdStart:mdInv title parts seed (title,parts,[]) 0:=⟨0,Nat.zero_le _,rfl,rfl⟩
theorem mdLen (h:mdInv title parts seed d i)(hs:parts.length≤big20):List.length d.2.2+1≤maxApp:=by
 obtain⟨k,h1,_,rfl⟩:=h
 show (saltsF seed title k).length+1≤maxApp
 unfold saltsF maxApp;unfold big20 at hs
 rw[List.length_map,List.length_range];omega
theorem mdStep (h:mdInv title parts seed d i)(hl:i<(parts.length:Int))(hs:parts.length≤big20){d':Doc}(e:d'=(d.1,d.2.1,d.2.2++[max 1 (keyedF seed [title,i])])):
   mdInv title parts seed d' (IntKind.i64.wrap (i+1))∧((parts.length:Int)-IntKind.i64.wrap (i+1)).toNat<((parts.length:Int)-i).toNat:=by
 obtain⟨k,h1,rfl,rfl⟩:=h
 unfold big20 at hs
 rw[w64 (by omega) (by omega)]
 exact⟨⟨k+1,by omega,rfl,by rw[e,salts_succ];rfl⟩,by omega⟩
theorem mdEnd (h:mdInv title parts seed d i)(hl:¬i<(parts.length:Int)):d=(title,parts,saltsF seed title parts.length):=by
 obtain⟨k,h1,rfl,rfl⟩:=h
 have:k=parts.length:=by omega
 rw[this]
theorem md0 (h:mdInv title parts seed d i)(hl:¬i<(parts.length:Int))(g:pick2 (!(docF d)) true (!(validKeyF seed))=true):makeDocF title parts seed=((0,[],[]),false):=by
 rw[mdEnd h hl]at g;exact cT g
theorem md1 (h:mdInv title parts seed d i)(hl:¬i<(parts.length:Int))(g:pick2 (!(docF d)) true (!(validKeyF seed))=false):makeDocF title parts seed=(d,true):=by
 rw[mdEnd h hl]at *;exact cF g
end
def itF {σ:Type}(S:σ→σ):Nat→σ→σ
 | 0,s=>s
 | k+1,s=>S (itF S k s)
def dnInv {σ:Type}(S:σ→σ)(s0:σ)(n:Int)(s:σ)(i:Int):Prop:=∃ k:Nat,s=itF S k s0∧i=n-k∧(k=0∨(k:Int)≤n)∧0≤n∧n≤1000000
section
variable {σ:Type} {S:σ→σ} {s0 s:σ} {n i:Int}
theorem dnStart (h:0≤n∧n≤1000000):dnInv S s0 n s0 n:=⟨0,rfl,by omega,.inl rfl,h.1,h.2⟩
theorem dnStep (h:dnInv S s0 n s i)(hl:i>0):dnInv S s0 n (S s) (IntKind.i64.wrap (i-1))∧(IntKind.i64.wrap (i-1)).toNat<i.toNat:=by
 obtain⟨k,rfl,rfl,h1,h2,h3⟩:=h
 rw[w64 (by omega) (by omega)]
 exact⟨⟨k+1,rfl,by omega,.inr (by omega),h2,h3⟩,by omega⟩
theorem dnEnd (h:dnInv S s0 n s i)(hl:¬i>0):s=itF S n.toNat s0:=by
 obtain⟨k,rfl,rfl,h1,h2,h3⟩:=h
 have:k=n.toNat:=by omega
 rw[this]
theorem dnAll (P:σ→Nat→Prop)(h0:P s0 0)(hS:∀ s k,P s k→P (S s) (k+1)):∀ k,P (itF S k s0) k
 | 0=>h0
 | k+1=>hS _ _ (dnAll P h0 hS k)
theorem dnP (P:σ→Nat→Prop)(h0:P s0 0)(hS:∀ s k,P s k→P (S s) (k+1))(h:dnInv S s0 n s i):∃ k:Nat,(k:Int)≤n∧P s k:=by
 obtain⟨k,rfl,rfl,h1,h2,h3⟩:=h
 exact⟨k,by omega,dnAll P h0 hS k⟩
end
noncomputable def strF (c:Cur)(l:List (List UInt8)):List UInt8×Cur:=(l.getD (belowF c l.length).1.toNat [],(belowF c l.length).2)
def textsT:List (List UInt8):=[[],[97],[98],[97,98],[121,101,115],[110,111],[111,110,101,32,104,117,110,100,114,101,100]]
noncomputable def wordF (c:Cur):List UInt8×Cur:=strF c textsT
theorem str_mem {c:Cur}{l:List (List UInt8)}(hl:0<l.length):(strF c l).1∈l:=by
 have:=below_lt (c:=c) (n:=(l.length:Int)) (by omega)
 show l.getD (belowF c l.length).1.toNat []∈l
 rw[List.getD_eq_getElem?_getD,List.getElem?_eq_getElem (by omega)]
 exact List.getElem_mem _
theorem text_len (c:Cur):(wordF c).1.length≤11:=by
 have h:=str_mem (c:=c) (l:=textsT) (by decide)
 have key:∀ s∈textsT,s.length≤11:=by decide
 exact key _ h
theorem text_ok {c:Cur}(h:curOk c):curOk (wordF c).2:=below_ok h
noncomputable def partS (s:Cur×List (List UInt8)):Cur×List (List UInt8):=((wordF s.1).2,s.2++[(wordF s.1).1])
noncomputable def partsD (c:Cur):Cur×List (List UInt8):=itF partS (IntKind.i64.wrap (1+(belowF c 3).1)).toNat ((belowF c 3).2,[])
noncomputable def docD (c:Cur):Doc×Cur:=((makeDocF (belowF (partsD c).1 5).1 (partsD c).2 11).1,(belowF (partsD c).1 5).2)
def partP (s:Cur×List (List UInt8))(k:Nat):Prop:=curOk s.1∧s.2.length=k∧∀ x∈s.2,x.length≤11
theorem partS_P (s:Cur×List (List UInt8))(k:Nat)(h:partP s k):partP (partS s) (k+1):=by
 obtain⟨h1,h2,h3⟩:=h
 refine⟨text_ok h1,by show (s.2++[_]).length=_;rw[List.length_append,h2];rfl,fun x hx=>?_⟩
 rcases List.mem_append.1 hx with hx | hx
 · exact h3 x hx
 · rw[List.mem_singleton.1 hx];exact text_len _
theorem bel3n (c:Cur):0≤IntKind.i64.wrap (1+(belowF c 3).1)∧IntKind.i64.wrap (1+(belowF c 3).1)≤1000000∧1≤(IntKind.i64.wrap (1+(belowF c 3).1)).toNat∧(IntKind.i64.wrap (1+(belowF c 3).1)).toNat≤3:=by
 have h:=below_lt (c:=c) (n:=3) (by decide)
 generalize (belowF c 3).1=x at *
 rw[w64 (by omega) (by omega)];omega
theorem parts_P {c:Cur}(h:curOk c):partP (partsD c) (IntKind.i64.wrap (1+(belowF c 3).1)).toNat:=
 dnAll partP ⟨below_ok h,rfl,by simp⟩ partS_P _
theorem docD_ok {c:Cur}(h:curOk c):curOk (docD c).2:=below_ok (parts_P h).1
theorem tmod_up {x n:Int}(hn:0<n):x.tmod n<n:=Int.tmod_lt_of_pos x hn
theorem hstep_lt (h v:Int):hstep h v<2147483647:=by unfold hstep;exact tmod_up (by decide)
theorem hash_lt (l:List Int)(h:l≠[]):hashF l<2147483647:=by
 unfold hashF
 obtain⟨a,b,rfl⟩:∃ a b,l=a++[b]:=⟨l.dropLast,l.getLast h,(List.dropLast_concat_getLast h).symm⟩
 rw[List.foldl_append];exact hstep_lt _ _
theorem keyed_lt (k:Int)(l:List Int):keyedF k l<2147483647:=hash_lt _ (by simp)
theorem modF_range (v:Int):0≤modF v 2147483647∧modF v 2147483647<2147483647:=by
 have e:modF v 2147483647=(IntKind.i64.wrap (v.tmod 2147483647+2147483647)).tmod 2147483647:=if_pos (by decide)
 rw[e]
 have h1:=Int.tmod_lt_of_pos v (show (0:Int)<2147483647 by decide)
 have h2:-2147483647<v.tmod 2147483647:=by
   have:=Int.tmod_lt_of_pos (-v) (show (0:Int)<2147483647 by decide)
   rw[Int.neg_tmod]at this;omega
 rw[w64 (by omega) (by omega)]
 exact tmod_lt (by omega) (by decide)
theorem hstep_range {h v:Int}(h0:0≤h)(h1:h<2147483647):0≤hstep h v:=by
 unfold hstep
 have hm:=modF_range v
 generalize modF v 2147483647=m at *
 rw[w64 (x:=h*1000003) (by omega) (by omega),w64 (x:=h*1000003+m) (by omega) (by omega),w64 (by omega) (by omega)]
 exact(tmod_lt (by omega) (by decide)).1
theorem hash_range (l:List Int):0≤hashF l∧hashF l<2147483647:=by
 unfold hashF
 have key:∀ (l:List Int) (h:Int),0≤h→h<2147483647→0≤l.foldl hstep h∧l.foldl hstep h<2147483647:=by
   intro l
   induction l with
   | nil=>intro h h0 h1;exact⟨h0,h1⟩
   | cons a l ih=>intro h h0 h1;exact ih _ (hstep_range h0 h1) (hstep_lt _ _)
 exact key l 11 (by decide) (by decide)
theorem inR_iff {a b c:Int}:inRangeF a b c=true↔b≤a∧a≤c:=by
 unfold inRangeF pick2
 by_cases h1:b≤a<;>by_cases h2:a≤c<;>simp_all
theorem docD_doc {c:Cur}(h:curOk c):docF (docD c).1=true:=by
 have hp:=parts_P h
 obtain⟨h1,h2,h3⟩:=hp
 have hn:=bel3n c
 have ht:=below_lt (c:=(partsD c).1) (n:=5) (by decide)
 have hd:docF ((belowF (partsD c).1 5).1,(partsD c).2,saltsF 11 (belowF (partsD c).1 5).1 (partsD c).2.length)=true:=by
   refine boolC_iff.2 ⟨inR_iff.2 ⟨ht.1,?_⟩,inR_iff.2 ⟨?_,?_⟩,?_,fun k hk=>?_,fun k hk=>?_⟩
   · have:=ht.2;show (belowF (partsD c).1 5).1≤999;omega
   · show (1:Int)≤((partsD c).2.length:Int);omega
   · show ((partsD c).2.length:Int)≤6;omega
   · show (saltsF 11 _ (partsD c).2.length).length=(partsD c).2.length
     unfold saltsF;rw[List.length_map,List.length_range]
   · have hk:k<(partsD c).2.length:=hk
     have:=h3 (List.getD (partsD c).2 k (dflt .str)) (by rw[List.getD_eq_getElem?_getD,List.getElem?_eq_getElem hk];exact List.getElem_mem _)
     show ((List.getD (partsD c).2 k (dflt .str)).length:Int)≤40
     omega
   · have hk:k<(saltsF 11 (belowF (partsD c).1 5).1 (partsD c).2.length).length:=hk
     have hm:List.getD (saltsF 11 (belowF (partsD c).1 5).1 (partsD c).2.length) k (dflt (.int .i64))∈saltsF 11 (belowF (partsD c).1 5).1 (partsD c).2.length:=by
       rw[List.getD_eq_getElem?_getD,List.getElem?_eq_getElem hk];exact List.getElem_mem _
     obtain⟨j,_,hj⟩:=List.mem_map.1 hm
     show inRangeF (List.getD (saltsF 11 _ _) k (dflt (.int .i64))) 1 1000000000000=true
     rw[←hj]
     have:=keyed_lt 11 [(belowF (partsD c).1 5).1,(j:Int)]
     refine inR_iff.2 ⟨?_,?_⟩<;>(unfold saltF;omega)
 have e:(docD c).1=((belowF (partsD c).1 5).1,(partsD c).2,saltsF 11 (belowF (partsD c).1 5).1 (partsD c).2.length):=by
   show (makeDocF _ _ 11).1=_
   unfold makeDocF
   rw[hd];rfl
 rw[e];exact hd
theorem docD_leaf {c c2:Cur}{acc:List (List UInt8)}(hE:(c2,acc)=itF partS (IntKind.i64.wrap (1+(belowF c 3).1)).toNat ((belowF c 3).2,[])):
   docD c=((makeDocF (belowF c2 5).1 acc 11).1,(belowF c2 5).2):=by
 unfold docD partsD
 rw[←hE]
theorem dnApp {α:Type}{l:List α}{k:Nat}{n:Int}(h:l.length=k)(hk:(k:Int)≤n)(hn:n≤1000000):l.length+1≤maxApp:=by
 unfold maxApp;omega
theorem dnBig {α:Type}{l:List α}{k:Nat}{n:Int}(h:l.length=k)(hk:(k:Int)≤n)(hn:n≤1000000):l.length≤big20:=by
 unfold big20;omega
end Fw
namespace Fw
open Go
theorem belN {c:Cur}{n:Int}(hn:0<n)(hs:n≤1000000):0≤(belowF c n).1∧(belowF c n).1≤1000000:=by
 have:=below_lt (c:=c) hn;omega
noncomputable def stampD (c:Cur):Stamp×Cur:=
 ((makeStampF keysT authsT (IntKind.i64.wrap (1+(belowF c 4).1),(belowF (belowF c 4).2 9).1,(belowF (belowF (belowF c 4).2 9).2 60).1,(belowF (belowF (belowF (belowF c 4).2 9).2 60).2 99).1,0)).1,
   (belowF (belowF (belowF (belowF c 4).2 9).2 60).2 99).2)
noncomputable def dst1 (c:Cur):Int×Cur:=belowF c 60
noncomputable def dst2 (c:Cur):Int×Cur:=belowF (dst1 c).2 3
noncomputable def dst3 (c:Cur):Int×Cur:=belowF (dst2 c).2 2
noncomputable def dst4 (c:Cur):Bool×Cur:=onceF (dst3 c).2 3
noncomputable def dst5 (c:Cur):Int×Cur:=belowF (dst4 c).2 (IntKind.i64.wrap ((dst1 c).1+2))
noncomputable def statD (c:Cur):Status×Cur:=
 cond (dst4 c).1 ((makeStatusF keysT (IntKind.i64.wrap (1+(dst2 c).1),(dst1 c).1,(dst5 c).1,IntKind.i64.wrap (1+(dst3 c).1),0)).1,(dst5 c).2)
   ((makeStatusF keysT (IntKind.i64.wrap (1+(dst2 c).1),(dst1 c).1,-1,IntKind.i64.wrap (1+(dst3 c).1),0)).1,(dst4 c).2)
noncomputable def mandD (c:Cur):Mandate×Cur:=
 ((makeMandF keysT (50,IntKind.i64.wrap (1+(belowF (belowF c 40).2 2).1),(belowF c 40).1,IntKind.i64.wrap ((belowF c 40).1+(belowF (belowF (belowF c 40).2 2).2 30).1),21,0)).1,(belowF (belowF (belowF c 40).2 2).2 30).2)
noncomputable def gn1 (c:Cur):Int×Cur:=belowF (docD c).2 3
noncomputable def gn2 (c:Cur):Int×Cur:=belowF (gn1 c).2 3
noncomputable def signD (c:Cur):(Sig×Doc)×Cur:=
 (((signDocF keysT (IntKind.i64.wrap (11+(gn1 c).1)) (IntKind.i64.wrap (1+(gn1 c).1)) (IntKind.i64.wrap (1+(gn1 c).1)) (docD c).1 (IntKind.i64.wrap (1+(gn2 c).1))).1,(docD c).1),(gn2 c).2)
theorem once_ok {c:Cur}{n:Int}(h:curOk c):curOk (onceF c n).2:=below_ok h
theorem stampD_ok {c:Cur}(h:curOk c):curOk (stampD c).2:=below_ok (below_ok (below_ok (below_ok h)))
theorem dst4_ok {c:Cur}(h:curOk c):curOk (dst4 c).2:=below_ok (below_ok (below_ok (below_ok h)))
theorem statD_ok {c:Cur}(h:curOk c):curOk (statD c).2:=by
 unfold statD
 cases (dst4 c).1 with
 | true=>exact below_ok (dst4_ok h)
 | false=>exact dst4_ok h
theorem mandD_ok {c:Cur}(h:curOk c):curOk (mandD c).2:=below_ok (below_ok (below_ok h))
theorem signD_ok {c:Cur}(h:curOk c):curOk (signD c).2:=below_ok (below_ok (docD_ok h))
theorem gn1_lt (c:Cur):0≤(gn1 c).1∧(gn1 c).1<3:=below_lt (by decide)
theorem docDig_range {m:Int}{d:Doc}(h:docF d=true):0≤docDigF m d∧docDigF m d≤1000000000000:=by
 unfold docDigF
 rw[if_pos h,digest_eq]
 have:=hash_range ([7,m]++([d.1]++(List.range d.2.1.length).flatMap (docG m d)))
 omega
theorem andTT {a b:Bool}(h1:a=true)(h2:b=true):pick2 a b false=true:=by subst h1;subst h2;rfl
theorem signDoc_ok {n k:Int}{d:Doc}(hd:docF d=true)(hn:0≤n∧n<3)(hk:0≤k∧k<3):
   (signDocF keysT (IntKind.i64.wrap (11+n)) (IntKind.i64.wrap (1+n)) (IntKind.i64.wrap (1+n)) d (IntKind.i64.wrap (1+k))).1.2.1=1+n:=by
 rw[w64 (x:=11+n) (by omega) (by omega),w64 (x:=1+n) (by omega) (by omega),w64 (x:=1+k) (by omega) (by omega)]
 have hg:=docDig_range (m:=1+n) hd
 have hs:isSigF (11+n,1+n,1+n,docDigF (1+n) d,1+k,0,0,0,0)=true:=by
   unfold isSigF
   refine andTT (andTT (andTT (andTT (andTT (andTT (andTT ?_ ?_) ?_) ?_) ?_) ?_) ?_) ?_<;>refine inR_iff.2 ⟨?_,?_⟩<;>first | exact hg.1 | exact hg.2 | (show (0:Int)≤_;decide) | (show (_:Int)≤_;simp only[];omega)
 have hf:¬keyI keysT (11+n)<0:=by
   have h3:n=0∨n=1∨n=2:=by omega
   rcases h3 with rfl | rfl | rfl<;>decide
 unfold signDocF signDigestF
 rw[cF (by rw[hs];exact decide_eq_false hf)]
theorem signD_serial {c:Cur}(h:curOk c):(signD c).1.1.2.1=1+(gn1 c).1:=
 signDoc_ok (docD_doc h) (gn1_lt c) (below_lt (by decide))
theorem signD_idx {c:Cur}(h:curOk c):inRange (IntKind.i64.wrap ((signD c).1.1.2.1-1)) (List.length certsT):=by
 rw[signD_serial h]
 have:=gn1_lt c
 rw[w64 (by omega) (by omega)]
 show inRange _ 3
 exact⟨by omega,by omega⟩
def certAt (n:Int):Cert:=certsT.getD n.toNat (dflt (.pair TI (.pair TI (.pair TI (.pair TI (.pair TI (.pair TI TI)))))))
noncomputable def pieceD (c:Cur):Piece×Cur:=
 cond ((belowF c 5).1==0) (certPieceF (certAt (belowF (belowF c 5).2 3).1),(belowF (belowF c 5).2 3).2)
   (cond ((belowF c 5).1==1) (statusPieceF (statD (belowF c 5).2).1,(statD (belowF c 5).2).2)
     (cond ((belowF c 5).1==2) (stampPieceF (stampKeyF authsT (stampD (belowF c 5).2).1) (stampD (belowF c 5).2).1,(stampD (belowF c 5).2).2)
       (cond ((belowF c 5).1==3) (signPieceF (signD (belowF c 5).2).1.1,(signD (belowF c 5).2).2)
         (mandPieceF (mandD (belowF c 5).2).1,(mandD (belowF c 5).2).2))))
theorem pieceD_ok {c:Cur}(h:curOk c):curOk (pieceD c).2:=by
 have hb:=below_ok (n:=5) h
 unfold pieceD
 cases (belowF c 5).1==0 with
 | true=>exact below_ok hb
 | false=>cases (belowF c 5).1==1 with
   | true=>exact statD_ok hb
   | false=>cases (belowF c 5).1==2 with
     | true=>exact stampD_ok hb
     | false=>cases (belowF c 5).1==3 with
       | true=>exact signD_ok hb
       | false=>exact mandD_ok hb
theorem pcSm {k m:Int}{l:List Int}(h:l.length≤9):Sm big20 TPiece (k,l,m):=⟨trivial,⟨Nat.le_trans h (by decide),fun _ _=>trivial⟩,trivial⟩
theorem signPiece_sm (x:Sig):Sm big20 TPiece (signPieceF x):=pcSm (Nat.le_of_ble_eq_true rfl)
theorem certPiece_sm (x:Cert):Sm big20 TPiece (certPieceF x):=pcSm (Nat.le_of_ble_eq_true rfl)
theorem statPiece_sm (x:Status):Sm big20 TPiece (statusPieceF x):=pcSm (Nat.le_of_ble_eq_true rfl)
theorem stampPiece_sm (k:Int)(x:Stamp):Sm big20 TPiece (stampPieceF k x):=pcSm (Nat.le_of_ble_eq_true rfl)
theorem mandPiece_sm (x:Mandate):Sm big20 TPiece (mandPieceF x):=pcSm (Nat.le_of_ble_eq_true rfl)
theorem pieceD_sm (c:Cur):Sm big20 TPiece (pieceD c).1:=by
 unfold pieceD
 cases (belowF c 5).1==0 with
 | true=>exact certPiece_sm _
 | false=>cases (belowF c 5).1==1 with
   | true=>exact statPiece_sm _
   | false=>cases (belowF c 5).1==2 with
     | true=>exact stampPiece_sm _ _
     | false=>cases (belowF c 5).1==3 with
       | true=>exact signPiece_sm _
       | false=>exact mandPiece_sm _
theorem addPiece_sm {s:Strand}{p:Piece}(hs:Sm big20 TStrand s)(hp:Sm big20 TPiece p):Sm big20 TStrand (addPieceF s p).1:=by
 unfold addPieceF
 split
 · rename_i h
   have h1:=(boolC_iff.1 h).1
   have h2:=(inR_iff.1 h1).2
   refine⟨⟨?_,fun x hx=>?_⟩,hs.2⟩
   · show (s.1++[p]).length≤big20
     have h2:(((s.1++[p]).length:Nat):Int)≤12:=h2
     unfold big20;omega
   · rcases List.mem_append.1 hx with hx | hx
     · exact hs.1.2 x hx
     · rw[List.mem_singleton.1 hx];exact hp
 · exact hs
theorem addRen_sm {s:Strand}{r:Renewal}(hs:Sm big20 TStrand s)(hr:Sm big20 TRen r):Sm big20 TStrand (addRenF s r).1:=by
 unfold addRenF
 split
 · rename_i h
   have h1:=(boolC_iff.1 h).2.1
   refine⟨hs.1,⟨?_,fun x hx=>?_⟩⟩
   · show (s.2++[r]).length≤big20
     have h1:(((s.2++[r]).length:Nat):Int)≤8:=h1
     unfold big20;omega
   · rcases List.mem_append.1 hx with hx | hx
     · exact hs.2.2 x hx
     · rw[List.mem_singleton.1 hx];exact hr
 · exact hs
noncomputable def sg1 (c:Cur):(Sig×Doc)×Cur:=signD c
noncomputable def sgCert (c:Cur):Cert:=certAt (IntKind.i64.wrap ((sg1 c).1.1.2.1-1))
noncomputable def sgS (c:Cur):Strand:=([signPieceF (sg1 c).1.1,certPieceF (sgCert c)],[])
noncomputable def sg2 (c:Cur):Int×Cur:=intF (sg1 c).2 [10,30,60,90]
noncomputable def sgA (c:Cur):Status:=(makeStatusF keysT ((sg1 c).1.1.2.1,(sg2 c).1,-1,(sgCert c).2.2.2.2.2.1,0)).1
noncomputable def sg3 (c:Cur):Bool×Cur:=onceF (sg2 c).2 4
noncomputable def sg4 (c:Cur):Bool×Cur:=onceF (sg3 c).2 4
noncomputable def sgT (c:Cur)(s:Strand):(Strand×Doc×Sig)×Cur:=
 cond (sg4 c).1 (((addPieceF s (pieceD (sg4 c).2).1).1,(sg1 c).1.2,(sg1 c).1.1),(pieceD (sg4 c).2).2) ((s,(sg1 c).1.2,(sg1 c).1.1),(sg4 c).2)
noncomputable def signedRaw (c:Cur):(Strand×Doc×Sig)×Cur:=cond (!(sg3 c).1) (sgT c (addPieceF (sgS c) (statusPieceF (sgA c))).1) (sgT c (sgS c))
theorem signedEx:∃ f:Cur→(Strand×Doc×Sig)×Cur,∀ c,f c=signedRaw c:=⟨signedRaw,fun _=>rfl⟩
noncomputable def signedD (c:Cur):(Strand×Doc×Sig)×Cur:=Classical.choose signedEx c
theorem signed_eq (c:Cur):signedD c=signedRaw c:=Classical.choose_spec signedEx c
theorem sg2_ok {c:Cur}(h:curOk c):curOk (sg2 c).2:=int_ok (signD_ok h)
theorem sg3_ok {c:Cur}(h:curOk c):curOk (sg3 c).2:=once_ok (sg2_ok h)
theorem sg4_ok {c:Cur}(h:curOk c):curOk (sg4 c).2:=once_ok (sg3_ok h)
theorem sgS_sm (c:Cur):Sm big20 TStrand (sgS c):=by
 refine⟨⟨Nat.le_of_ble_eq_true rfl,fun x hx=>?_⟩,⟨Nat.zero_le _,fun x hx=>by simp[sgS]at hx⟩⟩
 have hx:x∈[signPieceF (sg1 c).1.1,certPieceF (sgCert c)]:=hx
 rcases List.mem_cons.1 hx with rfl | hx
 · exact signPiece_sm _
 · rw[List.mem_singleton.1 hx];exact certPiece_sm _
theorem sgS2_sm (c:Cur):Sm big20 TStrand (addPieceF (sgS c) (statusPieceF (sgA c))).1:=addPiece_sm (sgS_sm c) (statPiece_sm _)
def sgP (x:(Strand×Doc×Sig)×Cur):Prop:=Sm big20 TStrand x.1.1∧curOk x.2
theorem sgT_P {c:Cur}{s:Strand}(h:curOk c)(hs:Sm big20 TStrand s):sgP (sgT c s):=by
 unfold sgT
 cases (sg4 c).1 with
 | true=>exact⟨addPiece_sm hs (pieceD_sm _),pieceD_ok (sg4_ok h)⟩
 | false=>exact⟨hs,sg4_ok h⟩
theorem signed_P {c:Cur}(h:curOk c):sgP (signedD c):=by
 rw[signed_eq]
 unfold signedRaw
 cases (sg3 c).1 with
 | true=>exact sgT_P h (sgS_sm c)
 | false=>exact sgT_P h (sgS2_sm c)
noncomputable def leafS (s:Cur×List Int):Cur×List Int:=((belowF s.1 99).2,s.2++[(belowF s.1 99).1])
noncomputable def leavesC (c:Cur)(most:Int):Cur×List Int:=itF leafS (belowF c most).1.toNat ((belowF c most).2,[])
noncomputable def leavesD (c:Cur)(most:Int):List Int×Cur:=((leavesC c most).2,(leavesC c most).1)
def leafP (s:Cur×List Int)(k:Nat):Prop:=curOk s.1∧s.2.length=k
theorem leafS_P (s:Cur×List Int)(k:Nat)(h:leafP s k):leafP (leafS s) (k+1):=
 ⟨below_ok h.1,by show (s.2++[_]).length=_;rw[List.length_append,h.2];rfl⟩
theorem leaves_P {c:Cur}{most:Int}(h:curOk c):leafP (leavesC c most) (belowF c most).1.toNat:=dnAll leafP ⟨below_ok h,rfl⟩ leafS_P _
theorem leaves_ok {c:Cur}{most:Int}(h:curOk c):curOk (leavesD c most).2:=(leaves_P h).1
theorem leaves_len {c:Cur}{most:Int}(h:curOk c)(hm:0<most∧most≤1000):(leavesD c most).1.length≤1000:=by
 have h1:(leavesC c most).2.length=_:=(leaves_P (most:=most) h).2
 have:=below_lt (c:=c) hm.1
 show (leavesC c most).2.length≤1000
 rw[h1];omega
theorem leaves_leaf {c c2:Cur}{acc:List Int}{most:Int}(hE:(c2,acc)=itF leafS (belowF c most).1.toNat ((belowF c most).2,[])):leavesD c most=(acc,c2):=by
 unfold leavesD leavesC
 rw[←hE]
def rmList (others:List Int)(leaf:Int):List Int:=([]++others)++[leaf]
noncomputable def rmBase (m leaf:Int)(others:List Int)(count:Int)(acc:List Stamp):Renewal:=
 (count,m,treeF m (rmList others leaf),pathF m (rmList others leaf) (IntKind.i64.wrap (((rmList others leaf).length:Int)-1)),acc)
noncomputable def rmG (keys:List Key)(l:List Authority)(m leaf:Int)(others:List Int)(seq t:Int)(id:Int):Stamp×Bool:=makeStampF keys l (id,seq,t,treeF m (rmList others leaf),0)
noncomputable def renMakeF (keys:List Key)(l:List Authority)(m leaf:Int)(others:List Int)(count:Int)(ids:List Int)(seq t:Int):Renewal:=
 rmBase m leaf others count (pickF (rmG keys l m leaf others seq t) ids)
theorem pathF_len16 (m:Int)(l:List Int)(i:Int):(pathF m l i).length≤16:=by
 unfold pathF
 split
 · rename_i h;exact pathL_len m 16 l i h.2.2
 · exact Nat.zero_le _
theorem renMake_sm {keys:List Key}{l:List Authority}{m leaf:Int}{others:List Int}{count:Int}{ids:List Int}{seq t:Int}(h:ids.length≤1000):Sm big20 TRen (renMakeF keys l m leaf others count ids seq t):=by
 refine⟨trivial,trivial,trivial,⟨Nat.le_trans (pathF_len16 _ _ _) (by decide),fun _ _=>⟨trivial,trivial⟩⟩,⟨?_,fun _ _=>⟨trivial,trivial,trivial,trivial,trivial⟩⟩⟩
 exact Nat.le_trans (pick_len _ _) (Nat.le_trans h (by decide))
def renQ (s:Strand)(m:Int):Renewal:=((s.1.length:Int),m,0,[],[])
theorem renQ_sm (s:Strand)(m:Int):Sm big20 TRen (renQ s m):=⟨trivial,trivial,trivial,⟨Nat.zero_le _,fun _ h=>by simp[renQ]at h⟩,⟨Nat.zero_le _,fun _ h=>by simp[renQ]at h⟩⟩
noncomputable def longF (s:Strand)(m:Int):Strand×Bool:=addRenF s (renQ s m)
noncomputable def leafR (s:Strand)(d:Doc)(m:Int):Int:=leafAtF (longF s m).1 (docDigsF (longF s m).1 d) (IntKind.i64.wrap (((longF s m).1.2.length:Int)-1))
noncomputable def renNew (c:Cur)(s:Strand)(d:Doc)(m t:Int)(ids:List Int):Renewal:=
 renMakeF keysT authsT m (leafR s d m) (leavesD c 4).1 (s.1.length:Int) ids (belowF (leavesD c 4).2 9).1 t
noncomputable def renTail (c:Cur)(s:Strand)(d:Doc)(m t:Int)(ids:List Int):Strand×Cur:=((addRenF s (renNew c s d m t ids)).1,(belowF (leavesD c 4).2 9).2)
noncomputable def renewRaw (c:Cur)(s:Strand)(d:Doc)(m t:Int):Strand×Cur:=
 cond (!(longF s m).2) (s,c) (cond (onceF c 3).1 (renTail (onceF c 3).2 s d m t [1,3,4]) (renTail (onceF c 3).2 s d m t [1,2,3,4]))
theorem renewEx:∃ f:Cur→Strand→Doc→Int→Int→Strand×Cur,∀ c s d m t,f c s d m t=renewRaw c s d m t:=⟨renewRaw,fun _ _ _ _ _=>rfl⟩
noncomputable def renewD (c:Cur)(s:Strand)(d:Doc)(m t:Int):Strand×Cur:=Classical.choose renewEx c s d m t
theorem renew_eq (c:Cur)(s:Strand)(d:Doc)(m t:Int):renewD c s d m t=renewRaw c s d m t:=Classical.choose_spec renewEx c s d m t
theorem long_sm {s:Strand}{m:Int}(h:Sm big20 TStrand s):Sm big20 TStrand (longF s m).1:=addRen_sm h (renQ_sm s m)
theorem long_len {s:Strand}{m:Int}(h:Sm big20 TStrand s):List.length (longF s m).1.2≤2000000:=Nat.le_trans (long_sm h).2.1 (by decide)
theorem renNew_sm {c:Cur}{s:Strand}{d:Doc}{m t:Int}{ids:List Int}(h:ids.length≤1000):Sm big20 TRen (renNew c s d m t ids):=renMake_sm h
def rnP (x:Strand×Cur):Prop:=Sm big20 TStrand x.1∧curOk x.2
theorem renTail_P {c:Cur}{s:Strand}{d:Doc}{m t:Int}{ids:List Int}(hc:curOk c)(hs:Sm big20 TStrand s)(hi:ids.length≤1000):rnP (renTail c s d m t ids):=
 ⟨addRen_sm hs (renNew_sm hi),below_ok (leaves_ok hc)⟩
theorem renew_P {c:Cur}{s:Strand}{d:Doc}{m t:Int}(hc:curOk c)(hs:Sm big20 TStrand s):rnP (renewD c s d m t):=by
 rw[renew_eq]
 unfold renewRaw
 cases (longF s m).2 with
 | false=>exact⟨hs,hc⟩
 | true=>cases (onceF c 3).1 with
   | true=>exact renTail_P (once_ok hc) hs (Nat.le_of_ble_eq_true rfl)
   | false=>exact renTail_P (once_ok hc) hs (Nat.le_of_ble_eq_true rfl)
theorem certIdx (c:Cur):inRange (belowF c 3).1 (List.length certsT):=int_range (n:=3) (by decide)
theorem rmApp {others:List Int}(h:others.length≤1000):0+others.length≤maxApp∧([]++others).length+1≤maxApp:=by
 unfold maxApp;simp only[List.nil_append];omega
end Fw
namespace Fw
open Go
def Sh.frzIn:Sh→Sh
 | .own e=>.own (.pure e.ty)
 | .pair a b=>.pair a.frzIn b.frzIn
 | s=>s
theorem Sh.frzIn_ty:∀ s:Sh,s.frzIn.ty=s.ty
 | .own _=>rfl
 | .pair a b=>by show Ty.pair _ _=Ty.pair _ _;rw[Sh.frzIn_ty a,Sh.frzIn_ty b]
 | .pure _=>rfl
 | .nil _=>rfl
 | .ref _=>rfl
 | .hole _=>rfl
theorem GroupsO.pures {α:Type}{p q:List Value→α→List Nat→Prop}{sz:Nat}:∀ (xs:List α) (vs:List Value) (bs:List Nat),
   (∀ x∈xs,∀ cs b,(∀ i∈b,i∈bs)→p cs x b→q cs x [])→GroupsO p sz vs xs bs→GroupsO q sz vs xs []
 | [],_,_,_,_=>rfl
 | x::xs,vs,bs,h,⟨v1,v2,b1,b2,h1,h2,h3,h4,h5⟩=>
   ⟨v1,v2,[],[],h1,h2,rfl,h x (by simp) v1 b1 (fun i hi=>by rw[h3];simp[hi]) h4,
     GroupsO.pures xs v2 b2 (fun y hy cs b hb=>h y (by simp[hy]) cs b (fun i hi=>by rw[h3];simp[hb i hi])) h5⟩
theorem frzIn_enc {M:Mem}{R:RowFn}:∀ (s:Sh) (x:El s.ty) (y:El s.frzIn.ty) (cs:List Value) (bs:List Nat),s.noref=true→HEq x y→EncO M R s cs x bs→
   ∃ b1 b2,bs.Perm (b1++b2)∧∀ M',M.le M'→(∀ b∈b2,∀ row,R b=some row→CellsAt M' b 0 row)→EncO M' R s.frzIn cs y b1
 | .pure t,x,y,cs,bs,_,he,h=>by
   cases he
   exact⟨bs,[],by simp,fun M' hM _=>EncO.mono hM (.pure t) cs x bs (fun _ _=>rfl) h⟩
 | .nil t,x,y,cs,bs,_,he,h=>by
   cases he
   exact⟨bs,[],by simp,fun M' hM _=>EncO.mono hM (.nil t) cs x bs (fun _ _=>rfl) h⟩
 | .hole t,x,y,cs,bs,hn,_,_=>by simp[Sh.noref]at hn
 | .ref s,x,y,cs,bs,hn,_,_=>by simp[Sh.noref]at hn
 | .own e,xs,ys,cs,bs,hn,he,h=>by
   cases he
   have hn:e.noref=true:=hn
   rcases h with h | ⟨b,cap,row,bss,h1,h2,h3,h4,h5,h6,h7⟩
   · exact⟨[],[],by rw[h.1];simp,fun M' _ _=>.inl ⟨rfl,h.2⟩⟩
   · refine⟨[b],bss,by rw[h1];simp,fun M' hM hc=>.inr ⟨b,cap,row,[],rfl,h2,h3,h4,h5,?_,?_⟩⟩
     · show row.length=cap*e.ty.size
       rw[←Sh.size_ty e hn];exact h6
     · show GroupsO (EncO M' R (.pure e.ty)) e.ty.size row xs []
       rw[←Sh.size_ty e hn]
       exact GroupsO.pures xs row bss (fun x _ cs b' hb' hp=>⟨rfl,EncO.toEnc hM e cs x b' hn (fun i hi=>hc i (hb' i hi)) hp⟩) h7
 | .pair a b,x,y,cs,bs,hn,he,⟨v1,v2,c1,c2,h1,h2,h3,h4⟩=>by
   simp only[Sh.noref,Bool.and_eq_true]at hn
   obtain⟨e1,e2⟩:=heq_pair (Sh.frzIn_ty a).symm (Sh.frzIn_ty b).symm he
   obtain⟨p1,p2,hp,kp⟩:=frzIn_enc a x.1 y.1 v1 c1 hn.1 e1 h3
   obtain⟨q1,q2,hq,kq⟩:=frzIn_enc b x.2 y.2 v2 c2 hn.2 e2 h4
   refine⟨p1++q1,p2++q2,?_,fun M' hM hc=>⟨v1,v2,p1,q1,h1,rfl,kp M' hM (fun i hi=>hc i (by simp[hi])),kq M' hM (fun i hi=>hc i (by simp[hi]))⟩⟩
   rw[h2]
   refine(hp.append hq).trans ?_
   rw[List.append_assoc,List.append_assoc]
   refine List.Perm.append_left p1 ?_
   rw[←List.append_assoc,←List.append_assoc]
   exact List.Perm.append_right q2 List.perm_append_comm
end Fw
namespace Fw
open Go
section
variable {n B:Nat} {X:List Nat} {w0:World} {M0 M:Mem} {ω:Own} {ρ:Env} {tmps:Array Value} {w:World}
theorem part_ok (S:St0 n B X w0 M0 M ω ρ tmps w){j:Nat}(hj:j<n)(b2:List Nat)(hb2:∀ b∈b2,ω b=some j){s':Sh}{y:El s'.ty}
   (hnew:M.le (partM M w b2)→(∀ b∈b2,∀ row,rows w b=some row→CellsAt (partM M w b2) b 0 row)→Owns (partM M w b2) (partω ω b2) w j s' y (tmps.getD j undef)):
   St0 n B X w0 M0 (partM M w b2) (partω ω b2) (ρ.puts [⟨j,true,.c s' y⟩]) tmps w:=by
 have hM:M.le (partM M w b2):=fun b o v hm=>by unfold partM;rw[hm]
 have hcell:∀ b∈b2,∀ row,rows w b=some row→CellsAt (partM M w b2) b 0 row:=by
   intro b hb row hrow i c hc
   unfold partM
   rw[(S.dis b j (hb2 b hb)).2.2 (0+i)]
   simp only[hb,if_true]
   exact rows_full hrow i c hc
 have hget:(ρ.puts [⟨j,true,.c s' y⟩]).get j=⟨(ρ.get j).g,(ρ.get j).ver+1,.c s' y⟩:=by
   show (ρ.put ⟨j,true,.c s' y⟩).get j=_
   rw[Env.get_put];simp
 refine S.step [⟨j,true,.c s' y⟩] S.size (Fr.refl _ _ _) hM ?_ ?_ ?_ (fun _ _=>rfl) (by intro x hx;simp at hx;subst hx;exact hj) ?_ ?_
 · intro b o hb hx
   unfold partM
   cases hm:M b o with
   | some u=>rfl
   | none=>
     simp only
     rw[if_neg]
     intro h1
     rcases (S.dis b j (hb2 b h1)).1 with h2 | h2
     · omega
     · exact hx h2
 · intro b o v hm
   unfold partM at hm
   cases he:M b o with
   | some u=>rw[he]at hm;simp only[Option.some.injEq]at hm;subst hm;exact S.mem b o u he
   | none=>
     rw[he]at hm
     simp only at hm
     split at hm
     · exact hm
     · cases hm
 · intro b k hk
   unfold partω at hk
   split at hk
   · cases hk
   · rename_i hne
     obtain⟨h1,h2,h3⟩:=S.dis b k hk
     refine⟨h1,h2,fun o=>?_⟩
     unfold partM
     rw[h3 o]
     simp only[if_neg hne]
 · intro t _ hne b hb
   have:t≠j:=fun e=>hne _ (List.mem_singleton.2 rfl) e.symm
   refine⟨?_,rfl⟩
   unfold partω
   rw[if_neg (fun h1=>this (by have:=hb2 b h1;rw[hb]at this;simpa using this))]
   exact hb
 · intro t ⟨x,hx,hxt⟩ _
   simp at hx;subst hx
   have:t=j:=hxt.symm
   subst this
   rw[hget]
   exact hnew hM hcell
end
section
variable {G:Cfg} {ρ:Env} {K:Exit→Env→Prop}
theorem perm_facts {bs b1 b2:List Nat}(hp:bs.Perm (b1++b2))(hn:bs.Nodup):b1.Nodup∧(∀ b∈b1,b∈bs∧b∉b2)∧∀ b∈b2,b∈bs:=by
 have h1:=hp.nodup_iff.1 hn
 rw[List.nodup_append]at h1
 refine⟨h1.1,fun b hb=>⟨hp.mem_iff.2 (List.mem_append.2 (.inl hb)),fun h2=>h1.2.2 b hb b h2 rfl⟩,fun b hb=>hp.mem_iff.2 (List.mem_append.2 (.inr hb))⟩
theorem Vc.frzIR {c:Code}(j:Nat){s:Sh}{x:El s.ty}(h:(ρ.get j).a=.c (.ref s) x)(hn:s.noref=true)(y:El s.frzIn.ty)(hy:HEq x y)
   (hK:Vc G c (ρ.puts [⟨j,true,.c (.ref s.frzIn) y⟩]) K):Vc G c ρ K:=by
 intro a w hd ⟨⟨M,ω,S⟩,hpn⟩
 have hj:j<G.C.n:=by
   rcases Nat.lt_or_ge j G.C.n with h' | h'
   · exact h'
   · rw[S.high j h']at h;cases h
 have hr:=S.slots j hj
 rw[h]at hr
 obtain⟨cs,bs,h1,⟨b,row,bss,g1,g2,g3,g4⟩,h3,h4⟩:=(show Owns M ω w j (.ref s) x _ from hr)
 subst g1
 obtain⟨b1,b2,hp,hk⟩:=frzIn_enc s x y row bss hn hy g4
 have h3':=List.nodup_cons.1 h3
 obtain⟨p1,p2,p3⟩:=perm_facts hp h3'.2
 refine hK a w hd ⟨⟨_,_,part_ok S hj b2 (fun b hb=>h4 b (by simp[p3 b hb])) fun hM hc=>?_⟩,hpn⟩
 have hb0:b∉b2:=fun hb=>h3'.1 (p3 b hb)
 refine⟨cs,b::b1,h1,⟨b,row,b1,rfl,g2,g3,hk _ hM hc⟩,List.nodup_cons.2 ⟨fun hb=>h3'.1 (p2 b hb).1,p1⟩,fun b' hb'=>?_⟩
 unfold partω
 rcases List.mem_cons.1 hb' with rfl | hb'
 · rw[if_neg hb0];exact h4 b' (by simp)
 · rw[if_neg (p2 b' hb').2];exact h4 b' (by simp[(p2 b' hb').1])
end
end Fw
namespace Fw
open Go
set_option linter.unusedSimpArgs false
theorem sm_up {n m:Nat}(h:n≤m):∀ (t:Ty) (x:El t),Sm n t x→Sm m t x
 | .int _,_,_=>trivial
 | .bool,_,_=>trivial
 | .str,_,_=>trivial
 | .arr _ _,_,_=>trivial
 | .slice e,_,g=>⟨Nat.le_trans g.1 h,fun y hy=>sm_up h e y (g.2 y hy)⟩
 | .pair a b,x,g=>⟨sm_up h a x.1 g.1,sm_up h b x.2 g.2⟩
def cellsMax (n:Nat):Ty→Nat
 | .slice e=>n*cellsMax n e
 | .pair a b=>cellsMax n a+cellsMax n b
 | .arr _ _=>0
 | _=>1
theorem cellsL_max {α:Type}(c:α→Nat)(m:Nat):∀ l:List α,(∀ x∈l,c x≤m)→cellsL c l≤l.length*m
 | [],_=>Nat.zero_le _
 | x::r,h=>by
   have h1:=h x (by simp)
   have h2:=cellsL_max c m r fun y hy=>h y (by simp[hy])
   show c x+cellsL c r≤(r.length+1)*m
   rw[Nat.add_mul,Nat.one_mul];omega
theorem cells_max (n:Nat):∀ (t:Ty) (x:El t),Sm n t x→cellsC t x≤cellsMax n t
 | .int _,_,_=>Nat.le_refl _
 | .bool,_,_=>Nat.le_refl _
 | .str,_,_=>Nat.le_refl _
 | .arr _ _,_,_=>Nat.le_refl _
 | .slice e,x,g=>Nat.le_trans (cellsL_max (cellsC e) (cellsMax n e) x fun y hy=>cells_max n e y (g.2 y hy)) (Nat.mul_le_mul_right _ g.1)
 | .pair a b,x,g=>Nat.add_le_add (cells_max n a x.1 g.1) (cells_max n b x.2 g.2)
def stOk (p:Piece):Prop:=(pieceStatF p).1.2.1≤9999∧(pieceStatF p).1.2.2.1≤9999
theorem stOk_no {p:Piece}(h:hdP p≠102):stOk p:=by
 have e:pieceStatF p=((0,0,0,0,0),false):=by
   refine ps0 ?_
   have hk:(kindF p != 102)=true:=by
     refine bne_iff_ne.2 ?_
     unfold kindF
     split
     · decide
     · exact h
   unfold psBad
   rw[hk];rfl
 unfold stOk
 rw[e]
 exact⟨by decide,by decide⟩
theorem stOk_st {x:Status}(h1:x.2.1≤9999)(h2:x.2.2.1≤9999):stOk (statusPieceF x):=by
 unfold stOk pieceStatF
 split
 · exact⟨by decide,by decide⟩
 · exact⟨h1,h2⟩
def tinyP (p:Piece):Prop:=Sm 64 TPiece p∧stOk p
def tinyS (s:Strand):Prop:=Sm 64 TStrand s∧∀ p∈s.1,stOk p
theorem pcSm64 {k m:Int}{l:List Int}(h:l.length≤9):Sm 64 TPiece (k,l,m):=⟨trivial,⟨Nat.le_trans h (by decide),fun _ _=>trivial⟩,trivial⟩
theorem tiny_sign (x:Sig):tinyP (signPieceF x):=⟨pcSm64 (Nat.le_of_ble_eq_true rfl),stOk_no (by show (104:Int)≠102;decide)⟩
theorem tiny_cert (x:Cert):tinyP (certPieceF x):=⟨pcSm64 (Nat.le_of_ble_eq_true rfl),stOk_no (by show (101:Int)≠102;decide)⟩
theorem tiny_stamp (k:Int)(x:Stamp):tinyP (stampPieceF k x):=⟨pcSm64 (Nat.le_of_ble_eq_true rfl),stOk_no (by show (103:Int)≠102;decide)⟩
theorem tiny_mand (x:Mandate):tinyP (mandPieceF x):=⟨pcSm64 (Nat.le_of_ble_eq_true rfl),stOk_no (by show (105:Int)≠102;decide)⟩
theorem tiny_stat {x:Status}(h1:x.2.1≤9999)(h2:x.2.2.1≤9999):tinyP (statusPieceF x):=⟨pcSm64 (Nat.le_of_ble_eq_true rfl),stOk_st h1 h2⟩
theorem tiny_make {keys:List Key}{x:Status}(h1:x.2.1≤9999)(h2:x.2.2.1≤9999):tinyP (statusPieceF (makeStatusF keys x).1):=by
 unfold makeStatusF
 cases pick2 (!(isStatusF x)) true (decide (keyI keys x.2.2.2.1<0))with
 | true=>exact tiny_stat (x:=(0,0,0,0,0)) (show (0:Int)≤9999 by decide) (show (0:Int)≤9999 by decide)
 | false=>exact tiny_stat (x:=(x.1,x.2.1,x.2.2.1,x.2.2.2.1,markWithF (keyAt keys x.2.2.2.1) (statusIntsF x))) h1 h2
theorem tiny_statD (c:Cur):tinyP (statusPieceF (statD c).1):=by
 have h1:=below_lt (c:=c) (n:=60) (by decide)
 have h2:0≤(dst1 c).1∧(dst1 c).1<60:=h1
 unfold statD
 cases (dst4 c).1 with
 | true=>
   have h3:0≤(dst5 c).1∧(dst5 c).1<IntKind.i64.wrap ((dst1 c).1+2):=below_lt (by rw[w64 (by omega) (by omega)];omega)
   rw[w64 (by omega) (by omega)]at h3
   exact tiny_make (by show (dst1 c).1≤9999;omega) (by show (dst5 c).1≤9999;omega)
 | false=>exact tiny_make (by show (dst1 c).1≤9999;omega) (by show (-1:Int)≤9999;decide)
theorem tiny_pieceD (c:Cur):tinyP (pieceD c).1:=by
 unfold pieceD
 cases (belowF c 5).1==0 with
 | true=>exact tiny_cert _
 | false=>cases (belowF c 5).1==1 with
   | true=>exact tiny_statD _
   | false=>cases (belowF c 5).1==2 with
     | true=>exact tiny_stamp _ _
     | false=>cases (belowF c 5).1==3 with
       | true=>exact tiny_sign _
       | false=>exact tiny_mand _
theorem tiny_add {s:Strand}{p:Piece}(hs:tinyS s)(hp:tinyP p):tinyS (addPieceF s p).1:=by
 unfold addPieceF
 split
 · rename_i h
   have h1:=(boolC_iff.1 h).1
   have h2:=(inR_iff.1 h1).2
   refine⟨⟨⟨?_,fun x hx=>?_⟩,hs.1.2⟩,fun x hx=>?_⟩
   · show (s.1++[p]).length≤64
     have h2:(((s.1++[p]).length:Nat):Int)≤12:=h2
     omega
   · rcases List.mem_append.1 hx with hx | hx
     · exact hs.1.1.2 x hx
     · rw[List.mem_singleton.1 hx];exact hp.1
   · rcases List.mem_append.1 hx with hx | hx
     · exact hs.2 x hx
     · rw[List.mem_singleton.1 hx];exact hp.2
 · exact hs
theorem tiny_ren {s:Strand}{r:Renewal}(hs:tinyS s)(hr:Sm 64 TRen r):tinyS (addRenF s r).1:=by
 unfold addRenF
 split
 · rename_i h
   have h1:=(boolC_iff.1 h).2.1
   refine⟨⟨hs.1.1,⟨?_,fun x hx=>?_⟩⟩,hs.2⟩
   · show (s.2++[r]).length≤64
     have h1:(((s.2++[r]).length:Nat):Int)≤8:=h1
     omega
   · rcases List.mem_append.1 hx with hx | hx
     · exact hs.1.2.2 x hx
     · rw[List.mem_singleton.1 hx];exact hr
 · exact hs
theorem ren64 {keys:List Key}{l:List Authority}{m leaf:Int}{others:List Int}{count:Int}{ids:List Int}{seq t:Int}(h:ids.length≤4):Sm 64 TRen (renMakeF keys l m leaf others count ids seq t):=by
 refine⟨trivial,trivial,trivial,⟨Nat.le_trans (pathF_len16 _ _ _) (by decide),fun _ _=>⟨trivial,trivial⟩⟩,⟨?_,fun _ _=>⟨trivial,trivial,trivial,trivial,trivial⟩⟩⟩
 exact Nat.le_trans (pick_len _ _) (Nat.le_trans h (by decide))
theorem tiny_renew {c:Cur}{s:Strand}{d:Doc}{m t:Int}(hs:tinyS s):tinyS (renewD c s d m t).1:=by
 rw[renew_eq]
 unfold renewRaw
 cases (longF s m).2 with
 | false=>exact hs
 | true=>cases (onceF c 3).1 with
   | true=>exact tiny_ren hs (ren64 (Nat.le_of_ble_eq_true rfl))
   | false=>exact tiny_ren hs (ren64 (Nat.le_of_ble_eq_true rfl))
theorem tiny_sgS (c:Cur):tinyS (sgS c):=by
 have k:∀ x∈(sgS c).1,tinyP x:=fun x hx=>by
   have hx:x∈[signPieceF (sg1 c).1.1,certPieceF (sgCert c)]:=hx
   rcases List.mem_cons.1 hx with rfl | hx
   · exact tiny_sign _
   · rw[List.mem_singleton.1 hx];exact tiny_cert _
 exact⟨⟨⟨Nat.le_of_ble_eq_true rfl,fun x hx=>(k x hx).1⟩,⟨Nat.zero_le _,fun x hx=>by simp[sgS]at hx⟩⟩,fun x hx=>(k x hx).2⟩
theorem tiny_sgA (c:Cur):tinyP (statusPieceF (sgA c)):=by
 have h:(sg2 c).1∈([10,30,60,90]:List Int):=int_mem (by decide)
 have k:∀ x∈([10,30,60,90]:List Int),x≤9999:=by decide
 exact tiny_make (by show (sg2 c).1≤9999;exact k _ h) (by show (-1:Int)≤9999;decide)
theorem tiny_sgT {c:Cur}{s:Strand}(h:tinyS s):tinyS (sgT c s).1.1:=by
 unfold sgT
 cases (sg4 c).1 with
 | true=>exact tiny_add h (tiny_pieceD _)
 | false=>exact h
theorem tiny_signed (c:Cur):tinyS (signedD c).1.1:=by
 rw[signed_eq]
 unfold signedRaw
 cases (sg3 c).1 with
 | true=>exact tiny_sgT (tiny_sgS c)
 | false=>exact tiny_sgT (tiny_add (tiny_sgS c) (tiny_sgA c))
theorem tiny_big {s:Strand}(h:tinyS s):Sm big20 TStrand s:=sm_up (by decide) _ _ h.1
def tinyE (e:Evidence):Prop:=Sm 64 TEv e∧∀ s∈e.1,∀ p∈s.1,stOk p
theorem tinyE_big {e:Evidence}(h:tinyE e):Sm big20 TEv e:=sm_up (by decide) _ _ h.1
theorem tinyE_cells {e:Evidence}(h:Sm 64 TEv e):((cellsC TEv e:Nat):Int)≤2000000000:=by
 have h1:=cells_max 64 TEv e h
 have h2:cellsMax 64 TEv≤2000000000:=by decide
 omega
theorem tinyE_join {a b:Evidence}(ha:tinyE a)(hb:tinyE b)(h1:List.length a.1+List.length b.1≤64)(h2:List.length a.2+List.length b.2≤64):tinyE (joinEvF a b):=by
 refine⟨⟨⟨?_,fun s hs=>?_⟩,⟨?_,fun s hs=>?_⟩⟩,fun s hs=>?_⟩
 · exact Nat.le_trans (newL_len (q:=eqC) b.1 a.1) h1
 · rcases (newL_mem b.1 a.1).1 hs with hs | hs
   · exact ha.1.1.2 s hs
   · exact hb.1.1.2 s hs
 · exact Nat.le_trans (newL_len (q:=eqC) b.2 a.2) h2
 · rcases (newL_mem b.2 a.2).1 hs with hs | hs
   · exact ha.1.2.2 s hs
   · exact hb.1.2.2 s hs
 · rcases (newL_mem b.1 a.1).1 hs with hs | hs
   · exact ha.2 s hs
   · exact hb.2 s hs
theorem tinyE_st {f:Frame}{e:Evidence}{d:Doc}(h:tinyE e)(c:Cert):smallSt (statusesF (usablePiecesF f e (allDigsF e d)) c):=by
 intro x hx
 obtain⟨p,hp,_,e1⟩:=pick_mem.1 hx
 obtain⟨⟨s,hs,hq⟩,_⟩:=us_mem.1 hp
 have:=h.2 s hs p hq
 have e1:(pieceStatF p).1=x:=e1
 rw[←e1]
 exact this
end Fw
namespace Fw
open Go
set_option linter.unusedSimpArgs false
def methsT:List Method:=[(1,0,40,50),(2,20,80,70),(3,40,120,200),(4,60,10001,10001)]
noncomputable def fm1 (c:Cur):Int×Cur:=belowF c 2
noncomputable def fm2 (c:Cur):Int×Cur:=intF (fm1 c).2 [20,45,60,75,100,150,300]
noncomputable def frameD (c:Cur):Frame×Cur:=((keysT,authsT,methsT,(fm1 c).1,(fm2 c).1),(fm2 c).2)
theorem frameD_ok {c:Cur}(h:curOk c):curOk (frameD c).2:=int_ok (below_ok h)
def fzG (t id:Int):Stamp:=(makeStampF keysT authsT (id,1,t,5,0)).1
theorem freshEx:∃ f:Int→List Stamp,∀ t,f t=[fzG t 1,fzG t 2,fzG t 3,fzG t 4]:=⟨fun t=>[fzG t 1,fzG t 2,fzG t 3,fzG t 4],fun _=>rfl⟩
noncomputable def freshD (t:Int):List Stamp:=Classical.choose freshEx t
theorem freshD_eq (t:Int):freshD t=[fzG t 1,fzG t 2,fzG t 3,fzG t 4]:=Classical.choose_spec freshEx t
theorem freshD_len (t:Int):(freshD t).length=4:=by rw[freshD_eq];rfl
def fzInv (t:Int)(acc:List Stamp)(id:Int):Prop:=∃ k:Nat,k≤4∧id=(k:Int)+1∧acc=(freshD t).take k
section
variable {t id:Int} {acc:List Stamp}
theorem fzStart:fzInv t [] 1:=⟨0,by decide,rfl,rfl⟩
theorem fzLen (h:fzInv t acc id):List.length acc+1≤maxApp:=by
 obtain⟨k,h1,_,rfl⟩:=h
 rw[List.length_take];unfold maxApp;omega
theorem fzStep (h:fzInv t acc id)(hl:id≤4){acc':List Stamp}(e:acc'=acc++[fzG t id]):fzInv t acc' (IntKind.i64.wrap (id+1))∧(5-IntKind.i64.wrap (id+1)).toNat<(5-id).toNat:=by
 obtain⟨k,h1,rfl,rfl⟩:=h
 rw[w64 (by omega) (by omega)]
 refine⟨⟨k+1,by omega,by omega,?_⟩,by omega⟩
 have hk:k=0∨k=1∨k=2∨k=3:=by omega
 rw[e,freshD_eq]
 rcases hk with rfl | rfl | rfl | rfl<;>rfl
theorem fzEnd (h:fzInv t acc id)(hl:¬id≤4):acc=freshD t:=by
 obtain⟨k,h1,rfl,rfl⟩:=h
 exact List.take_of_length_le (by rw[freshD_len];omega)
end
theorem freshD_sm (t:Int):Sm 64 (.slice TStamp) (freshD t):=⟨by rw[freshD_len];decide,fun _ _=>⟨trivial,trivial,trivial,trivial,trivial⟩⟩
noncomputable def renS (d:Doc)(L:List Int)(z:Cur×Strand×Int):Cur×Strand×Int:=
 ((intF (renewD (belowF z.1 4).2 z.2.1 d (IntKind.i64.wrap (1+(belowF z.1 4).1)) z.2.2).2 L).2,(renewD (belowF z.1 4).2 z.2.1 d (IntKind.i64.wrap (1+(belowF z.1 4).1)) z.2.2).1,
   IntKind.i64.wrap (z.2.2+(intF (renewD (belowF z.1 4).2 z.2.1 d (IntKind.i64.wrap (1+(belowF z.1 4).1)) z.2.2).2 L).1))
def rsP2 (z:Cur×Strand×Int)(_:Nat):Prop:=curOk z.1∧tinyS z.2.1
theorem renS_P (d:Doc)(L:List Int)(z:Cur×Strand×Int)(k:Nat)(h:rsP2 z k):rsP2 (renS d L z) (k+1):=
 ⟨int_ok (renew_P (below_ok h.1) (tiny_big h.2)).2,tiny_renew h.2⟩
noncomputable def ca1 (c:Cur):Bool×Cur:=onceF (signedD c).2 2
noncomputable def ca2 (c:Cur):Int×Cur:=intF (ca1 c).2 [2,22,42]
noncomputable def caF (c:Cur):List Stamp:=freshD (ca2 c).1
noncomputable def ca3 (c:Cur):Bool×Cur:=onceF (ca2 c).2 4
noncomputable def caQ (c:Cur):Sig:=(signedD c).1.2.2
noncomputable def caX (c:Cur)(org:Int):Sig:=
 ((caQ c).1,(caQ c).2.1,(caQ c).2.2.1,(caQ c).2.2.2.1,(caQ c).2.2.2.2.1,org,(caQ c).2.2.2.2.2.2.1,stampsDgF (caQ c).2.2.1 (caF c),(caQ c).2.2.2.2.2.2.2.2)
noncomputable def caY (c:Cur)(org:Int):Sig:=(signDigestF keysT (caX c org)).1
noncomputable def caS0 (c:Cur)(org:Int):Strand:=((signedD c).1.1.1.set 0 (signPieceF (caY c org)),(signedD c).1.1.2)
noncomputable def caAdd (fr:List Stamp)(s:Strand)(i:Int):Strand:=(addPieceF s (stampPieceF (IntKind.i64.wrap (31+i)) (fr.getD i.toNat (dflt TStamp)))).1
noncomputable def caS4 (c:Cur)(org:Int):Strand:=[0,1,2,3].foldl (caAdd (caF c)) (caS0 c org)
noncomputable def caM (c:Cur)(org:Int):Mandate:=(makeMandF keysT (50,ownerF keysT (caY c org).1,0,90,21,0)).1
noncomputable def caS5 (c:Cur)(org:Int):Strand:=(addPieceF (caS4 c org) (mandPieceF (caM c org))).1
def caInv (fr:List Stamp)(s0 s:Strand)(i:Int):Prop:=∃ k:Nat,k≤4∧i=k∧s=(([0,1,2,3]:List Int).take k).foldl (caAdd fr) s0
section
variable {fr:List Stamp} {s0 s s':Strand} {i:Int}
theorem caStart:caInv fr s0 s0 0:=⟨0,by decide,rfl,rfl⟩
theorem caStep (h:caInv fr s0 s i)(hl:i<4)(e:s'=caAdd fr s i):caInv fr s0 s' (IntKind.i64.wrap (i+1))∧(4-IntKind.i64.wrap (i+1)).toNat<(4-i).toNat:=by
 obtain⟨k,h1,rfl,rfl⟩:=h
 rw[w64 (by omega) (by omega)]
 refine⟨⟨k+1,by omega,by omega,?_⟩,by omega⟩
 have hk:k=0∨k=1∨k=2∨k=3:=by omega
 rw[e]
 rcases hk with rfl | rfl | rfl | rfl<;>rfl
theorem caEnd (h:caInv fr s0 s i)(hl:¬i<4):s=[0,1,2,3].foldl (caAdd fr) s0:=by
 obtain⟨k,h1,rfl,rfl⟩:=h
 have:k=4:=by omega
 subst this;rfl
theorem caRange (h:caInv fr s0 s i)(hl:i<4)(hf:List.length fr=4):inRange i (List.length fr):=by
 obtain⟨k,h1,rfl,rfl⟩:=h
 rw[hf]
 exact⟨by omega,by omega⟩
theorem caTiny (h:caInv fr s0 s i)(h0:tinyS s0):tinyS s:=by
 obtain⟨k,h1,_,rfl⟩:=h
 have key:∀ (l:List Int) (s:Strand),tinyS s→tinyS (l.foldl (caAdd fr) s):=by
   intro l
   induction l with
   | nil=>intro s h;exact h
   | cons a r ih=>intro s h;exact ih _ (tiny_add h (tiny_stamp _ _))
 exact key _ _ h0
end
theorem sgAdd_pos (s:Strand)(p:Piece)(h:0<s.1.length):0<(addPieceF s p).1.1.length:=by
 unfold addPieceF
 split
 · show 0<(s.1++[p]).length
   rw[List.length_append];omega
 · exact h
theorem signed_pos (c:Cur):0<(signedD c).1.1.1.length:=by
 rw[signed_eq]
 unfold signedRaw
 have k0:0<(sgS c).1.length:=by show 0<2;decide
 have key:∀ s:Strand,0<s.1.length→0<(sgT c s).1.1.1.length:=by
   intro s h
   unfold sgT
   cases (sg4 c).1 with
   | true=>exact sgAdd_pos _ _ h
   | false=>exact h
 cases (sg3 c).1 with
 | true=>exact key _ k0
 | false=>exact key _ (sgAdd_pos _ _ k0)
theorem caS0_tiny (c:Cur)(org:Int):tinyS (caS0 c org):=by
 have h:=tiny_signed c
 have k:∀ x∈(signedD c).1.1.1.set 0 (signPieceF (caY c org)),tinyP x:=fun x hx=>by
   rcases List.mem_or_eq_of_mem_set hx with hx | rfl
   · exact⟨h.1.1.2 x hx,h.2 x hx⟩
   · exact tiny_sign _
 refine⟨⟨⟨?_,fun x hx=>(k x hx).1⟩,h.1.2⟩,fun x hx=>(k x hx).2⟩
 show (List.set _ _ _).length≤64
 rw[List.length_set];exact h.1.1.1
theorem caS4_tiny (c:Cur)(org:Int):tinyS (caS4 c org):=caTiny (i:=4) ⟨4,by decide,rfl,rfl⟩ (caS0_tiny c org)
theorem caS5_tiny (c:Cur)(org:Int):tinyS (caS5 c org):=tiny_add (caS4_tiny c org) (tiny_mand _)
theorem ca1_ok {c:Cur}(h:curOk c):curOk (ca1 c).2:=once_ok (signed_P h).2
theorem ca2_ok {c:Cur}(h:curOk c):curOk (ca2 c).2:=int_ok (ca1_ok h)
theorem ca3_ok {c:Cur}(h:curOk c):curOk (ca3 c).2:=once_ok (ca2_ok h)
noncomputable def co1 (c:Cur):Int×Cur:=intF c [5,25,45,48]
noncomputable def co2 (c:Cur):Int×Cur:=belowF (co1 c).2 4
noncomputable def coZ (d:Doc)(s:Strand)(c:Cur):Cur×Strand×Int:=itF (renS d [4,15,20]) (co2 c).1.toNat ((co2 c).2,s,(co1 c).1)
noncomputable def coS (d:Doc)(s:Strand)(z:Cur×List Strand):Cur×List Strand:=((coZ d s z.1).1,z.2++[(coZ d s z.1).2.1])
def coP (z:Cur×List Strand)(k:Nat):Prop:=curOk z.1∧(∀ s∈z.2,tinyS s)∧z.2.length=k
theorem co2_ok {c:Cur}(h:curOk c):curOk (co2 c).2:=below_ok (int_ok h)
theorem co2_n (c:Cur):0≤(co2 c).1∧(co2 c).1≤1000000:=belN (by decide) (by decide)
theorem coZ_P {d:Doc}{s:Strand}{c:Cur}(h:curOk c)(hs:tinyS s):rsP2 (coZ d s c) (co2 c).1.toNat:=dnAll rsP2 ⟨co2_ok h,hs⟩ (renS_P d _) _
theorem coS_P (d:Doc){s:Strand}(hs:tinyS s)(z:Cur×List Strand)(k:Nat)(h:coP z k):coP (coS d s z) (k+1):=by
 have h2:=coZ_P (d:=d) h.1 hs
 refine⟨h2.1,fun y hy=>?_,by show (z.2++[_]).length=_;rw[List.length_append,h.2.2];rfl⟩
 rcases List.mem_append.1 hy with hy | hy
 · exact h.2.1 y hy
 · rw[List.mem_singleton.1 hy];exact h2.2
noncomputable def cn1 (c:Cur):Int×Cur:=belowF c 2
noncomputable def cnN (c:Cur):Int:=IntKind.i64.wrap (1+(cn1 c).1)
theorem cnN_n (c:Cur):0≤cnN c∧cnN c≤1000000∧1≤(cnN c).toNat∧(cnN c).toNat≤2:=by
 have h:=below_lt (c:=c) (n:=2) (by decide)
 unfold cnN cn1
 generalize (belowF c 2).1=x at *
 rw[w64 (by omega) (by omega)];omega
noncomputable def caZ (d:Doc)(s:Strand)(c:Cur):Cur×List Strand:=itF (coS d s) (cnN c).toNat ((cn1 c).2,[])
theorem caZ_P {d:Doc}{s:Strand}{c:Cur}(h:curOk c)(hs:tinyS s):coP (caZ d s c) (cnN c).toNat:=dnAll coP ⟨below_ok h,by simp,rfl⟩ (coS_P d hs) _
noncomputable def caOut (d:Doc)(fr:List (List Stamp))(s:Strand)(x:Sig)(c:Cur):(Evidence×Doc×Sig)×Cur:=((((caZ d s c).2,fr),d,x),(caZ d s c).1)
noncomputable def caseRaw (c:Cur):(Evidence×Doc×Sig)×Cur:=
 cond (ca1 c).1 (cond (ca3 c).1 (caOut (signedD c).1.2.1 [caF c] (caS5 c 50) (caY c 50) (ca3 c).2) (caOut (signedD c).1.2.1 [caF c] (caS5 c (caQ c).2.2.2.2.2.1) (caY c (caQ c).2.2.2.2.2.1) (ca3 c).2))
   (caOut (signedD c).1.2.1 [] (signedD c).1.1 (caQ c) (ca1 c).2)
theorem caseEx:∃ f:Cur→(Evidence×Doc×Sig)×Cur,∀ c,f c=caseRaw c:=⟨caseRaw,fun _=>rfl⟩
noncomputable def caseD (c:Cur):(Evidence×Doc×Sig)×Cur:=Classical.choose caseEx c
theorem caseD_eq (c:Cur):caseD c=caseRaw c:=Classical.choose_spec caseEx c
def csP (r:(Evidence×Doc×Sig)×Cur):Prop:=tinyE r.1.1∧curOk r.2∧0<List.length r.1.1.1∧List.length r.1.1.1≤2∧List.length r.1.1.2≤1
theorem caOut_P {d:Doc}{fr:List (List Stamp)}{s:Strand}{x:Sig}{c:Cur}(h:curOk c)(hs:tinyS s)(hf:fr.length≤1∧∀ l∈fr,Sm 64 (.slice TStamp) l):csP (caOut d fr s x c):=by
 obtain⟨h1,h2,h3⟩:=caZ_P (d:=d) h hs
 have hn:=(cnN_n c).2.2
 refine⟨⟨⟨⟨?_,fun y hy=>(h2 y hy).1⟩,⟨Nat.le_trans hf.1 (by decide),hf.2⟩⟩,fun y hy=>(h2 y hy).2⟩,h1,?_,?_,hf.1⟩
 · show (caZ d s c).2.length≤64
   omega
 · show 0<(caZ d s c).2.length
   omega
 · show (caZ d s c).2.length≤2
   omega
theorem caF_one (c:Cur):List.length [caF c]≤1∧∀ l∈[caF c],Sm 64 (.slice TStamp) l:=⟨Nat.le_refl _,fun l hl=>by rw[List.mem_singleton.1 hl];exact freshD_sm _⟩
theorem caseD_P {c:Cur}(h:curOk c):csP (caseD c):=by
 rw[caseD_eq]
 unfold caseRaw
 cases (ca1 c).1 with
 | true=>cases (ca3 c).1 with
   | true=>exact caOut_P (ca3_ok h) (caS5_tiny c _) (caF_one c)
   | false=>exact caOut_P (ca3_ok h) (caS5_tiny c _) (caF_one c)
 | false=>exact caOut_P (ca1_ok h) (tiny_signed c) ⟨by decide,by simp⟩
noncomputable def bo0 (c:Cur):(Evidence×Doc×Sig)×Cur:=caseD (frameD c).2
noncomputable def boYs (c:Cur):Strand:=(((bo0 c).1.1.1.getD 0 (dflt TStrand)).1,[])
noncomputable def bo1 (c:Cur):Bool×Cur:=onceF (bo0 c).2 2
noncomputable def bo2 (c:Cur):Int×Cur:=intF (bo1 c).2 [20,40,70]
noncomputable def bo3 (c:Cur):Int×Cur:=intF (bo2 c).2 [-1,-1,20]
noncomputable def bo4 (c:Cur):Int×Cur:=belowF (bo3 c).2 2
noncomputable def boAs (c:Cur):Status:=(makeStatusF keysT ((bo0 c).1.2.2.2.1,(bo2 c).1,(bo3 c).1,IntKind.i64.wrap (1+(bo4 c).1),0)).1
noncomputable def boSs (c:Cur):Strand:=(addPieceF (boYs c) (statusPieceF (boAs c))).1
noncomputable def bn1 (c:Cur):Int×Cur:=intF c [8,28,44]
noncomputable def bn2 (c:Cur):Int×Cur:=belowF (bn1 c).2 3
noncomputable def bnN (c:Cur):Int:=IntKind.i64.wrap (1+(bn2 c).1)
noncomputable def bnZ (d:Doc)(s:Strand)(c:Cur):Cur×Strand×Int:=itF (renS d [4,15]) (bnN c).toNat ((bn2 c).2,s,(bn1 c).1)
noncomputable def bnOut (f:Frame)(a:Evidence)(d:Doc)(x:Sig)(s:Strand)(c:Cur):(Frame×Evidence×Evidence×Doc×Sig)×Cur:=
 cond (onceF (bnZ d s c).1 2).1 ((f,a,([(bnZ d s c).2.1],[freshD 22]),d,x),(onceF (bnZ d s c).1 2).2) ((f,a,([(bnZ d s c).2.1],[]),d,x),(onceF (bnZ d s c).1 2).2)
noncomputable def bothRaw (c:Cur):(Frame×Evidence×Evidence×Doc×Sig)×Cur:=
 cond (bo1 c).1 (bnOut (frameD c).1 (bo0 c).1.1 (bo0 c).1.2.1 (bo0 c).1.2.2 (boSs c) (bo4 c).2) (bnOut (frameD c).1 (bo0 c).1.1 (bo0 c).1.2.1 (bo0 c).1.2.2 (boYs c) (bo1 c).2)
theorem bothEx:∃ f:Cur→(Frame×Evidence×Evidence×Doc×Sig)×Cur,∀ c,f c=bothRaw c:=⟨bothRaw,fun _=>rfl⟩
noncomputable def bothD (c:Cur):(Frame×Evidence×Evidence×Doc×Sig)×Cur:=Classical.choose bothEx c
theorem bothD_eq (c:Cur):bothD c=bothRaw c:=Classical.choose_spec bothEx c
theorem bo0_P {c:Cur}(h:curOk c):csP (bo0 c):=caseD_P (frameD_ok h)
theorem bo1_ok {c:Cur}(h:curOk c):curOk (bo1 c).2:=once_ok (bo0_P h).2.1
theorem bo4_ok {c:Cur}(h:curOk c):curOk (bo4 c).2:=below_ok (int_ok (int_ok (bo1_ok h)))
theorem boIdx {c:Cur}(h:curOk c):inRange 0 (List.length (bo0 c).1.1.1):=by
 have:=(bo0_P h).2.2.1
 exact⟨Int.le_refl _,by omega⟩
theorem boYs_tiny {c:Cur}(h:curOk c):tinyS (boYs c):=by
 have hp:=bo0_P h
 have hm:(bo0 c).1.1.1.getD (0:Int).toNat (dflt TStrand)∈(bo0 c).1.1.1:=getD_mem (boIdx h) _
 have h2:=hp.1.2 _ hm
 exact⟨⟨(hp.1.1.1.2 _ hm).1,⟨Nat.zero_le _,fun x hx=>by simp[boYs]at hx⟩⟩,h2⟩
theorem boAs_tiny (c:Cur):tinyP (statusPieceF (boAs c)):=by
 have h1:(bo2 c).1∈([20,40,70]:List Int):=int_mem (by decide)
 have h2:(bo3 c).1∈([-1,-1,20]:List Int):=int_mem (by decide)
 have k1:∀ x∈([20,40,70]:List Int),x≤9999:=by decide
 have k2:∀ x∈([-1,-1,20]:List Int),x≤9999:=by decide
 exact tiny_make (by show (bo2 c).1≤9999;exact k1 _ h1) (by show (bo3 c).1≤9999;exact k2 _ h2)
theorem boSs_tiny {c:Cur}(h:curOk c):tinyS (boSs c):=tiny_add (boYs_tiny h) (boAs_tiny c)
theorem bn2_ok {c:Cur}(h:curOk c):curOk (bn2 c).2:=below_ok (int_ok h)
theorem bnN_n (c:Cur):0≤bnN c∧bnN c≤1000000:=by
 have h:=below_lt (c:=(bn1 c).2) (n:=3) (by decide)
 unfold bnN bn2
 generalize (belowF (bn1 c).2 3).1=x at *
 rw[w64 (by omega) (by omega)];omega
theorem bnZ_P {d:Doc}{s:Strand}{c:Cur}(h:curOk c)(hs:tinyS s):rsP2 (bnZ d s c) (bnN c).toNat:=dnAll rsP2 ⟨bn2_ok h,hs⟩ (renS_P d _) _
def bhP (r:(Frame×Evidence×Evidence×Doc×Sig)×Cur):Prop:=
 tinyE r.1.2.1∧tinyE r.1.2.2.1∧List.length r.1.2.1.1+List.length r.1.2.2.1.1≤64∧List.length r.1.2.1.2+List.length r.1.2.2.1.2≤64
theorem oneE_tiny {s:Strand}{fr:List (List Stamp)}(hs:tinyS s)(hf:fr.length≤1∧∀ l∈fr,Sm 64 (.slice TStamp) l):tinyE ([s],fr):=
 ⟨⟨⟨by show 1≤64;decide,fun y hy=>by rw[List.mem_singleton.1 hy];exact hs.1⟩,⟨Nat.le_trans hf.1 (by decide),hf.2⟩⟩,fun y hy=>by rw[List.mem_singleton.1 hy];exact hs.2⟩
theorem bnOut_P {f:Frame}{a:Evidence}{d:Doc}{x:Sig}{s:Strand}{c:Cur}(hc:curOk c)(hs:tinyS s)(ha:tinyE a∧List.length a.1≤2∧List.length a.2≤1):bhP (bnOut f a d x s c):=by
 have hz:=(bnZ_P (d:=d) hc hs).2
 unfold bnOut
 cases (onceF (bnZ d s c).1 2).1 with
 | true=>exact⟨ha.1,oneE_tiny hz ⟨Nat.le_refl _,fun l hl=>by rw[List.mem_singleton.1 hl];exact freshD_sm _⟩,by show List.length a.1+1≤64;omega,by show List.length a.2+1≤64;omega⟩
 | false=>exact⟨ha.1,oneE_tiny hz ⟨by decide,by simp⟩,by show List.length a.1+1≤64;omega,by show List.length a.2+0≤64;omega⟩
theorem bothD_P {c:Cur}(h:curOk c):bhP (bothD c):=by
 have h0:=bo0_P h
 rw[bothD_eq]
 unfold bothRaw
 cases (bo1 c).1 with
 | true=>exact bnOut_P (bo4_ok h) (boSs_tiny h) ⟨h0.1,h0.2.2.2⟩
 | false=>exact bnOut_P (bo1_ok h) (boYs_tiny h) ⟨h0.1,h0.2.2.2⟩
noncomputable def bothC (code:List Int):Frame×Evidence×Evidence×Doc×Sig:=(bothD (curNewF code)).1
end Fw
namespace Fw
open Go
theorem coStep {d:Doc}{s y:Strand}{c1 c2 c3:Cur}{L:List Strand}{t i n:Int}(h:dnInv (coS d s) (c1,[]) n (c2,L) i)(hl:i>0)(hE:(c3,y,t)=coZ d s c2):
   dnInv (coS d s) (c1,[]) n (c3,L++[y]) (IntKind.i64.wrap (i-1))∧(IntKind.i64.wrap (i-1)).toNat<i.toNat:=by
 have:=dnStep h hl
 unfold coS at this
 rw[←hE]at this
 exact this
theorem caOut_eq {d:Doc}{s:Strand}{x:Sig}{c c2:Cur}{fr:List (List Stamp)}{e:Evidence}(hF:e.2=fr)(hE:(c2,e.1)=itF (coS d s) (cnN c).toNat ((cn1 c).2,[])):caOut d fr s x c=((e,d,x),c2):=by
 unfold caOut caZ
 rw[←hE,←hF]
theorem bnOut_1 {f:Frame}{a:Evidence}{d:Doc}{x:Sig}{s y:Strand}{c c2:Cur}{t:Int}(hE:(c2,y,t)=itF (renS d [4,15]) (bnN c).toNat ((bn2 c).2,s,(bn1 c).1))(h:(onceF c2 2).1=true):
   bnOut f a d x s c=((f,a,([y],[freshD 22]),d,x),(onceF c2 2).2):=by
 unfold bnOut bnZ
 rw[←hE]
 exact cT h
theorem bnOut_0 {f:Frame}{a:Evidence}{d:Doc}{x:Sig}{s y:Strand}{c c2:Cur}{t:Int}(hE:(c2,y,t)=itF (renS d [4,15]) (bnN c).toNat ((bn2 c).2,s,(bn1 c).1))(h:(onceF c2 2).1=false):
   bnOut f a d x s c=((f,a,([y],[]),d,x),(onceF c2 2).2):=by
 unfold bnOut bnZ
 rw[←hE]
 exact cF h
theorem one0 {α:Type}{x:α}:inRange 0 (List.length [x]):=⟨Int.le_refl _,Int.ofNat_lt.2 (Nat.succ_pos 0)⟩
theorem fz_len (t:Int):List.length (freshD t)≤1048576:=by rw[freshD_len];decide
end Fw
namespace Fw
open Go
theorem coInv_P {d:Doc}{s:Strand}{c1 c2:Cur}{L:List Strand}{i:Int}(hc:curOk c1)(hs:tinyS s)(h:dnInv (coS d s) ((cn1 c1).2,[]) (cnN c1) (c2,L) i):curOk c2∧L.length+1≤maxApp:=by
 obtain⟨k,hk,h1,_,h2⟩:=dnP coP ⟨below_ok hc,by simp,rfl⟩ (coS_P d hs) h
 exact⟨h1,dnApp h2 hk (cnN_n c1).2.1⟩
theorem coIn_P {d:Doc}{s y:Strand}{c2 c3:Cur}{t j:Int}(hc:curOk c2)(hs:tinyS s)(h:dnInv (renS d [4,15,20]) ((co2 c2).2,s,(co1 c2).1) (co2 c2).1 (c3,y,t) j):curOk c3∧tinyS y:=by
 obtain⟨k,hk,h1,h2⟩:=dnP rsP2 ⟨co2_ok hc,hs⟩ (renS_P d _) h
 exact⟨h1,h2⟩
theorem bnIn_P {d:Doc}{s y:Strand}{c2 c3:Cur}{t j:Int}(hc:curOk c2)(hs:tinyS s)(h:dnInv (renS d [4,15]) ((bn2 c2).2,s,(bn1 c2).1) (bnN c2) (c3,y,t) j):curOk c3∧tinyS y:=by
 obtain⟨k,hk,h1,h2⟩:=dnP rsP2 ⟨bn2_ok hc,hs⟩ (renS_P d _) h
 exact⟨h1,h2⟩
theorem renOk {c:Cur}{s:Strand}{d:Doc}{m t:Int}(hc:curOk c)(hs:tinyS s):curOk (renewD c s d m t).2:=(renew_P hc (tiny_big hs)).2
end Fw
namespace Fw
open Go
set_option linter.unusedSimpArgs false
section
variable {f:Frame} {a b e:Evidence} {d:Doc} {x:Sig} {p:Piece}
section
variable {less more:List Piece} {k i:Int}
end
theorem moBad {v:Verdict}(h:(v.1 != v.1)=true):False:=bneT h rfl
theorem moBad2 (ha:tinyE (joinEvF a b))(hl:(usablePiecesF f (joinEvF a b) (allDigsF (joinEvF a b) d)).length≤2000000000)(hc:(!(consF f (joinEvF a b) d x))=false)
   (h:(!(isKept2 (judgeDocF f a d x) (judgeBothF f a b d x)))=true):False:=by
 have:=(mono_main (fun c=>tinyE_st ha c) hl (join_l a b) (notF hc)).1
 have e:isKept2 (judgeDocF f a d x) (judgeBothF f a b d x)=true:=this
 rw[e]at h;cases h
theorem moFin (ha:tinyE (joinEvF a b))(hl:(usablePiecesF f (joinEvF a b) (allDigsF (joinEvF a b) d)).length≤2000000000)(hc:(!(consF f (joinEvF a b) d x))=false):
   pick2 ((judgeDocF f a d x).1 != 1) true (isNarrowerF (judgeBothF f a b d x) (judgeDocF f a d x))=true:=by
 have:=(mono_main (fun c=>tinyE_st ha c) hl (join_l a b) (notF hc)).2
 cases h:((judgeDocF f a d x).1 != 1)with
 | true=>rfl
 | false=>exact this (bneI h)
end
end Fw
namespace Fw
open Go
section
variable {code:List Int} (h:code.length≤bigLen)
include h
theorem bcP:bhP (bothD (curNewF code)):=bothD_P (newCur_ok h)
theorem bcTA:tinyE (bothC code).2.1:=(bcP h).1
theorem bcTB:tinyE (bothC code).2.2.1:=(bcP h).2.1
theorem bcTJ:tinyE (joinEvF (bothC code).2.1 (bothC code).2.2.1):=tinyE_join (bcTA h) (bcTB h) (bcP h).2.2.1 (bcP h).2.2.2
theorem bcTK:tinyE (joinEvF (bothC code).2.2.1 (bothC code).2.1):=tinyE_join (bcTB h) (bcTA h) (by have:=(bcP h).2.2.1;show List.length (bothC code).2.2.1.1+List.length (bothC code).2.1.1≤64;unfold bothC;omega) (by have:=(bcP h).2.2.2;show List.length (bothC code).2.2.1.2+List.length (bothC code).2.1.2≤64;unfold bothC;omega)
end
theorem tinyCells {e:Evidence}(h:tinyE e):((cellsC (.slice TStrand) e.1:Nat):Int)≤2000000000:=evdCells (tinyE_cells h.1)
theorem tinyLenU {f:Frame}{e:Evidence}{docs:List (List Int)}(h:tinyE e):(usablePiecesF f e docs).length≤2000000000:=usPieceLen (tinyCells h)
end Fw
namespace Fw
open Go
end Fw
