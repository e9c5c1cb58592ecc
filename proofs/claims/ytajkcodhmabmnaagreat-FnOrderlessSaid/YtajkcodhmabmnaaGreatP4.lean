/- Plain laws of evidence as a set: bounds, pieces that can be trusted, verdicts. Conditions: none. -/
import Derived.Test.YtajkcodhmabmnaaGreatP3
namespace Fw
open Go
def subE (a e:Evidence):Prop:=(∀ s∈a.1,s∈e.1)∧(∀ l∈a.2,l∈e.2)
theorem newG_mem {α:Type}{acc:List α}{s x:α}:x∈newG eqC acc s↔x∈acc∨x=s:=by
 unfold newG
 split
 · rename_i h
   obtain⟨y,hy,e⟩:=boolC_iff.1 h
   have e:=eqC_iff.1 e
   subst e
   exact⟨.inl,fun h=>h.elim id fun e=>e ▸ hy⟩
 · rw[List.mem_append,List.mem_singleton]
theorem newL_mem {α:Type}{x:α}:∀ (l acc:List α),x∈l.foldl (newG eqC) acc↔x∈acc∨x∈l
 | [],acc=>by simp
 | y::r,acc=>by
   rw[List.foldl_cons,newL_mem r,newG_mem,List.mem_cons,or_assoc]
theorem join_l (a b:Evidence):subE a (joinEvF a b):=⟨fun _ h=>(newL_mem b.1 a.1).2 (.inl h),fun _ h=>(newL_mem b.2 a.2).2 (.inl h)⟩
theorem join_r (a b:Evidence):subE b (joinEvF a b):=⟨fun _ h=>(newL_mem b.1 a.1).2 (.inr h),fun _ h=>(newL_mem b.2 a.2).2 (.inr h)⟩
theorem join_comm (a b:Evidence):subE (joinEvF a b) (joinEvF b a):=by
 refine⟨fun s h=>?_,fun s h=>?_⟩
 · rcases (newL_mem b.1 a.1).1 h with h | h
   · exact(join_r b a).1 s h
   · exact(join_l b a).1 s h
 · rcases (newL_mem b.2 a.2).1 h with h | h
   · exact(join_r b a).2 s h
   · exact(join_l b a).2 s h
section
variable {f:Frame} {a e:Evidence} {d:Doc} {p:Piece} {x:Sig} {b:Int}
noncomputable def bndF (f:Frame)(d:Doc)(p:Piece)(s:Strand):Int:=pieceBoundF f s (docDigsF s d) p
theorem allDigs_map (e:Evidence)(d:Doc):allDigsF e d=e.1.map (fun s=>docDigsF s d):=pick_true (fun s=>docDigsF s d) e.1
theorem ebMin (g:Strand→Int):∀ (l:List Strand) (t b:Int),b≤l.foldl (fun t s=>min t (g s)) t↔b≤t∧∀ s∈l,b≤g s
 | [],t,b=>by simp
 | s::r,t,b=>by
   rw[List.foldl_cons,ebMin g r]
   constructor
   · rintro⟨h1,h2⟩
     refine⟨by omega,fun y hy=>?_⟩
     rcases List.mem_cons.1 hy with rfl | hy
     · omega
     · exact h2 y hy
   · rintro⟨h1,h2⟩
     have:=h2 s (by simp)
     exact⟨by omega,fun y hy=>h2 y (by simp[hy])⟩
theorem ebZip (f:Frame)(d:Doc)(p:Piece):∀ (l:List Strand) (t:Int),(l.zip (l.map (fun s=>docDigsF s d))).foldl (ebG f p) t=l.foldl (fun t s=>min t (bndF f d p s)) t
 | [],_=>rfl
 | s::r,t=>ebZip f d p r _
theorem evB_le:b≤evBoundF f e (allDigsF e d) p↔b≤f.2.2.2.2∧∀ s∈e.1,b≤bndF f d p s:=by
 unfold evBoundF
 rw[allDigs_map,ebZip]
 exact ebMin _ _ _ _
theorem evB_mono (h:subE a e):evBoundF f e (allDigsF e d) p≤evBoundF f a (allDigsF a d) p:=by
 have h2:=evB_le.1 (Int.le_refl (evBoundF f e (allDigsF e d) p))
 exact evB_le.2 ⟨h2.1,fun s hs=>h2.2 s (h.1 s hs)⟩
theorem put_mem {p q:Piece}{l:List Piece}:q∈putP p l↔q=p∨q∈l:=by
 have e:=List.takeWhile_append_dropWhile (p:=fun y=>pbF y p) (l:=l)
 unfold putP insP
 rw[List.mem_append,List.mem_cons]
 constructor
 · rintro(h | h | h)
   · exact .inr (by rw[←e];exact List.mem_append.2 (.inl h))
   · exact .inl h
   · exact .inr (by rw[←e];exact List.mem_append.2 (.inr h))
 · rintro(h | h)
   · exact .inr (.inl h)
   · rw[←e]at h
     rcases List.mem_append.1 h with h | h
     · exact .inl h
     · exact .inr (.inr h)
theorem usPut_mem {p q:Piece}{l:List Piece}:q∈usPut p l↔q=p∨q∈l:=by
 unfold usPut
 split
 · rename_i h
   exact⟨.inr,fun g=>g.elim (fun e=>e ▸ h) id⟩
 · exact put_mem
theorem usG_mem {docs:List (List Int)}{q:Piece}:∀ (l out:List Piece),q∈l.foldl (usG f e docs) out↔q∈out∨(q∈l∧usableF f e docs q=true)
 | [],out=>by simp
 | y::r,out=>by
   rw[List.foldl_cons,usG_mem r]
   have k:q∈usG f e docs out y↔q∈out∨(q=y∧usableF f e docs q=true):=by
     unfold usG
     split
     · rename_i h
       rw[usPut_mem]
       constructor
       · rintro(g | g)
         · exact .inr ⟨g,by rw[g];exact h⟩
         · exact .inl g
       · rintro(g | g)
         · exact .inr g
         · exact .inl g.1
     · rename_i h
       constructor
       · exact .inl
       · rintro(g | g)
         · exact g
         · exact absurd (by rw[←g.1];exact g.2) h
   rw[k,List.mem_cons]
   constructor
   · rintro((g | g) | g)
     · exact .inl g
     · exact .inr ⟨.inl g.1,g.2⟩
     · exact .inr ⟨.inr g.1,g.2⟩
   · rintro(g | ⟨g | g,g2⟩)
     · exact .inl (.inl g)
     · exact .inl (.inr ⟨g,g2⟩)
     · exact .inr ⟨g,g2⟩
theorem usS_mem {docs:List (List Int)}{q:Piece}:∀ (l:List Strand) (out:List Piece),q∈l.foldl (strG (usG f e docs)) out↔q∈out∨((∃ s∈l,q∈s.1)∧usableF f e docs q=true)
 | [],out=>by simp
 | y::r,out=>by
   rw[List.foldl_cons,usS_mem r]
   unfold strG
   rw[usG_mem]
   constructor
   · rintro((g | g) | ⟨⟨s,g1,g2⟩,g3⟩)
     · exact .inl g
     · exact .inr ⟨⟨y,by simp,g.1⟩,g.2⟩
     · exact .inr ⟨⟨s,by simp[g1],g2⟩,g3⟩
   · rintro(g | ⟨⟨s,g1,g2⟩,g3⟩)
     · exact .inl (.inl g)
     · rcases List.mem_cons.1 g1 with rfl | g1
       · exact .inl (.inr ⟨g2,g3⟩)
       · exact .inr ⟨⟨s,g1,g2⟩,g3⟩
theorem us_mem {docs:List (List Int)}{q:Piece}:q∈usablePiecesF f e docs↔(∃ s∈e.1,q∈s.1)∧usableF f e docs q=true:=by
 unfold usablePiecesF
 rw[usS_mem]
 simp
theorem us_asc {docs:List (List Int)}:AscP (usablePiecesF f e docs):=ascS List.Pairwise.nil
theorem usable_mono {q:Piece}(h:subE a e)(g:usableF f a (allDigsF a d) q=true):usableF f e (allDigsF e d) q=true:=by
 have g1:=andT g
 have g2:=of_decide_eq_true g1.2
 have g3:=evB_mono (f:=f) (d:=d) (p:=q) h
 exact yesAnd g1.1 (decide_eq_true (by omega))
theorem us_mono {q:Piece}(h:subE a e)(g:q∈usablePiecesF f a (allDigsF a d)):q∈usablePiecesF f e (allDigsF e d):=by
 obtain⟨⟨s,g1,g2⟩,g3⟩:=us_mem.1 g
 exact us_mem.2 ⟨⟨s,h.1 s g1,g2⟩,usable_mono h g3⟩
theorem asc_sub:∀ {m l:List Piece},AscP l→AscP m→(∀ x∈l,x∈m)→l.Sublist m
 | [],l,_,_,h=>by
   cases l with
   | nil=>exact List.Sublist.slnil
   | cons x r=>exact absurd (h x (by simp)) (by simp)
 | y::m,[],_,_,_=>List.nil_sublist _
 | y::m,x::l,hl,hm,h=>by
   obtain⟨l1,l2⟩:=List.pairwise_cons.1 hl
   obtain⟨m1,m2⟩:=List.pairwise_cons.1 hm
   by_cases e:x=y
   · subst e
     refine List.Sublist.cons_cons _ (asc_sub l2 m2 fun z hz=>?_)
     rcases List.mem_cons.1 (h z (by simp[hz]))with e | e
     · have:=l1 z hz
       rw[e,pb_irr]at this;cases this
     · exact e
   · have hx:x∈m:=(List.mem_cons.1 (h x (by simp))).resolve_left e
     refine List.Sublist.cons _ (asc_sub hl m2 fun z hz=>?_)
     rcases List.mem_cons.1 (h z hz)with e2 | e2
     · rcases List.mem_cons.1 hz with e3 | e3
       · rw[e3];exact hx
       · have g1:=l1 z e3
         rw[e2]at g1
         have g2:=pb_trans (m1 x hx) g1
         rw[pb_irr]at g2;cases g2
     · exact e2
theorem us_sub (h:subE a e):(usablePiecesF f a (allDigsF a d)).Sublist (usablePiecesF f e (allDigsF e d)):=asc_sub us_asc us_asc fun _ g=>us_mono h g
theorem us_same (h:subE a e)(h2:subE e a):usablePiecesF f a (allDigsF a d)=usablePiecesF f e (allDigsF e d):=
 (us_sub h).eq_of_length_le (us_sub h2).length_le
def frC (f:Frame)(us:List Piece)(x:Sig)(l:List Stamp):Prop:=x.2.2.2.2.2.2.2.1≠0∧stampsDgF x.2.2.1 l=x.2.2.2.2.2.2.2.1∧(l23F f us l).2=true
theorem frL_le {us:List Piece}:∀ (l:List (List Stamp)) (t b:Int),l.foldl (frG f us x) t≤b↔t≤b∧∀ m∈l,frC f us x m→(l23F f us m).1≤b
 | [],t,b=>by simp
 | m::r,t,b=>by
   rw[List.foldl_cons,frL_le r]
   have k:frG f us x t m≤b↔t≤b∧(frC f us x m→(l23F f us m).1≤b):=by
     unfold frG
     split
     · rename_i h
       constructor
       · intro g;exact⟨by omega,fun _=>by omega⟩
       · intro g;have:=g.2 h;omega
     · rename_i h
       exact⟨fun g=>⟨g,fun h2=>absurd h2 h⟩,fun g=>g.1⟩
   rw[k]
   constructor
   · rintro⟨⟨g1,g2⟩,g3⟩
     refine⟨g1,fun y hy hc=>?_⟩
     rcases List.mem_cons.1 hy with rfl | hy
     · exact g2 hc
     · exact g3 y hy hc
   · rintro⟨g1,g2⟩
     exact⟨⟨g1,g2 m (by simp)⟩,fun y hy=>g2 y (by simp[hy])⟩
theorem fr_le {us:List Piece}:freshG f e us x≤b↔bornF f x≤b∧∀ m∈e.2,frC f us x m→(l23F f us m).1≤b:=frL_le _ _ _
theorem frC_mono {us vs:List Piece}{m:List Stamp}(h:∀ q∈us,q∈vs)(g:frC f us x m):frC f vs x m∧(l23F f vs m).1=(l23F f us m).1:=by
 obtain⟨g1,g2,g3⟩:=g
 obtain⟨k1,k2,k3⟩:=l23_ok.1.1 g3
 have g4:(l23F f vs m).2=true:=by
   refine l23_ok.1.2 ⟨k1,fun s hs=>?_,k3⟩
   obtain⟨q,hq,e⟩:=boolC_iff.1 (k2 s hs)
   exact boolC_iff.2 ⟨q,h q hq,e⟩
 exact⟨⟨g1,g2,g4⟩,by rw[l23_ok.2 g3,l23_ok.2 g4]⟩
theorem fr_mono (h:subE a e){us vs:List Piece}(g:∀ q∈us,q∈vs):freshG f a us x≤freshG f e vs x:=by
 have h2:=fr_le.1 (Int.le_refl (freshG f e vs x))
 refine fr_le.2 ⟨h2.1,fun m hm hc=>?_⟩
 have h3:=frC_mono g hc
 rw[←h3.2]
 exact h2.2 m (h.2 m hm) h3.1
theorem judge_same (h:subE a e)(h2:subE e a):judgeDocF f a d x=judgeDocF f e d x:=by
 have e1:∀ p,evBoundF f a (allDigsF a d) p=evBoundF f e (allDigsF e d) p:=fun p=>Int.le_antisymm (evB_mono h2) (evB_mono h)
 have e2:=us_same (f:=f) (d:=d) h h2
 have e3:freshG f a (usablePiecesF f e (allDigsF e d)) x=freshG f e (usablePiecesF f e (allDigsF e d)) x:=
   Int.le_antisymm (fr_mono h fun _ g=>g) (fr_mono h2 fun _ g=>g)
 unfold judgeDocF judgeF boundJ certJ
 rw[e1,e2,e3]
theorem both_comm {b:Evidence}:judgeBothF f a b d x=judgeBothF f b a d x:=judge_same (join_comm a b) (join_comm b a)
end
end Fw
namespace Fw
open Go
section
variable {n:Int}
end
end Fw
namespace Fw
open Go
section
variable {f:Frame} {a e:Evidence} {d:Doc} {x:Sig}
end
end Fw
namespace Fw
open Go
abbrev TCur:Ty:=.pair (.slice (.int .u8)) (.pair (.int .i64) (.int .i64))
abbrev Cur:=El TCur
def curOk (c:Cur):Prop:=(0:Int)≤c.2.1∧List.length c.1≤bigLen
def shr64 (x:Int)(n:Nat):Int:=x.fdiv (2 ^ n)
def and64 (x y:Int):Int:=IntKind.i64.wrap (BitVec.ofInt IntKind.i64.bits x&&& BitVec.ofInt IntKind.i64.bits y).toNat
def xor64 (x y:Int):Int:=IntKind.i64.wrap (BitVec.ofInt IntKind.i64.bits x ^^^ BitVec.ofInt IntKind.i64.bits y).toNat
def curH (c:Cur):Int:=IntKind.i64.wrap (IntKind.i64.wrap (c.2.2*6364136223846793005)+1442695040888963407)
def byteX (h:Int):Int:=and64 (xor64 (shr64 h 33) (shr64 h 47)) 255
def byteRaw (c:Cur):Int×Cur:=
 cond (decide (c.2.1<(List.length c.1:Int)))
   (and64 (IntKind.i64.wrap (byteX (curH c)+IntKind.i64.wrap (c.1.getD c.2.1.toNat (0:Int)))) 255,(c.1,IntKind.i64.wrap (c.2.1+1),curH c))
   (byteX (curH c),(c.1,c.2.1,curH c))
theorem byteEx:∃ f:Cur→Int×Cur,∀ c,f c=byteRaw c:=⟨byteRaw,fun _=>rfl⟩
noncomputable def byteF (c:Cur):Int×Cur:=Classical.choose byteEx c
theorem byte_eq (c:Cur):byteF c=byteRaw c:=Classical.choose_spec byteEx c
theorem and64_lt {x:Int}:0≤and64 x 255∧and64 x 255<256:=by
 show 0≤IntKind.i64.wrap (BitVec.ofInt 64 x&&& BitVec.ofInt 64 255).toNat∧IntKind.i64.wrap (BitVec.ofInt 64 x&&& BitVec.ofInt 64 255).toNat<256
 have h:(BitVec.ofInt 64 x&&& BitVec.ofInt 64 255).toNat≤255:=by
   rw[BitVec.toNat_and]
   exact Nat.and_le_right
 have e:IntKind.i64.wrap (((BitVec.ofInt 64 x&&& BitVec.ofInt 64 255).toNat:Nat):Int)=(((BitVec.ofInt 64 x&&& BitVec.ofInt 64 255).toNat:Nat):Int):=by
   exact w64 (by omega) (by omega)
 rw[e];omega
theorem byte_lt (c:Cur):0≤(byteF c).1∧(byteF c).1<256:=by
 rw[byte_eq]
 unfold byteRaw
 cases decide (c.2.1<(List.length c.1:Int))<;>exact and64_lt
theorem byte_ok {c:Cur}(h:curOk c):curOk (byteF c).2:=by
 rw[byte_eq]
 obtain⟨b,(i:Int),(hh:Int)⟩:=c
 obtain⟨h0,hb⟩:=h
 have h0:(0:Int)≤i:=h0
 have hb:List.length b≤bigLen:=hb
 cases hd:decide (i<(List.length b:Int))with
 | true=>
   have h2:=of_decide_eq_true hd
   have e:(byteRaw (b,i,hh)).2=(b,IntKind.i64.wrap (i+1),curH (b,i,hh)):=by
     have hd':decide ((b,i,hh).2.1<(List.length (b,i,hh).1:Int))=true:=hd
     unfold byteRaw;rw[hd'];rfl
   rw[e]
   refine⟨?_,hb⟩
   show (0:Int)≤IntKind.i64.wrap (i+1)
   unfold bigLen at hb
   rw[w64 (by omega) (by omega)];omega
 | false=>
   have e:(byteRaw (b,i,hh)).2=(b,i,curH (b,i,hh)):=by
     have hd':decide ((b,i,hh).2.1<(List.length (b,i,hh).1:Int))=false:=hd
     unfold byteRaw;rw[hd'];rfl
   rw[e]
   exact⟨h0,hb⟩
theorem tmod_lt {x n:Int}(hx:0≤x)(hn:0<n):0≤x.tmod n∧x.tmod n<n:=by
 rw[Int.tmod_eq_emod_of_nonneg hx]
 exact⟨Int.emod_nonneg _ (by omega),Int.emod_lt_of_pos _ hn⟩
def bel3 (x y z n:Int):Int:=(IntKind.i64.wrap (IntKind.i64.wrap (IntKind.i64.wrap (x*65536)+IntKind.i64.wrap (y*256))+z)).tmod n
noncomputable def belowRaw (c:Cur)(n:Int):Int×Cur:=
 cond (decide (n≤0)) (0,c) (cond (decide (n≤256)) ((byteF c).1.tmod n,(byteF c).2)
   (bel3 (byteF c).1 (byteF (byteF c).2).1 (byteF (byteF (byteF c).2).2).1 n,(byteF (byteF (byteF c).2).2).2))
theorem belowEx:∃ f:Cur→Int→Int×Cur,∀ c n,f c n=belowRaw c n:=⟨belowRaw,fun _ _=>rfl⟩
noncomputable def belowF (c:Cur)(n:Int):Int×Cur:=Classical.choose belowEx c n
theorem bel_eq (c:Cur)(n:Int):belowF c n=belowRaw c n:=Classical.choose_spec belowEx c n
theorem below_lt {c:Cur}{n:Int}(hn:0<n):0≤(belowF c n).1∧(belowF c n).1<n:=by
 have h0:decide (n≤0)=false:=decide_eq_false (by omega)
 rw[bel_eq]
 unfold belowRaw
 rw[h0]
 have hx:=byte_lt c
 have hy:=byte_lt (byteF c).2
 have hz:=byte_lt (byteF (byteF c).2).2
 cases decide (n≤256)with
 | true=>exact tmod_lt hx.1 hn
 | false=>
   show 0≤bel3 _ _ _ n∧bel3 _ _ _ n<n
   unfold bel3
   generalize (byteF c).1=x at *
   generalize (byteF (byteF c).2).1=y at *
   generalize (byteF (byteF (byteF c).2).2).1=z at *
   rw[w64 (x:=x*65536) (by omega) (by omega),w64 (x:=y*256) (by omega) (by omega),w64 (x:=x*65536+y*256) (by omega) (by omega),w64 (by omega) (by omega)]
   exact tmod_lt (by omega) hn
theorem below_ok {c:Cur}{n:Int}(h:curOk c):curOk (belowF c n).2:=by
 rw[bel_eq]
 unfold belowRaw
 cases decide (n≤0)with
 | true=>exact h
 | false=>cases decide (n≤256)with
   | true=>exact byte_ok h
   | false=>exact byte_ok (byte_ok (byte_ok h))
noncomputable def onceF (c:Cur)(n:Int):Bool×Cur:=((belowF c n).1==0,(belowF c n).2)
noncomputable def intF (c:Cur)(l:List Int):Int×Cur:=(l.getD (belowF c l.length).1.toNat 0,(belowF c l.length).2)
theorem int_range {c:Cur}{n:Nat}(hn:0<n):inRange (belowF c n).1 n:=by
 have:=below_lt (c:=c) (n:=(n:Int)) (by omega)
 exact this
theorem int_mem {c:Cur}{l:List Int}(hl:0<l.length):(intF c l).1∈l:=by
 have:=below_lt (c:=c) (n:=(l.length:Int)) (by omega)
 show l.getD (belowF c l.length).1.toNat 0∈l
 rw[List.getD_eq_getElem?_getD,List.getElem?_eq_getElem (by omega)]
 exact List.getElem_mem _
theorem int_ok {c:Cur}{l:List Int}(h:curOk c):curOk (intF c l).2:=below_ok h
def curNewG (h:Int)(b:Int):Int:=and64 (IntKind.i64.wrap (IntKind.i64.wrap (IntKind.i64.wrap (h*137)+IntKind.i64.wrap b)+11)) 1073741823
noncomputable def n4k:Nat:=Classical.choose (⟨4000,rfl⟩:∃ n:Nat,n=4000)
theorem n4k_eq:n4k=4000:=Classical.choose_spec (⟨4000,rfl⟩:∃ n:Nat,n=4000)
noncomputable def curNewF (code:List Int):Cur:=(code,0,(code.take n4k).foldl curNewG (IntKind.i64.wrap (193017+(code.length:Int))))
end Fw
namespace Fw
open Go
theorem cT {α:Type}{b:Bool}{x y:α}(h:b=true):cond b x y=x:=by subst h;rfl
theorem cF {α:Type}{b:Bool}{x y:α}(h:b=false):cond b x y=y:=by subst h;rfl
theorem newCur_ok {code:List Int}(h:List.length code≤bigLen):curOk (curNewF code):=⟨Int.le_refl 0,h⟩
end Fw
namespace Fw
open Go
theorem cnLt {code:List Int}{i:Int}(h:pick2 (decide (i<(code.length:Int))) (decide (i<4000)) false=true):i<((code.take n4k).length:Int):=by
 obtain⟨h1,h2⟩:i<(code.length:Int)∧i<4000:=by
   revert h
   unfold pick2
   cases h1:decide (i<(code.length:Int))with
   | true=>intro h2;exact⟨of_decide_eq_true h1,of_decide_eq_true h2⟩
   | false=>intro h2;cases h2
 rw[List.length_take,n4k_eq];omega
theorem cnGe {code:List Int}{i:Int}(h:pick2 (decide (i<(code.length:Int))) (decide (i<4000)) false=false):¬i<((code.take n4k).length:Int):=by
 intro hl
 rw[List.length_take,n4k_eq]at hl
 have h1:decide (i<(code.length:Int))=true:=decide_eq_true (by omega)
 have h2:decide (i<4000)=true:=decide_eq_true (by omega)
 rw[h1,h2]at h;cases h
theorem cnRange {z:Int}{code:List Int}{h i:Int}(hI:foInv curNewG z (code.take n4k) h i)(hl:i<((code.take n4k).length:Int)):inRange i code.length:=by
 have:=foRange hI hl
 obtain⟨h1,h2⟩:=this
 rw[List.length_take]at h2
 exact⟨h1,by omega⟩
theorem cnElem {z:Int}{code:List Int}{h i:Int}(hI:foInv curNewG z (code.take n4k) h i)(hl:i<((code.take n4k).length:Int)):
   curNewG h (code.getD i.toNat 0)=curNewG h ((code.take n4k).getD i.toNat 0):=by
 obtain⟨h1,h2⟩:=foRange hI hl
 have hl2:i.toNat<(code.take n4k).length:=by omega
 congr 1
 rw[List.getD_eq_getElem?_getD,List.getD_eq_getElem?_getD,List.getElem?_take_of_lt (by rw[List.length_take]at hl2;omega)]
theorem cnEnd {code:List Int}{h i:Int}(hI:foInv curNewG (IntKind.i64.wrap (193017+(code.length:Int))) (code.take n4k) h i)(hl:¬i<((code.take n4k).length:Int)):
   ((code,(0:Int),h):Cur)=curNewF code:=by
 have:=foEnd hI hl
 unfold curNewF
 rw[this]
theorem cnBig (code:List Int):(code.take n4k).length≤bigLen:=by
 rw[List.length_take,n4k_eq];unfold bigLen;omega
end Fw
namespace Fw
open Go
end Fw
namespace Fw
open Go
def keysT:List Key:=[(1,90,1,0,501),(2,90,3,40,502),(11,1,1,0,511),(12,1,2,20,512),(13,2,3,40,513),(21,50,1,0,521),
 (31,81,1,0,531),(32,82,2,20,532),(33,83,3,40,533),(34,84,4,60,534)]
def authsT:List Authority:=[(1,31,1),(2,32,2),(3,33,1),(4,34,0)]
def isStatusF (x:Status):Bool:=pick2 (pick2 (pick2 (inRangeF x.1 1 999) (isTimeF x.2.1) false) (inRangeF x.2.2.1 (-1) (IntKind.i64.wrap (x.2.1+1))) false) (inRangeF x.2.2.2.1 1 99) false
def statusIntsF (x:Status):List Int:=[102,x.1,x.2.1,x.2.2.1,x.2.2.2.1]
def makeStatusF (keys:List Key)(x:Status):Status×Bool:=
 cond (pick2 (!(isStatusF x)) true (decide (keyI keys x.2.2.2.1<0))) ((0,0,0,0,0),false) ((x.1,x.2.1,x.2.2.1,x.2.2.2.1,markWithF (keyAt keys x.2.2.2.1) (statusIntsF x)),true)
def makeMandF (keys:List Key)(x:Mandate):Mandate×Bool:=
 cond (pick2 (!(isMandF x)) true (decide (keyI keys x.2.2.2.2.1<0))) ((0,0,0,0,0,0),false) ((x.1,x.2.1,x.2.2.1,x.2.2.2.1,x.2.2.2.2.1,markWithF (keyAt keys x.2.2.2.2.1) (mandIntsF x)),true)
def signDigestF (keys:List Key)(x:Sig):Sig×Bool:=
 cond (pick2 (!(isSigF x)) true (decide (keyI keys x.1<0))) ((0,0,0,0,0,0,0,0,0),false)
   ((x.1,x.2.1,x.2.2.1,x.2.2.2.1,x.2.2.2.2.1,x.2.2.2.2.2.1,x.2.2.2.2.2.2.1,x.2.2.2.2.2.2.2.1,markWithF (keyAt keys x.1) (sigIntsF x)),true)
def issueCertF (keys:List Key)(x:Cert):Cert×Bool:=
 cond (pick2 (pick2 (!(isCertF x)) true (decide (keyI keys x.2.2.2.2.2.1<0))) true (decide (keyI keys x.2.1<0))) ((0,0,0,0,0,0,0),false)
   ((x.1,x.2.1,x.2.2.1,x.2.2.2.1,x.2.2.2.2.1,x.2.2.2.2.2.1,markWithF (keyAt keys x.2.2.2.2.2.1) (certIntsF x)),true)
noncomputable def signDocF (keys:List Key)(key serial method:Int)(d:Doc)(commit:Int):Sig×Bool:=
 signDigestF keys (key,serial,method,docDigF method d,commit,0,0,0,0)
def certPieceF (x:Cert):Piece:=(x.2.2.2.2.2.1,certIntsF x,x.2.2.2.2.2.2)
def statusPieceF (x:Status):Piece:=(x.2.2.2.1,statusIntsF x,x.2.2.2.2)
def mandPieceF (x:Mandate):Piece:=(x.2.2.2.2.1,mandIntsF x,x.2.2.2.2.2)
def certsT:List Cert:=[(issueCertF keysT (1,11,1,0,60,1,0)).1,(issueCertF keysT (2,12,1,20,100,1,0)).1,(issueCertF keysT (3,13,2,40,150,2,0)).1]
theorem orT {a b:Bool}(h:pick2 a true b=false):a=false∧b=false:=by cases a<;>cases b<;>first | exact⟨rfl,rfl⟩ | cases h
theorem sgRange {α:Type}{b:Bool}{l:List α}{p:α→Bool}(h:pick2 b true (decide (findI p l<0))=false):inRange (findI p l) l.length:=
 findRange (of_decide_eq_false (orT h).2)
theorem icRange {α:Type}{b e:Bool}{l:List α}{p:α→Bool}(h:pick2 (pick2 b true (decide (findI p l<0))) true e=false):inRange (findI p l) l.length:=sgRange (orT h).1
def saltF (seed title:Int)(k:Nat):Int:=max 1 (keyedF seed [title,(k:Int)])
def saltsF (seed title:Int)(n:Nat):List Int:=(List.range n).map (saltF seed title)
theorem salts_succ (seed title:Int)(n:Nat):saltsF seed title (n+1)=saltsF seed title n++[saltF seed title n]:=by
 unfold saltsF;rw[List.range_succ,List.map_append];rfl
noncomputable def makeDocF (title:Int)(parts:List (List UInt8))(seed:Int):Doc×Bool:=
 cond (pick2 (!(docF (title,parts,saltsF seed title parts.length))) true (!(validKeyF seed))) ((0,[],[]),false) ((title,parts,saltsF seed title parts.length),true)
def mdInv (title:Int)(parts:List (List UInt8))(seed:Int)(d:Doc)(i:Int):Prop:=∃ k:Nat,k≤parts.length∧i=k∧d=(title,parts,saltsF seed title k)
section
variable {title seed i:Int} {parts:List (List UInt8)} {d:Doc}
theorem mdStart:mdInv title parts seed (title,parts,[]) 0:=⟨0,Nat.zero_le _,rfl,rfl⟩
theorem mdLen (h:mdInv title parts seed d i)(hs:parts.length≤big20):List.length d.2.2+1≤maxApp:=by
 obtain⟨k,h1,_,rfl⟩:=h
 show (saltsF seed title k).length+1≤maxApp
 unfold saltsF maxApp;unfold big20 at hs
 rw[List.length_map,List.length_range];omega
theorem mdStep (h:mdInv title parts seed d i)(hl:i<(parts.length:Int))(hs:parts.length≤big20){d':Doc}(e:d'=(d.1,d.2.1,d.2.2++[max 1 (keyedF seed [title,i])])):
   mdInv title parts seed d' (IntKind.i64.wrap (i+1))∧((parts.length:Int)-IntKind.i64.wrap (i+1)).toNat<((parts.length:Int)-i).toNat:=by
 obtain⟨k,h1,rfl,rfl⟩:=h
 unfold big20 at hs
 rw[w64 (by omega) (by omega)]
 exact⟨⟨k+1,by omega,rfl,by rw[e,salts_succ];rfl⟩,by omega⟩
theorem mdEnd (h:mdInv title parts seed d i)(hl:¬i<(parts.length:Int)):d=(title,parts,saltsF seed title parts.length):=by
 obtain⟨k,h1,rfl,rfl⟩:=h
 have:k=parts.length:=by omega
 rw[this]
theorem md0 (h:mdInv title parts seed d i)(hl:¬i<(parts.length:Int))(g:pick2 (!(docF d)) true (!(validKeyF seed))=true):makeDocF title parts seed=((0,[],[]),false):=by
 rw[mdEnd h hl]at g;exact cT g
theorem md1 (h:mdInv title parts seed d i)(hl:¬i<(parts.length:Int))(g:pick2 (!(docF d)) true (!(validKeyF seed))=false):makeDocF title parts seed=(d,true):=by
 rw[mdEnd h hl]at *;exact cF g
end
def itF {σ:Type}(S:σ→σ):Nat→σ→σ
 | 0,s=>s
 | k+1,s=>S (itF S k s)
def dnInv {σ:Type}(S:σ→σ)(s0:σ)(n:Int)(s:σ)(i:Int):Prop:=∃ k:Nat,s=itF S k s0∧i=n-k∧(k=0∨(k:Int)≤n)∧0≤n∧n≤1000000
section
variable {σ:Type} {S:σ→σ} {s0 s:σ} {n i:Int}
theorem dnStart (h:0≤n∧n≤1000000):dnInv S s0 n s0 n:=⟨0,rfl,by omega,.inl rfl,h.1,h.2⟩
theorem dnStep (h:dnInv S s0 n s i)(hl:i>0):dnInv S s0 n (S s) (IntKind.i64.wrap (i-1))∧(IntKind.i64.wrap (i-1)).toNat<i.toNat:=by
 obtain⟨k,rfl,rfl,h1,h2,h3⟩:=h
 rw[w64 (by omega) (by omega)]
 exact⟨⟨k+1,rfl,by omega,.inr (by omega),h2,h3⟩,by omega⟩
theorem dnEnd (h:dnInv S s0 n s i)(hl:¬i>0):s=itF S n.toNat s0:=by
 obtain⟨k,rfl,rfl,h1,h2,h3⟩:=h
 have:k=n.toNat:=by omega
 rw[this]
theorem dnAll (P:σ→Nat→Prop)(h0:P s0 0)(hS:∀ s k,P s k→P (S s) (k+1)):∀ k,P (itF S k s0) k
 | 0=>h0
 | k+1=>hS _ _ (dnAll P h0 hS k)
theorem dnP (P:σ→Nat→Prop)(h0:P s0 0)(hS:∀ s k,P s k→P (S s) (k+1))(h:dnInv S s0 n s i):∃ k:Nat,(k:Int)≤n∧P s k:=by
 obtain⟨k,rfl,rfl,h1,h2,h3⟩:=h
 exact⟨k,by omega,dnAll P h0 hS k⟩
end
noncomputable def strF (c:Cur)(l:List (List UInt8)):List UInt8×Cur:=(l.getD (belowF c l.length).1.toNat [],(belowF c l.length).2)
def textsT:List (List UInt8):=[[],[97],[98],[97,98],[121,101,115],[110,111],[111,110,101,32,104,117,110,100,114,101,100]]
noncomputable def wordF (c:Cur):List UInt8×Cur:=strF c textsT
theorem str_mem {c:Cur}{l:List (List UInt8)}(hl:0<l.length):(strF c l).1∈l:=by
 have:=below_lt (c:=c) (n:=(l.length:Int)) (by omega)
 show l.getD (belowF c l.length).1.toNat []∈l
 rw[List.getD_eq_getElem?_getD,List.getElem?_eq_getElem (by omega)]
 exact List.getElem_mem _
theorem text_len (c:Cur):(wordF c).1.length≤11:=by
 have h:=str_mem (c:=c) (l:=textsT) (by decide)
 have key:∀ s∈textsT,s.length≤11:=by decide
 exact key _ h
theorem text_ok {c:Cur}(h:curOk c):curOk (wordF c).2:=below_ok h
noncomputable def partS (s:Cur×List (List UInt8)):Cur×List (List UInt8):=((wordF s.1).2,s.2++[(wordF s.1).1])
noncomputable def partsD (c:Cur):Cur×List (List UInt8):=itF partS (IntKind.i64.wrap (1+(belowF c 3).1)).toNat ((belowF c 3).2,[])
noncomputable def docD (c:Cur):Doc×Cur:=((makeDocF (belowF (partsD c).1 5).1 (partsD c).2 11).1,(belowF (partsD c).1 5).2)
def partP (s:Cur×List (List UInt8))(k:Nat):Prop:=curOk s.1∧s.2.length=k∧∀ x∈s.2,x.length≤11
theorem partS_P (s:Cur×List (List UInt8))(k:Nat)(h:partP s k):partP (partS s) (k+1):=by
 obtain⟨h1,h2,h3⟩:=h
 refine⟨text_ok h1,by show (s.2++[_]).length=_;rw[List.length_append,h2];rfl,fun x hx=>?_⟩
 rcases List.mem_append.1 hx with hx | hx
 · exact h3 x hx
 · rw[List.mem_singleton.1 hx];exact text_len _
theorem bel3n (c:Cur):0≤IntKind.i64.wrap (1+(belowF c 3).1)∧IntKind.i64.wrap (1+(belowF c 3).1)≤1000000∧1≤(IntKind.i64.wrap (1+(belowF c 3).1)).toNat∧(IntKind.i64.wrap (1+(belowF c 3).1)).toNat≤3:=by
 have h:=below_lt (c:=c) (n:=3) (by decide)
 generalize (belowF c 3).1=x at *
 rw[w64 (by omega) (by omega)];omega
theorem parts_P {c:Cur}(h:curOk c):partP (partsD c) (IntKind.i64.wrap (1+(belowF c 3).1)).toNat:=
 dnAll partP ⟨below_ok h,rfl,by simp⟩ partS_P _
theorem docD_ok {c:Cur}(h:curOk c):curOk (docD c).2:=below_ok (parts_P h).1
theorem tmod_up {x n:Int}(hn:0<n):x.tmod n<n:=Int.tmod_lt_of_pos x hn
theorem hstep_lt (h v:Int):hstep h v<2147483647:=by unfold hstep;exact tmod_up (by decide)
theorem hash_lt (l:List Int)(h:l≠[]):hashF l<2147483647:=by
 unfold hashF
 obtain⟨a,b,rfl⟩:∃ a b,l=a++[b]:=⟨l.dropLast,l.getLast h,(List.dropLast_concat_getLast h).symm⟩
 rw[List.foldl_append];exact hstep_lt _ _
theorem keyed_lt (k:Int)(l:List Int):keyedF k l<2147483647:=hash_lt _ (by simp)
theorem modF_range (v:Int):0≤modF v 2147483647∧modF v 2147483647<2147483647:=by
 have e:modF v 2147483647=(IntKind.i64.wrap (v.tmod 2147483647+2147483647)).tmod 2147483647:=if_pos (by decide)
 rw[e]
 have h1:=Int.tmod_lt_of_pos v (show (0:Int)<2147483647 by decide)
 have h2:-2147483647<v.tmod 2147483647:=by
   have:=Int.tmod_lt_of_pos (-v) (show (0:Int)<2147483647 by decide)
   rw[Int.neg_tmod]at this;omega
 rw[w64 (by omega) (by omega)]
 exact tmod_lt (by omega) (by decide)
theorem hstep_range {h v:Int}(h0:0≤h)(h1:h<2147483647):0≤hstep h v:=by
 unfold hstep
 have hm:=modF_range v
 generalize modF v 2147483647=m at *
 rw[w64 (x:=h*1000003) (by omega) (by omega),w64 (x:=h*1000003+m) (by omega) (by omega),w64 (by omega) (by omega)]
 exact(tmod_lt (by omega) (by decide)).1
theorem hash_range (l:List Int):0≤hashF l∧hashF l<2147483647:=by
 unfold hashF
 have key:∀ (l:List Int) (h:Int),0≤h→h<2147483647→0≤l.foldl hstep h∧l.foldl hstep h<2147483647:=by
   intro l
   induction l with
   | nil=>intro h h0 h1;exact⟨h0,h1⟩
   | cons a l ih=>intro h h0 h1;exact ih _ (hstep_range h0 h1) (hstep_lt _ _)
 exact key l 11 (by decide) (by decide)
theorem inR_iff {a b c:Int}:inRangeF a b c=true↔b≤a∧a≤c:=by
 unfold inRangeF pick2
 by_cases h1:b≤a<;>by_cases h2:a≤c<;>simp_all
theorem docD_doc {c:Cur}(h:curOk c):docF (docD c).1=true:=by
 have hp:=parts_P h
 obtain⟨h1,h2,h3⟩:=hp
 have hn:=bel3n c
 have ht:=below_lt (c:=(partsD c).1) (n:=5) (by decide)
 have hd:docF ((belowF (partsD c).1 5).1,(partsD c).2,saltsF 11 (belowF (partsD c).1 5).1 (partsD c).2.length)=true:=by
   refine boolC_iff.2 ⟨inR_iff.2 ⟨ht.1,?_⟩,inR_iff.2 ⟨?_,?_⟩,?_,fun k hk=>?_,fun k hk=>?_⟩
   · have:=ht.2;show (belowF (partsD c).1 5).1≤999;omega
   · show (1:Int)≤((partsD c).2.length:Int);omega
   · show ((partsD c).2.length:Int)≤6;omega
   · show (saltsF 11 _ (partsD c).2.length).length=(partsD c).2.length
     unfold saltsF;rw[List.length_map,List.length_range]
   · have hk:k<(partsD c).2.length:=hk
     have:=h3 (List.getD (partsD c).2 k (dflt .str)) (by rw[List.getD_eq_getElem?_getD,List.getElem?_eq_getElem hk];exact List.getElem_mem _)
     show ((List.getD (partsD c).2 k (dflt .str)).length:Int)≤40
     omega
   · have hk:k<(saltsF 11 (belowF (partsD c).1 5).1 (partsD c).2.length).length:=hk
     have hm:List.getD (saltsF 11 (belowF (partsD c).1 5).1 (partsD c).2.length) k (dflt (.int .i64))∈saltsF 11 (belowF (partsD c).1 5).1 (partsD c).2.length:=by
       rw[List.getD_eq_getElem?_getD,List.getElem?_eq_getElem hk];exact List.getElem_mem _
     obtain⟨j,_,hj⟩:=List.mem_map.1 hm
     show inRangeF (List.getD (saltsF 11 _ _) k (dflt (.int .i64))) 1 1000000000000=true
     rw[←hj]
     have:=keyed_lt 11 [(belowF (partsD c).1 5).1,(j:Int)]
     refine inR_iff.2 ⟨?_,?_⟩<;>(unfold saltF;omega)
 have e:(docD c).1=((belowF (partsD c).1 5).1,(partsD c).2,saltsF 11 (belowF (partsD c).1 5).1 (partsD c).2.length):=by
   show (makeDocF _ _ 11).1=_
   unfold makeDocF
   rw[hd];rfl
 rw[e];exact hd
theorem docD_leaf {c c2:Cur}{acc:List (List UInt8)}(hE:(c2,acc)=itF partS (IntKind.i64.wrap (1+(belowF c 3).1)).toNat ((belowF c 3).2,[])):
   docD c=((makeDocF (belowF c2 5).1 acc 11).1,(belowF c2 5).2):=by
 unfold docD partsD
 rw[←hE]
theorem dnApp {α:Type}{l:List α}{k:Nat}{n:Int}(h:l.length=k)(hk:(k:Int)≤n)(hn:n≤1000000):l.length+1≤maxApp:=by
 unfold maxApp;omega
theorem dnBig {α:Type}{l:List α}{k:Nat}{n:Int}(h:l.length=k)(hk:(k:Int)≤n)(hn:n≤1000000):l.length≤big20:=by
 unfold big20;omega
end Fw
namespace Fw
open Go
theorem belN {c:Cur}{n:Int}(hn:0<n)(hs:n≤1000000):0≤(belowF c n).1∧(belowF c n).1≤1000000:=by
 have:=below_lt (c:=c) hn;omega
noncomputable def stampD (c:Cur):Stamp×Cur:=
 ((makeStampF keysT authsT (IntKind.i64.wrap (1+(belowF c 4).1),(belowF (belowF c 4).2 9).1,(belowF (belowF (belowF c 4).2 9).2 60).1,(belowF (belowF (belowF (belowF c 4).2 9).2 60).2 99).1,0)).1,
   (belowF (belowF (belowF (belowF c 4).2 9).2 60).2 99).2)
noncomputable def dst1 (c:Cur):Int×Cur:=belowF c 60
noncomputable def dst2 (c:Cur):Int×Cur:=belowF (dst1 c).2 3
noncomputable def dst3 (c:Cur):Int×Cur:=belowF (dst2 c).2 2
noncomputable def dst4 (c:Cur):Bool×Cur:=onceF (dst3 c).2 3
noncomputable def dst5 (c:Cur):Int×Cur:=belowF (dst4 c).2 (IntKind.i64.wrap ((dst1 c).1+2))
noncomputable def statD (c:Cur):Status×Cur:=
 cond (dst4 c).1 ((makeStatusF keysT (IntKind.i64.wrap (1+(dst2 c).1),(dst1 c).1,(dst5 c).1,IntKind.i64.wrap (1+(dst3 c).1),0)).1,(dst5 c).2)
   ((makeStatusF keysT (IntKind.i64.wrap (1+(dst2 c).1),(dst1 c).1,-1,IntKind.i64.wrap (1+(dst3 c).1),0)).1,(dst4 c).2)
noncomputable def mandD (c:Cur):Mandate×Cur:=
 ((makeMandF keysT (50,IntKind.i64.wrap (1+(belowF (belowF c 40).2 2).1),(belowF c 40).1,IntKind.i64.wrap ((belowF c 40).1+(belowF (belowF (belowF c 40).2 2).2 30).1),21,0)).1,(belowF (belowF (belowF c 40).2 2).2 30).2)
noncomputable def gn1 (c:Cur):Int×Cur:=belowF (docD c).2 3
noncomputable def gn2 (c:Cur):Int×Cur:=belowF (gn1 c).2 3
noncomputable def signD (c:Cur):(Sig×Doc)×Cur:=
 (((signDocF keysT (IntKind.i64.wrap (11+(gn1 c).1)) (IntKind.i64.wrap (1+(gn1 c).1)) (IntKind.i64.wrap (1+(gn1 c).1)) (docD c).1 (IntKind.i64.wrap (1+(gn2 c).1))).1,(docD c).1),(gn2 c).2)
theorem once_ok {c:Cur}{n:Int}(h:curOk c):curOk (onceF c n).2:=below_ok h
theorem stampD_ok {c:Cur}(h:curOk c):curOk (stampD c).2:=below_ok (below_ok (below_ok (below_ok h)))
theorem dst4_ok {c:Cur}(h:curOk c):curOk (dst4 c).2:=below_ok (below_ok (below_ok (below_ok h)))
theorem statD_ok {c:Cur}(h:curOk c):curOk (statD c).2:=by
 unfold statD
 cases (dst4 c).1 with
 | true=>exact below_ok (dst4_ok h)
 | false=>exact dst4_ok h
theorem mandD_ok {c:Cur}(h:curOk c):curOk (mandD c).2:=below_ok (below_ok (below_ok h))
theorem signD_ok {c:Cur}(h:curOk c):curOk (signD c).2:=below_ok (below_ok (docD_ok h))
theorem gn1_lt (c:Cur):0≤(gn1 c).1∧(gn1 c).1<3:=below_lt (by decide)
theorem docDig_range {m:Int}{d:Doc}(h:docF d=true):0≤docDigF m d∧docDigF m d≤1000000000000:=by
 unfold docDigF
 rw[if_pos h,digest_eq]
 have:=hash_range ([7,m]++([d.1]++(List.range d.2.1.length).flatMap (docG m d)))
 omega
theorem andTT {a b:Bool}(h1:a=true)(h2:b=true):pick2 a b false=true:=by subst h1;subst h2;rfl
theorem signDoc_ok {n k:Int}{d:Doc}(hd:docF d=true)(hn:0≤n∧n<3)(hk:0≤k∧k<3):
   (signDocF keysT (IntKind.i64.wrap (11+n)) (IntKind.i64.wrap (1+n)) (IntKind.i64.wrap (1+n)) d (IntKind.i64.wrap (1+k))).1.2.1=1+n:=by
 rw[w64 (x:=11+n) (by omega) (by omega),w64 (x:=1+n) (by omega) (by omega),w64 (x:=1+k) (by omega) (by omega)]
 have hg:=docDig_range (m:=1+n) hd
 have hs:isSigF (11+n,1+n,1+n,docDigF (1+n) d,1+k,0,0,0,0)=true:=by
   unfold isSigF
   refine andTT (andTT (andTT (andTT (andTT (andTT (andTT ?_ ?_) ?_) ?_) ?_) ?_) ?_) ?_<;>refine inR_iff.2 ⟨?_,?_⟩<;>first | exact hg.1 | exact hg.2 | (show (0:Int)≤_;decide) | (show (_:Int)≤_;simp only[];omega)
 have hf:¬keyI keysT (11+n)<0:=by
   have h3:n=0∨n=1∨n=2:=by omega
   rcases h3 with rfl | rfl | rfl<;>decide
 unfold signDocF signDigestF
 rw[cF (by rw[hs];exact decide_eq_false hf)]
theorem signD_serial {c:Cur}(h:curOk c):(signD c).1.1.2.1=1+(gn1 c).1:=
 signDoc_ok (docD_doc h) (gn1_lt c) (below_lt (by decide))
theorem signD_idx {c:Cur}(h:curOk c):inRange (IntKind.i64.wrap ((signD c).1.1.2.1-1)) (List.length certsT):=by
 rw[signD_serial h]
 have:=gn1_lt c
 rw[w64 (by omega) (by omega)]
 show inRange _ 3
 exact⟨by omega,by omega⟩
def certAt (n:Int):Cert:=certsT.getD n.toNat (dflt (.pair TI (.pair TI (.pair TI (.pair TI (.pair TI (.pair TI TI)))))))
noncomputable def pieceD (c:Cur):Piece×Cur:=
 cond ((belowF c 5).1==0) (certPieceF (certAt (belowF (belowF c 5).2 3).1),(belowF (belowF c 5).2 3).2)
   (cond ((belowF c 5).1==1) (statusPieceF (statD (belowF c 5).2).1,(statD (belowF c 5).2).2)
     (cond ((belowF c 5).1==2) (stampPieceF (stampKeyF authsT (stampD (belowF c 5).2).1) (stampD (belowF c 5).2).1,(stampD (belowF c 5).2).2)
       (cond ((belowF c 5).1==3) (signPieceF (signD (belowF c 5).2).1.1,(signD (belowF c 5).2).2)
         (mandPieceF (mandD (belowF c 5).2).1,(mandD (belowF c 5).2).2))))
theorem pieceD_ok {c:Cur}(h:curOk c):curOk (pieceD c).2:=by
 have hb:=below_ok (n:=5) h
 unfold pieceD
 cases (belowF c 5).1==0 with
 | true=>exact below_ok hb
 | false=>cases (belowF c 5).1==1 with
   | true=>exact statD_ok hb
   | false=>cases (belowF c 5).1==2 with
     | true=>exact stampD_ok hb
     | false=>cases (belowF c 5).1==3 with
       | true=>exact signD_ok hb
       | false=>exact mandD_ok hb
theorem pcSm {k m:Int}{l:List Int}(h:l.length≤9):Sm big20 TPiece (k,l,m):=⟨trivial,⟨Nat.le_trans h (by decide),fun _ _=>trivial⟩,trivial⟩
theorem signPiece_sm (x:Sig):Sm big20 TPiece (signPieceF x):=pcSm (Nat.le_of_ble_eq_true rfl)
theorem certPiece_sm (x:Cert):Sm big20 TPiece (certPieceF x):=pcSm (Nat.le_of_ble_eq_true rfl)
theorem statPiece_sm (x:Status):Sm big20 TPiece (statusPieceF x):=pcSm (Nat.le_of_ble_eq_true rfl)
theorem stampPiece_sm (k:Int)(x:Stamp):Sm big20 TPiece (stampPieceF k x):=pcSm (Nat.le_of_ble_eq_true rfl)
theorem mandPiece_sm (x:Mandate):Sm big20 TPiece (mandPieceF x):=pcSm (Nat.le_of_ble_eq_true rfl)
theorem pieceD_sm (c:Cur):Sm big20 TPiece (pieceD c).1:=by
 unfold pieceD
 cases (belowF c 5).1==0 with
 | true=>exact certPiece_sm _
 | false=>cases (belowF c 5).1==1 with
   | true=>exact statPiece_sm _
   | false=>cases (belowF c 5).1==2 with
     | true=>exact stampPiece_sm _ _
     | false=>cases (belowF c 5).1==3 with
       | true=>exact signPiece_sm _
       | false=>exact mandPiece_sm _
theorem addPiece_sm {s:Strand}{p:Piece}(hs:Sm big20 TStrand s)(hp:Sm big20 TPiece p):Sm big20 TStrand (addPieceF s p).1:=by
 unfold addPieceF
 split
 · rename_i h
   have h1:=(boolC_iff.1 h).1
   have h2:=(inR_iff.1 h1).2
   refine⟨⟨?_,fun x hx=>?_⟩,hs.2⟩
   · show (s.1++[p]).length≤big20
     have h2:(((s.1++[p]).length:Nat):Int)≤12:=h2
     unfold big20;omega
   · rcases List.mem_append.1 hx with hx | hx
     · exact hs.1.2 x hx
     · rw[List.mem_singleton.1 hx];exact hp
 · exact hs
theorem addRen_sm {s:Strand}{r:Renewal}(hs:Sm big20 TStrand s)(hr:Sm big20 TRen r):Sm big20 TStrand (addRenF s r).1:=by
 unfold addRenF
 split
 · rename_i h
   have h1:=(boolC_iff.1 h).2.1
   refine⟨hs.1,⟨?_,fun x hx=>?_⟩⟩
   · show (s.2++[r]).length≤big20
     have h1:(((s.2++[r]).length:Nat):Int)≤8:=h1
     unfold big20;omega
   · rcases List.mem_append.1 hx with hx | hx
     · exact hs.2.2 x hx
     · rw[List.mem_singleton.1 hx];exact hr
 · exact hs
noncomputable def sg1 (c:Cur):(Sig×Doc)×Cur:=signD c
noncomputable def sgCert (c:Cur):Cert:=certAt (IntKind.i64.wrap ((sg1 c).1.1.2.1-1))
noncomputable def sgS (c:Cur):Strand:=([signPieceF (sg1 c).1.1,certPieceF (sgCert c)],[])
noncomputable def sg2 (c:Cur):Int×Cur:=intF (sg1 c).2 [10,30,60,90]
noncomputable def sgA (c:Cur):Status:=(makeStatusF keysT ((sg1 c).1.1.2.1,(sg2 c).1,-1,(sgCert c).2.2.2.2.2.1,0)).1
noncomputable def sg3 (c:Cur):Bool×Cur:=onceF (sg2 c).2 4
noncomputable def sg4 (c:Cur):Bool×Cur:=onceF (sg3 c).2 4
noncomputable def sgT (c:Cur)(s:Strand):(Strand×Doc×Sig)×Cur:=
 cond (sg4 c).1 (((addPieceF s (pieceD (sg4 c).2).1).1,(sg1 c).1.2,(sg1 c).1.1),(pieceD (sg4 c).2).2) ((s,(sg1 c).1.2,(sg1 c).1.1),(sg4 c).2)
noncomputable def signedRaw (c:Cur):(Strand×Doc×Sig)×Cur:=cond (!(sg3 c).1) (sgT c (addPieceF (sgS c) (statusPieceF (sgA c))).1) (sgT c (sgS c))
theorem signedEx:∃ f:Cur→(Strand×Doc×Sig)×Cur,∀ c,f c=signedRaw c:=⟨signedRaw,fun _=>rfl⟩
noncomputable def signedD (c:Cur):(Strand×Doc×Sig)×Cur:=Classical.choose signedEx c
theorem signed_eq (c:Cur):signedD c=signedRaw c:=Classical.choose_spec signedEx c
theorem sg2_ok {c:Cur}(h:curOk c):curOk (sg2 c).2:=int_ok (signD_ok h)
theorem sg3_ok {c:Cur}(h:curOk c):curOk (sg3 c).2:=once_ok (sg2_ok h)
theorem sg4_ok {c:Cur}(h:curOk c):curOk (sg4 c).2:=once_ok (sg3_ok h)
theorem sgS_sm (c:Cur):Sm big20 TStrand (sgS c):=by
 refine⟨⟨Nat.le_of_ble_eq_true rfl,fun x hx=>?_⟩,⟨Nat.zero_le _,fun x hx=>by simp[sgS]at hx⟩⟩
 have hx:x∈[signPieceF (sg1 c).1.1,certPieceF (sgCert c)]:=hx
 rcases List.mem_cons.1 hx with rfl | hx
 · exact signPiece_sm _
 · rw[List.mem_singleton.1 hx];exact certPiece_sm _
theorem sgS2_sm (c:Cur):Sm big20 TStrand (addPieceF (sgS c) (statusPieceF (sgA c))).1:=addPiece_sm (sgS_sm c) (statPiece_sm _)
def sgP (x:(Strand×Doc×Sig)×Cur):Prop:=Sm big20 TStrand x.1.1∧curOk x.2
theorem sgT_P {c:Cur}{s:Strand}(h:curOk c)(hs:Sm big20 TStrand s):sgP (sgT c s):=by
 unfold sgT
 cases (sg4 c).1 with
 | true=>exact⟨addPiece_sm hs (pieceD_sm _),pieceD_ok (sg4_ok h)⟩
 | false=>exact⟨hs,sg4_ok h⟩
theorem signed_P {c:Cur}(h:curOk c):sgP (signedD c):=by
 rw[signed_eq]
 unfold signedRaw
 cases (sg3 c).1 with
 | true=>exact sgT_P h (sgS_sm c)
 | false=>exact sgT_P h (sgS2_sm c)
noncomputable def leafS (s:Cur×List Int):Cur×List Int:=((belowF s.1 99).2,s.2++[(belowF s.1 99).1])
noncomputable def leavesC (c:Cur)(most:Int):Cur×List Int:=itF leafS (belowF c most).1.toNat ((belowF c most).2,[])
noncomputable def leavesD (c:Cur)(most:Int):List Int×Cur:=((leavesC c most).2,(leavesC c most).1)
def leafP (s:Cur×List Int)(k:Nat):Prop:=curOk s.1∧s.2.length=k
theorem leafS_P (s:Cur×List Int)(k:Nat)(h:leafP s k):leafP (leafS s) (k+1):=
 ⟨below_ok h.1,by show (s.2++[_]).length=_;rw[List.length_append,h.2];rfl⟩
theorem leaves_P {c:Cur}{most:Int}(h:curOk c):leafP (leavesC c most) (belowF c most).1.toNat:=dnAll leafP ⟨below_ok h,rfl⟩ leafS_P _
theorem leaves_ok {c:Cur}{most:Int}(h:curOk c):curOk (leavesD c most).2:=(leaves_P h).1
theorem leaves_len {c:Cur}{most:Int}(h:curOk c)(hm:0<most∧most≤1000):(leavesD c most).1.length≤1000:=by
 have h1:(leavesC c most).2.length=_:=(leaves_P (most:=most) h).2
 have:=below_lt (c:=c) hm.1
 show (leavesC c most).2.length≤1000
 rw[h1];omega
theorem leaves_leaf {c c2:Cur}{acc:List Int}{most:Int}(hE:(c2,acc)=itF leafS (belowF c most).1.toNat ((belowF c most).2,[])):leavesD c most=(acc,c2):=by
 unfold leavesD leavesC
 rw[←hE]
def rmList (others:List Int)(leaf:Int):List Int:=([]++others)++[leaf]
noncomputable def rmBase (m leaf:Int)(others:List Int)(count:Int)(acc:List Stamp):Renewal:=
 (count,m,treeF m (rmList others leaf),pathF m (rmList others leaf) (IntKind.i64.wrap (((rmList others leaf).length:Int)-1)),acc)
noncomputable def rmG (keys:List Key)(l:List Authority)(m leaf:Int)(others:List Int)(seq t:Int)(id:Int):Stamp×Bool:=makeStampF keys l (id,seq,t,treeF m (rmList others leaf),0)
noncomputable def renMakeF (keys:List Key)(l:List Authority)(m leaf:Int)(others:List Int)(count:Int)(ids:List Int)(seq t:Int):Renewal:=
 rmBase m leaf others count (pickF (rmG keys l m leaf others seq t) ids)
theorem pathF_len16 (m:Int)(l:List Int)(i:Int):(pathF m l i).length≤16:=by
 unfold pathF
 split
 · rename_i h;exact pathL_len m 16 l i h.2.2
 · exact Nat.zero_le _
theorem renMake_sm {keys:List Key}{l:List Authority}{m leaf:Int}{others:List Int}{count:Int}{ids:List Int}{seq t:Int}(h:ids.length≤1000):Sm big20 TRen (renMakeF keys l m leaf others count ids seq t):=by
 refine⟨trivial,trivial,trivial,⟨Nat.le_trans (pathF_len16 _ _ _) (by decide),fun _ _=>⟨trivial,trivial⟩⟩,⟨?_,fun _ _=>⟨trivial,trivial,trivial,trivial,trivial⟩⟩⟩
 exact Nat.le_trans (pick_len _ _) (Nat.le_trans h (by decide))
def renQ (s:Strand)(m:Int):Renewal:=((s.1.length:Int),m,0,[],[])
theorem renQ_sm (s:Strand)(m:Int):Sm big20 TRen (renQ s m):=⟨trivial,trivial,trivial,⟨Nat.zero_le _,fun _ h=>by simp[renQ]at h⟩,⟨Nat.zero_le _,fun _ h=>by simp[renQ]at h⟩⟩
noncomputable def longF (s:Strand)(m:Int):Strand×Bool:=addRenF s (renQ s m)
noncomputable def leafR (s:Strand)(d:Doc)(m:Int):Int:=leafAtF (longF s m).1 (docDigsF (longF s m).1 d) (IntKind.i64.wrap (((longF s m).1.2.length:Int)-1))
noncomputable def renNew (c:Cur)(s:Strand)(d:Doc)(m t:Int)(ids:List Int):Renewal:=
 renMakeF keysT authsT m (leafR s d m) (leavesD c 4).1 (s.1.length:Int) ids (belowF (leavesD c 4).2 9).1 t
noncomputable def renTail (c:Cur)(s:Strand)(d:Doc)(m t:Int)(ids:List Int):Strand×Cur:=((addRenF s (renNew c s d m t ids)).1,(belowF (leavesD c 4).2 9).2)
noncomputable def renewRaw (c:Cur)(s:Strand)(d:Doc)(m t:Int):Strand×Cur:=
 cond (!(longF s m).2) (s,c) (cond (onceF c 3).1 (renTail (onceF c 3).2 s d m t [1,3,4]) (renTail (onceF c 3).2 s d m t [1,2,3,4]))
theorem renewEx:∃ f:Cur→Strand→Doc→Int→Int→Strand×Cur,∀ c s d m t,f c s d m t=renewRaw c s d m t:=⟨renewRaw,fun _ _ _ _ _=>rfl⟩
noncomputable def renewD (c:Cur)(s:Strand)(d:Doc)(m t:Int):Strand×Cur:=Classical.choose renewEx c s d m t
theorem renew_eq (c:Cur)(s:Strand)(d:Doc)(m t:Int):renewD c s d m t=renewRaw c s d m t:=Classical.choose_spec renewEx c s d m t
theorem long_sm {s:Strand}{m:Int}(h:Sm big20 TStrand s):Sm big20 TStrand (longF s m).1:=addRen_sm h (renQ_sm s m)
theorem long_len {s:Strand}{m:Int}(h:Sm big20 TStrand s):List.length (longF s m).1.2≤2000000:=Nat.le_trans (long_sm h).2.1 (by decide)
theorem renNew_sm {c:Cur}{s:Strand}{d:Doc}{m t:Int}{ids:List Int}(h:ids.length≤1000):Sm big20 TRen (renNew c s d m t ids):=renMake_sm h
def rnP (x:Strand×Cur):Prop:=Sm big20 TStrand x.1∧curOk x.2
theorem renTail_P {c:Cur}{s:Strand}{d:Doc}{m t:Int}{ids:List Int}(hc:curOk c)(hs:Sm big20 TStrand s)(hi:ids.length≤1000):rnP (renTail c s d m t ids):=
 ⟨addRen_sm hs (renNew_sm hi),below_ok (leaves_ok hc)⟩
theorem renew_P {c:Cur}{s:Strand}{d:Doc}{m t:Int}(hc:curOk c)(hs:Sm big20 TStrand s):rnP (renewD c s d m t):=by
 rw[renew_eq]
 unfold renewRaw
 cases (longF s m).2 with
 | false=>exact⟨hs,hc⟩
 | true=>cases (onceF c 3).1 with
   | true=>exact renTail_P (once_ok hc) hs (Nat.le_of_ble_eq_true rfl)
   | false=>exact renTail_P (once_ok hc) hs (Nat.le_of_ble_eq_true rfl)
theorem certIdx (c:Cur):inRange (belowF c 3).1 (List.length certsT):=int_range (n:=3) (by decide)
theorem rmApp {others:List Int}(h:others.length≤1000):0+others.length≤maxApp∧([]++others).length+1≤maxApp:=by
 unfold maxApp;simp only[List.nil_append];omega
end Fw
namespace Fw
open Go
def Sh.frzIn:Sh→Sh
 | .own e=>.own (.pure e.ty)
 | .pair a b=>.pair a.frzIn b.frzIn
 | s=>s
theorem Sh.frzIn_ty:∀ s:Sh,s.frzIn.ty=s.ty
 | .own _=>rfl
 | .pair a b=>by show Ty.pair _ _=Ty.pair _ _;rw[Sh.frzIn_ty a,Sh.frzIn_ty b]
 | .pure _=>rfl
 | .nil _=>rfl
 | .ref _=>rfl
 | .hole _=>rfl
theorem GroupsO.pures {α:Type}{p q:List Value→α→List Nat→Prop}{sz:Nat}:∀ (xs:List α) (vs:List Value) (bs:List Nat),
   (∀ x∈xs,∀ cs b,(∀ i∈b,i∈bs)→p cs x b→q cs x [])→GroupsO p sz vs xs bs→GroupsO q sz vs xs []
 | [],_,_,_,_=>rfl
 | x::xs,vs,bs,h,⟨v1,v2,b1,b2,h1,h2,h3,h4,h5⟩=>
   ⟨v1,v2,[],[],h1,h2,rfl,h x (by simp) v1 b1 (fun i hi=>by rw[h3];simp[hi]) h4,
     GroupsO.pures xs v2 b2 (fun y hy cs b hb=>h y (by simp[hy]) cs b (fun i hi=>by rw[h3];simp[hb i hi])) h5⟩
theorem frzIn_enc {M:Mem}{R:RowFn}:∀ (s:Sh) (x:El s.ty) (y:El s.frzIn.ty) (cs:List Value) (bs:List Nat),s.noref=true→HEq x y→EncO M R s cs x bs→
   ∃ b1 b2,bs.Perm (b1++b2)∧∀ M',M.le M'→(∀ b∈b2,∀ row,R b=some row→CellsAt M' b 0 row)→EncO M' R s.frzIn cs y b1
 | .pure t,x,y,cs,bs,_,he,h=>by
   cases he
   exact⟨bs,[],by simp,fun M' hM _=>EncO.mono hM (.pure t) cs x bs (fun _ _=>rfl) h⟩
 | .nil t,x,y,cs,bs,_,he,h=>by
   cases he
   exact⟨bs,[],by simp,fun M' hM _=>EncO.mono hM (.nil t) cs x bs (fun _ _=>rfl) h⟩
 | .hole t,x,y,cs,bs,hn,_,_=>by simp[Sh.noref]at hn
 | .ref s,x,y,cs,bs,hn,_,_=>by simp[Sh.noref]at hn
 | .own e,xs,ys,cs,bs,hn,he,h=>by
   cases he
   have hn:e.noref=true:=hn
   rcases h with h | ⟨b,cap,row,bss,h1,h2,h3,h4,h5,h6,h7⟩
   · exact⟨[],[],by rw[h.1];simp,fun M' _ _=>.inl ⟨rfl,h.2⟩⟩
   · refine⟨[b],bss,by rw[h1];simp,fun M' hM hc=>.inr ⟨b,cap,row,[],rfl,h2,h3,h4,h5,?_,?_⟩⟩
     · show row.length=cap*e.ty.size
       rw[←Sh.size_ty e hn];exact h6
     · show GroupsO (EncO M' R (.pure e.ty)) e.ty.size row xs []
       rw[←Sh.size_ty e hn]
       exact GroupsO.pures xs row bss (fun x _ cs b' hb' hp=>⟨rfl,EncO.toEnc hM e cs x b' hn (fun i hi=>hc i (hb' i hi)) hp⟩) h7
 | .pair a b,x,y,cs,bs,hn,he,⟨v1,v2,c1,c2,h1,h2,h3,h4⟩=>by
   simp only[Sh.noref,Bool.and_eq_true]at hn
   obtain⟨e1,e2⟩:=heq_pair (Sh.frzIn_ty a).symm (Sh.frzIn_ty b).symm he
   obtain⟨p1,p2,hp,kp⟩:=frzIn_enc a x.1 y.1 v1 c1 hn.1 e1 h3
   obtain⟨q1,q2,hq,kq⟩:=frzIn_enc b x.2 y.2 v2 c2 hn.2 e2 h4
   refine⟨p1++q1,p2++q2,?_,fun M' hM hc=>⟨v1,v2,p1,q1,h1,rfl,kp M' hM (fun i hi=>hc i (by simp[hi])),kq M' hM (fun i hi=>hc i (by simp[hi]))⟩⟩
   rw[h2]
   refine(hp.append hq).trans ?_
   rw[List.append_assoc,List.append_assoc]
   refine List.Perm.append_left p1 ?_
   rw[←List.append_assoc,←List.append_assoc]
   exact List.Perm.append_right q2 List.perm_append_comm
end Fw
namespace Fw
open Go
section
variable {n B:Nat} {X:List Nat} {w0:World} {M0 M:Mem} {ω:Own} {ρ:Env} {tmps:Array Value} {w:World}
theorem part_ok (S:St0 n B X w0 M0 M ω ρ tmps w){j:Nat}(hj:j<n)(b2:List Nat)(hb2:∀ b∈b2,ω b=some j){s':Sh}{y:El s'.ty}
   (hnew:M.le (partM M w b2)→(∀ b∈b2,∀ row,rows w b=some row→CellsAt (partM M w b2) b 0 row)→Owns (partM M w b2) (partω ω b2) w j s' y (tmps.getD j undef)):
   St0 n B X w0 M0 (partM M w b2) (partω ω b2) (ρ.puts [⟨j,true,.c s' y⟩]) tmps w:=by
 have hM:M.le (partM M w b2):=fun b o v hm=>by unfold partM;rw[hm]
 have hcell:∀ b∈b2,∀ row,rows w b=some row→CellsAt (partM M w b2) b 0 row:=by
   intro b hb row hrow i c hc
   unfold partM
   rw[(S.dis b j (hb2 b hb)).2.2 (0+i)]
   simp only[hb,if_true]
   exact rows_full hrow i c hc
 have hget:(ρ.puts [⟨j,true,.c s' y⟩]).get j=⟨(ρ.get j).g,(ρ.get j).ver+1,.c s' y⟩:=by
   show (ρ.put ⟨j,true,.c s' y⟩).get j=_
   rw[Env.get_put];simp
 refine S.step [⟨j,true,.c s' y⟩] S.size (Fr.refl _ _ _) hM ?_ ?_ ?_ (fun _ _=>rfl) (by intro x hx;simp at hx;subst hx;exact hj) ?_ ?_
 · intro b o hb hx
   unfold partM
   cases hm:M b o with
   | some u=>rfl
   | none=>
     simp only
     rw[if_neg]
     intro h1
     rcases (S.dis b j (hb2 b h1)).1 with h2 | h2
     · omega
     · exact hx h2
 · intro b o v hm
   unfold partM at hm
   cases he:M b o with
   | some u=>rw[he]at hm;simp only[Option.some.injEq]at hm;subst hm;exact S.mem b o u he
   | none=>
     rw[he]at hm
     simp only at hm
     split at hm
     · exact hm
     · cases hm
 · intro b k hk
   unfold partω at hk
   split at hk
   · cases hk
   · rename_i hne
     obtain⟨h1,h2,h3⟩:=S.dis b k hk
     refine⟨h1,h2,fun o=>?_⟩
     unfold partM
     rw[h3 o]
     simp only[if_neg hne]
 · intro t _ hne b hb
   have:t≠j:=fun e=>hne _ (List.mem_singleton.2 rfl) e.symm
   refine⟨?_,rfl⟩
   unfold partω
   rw[if_neg (fun h1=>this (by have:=hb2 b h1;rw[hb]at this;simpa using this))]
   exact hb
 · intro t ⟨x,hx,hxt⟩ _
   simp at hx;subst hx
   have:t=j:=hxt.symm
   subst this
   rw[hget]
   exact hnew hM hcell
end
section
variable {G:Cfg} {ρ:Env} {K:Exit→Env→Prop}
theorem perm_facts {bs b1 b2:List Nat}(hp:bs.Perm (b1++b2))(hn:bs.Nodup):b1.Nodup∧(∀ b∈b1,b∈bs∧b∉b2)∧∀ b∈b2,b∈bs:=by
 have h1:=hp.nodup_iff.1 hn
 rw[List.nodup_append]at h1
 refine⟨h1.1,fun b hb=>⟨hp.mem_iff.2 (List.mem_append.2 (.inl hb)),fun h2=>h1.2.2 b hb b h2 rfl⟩,fun b hb=>hp.mem_iff.2 (List.mem_append.2 (.inr hb))⟩
theorem Vc.frzIR {c:Code}(j:Nat){s:Sh}{x:El s.ty}(h:(ρ.get j).a=.c (.ref s) x)(hn:s.noref=true)(y:El s.frzIn.ty)(hy:HEq x y)
   (hK:Vc G c (ρ.puts [⟨j,true,.c (.ref s.frzIn) y⟩]) K):Vc G c ρ K:=by
 intro a w hd ⟨⟨M,ω,S⟩,hpn⟩
 have hj:j<G.C.n:=by
   rcases Nat.lt_or_ge j G.C.n with h' | h'
   · exact h'
   · rw[S.high j h']at h;cases h
 have hr:=S.slots j hj
 rw[h]at hr
 obtain⟨cs,bs,h1,⟨b,row,bss,g1,g2,g3,g4⟩,h3,h4⟩:=(show Owns M ω w j (.ref s) x _ from hr)
 subst g1
 obtain⟨b1,b2,hp,hk⟩:=frzIn_enc s x y row bss hn hy g4
 have h3':=List.nodup_cons.1 h3
 obtain⟨p1,p2,p3⟩:=perm_facts hp h3'.2
 refine hK a w hd ⟨⟨_,_,part_ok S hj b2 (fun b hb=>h4 b (by simp[p3 b hb])) fun hM hc=>?_⟩,hpn⟩
 have hb0:b∉b2:=fun hb=>h3'.1 (p3 b hb)
 refine⟨cs,b::b1,h1,⟨b,row,b1,rfl,g2,g3,hk _ hM hc⟩,List.nodup_cons.2 ⟨fun hb=>h3'.1 (p2 b hb).1,p1⟩,fun b' hb'=>?_⟩
 unfold partω
 rcases List.mem_cons.1 hb' with rfl | hb'
 · rw[if_neg hb0];exact h4 b' (by simp)
 · rw[if_neg (p2 b' hb').2];exact h4 b' (by simp[(p2 b' hb').1])
end
end Fw
namespace Fw
open Go
set_option linter.unusedSimpArgs false
theorem sm_up {n m:Nat}(h:n≤m):∀ (t:Ty) (x:El t),Sm n t x→Sm m t x
 | .int _,_,_=>trivial
 | .bool,_,_=>trivial
 | .str,_,_=>trivial
 | .arr _ _,_,_=>trivial
 | .slice e,_,g=>⟨Nat.le_trans g.1 h,fun y hy=>sm_up h e y (g.2 y hy)⟩
 | .pair a b,x,g=>⟨sm_up h a x.1 g.1,sm_up h b x.2 g.2⟩
def cellsMax (n:Nat):Ty→Nat
 | .slice e=>n*cellsMax n e
 | .pair a b=>cellsMax n a+cellsMax n b
 | .arr _ _=>0
 | _=>1
theorem cellsL_max {α:Type}(c:α→Nat)(m:Nat):∀ l:List α,(∀ x∈l,c x≤m)→cellsL c l≤l.length*m
 | [],_=>Nat.zero_le _
 | x::r,h=>by
   have h1:=h x (by simp)
   have h2:=cellsL_max c m r fun y hy=>h y (by simp[hy])
   show c x+cellsL c r≤(r.length+1)*m
   rw[Nat.add_mul,Nat.one_mul];omega
theorem cells_max (n:Nat):∀ (t:Ty) (x:El t),Sm n t x→cellsC t x≤cellsMax n t
 | .int _,_,_=>Nat.le_refl _
 | .bool,_,_=>Nat.le_refl _
 | .str,_,_=>Nat.le_refl _
 | .arr _ _,_,_=>Nat.le_refl _
 | .slice e,x,g=>Nat.le_trans (cellsL_max (cellsC e) (cellsMax n e) x fun y hy=>cells_max n e y (g.2 y hy)) (Nat.mul_le_mul_right _ g.1)
 | .pair a b,x,g=>Nat.add_le_add (cells_max n a x.1 g.1) (cells_max n b x.2 g.2)
def stOk (p:Piece):Prop:=(pieceStatF p).1.2.1≤9999∧(pieceStatF p).1.2.2.1≤9999
theorem stOk_no {p:Piece}(h:hdP p≠102):stOk p:=by
 have e:pieceStatF p=((0,0,0,0,0),false):=by
   refine ps0 ?_
   have hk:(kindF p != 102)=true:=by
     refine bne_iff_ne.2 ?_
     unfold kindF
     split
     · decide
     · exact h
   unfold psBad
   rw[hk];rfl
 unfold stOk
 rw[e]
 exact⟨by decide,by decide⟩
theorem stOk_st {x:Status}(h1:x.2.1≤9999)(h2:x.2.2.1≤9999):stOk (statusPieceF x):=by
 unfold stOk pieceStatF
 split
 · exact⟨by decide,by decide⟩
 · exact⟨h1,h2⟩
def tinyP (p:Piece):Prop:=Sm 64 TPiece p∧stOk p
def tinyS (s:Strand):Prop:=Sm 64 TStrand s∧∀ p∈s.1,stOk p
theorem pcSm64 {k m:Int}{l:List Int}(h:l.length≤9):Sm 64 TPiece (k,l,m):=⟨trivial,⟨Nat.le_trans h (by decide),fun _ _=>trivial⟩,trivial⟩
theorem tiny_sign (x:Sig):tinyP (signPieceF x):=⟨pcSm64 (Nat.le_of_ble_eq_true rfl),stOk_no (by show (104:Int)≠102;decide)⟩
theorem tiny_cert (x:Cert):tinyP (certPieceF x):=⟨pcSm64 (Nat.le_of_ble_eq_true rfl),stOk_no (by show (101:Int)≠102;decide)⟩
theorem tiny_stamp (k:Int)(x:Stamp):tinyP (stampPieceF k x):=⟨pcSm64 (Nat.le_of_ble_eq_true rfl),stOk_no (by show (103:Int)≠102;decide)⟩
theorem tiny_mand (x:Mandate):tinyP (mandPieceF x):=⟨pcSm64 (Nat.le_of_ble_eq_true rfl),stOk_no (by show (105:Int)≠102;decide)⟩
theorem tiny_stat {x:Status}(h1:x.2.1≤9999)(h2:x.2.2.1≤9999):tinyP (statusPieceF x):=⟨pcSm64 (Nat.le_of_ble_eq_true rfl),stOk_st h1 h2⟩
theorem tiny_make {keys:List Key}{x:Status}(h1:x.2.1≤9999)(h2:x.2.2.1≤9999):tinyP (statusPieceF (makeStatusF keys x).1):=by
 unfold makeStatusF
 cases pick2 (!(isStatusF x)) true (decide (keyI keys x.2.2.2.1<0))with
 | true=>exact tiny_stat (x:=(0,0,0,0,0)) (show (0:Int)≤9999 by decide) (show (0:Int)≤9999 by decide)
 | false=>exact tiny_stat (x:=(x.1,x.2.1,x.2.2.1,x.2.2.2.1,markWithF (keyAt keys x.2.2.2.1) (statusIntsF x))) h1 h2
theorem tiny_statD (c:Cur):tinyP (statusPieceF (statD c).1):=by
 have h1:=below_lt (c:=c) (n:=60) (by decide)
 have h2:0≤(dst1 c).1∧(dst1 c).1<60:=h1
 unfold statD
 cases (dst4 c).1 with
 | true=>
   have h3:0≤(dst5 c).1∧(dst5 c).1<IntKind.i64.wrap ((dst1 c).1+2):=below_lt (by rw[w64 (by omega) (by omega)];omega)
   rw[w64 (by omega) (by omega)]at h3
   exact tiny_make (by show (dst1 c).1≤9999;omega) (by show (dst5 c).1≤9999;omega)
 | false=>exact tiny_make (by show (dst1 c).1≤9999;omega) (by show (-1:Int)≤9999;decide)
theorem tiny_pieceD (c:Cur):tinyP (pieceD c).1:=by
 unfold pieceD
 cases (belowF c 5).1==0 with
 | true=>exact tiny_cert _
 | false=>cases (belowF c 5).1==1 with
   | true=>exact tiny_statD _
   | false=>cases (belowF c 5).1==2 with
     | true=>exact tiny_stamp _ _
     | false=>cases (belowF c 5).1==3 with
       | true=>exact tiny_sign _
       | false=>exact tiny_mand _
theorem tiny_add {s:Strand}{p:Piece}(hs:tinyS s)(hp:tinyP p):tinyS (addPieceF s p).1:=by
 unfold addPieceF
 split
 · rename_i h
   have h1:=(boolC_iff.1 h).1
   have h2:=(inR_iff.1 h1).2
   refine⟨⟨⟨?_,fun x hx=>?_⟩,hs.1.2⟩,fun x hx=>?_⟩
   · show (s.1++[p]).length≤64
     have h2:(((s.1++[p]).length:Nat):Int)≤12:=h2
     omega
   · rcases List.mem_append.1 hx with hx | hx
     · exact hs.1.1.2 x hx
     · rw[List.mem_singleton.1 hx];exact hp.1
   · rcases List.mem_append.1 hx with hx | hx
     · exact hs.2 x hx
     · rw[List.mem_singleton.1 hx];exact hp.2
 · exact hs
theorem tiny_ren {s:Strand}{r:Renewal}(hs:tinyS s)(hr:Sm 64 TRen r):tinyS (addRenF s r).1:=by
 unfold addRenF
 split
 · rename_i h
   have h1:=(boolC_iff.1 h).2.1
   refine⟨⟨hs.1.1,⟨?_,fun x hx=>?_⟩⟩,hs.2⟩
   · show (s.2++[r]).length≤64
     have h1:(((s.2++[r]).length:Nat):Int)≤8:=h1
     omega
   · rcases List.mem_append.1 hx with hx | hx
     · exact hs.1.2.2 x hx
     · rw[List.mem_singleton.1 hx];exact hr
 · exact hs
theorem ren64 {keys:List Key}{l:List Authority}{m leaf:Int}{others:List Int}{count:Int}{ids:List Int}{seq t:Int}(h:ids.length≤4):Sm 64 TRen (renMakeF keys l m leaf others count ids seq t):=by
 refine⟨trivial,trivial,trivial,⟨Nat.le_trans (pathF_len16 _ _ _) (by decide),fun _ _=>⟨trivial,trivial⟩⟩,⟨?_,fun _ _=>⟨trivial,trivial,trivial,trivial,trivial⟩⟩⟩
 exact Nat.le_trans (pick_len _ _) (Nat.le_trans h (by decide))
theorem tiny_renew {c:Cur}{s:Strand}{d:Doc}{m t:Int}(hs:tinyS s):tinyS (renewD c s d m t).1:=by
 rw[renew_eq]
 unfold renewRaw
 cases (longF s m).2 with
 | false=>exact hs
 | true=>cases (onceF c 3).1 with
   | true=>exact tiny_ren hs (ren64 (Nat.le_of_ble_eq_true rfl))
   | false=>exact tiny_ren hs (ren64 (Nat.le_of_ble_eq_true rfl))
theorem tiny_sgS (c:Cur):tinyS (sgS c):=by
 have k:∀ x∈(sgS c).1,tinyP x:=fun x hx=>by
   have hx:x∈[signPieceF (sg1 c).1.1,certPieceF (sgCert c)]:=hx
   rcases List.mem_cons.1 hx with rfl | hx
   · exact tiny_sign _
   · rw[List.mem_singleton.1 hx];exact tiny_cert _
 exact⟨⟨⟨Nat.le_of_ble_eq_true rfl,fun x hx=>(k x hx).1⟩,⟨Nat.zero_le _,fun x hx=>by simp[sgS]at hx⟩⟩,fun x hx=>(k x hx).2⟩
theorem tiny_sgA (c:Cur):tinyP (statusPieceF (sgA c)):=by
 have h:(sg2 c).1∈([10,30,60,90]:List Int):=int_mem (by decide)
 have k:∀ x∈([10,30,60,90]:List Int),x≤9999:=by decide
 exact tiny_make (by show (sg2 c).1≤9999;exact k _ h) (by show (-1:Int)≤9999;decide)
theorem tiny_sgT {c:Cur}{s:Strand}(h:tinyS s):tinyS (sgT c s).1.1:=by
 unfold sgT
 cases (sg4 c).1 with
 | true=>exact tiny_add h (tiny_pieceD _)
 | false=>exact h
theorem tiny_signed (c:Cur):tinyS (signedD c).1.1:=by
 rw[signed_eq]
 unfold signedRaw
 cases (sg3 c).1 with
 | true=>exact tiny_sgT (tiny_sgS c)
 | false=>exact tiny_sgT (tiny_add (tiny_sgS c) (tiny_sgA c))
theorem tiny_big {s:Strand}(h:tinyS s):Sm big20 TStrand s:=sm_up (by decide) _ _ h.1
def tinyE (e:Evidence):Prop:=Sm 64 TEv e∧∀ s∈e.1,∀ p∈s.1,stOk p
theorem tinyE_big {e:Evidence}(h:tinyE e):Sm big20 TEv e:=sm_up (by decide) _ _ h.1
theorem tinyE_cells {e:Evidence}(h:Sm 64 TEv e):((cellsC TEv e:Nat):Int)≤2000000000:=by
 have h1:=cells_max 64 TEv e h
 have h2:cellsMax 64 TEv≤2000000000:=by decide
 omega
theorem tinyE_join {a b:Evidence}(ha:tinyE a)(hb:tinyE b)(h1:List.length a.1+List.length b.1≤64)(h2:List.length a.2+List.length b.2≤64):tinyE (joinEvF a b):=by
 refine⟨⟨⟨?_,fun s hs=>?_⟩,⟨?_,fun s hs=>?_⟩⟩,fun s hs=>?_⟩
 · exact Nat.le_trans (newL_len (q:=eqC) b.1 a.1) h1
 · rcases (newL_mem b.1 a.1).1 hs with hs | hs
   · exact ha.1.1.2 s hs
   · exact hb.1.1.2 s hs
 · exact Nat.le_trans (newL_len (q:=eqC) b.2 a.2) h2
 · rcases (newL_mem b.2 a.2).1 hs with hs | hs
   · exact ha.1.2.2 s hs
   · exact hb.1.2.2 s hs
 · rcases (newL_mem b.1 a.1).1 hs with hs | hs
   · exact ha.2 s hs
   · exact hb.2 s hs
end Fw
namespace Fw
open Go
set_option linter.unusedSimpArgs false
def methsT:List Method:=[(1,0,40,50),(2,20,80,70),(3,40,120,200),(4,60,10001,10001)]
noncomputable def fm1 (c:Cur):Int×Cur:=belowF c 2
noncomputable def fm2 (c:Cur):Int×Cur:=intF (fm1 c).2 [20,45,60,75,100,150,300]
noncomputable def frameD (c:Cur):Frame×Cur:=((keysT,authsT,methsT,(fm1 c).1,(fm2 c).1),(fm2 c).2)
theorem frameD_ok {c:Cur}(h:curOk c):curOk (frameD c).2:=int_ok (below_ok h)
def fzG (t id:Int):Stamp:=(makeStampF keysT authsT (id,1,t,5,0)).1
theorem freshEx:∃ f:Int→List Stamp,∀ t,f t=[fzG t 1,fzG t 2,fzG t 3,fzG t 4]:=⟨fun t=>[fzG t 1,fzG t 2,fzG t 3,fzG t 4],fun _=>rfl⟩
noncomputable def freshD (t:Int):List Stamp:=Classical.choose freshEx t
theorem freshD_eq (t:Int):freshD t=[fzG t 1,fzG t 2,fzG t 3,fzG t 4]:=Classical.choose_spec freshEx t
theorem freshD_len (t:Int):(freshD t).length=4:=by rw[freshD_eq];rfl
def fzInv (t:Int)(acc:List Stamp)(id:Int):Prop:=∃ k:Nat,k≤4∧id=(k:Int)+1∧acc=(freshD t).take k
section
variable {t id:Int} {acc:List Stamp}
theorem fzStart:fzInv t [] 1:=⟨0,by decide,rfl,rfl⟩
theorem fzLen (h:fzInv t acc id):List.length acc+1≤maxApp:=by
 obtain⟨k,h1,_,rfl⟩:=h
 rw[List.length_take];unfold maxApp;omega
theorem fzStep (h:fzInv t acc id)(hl:id≤4){acc':List Stamp}(e:acc'=acc++[fzG t id]):fzInv t acc' (IntKind.i64.wrap (id+1))∧(5-IntKind.i64.wrap (id+1)).toNat<(5-id).toNat:=by
 obtain⟨k,h1,rfl,rfl⟩:=h
 rw[w64 (by omega) (by omega)]
 refine⟨⟨k+1,by omega,by omega,?_⟩,by omega⟩
 have hk:k=0∨k=1∨k=2∨k=3:=by omega
 rw[e,freshD_eq]
 rcases hk with rfl | rfl | rfl | rfl<;>rfl
theorem fzEnd (h:fzInv t acc id)(hl:¬id≤4):acc=freshD t:=by
 obtain⟨k,h1,rfl,rfl⟩:=h
 exact List.take_of_length_le (by rw[freshD_len];omega)
end
theorem freshD_sm (t:Int):Sm 64 (.slice TStamp) (freshD t):=⟨by rw[freshD_len];decide,fun _ _=>⟨trivial,trivial,trivial,trivial,trivial⟩⟩
noncomputable def renS (d:Doc)(L:List Int)(z:Cur×Strand×Int):Cur×Strand×Int:=
 ((intF (renewD (belowF z.1 4).2 z.2.1 d (IntKind.i64.wrap (1+(belowF z.1 4).1)) z.2.2).2 L).2,(renewD (belowF z.1 4).2 z.2.1 d (IntKind.i64.wrap (1+(belowF z.1 4).1)) z.2.2).1,
   IntKind.i64.wrap (z.2.2+(intF (renewD (belowF z.1 4).2 z.2.1 d (IntKind.i64.wrap (1+(belowF z.1 4).1)) z.2.2).2 L).1))
def rsP2 (z:Cur×Strand×Int)(_:Nat):Prop:=curOk z.1∧tinyS z.2.1
theorem renS_P (d:Doc)(L:List Int)(z:Cur×Strand×Int)(k:Nat)(h:rsP2 z k):rsP2 (renS d L z) (k+1):=
 ⟨int_ok (renew_P (below_ok h.1) (tiny_big h.2)).2,tiny_renew h.2⟩
noncomputable def ca1 (c:Cur):Bool×Cur:=onceF (signedD c).2 2
noncomputable def ca2 (c:Cur):Int×Cur:=intF (ca1 c).2 [2,22,42]
noncomputable def caF (c:Cur):List Stamp:=freshD (ca2 c).1
noncomputable def ca3 (c:Cur):Bool×Cur:=onceF (ca2 c).2 4
noncomputable def caQ (c:Cur):Sig:=(signedD c).1.2.2
noncomputable def caX (c:Cur)(org:Int):Sig:=
 ((caQ c).1,(caQ c).2.1,(caQ c).2.2.1,(caQ c).2.2.2.1,(caQ c).2.2.2.2.1,org,(caQ c).2.2.2.2.2.2.1,stampsDgF (caQ c).2.2.1 (caF c),(caQ c).2.2.2.2.2.2.2.2)
noncomputable def caY (c:Cur)(org:Int):Sig:=(signDigestF keysT (caX c org)).1
noncomputable def caS0 (c:Cur)(org:Int):Strand:=((signedD c).1.1.1.set 0 (signPieceF (caY c org)),(signedD c).1.1.2)
noncomputable def caAdd (fr:List Stamp)(s:Strand)(i:Int):Strand:=(addPieceF s (stampPieceF (IntKind.i64.wrap (31+i)) (fr.getD i.toNat (dflt TStamp)))).1
noncomputable def caS4 (c:Cur)(org:Int):Strand:=[0,1,2,3].foldl (caAdd (caF c)) (caS0 c org)
noncomputable def caM (c:Cur)(org:Int):Mandate:=(makeMandF keysT (50,ownerF keysT (caY c org).1,0,90,21,0)).1
noncomputable def caS5 (c:Cur)(org:Int):Strand:=(addPieceF (caS4 c org) (mandPieceF (caM c org))).1
def caInv (fr:List Stamp)(s0 s:Strand)(i:Int):Prop:=∃ k:Nat,k≤4∧i=k∧s=(([0,1,2,3]:List Int).take k).foldl (caAdd fr) s0
section
variable {fr:List Stamp} {s0 s s':Strand} {i:Int}
theorem caStart:caInv fr s0 s0 0:=⟨0,by decide,rfl,rfl⟩
theorem caStep (h:caInv fr s0 s i)(hl:i<4)(e:s'=caAdd fr s i):caInv fr s0 s' (IntKind.i64.wrap (i+1))∧(4-IntKind.i64.wrap (i+1)).toNat<(4-i).toNat:=by
 obtain⟨k,h1,rfl,rfl⟩:=h
 rw[w64 (by omega) (by omega)]
 refine⟨⟨k+1,by omega,by omega,?_⟩,by omega⟩
 have hk:k=0∨k=1∨k=2∨k=3:=by omega
 rw[e]
 rcases hk with rfl | rfl | rfl | rfl<;>rfl
theorem caEnd (h:caInv fr s0 s i)(hl:¬i<4):s=[0,1,2,3].foldl (caAdd fr) s0:=by
 obtain⟨k,h1,rfl,rfl⟩:=h
 have:k=4:=by omega
 subst this;rfl
theorem caRange (h:caInv fr s0 s i)(hl:i<4)(hf:List.length fr=4):inRange i (List.length fr):=by
 obtain⟨k,h1,rfl,rfl⟩:=h
 rw[hf]
 exact⟨by omega,by omega⟩
theorem caTiny (h:caInv fr s0 s i)(h0:tinyS s0):tinyS s:=by
 obtain⟨k,h1,_,rfl⟩:=h
 have key:∀ (l:List Int) (s:Strand),tinyS s→tinyS (l.foldl (caAdd fr) s):=by
   intro l
   induction l with
   | nil=>intro s h;exact h
   | cons a r ih=>intro s h;exact ih _ (tiny_add h (tiny_stamp _ _))
 exact key _ _ h0
end
theorem sgAdd_pos (s:Strand)(p:Piece)(h:0<s.1.length):0<(addPieceF s p).1.1.length:=by
 unfold addPieceF
 split
 · show 0<(s.1++[p]).length
   rw[List.length_append];omega
 · exact h
theorem signed_pos (c:Cur):0<(signedD c).1.1.1.length:=by
 rw[signed_eq]
 unfold signedRaw
 have k0:0<(sgS c).1.length:=by show 0<2;decide
 have key:∀ s:Strand,0<s.1.length→0<(sgT c s).1.1.1.length:=by
   intro s h
   unfold sgT
   cases (sg4 c).1 with
   | true=>exact sgAdd_pos _ _ h
   | false=>exact h
 cases (sg3 c).1 with
 | true=>exact key _ k0
 | false=>exact key _ (sgAdd_pos _ _ k0)
theorem caS0_tiny (c:Cur)(org:Int):tinyS (caS0 c org):=by
 have h:=tiny_signed c
 have k:∀ x∈(signedD c).1.1.1.set 0 (signPieceF (caY c org)),tinyP x:=fun x hx=>by
   rcases List.mem_or_eq_of_mem_set hx with hx | rfl
   · exact⟨h.1.1.2 x hx,h.2 x hx⟩
   · exact tiny_sign _
 refine⟨⟨⟨?_,fun x hx=>(k x hx).1⟩,h.1.2⟩,fun x hx=>(k x hx).2⟩
 show (List.set _ _ _).length≤64
 rw[List.length_set];exact h.1.1.1
theorem caS4_tiny (c:Cur)(org:Int):tinyS (caS4 c org):=caTiny (i:=4) ⟨4,by decide,rfl,rfl⟩ (caS0_tiny c org)
theorem caS5_tiny (c:Cur)(org:Int):tinyS (caS5 c org):=tiny_add (caS4_tiny c org) (tiny_mand _)
theorem ca1_ok {c:Cur}(h:curOk c):curOk (ca1 c).2:=once_ok (signed_P h).2
theorem ca2_ok {c:Cur}(h:curOk c):curOk (ca2 c).2:=int_ok (ca1_ok h)
theorem ca3_ok {c:Cur}(h:curOk c):curOk (ca3 c).2:=once_ok (ca2_ok h)
noncomputable def co1 (c:Cur):Int×Cur:=intF c [5,25,45,48]
noncomputable def co2 (c:Cur):Int×Cur:=belowF (co1 c).2 4
noncomputable def coZ (d:Doc)(s:Strand)(c:Cur):Cur×Strand×Int:=itF (renS d [4,15,20]) (co2 c).1.toNat ((co2 c).2,s,(co1 c).1)
noncomputable def coS (d:Doc)(s:Strand)(z:Cur×List Strand):Cur×List Strand:=((coZ d s z.1).1,z.2++[(coZ d s z.1).2.1])
def coP (z:Cur×List Strand)(k:Nat):Prop:=curOk z.1∧(∀ s∈z.2,tinyS s)∧z.2.length=k
theorem co2_ok {c:Cur}(h:curOk c):curOk (co2 c).2:=below_ok (int_ok h)
theorem co2_n (c:Cur):0≤(co2 c).1∧(co2 c).1≤1000000:=belN (by decide) (by decide)
theorem coZ_P {d:Doc}{s:Strand}{c:Cur}(h:curOk c)(hs:tinyS s):rsP2 (coZ d s c) (co2 c).1.toNat:=dnAll rsP2 ⟨co2_ok h,hs⟩ (renS_P d _) _
theorem coS_P (d:Doc){s:Strand}(hs:tinyS s)(z:Cur×List Strand)(k:Nat)(h:coP z k):coP (coS d s z) (k+1):=by
 have h2:=coZ_P (d:=d) h.1 hs
 refine⟨h2.1,fun y hy=>?_,by show (z.2++[_]).length=_;rw[List.length_append,h.2.2];rfl⟩
 rcases List.mem_append.1 hy with hy | hy
 · exact h.2.1 y hy
 · rw[List.mem_singleton.1 hy];exact h2.2
noncomputable def cn1 (c:Cur):Int×Cur:=belowF c 2
noncomputable def cnN (c:Cur):Int:=IntKind.i64.wrap (1+(cn1 c).1)
theorem cnN_n (c:Cur):0≤cnN c∧cnN c≤1000000∧1≤(cnN c).toNat∧(cnN c).toNat≤2:=by
 have h:=below_lt (c:=c) (n:=2) (by decide)
 unfold cnN cn1
 generalize (belowF c 2).1=x at *
 rw[w64 (by omega) (by omega)];omega
noncomputable def caZ (d:Doc)(s:Strand)(c:Cur):Cur×List Strand:=itF (coS d s) (cnN c).toNat ((cn1 c).2,[])
theorem caZ_P {d:Doc}{s:Strand}{c:Cur}(h:curOk c)(hs:tinyS s):coP (caZ d s c) (cnN c).toNat:=dnAll coP ⟨below_ok h,by simp,rfl⟩ (coS_P d hs) _
noncomputable def caOut (d:Doc)(fr:List (List Stamp))(s:Strand)(x:Sig)(c:Cur):(Evidence×Doc×Sig)×Cur:=((((caZ d s c).2,fr),d,x),(caZ d s c).1)
noncomputable def caseRaw (c:Cur):(Evidence×Doc×Sig)×Cur:=
 cond (ca1 c).1 (cond (ca3 c).1 (caOut (signedD c).1.2.1 [caF c] (caS5 c 50) (caY c 50) (ca3 c).2) (caOut (signedD c).1.2.1 [caF c] (caS5 c (caQ c).2.2.2.2.2.1) (caY c (caQ c).2.2.2.2.2.1) (ca3 c).2))
   (caOut (signedD c).1.2.1 [] (signedD c).1.1 (caQ c) (ca1 c).2)
theorem caseEx:∃ f:Cur→(Evidence×Doc×Sig)×Cur,∀ c,f c=caseRaw c:=⟨caseRaw,fun _=>rfl⟩
noncomputable def caseD (c:Cur):(Evidence×Doc×Sig)×Cur:=Classical.choose caseEx c
theorem caseD_eq (c:Cur):caseD c=caseRaw c:=Classical.choose_spec caseEx c
def csP (r:(Evidence×Doc×Sig)×Cur):Prop:=tinyE r.1.1∧curOk r.2∧0<List.length r.1.1.1∧List.length r.1.1.1≤2∧List.length r.1.1.2≤1
theorem caOut_P {d:Doc}{fr:List (List Stamp)}{s:Strand}{x:Sig}{c:Cur}(h:curOk c)(hs:tinyS s)(hf:fr.length≤1∧∀ l∈fr,Sm 64 (.slice TStamp) l):csP (caOut d fr s x c):=by
 obtain⟨h1,h2,h3⟩:=caZ_P (d:=d) h hs
 have hn:=(cnN_n c).2.2
 refine⟨⟨⟨⟨?_,fun y hy=>(h2 y hy).1⟩,⟨Nat.le_trans hf.1 (by decide),hf.2⟩⟩,fun y hy=>(h2 y hy).2⟩,h1,?_,?_,hf.1⟩
 · show (caZ d s c).2.length≤64
   omega
 · show 0<(caZ d s c).2.length
   omega
 · show (caZ d s c).2.length≤2
   omega
theorem caF_one (c:Cur):List.length [caF c]≤1∧∀ l∈[caF c],Sm 64 (.slice TStamp) l:=⟨Nat.le_refl _,fun l hl=>by rw[List.mem_singleton.1 hl];exact freshD_sm _⟩
theorem caseD_P {c:Cur}(h:curOk c):csP (caseD c):=by
 rw[caseD_eq]
 unfold caseRaw
 cases (ca1 c).1 with
 | true=>cases (ca3 c).1 with
   | true=>exact caOut_P (ca3_ok h) (caS5_tiny c _) (caF_one c)
   | false=>exact caOut_P (ca3_ok h) (caS5_tiny c _) (caF_one c)
 | false=>exact caOut_P (ca1_ok h) (tiny_signed c) ⟨by decide,by simp⟩
noncomputable def bo0 (c:Cur):(Evidence×Doc×Sig)×Cur:=caseD (frameD c).2
noncomputable def boYs (c:Cur):Strand:=(((bo0 c).1.1.1.getD 0 (dflt TStrand)).1,[])
noncomputable def bo1 (c:Cur):Bool×Cur:=onceF (bo0 c).2 2
noncomputable def bo2 (c:Cur):Int×Cur:=intF (bo1 c).2 [20,40,70]
noncomputable def bo3 (c:Cur):Int×Cur:=intF (bo2 c).2 [-1,-1,20]
noncomputable def bo4 (c:Cur):Int×Cur:=belowF (bo3 c).2 2
noncomputable def boAs (c:Cur):Status:=(makeStatusF keysT ((bo0 c).1.2.2.2.1,(bo2 c).1,(bo3 c).1,IntKind.i64.wrap (1+(bo4 c).1),0)).1
noncomputable def boSs (c:Cur):Strand:=(addPieceF (boYs c) (statusPieceF (boAs c))).1
noncomputable def bn1 (c:Cur):Int×Cur:=intF c [8,28,44]
noncomputable def bn2 (c:Cur):Int×Cur:=belowF (bn1 c).2 3
noncomputable def bnN (c:Cur):Int:=IntKind.i64.wrap (1+(bn2 c).1)
noncomputable def bnZ (d:Doc)(s:Strand)(c:Cur):Cur×Strand×Int:=itF (renS d [4,15]) (bnN c).toNat ((bn2 c).2,s,(bn1 c).1)
noncomputable def bnOut (f:Frame)(a:Evidence)(d:Doc)(x:Sig)(s:Strand)(c:Cur):(Frame×Evidence×Evidence×Doc×Sig)×Cur:=
 cond (onceF (bnZ d s c).1 2).1 ((f,a,([(bnZ d s c).2.1],[freshD 22]),d,x),(onceF (bnZ d s c).1 2).2) ((f,a,([(bnZ d s c).2.1],[]),d,x),(onceF (bnZ d s c).1 2).2)
noncomputable def bothRaw (c:Cur):(Frame×Evidence×Evidence×Doc×Sig)×Cur:=
 cond (bo1 c).1 (bnOut (frameD c).1 (bo0 c).1.1 (bo0 c).1.2.1 (bo0 c).1.2.2 (boSs c) (bo4 c).2) (bnOut (frameD c).1 (bo0 c).1.1 (bo0 c).1.2.1 (bo0 c).1.2.2 (boYs c) (bo1 c).2)
theorem bothEx:∃ f:Cur→(Frame×Evidence×Evidence×Doc×Sig)×Cur,∀ c,f c=bothRaw c:=⟨bothRaw,fun _=>rfl⟩
noncomputable def bothD (c:Cur):(Frame×Evidence×Evidence×Doc×Sig)×Cur:=Classical.choose bothEx c
theorem bothD_eq (c:Cur):bothD c=bothRaw c:=Classical.choose_spec bothEx c
theorem bo0_P {c:Cur}(h:curOk c):csP (bo0 c):=caseD_P (frameD_ok h)
theorem bo1_ok {c:Cur}(h:curOk c):curOk (bo1 c).2:=once_ok (bo0_P h).2.1
theorem bo4_ok {c:Cur}(h:curOk c):curOk (bo4 c).2:=below_ok (int_ok (int_ok (bo1_ok h)))
theorem boIdx {c:Cur}(h:curOk c):inRange 0 (List.length (bo0 c).1.1.1):=by
 have:=(bo0_P h).2.2.1
 exact⟨Int.le_refl _,by omega⟩
theorem boYs_tiny {c:Cur}(h:curOk c):tinyS (boYs c):=by
 have hp:=bo0_P h
 have hm:(bo0 c).1.1.1.getD (0:Int).toNat (dflt TStrand)∈(bo0 c).1.1.1:=getD_mem (boIdx h) _
 have h2:=hp.1.2 _ hm
 exact⟨⟨(hp.1.1.1.2 _ hm).1,⟨Nat.zero_le _,fun x hx=>by simp[boYs]at hx⟩⟩,h2⟩
theorem boAs_tiny (c:Cur):tinyP (statusPieceF (boAs c)):=by
 have h1:(bo2 c).1∈([20,40,70]:List Int):=int_mem (by decide)
 have h2:(bo3 c).1∈([-1,-1,20]:List Int):=int_mem (by decide)
 have k1:∀ x∈([20,40,70]:List Int),x≤9999:=by decide
 have k2:∀ x∈([-1,-1,20]:List Int),x≤9999:=by decide
 exact tiny_make (by show (bo2 c).1≤9999;exact k1 _ h1) (by show (bo3 c).1≤9999;exact k2 _ h2)
theorem boSs_tiny {c:Cur}(h:curOk c):tinyS (boSs c):=tiny_add (boYs_tiny h) (boAs_tiny c)
theorem bn2_ok {c:Cur}(h:curOk c):curOk (bn2 c).2:=below_ok (int_ok h)
theorem bnN_n (c:Cur):0≤bnN c∧bnN c≤1000000:=by
 have h:=below_lt (c:=(bn1 c).2) (n:=3) (by decide)
 unfold bnN bn2
 generalize (belowF (bn1 c).2 3).1=x at *
 rw[w64 (by omega) (by omega)];omega
theorem bnZ_P {d:Doc}{s:Strand}{c:Cur}(h:curOk c)(hs:tinyS s):rsP2 (bnZ d s c) (bnN c).toNat:=dnAll rsP2 ⟨bn2_ok h,hs⟩ (renS_P d _) _
def bhP (r:(Frame×Evidence×Evidence×Doc×Sig)×Cur):Prop:=
 tinyE r.1.2.1∧tinyE r.1.2.2.1∧List.length r.1.2.1.1+List.length r.1.2.2.1.1≤64∧List.length r.1.2.1.2+List.length r.1.2.2.1.2≤64
theorem oneE_tiny {s:Strand}{fr:List (List Stamp)}(hs:tinyS s)(hf:fr.length≤1∧∀ l∈fr,Sm 64 (.slice TStamp) l):tinyE ([s],fr):=
 ⟨⟨⟨by show 1≤64;decide,fun y hy=>by rw[List.mem_singleton.1 hy];exact hs.1⟩,⟨Nat.le_trans hf.1 (by decide),hf.2⟩⟩,fun y hy=>by rw[List.mem_singleton.1 hy];exact hs.2⟩
theorem bnOut_P {f:Frame}{a:Evidence}{d:Doc}{x:Sig}{s:Strand}{c:Cur}(hc:curOk c)(hs:tinyS s)(ha:tinyE a∧List.length a.1≤2∧List.length a.2≤1):bhP (bnOut f a d x s c):=by
 have hz:=(bnZ_P (d:=d) hc hs).2
 unfold bnOut
 cases (onceF (bnZ d s c).1 2).1 with
 | true=>exact⟨ha.1,oneE_tiny hz ⟨Nat.le_refl _,fun l hl=>by rw[List.mem_singleton.1 hl];exact freshD_sm _⟩,by show List.length a.1+1≤64;omega,by show List.length a.2+1≤64;omega⟩
 | false=>exact⟨ha.1,oneE_tiny hz ⟨by decide,by simp⟩,by show List.length a.1+1≤64;omega,by show List.length a.2+0≤64;omega⟩
theorem bothD_P {c:Cur}(h:curOk c):bhP (bothD c):=by
 have h0:=bo0_P h
 rw[bothD_eq]
 unfold bothRaw
 cases (bo1 c).1 with
 | true=>exact bnOut_P (bo4_ok h) (boSs_tiny h) ⟨h0.1,h0.2.2.2⟩
 | false=>exact bnOut_P (bo1_ok h) (boYs_tiny h) ⟨h0.1,h0.2.2.2⟩
noncomputable def bothC (code:List Int):Frame×Evidence×Evidence×Doc×Sig:=(bothD (curNewF code)).1
end Fw
namespace Fw
open Go
theorem coStep {d:Doc}{s y:Strand}{c1 c2 c3:Cur}{L:List Strand}{t i n:Int}(h:dnInv (coS d s) (c1,[]) n (c2,L) i)(hl:i>0)(hE:(c3,y,t)=coZ d s c2):
   dnInv (coS d s) (c1,[]) n (c3,L++[y]) (IntKind.i64.wrap (i-1))∧(IntKind.i64.wrap (i-1)).toNat<i.toNat:=by
 have:=dnStep h hl
 unfold coS at this
 rw[←hE]at this
 exact this
theorem caOut_eq {d:Doc}{s:Strand}{x:Sig}{c c2:Cur}{fr:List (List Stamp)}{e:Evidence}(hF:e.2=fr)(hE:(c2,e.1)=itF (coS d s) (cnN c).toNat ((cn1 c).2,[])):caOut d fr s x c=((e,d,x),c2):=by
 unfold caOut caZ
 rw[←hE,←hF]
theorem bnOut_1 {f:Frame}{a:Evidence}{d:Doc}{x:Sig}{s y:Strand}{c c2:Cur}{t:Int}(hE:(c2,y,t)=itF (renS d [4,15]) (bnN c).toNat ((bn2 c).2,s,(bn1 c).1))(h:(onceF c2 2).1=true):
   bnOut f a d x s c=((f,a,([y],[freshD 22]),d,x),(onceF c2 2).2):=by
 unfold bnOut bnZ
 rw[←hE]
 exact cT h
theorem bnOut_0 {f:Frame}{a:Evidence}{d:Doc}{x:Sig}{s y:Strand}{c c2:Cur}{t:Int}(hE:(c2,y,t)=itF (renS d [4,15]) (bnN c).toNat ((bn2 c).2,s,(bn1 c).1))(h:(onceF c2 2).1=false):
   bnOut f a d x s c=((f,a,([y],[]),d,x),(onceF c2 2).2):=by
 unfold bnOut bnZ
 rw[←hE]
 exact cF h
theorem one0 {α:Type}{x:α}:inRange 0 (List.length [x]):=⟨Int.le_refl _,Int.ofNat_lt.2 (Nat.succ_pos 0)⟩
theorem fz_len (t:Int):List.length (freshD t)≤1048576:=by rw[freshD_len];decide
end Fw
namespace Fw
open Go
theorem coInv_P {d:Doc}{s:Strand}{c1 c2:Cur}{L:List Strand}{i:Int}(hc:curOk c1)(hs:tinyS s)(h:dnInv (coS d s) ((cn1 c1).2,[]) (cnN c1) (c2,L) i):curOk c2∧L.length+1≤maxApp:=by
 obtain⟨k,hk,h1,_,h2⟩:=dnP coP ⟨below_ok hc,by simp,rfl⟩ (coS_P d hs) h
 exact⟨h1,dnApp h2 hk (cnN_n c1).2.1⟩
theorem coIn_P {d:Doc}{s y:Strand}{c2 c3:Cur}{t j:Int}(hc:curOk c2)(hs:tinyS s)(h:dnInv (renS d [4,15,20]) ((co2 c2).2,s,(co1 c2).1) (co2 c2).1 (c3,y,t) j):curOk c3∧tinyS y:=by
 obtain⟨k,hk,h1,h2⟩:=dnP rsP2 ⟨co2_ok hc,hs⟩ (renS_P d _) h
 exact⟨h1,h2⟩
theorem bnIn_P {d:Doc}{s y:Strand}{c2 c3:Cur}{t j:Int}(hc:curOk c2)(hs:tinyS s)(h:dnInv (renS d [4,15]) ((bn2 c2).2,s,(bn1 c2).1) (bnN c2) (c3,y,t) j):curOk c3∧tinyS y:=by
 obtain⟨k,hk,h1,h2⟩:=dnP rsP2 ⟨bn2_ok hc,hs⟩ (renS_P d _) h
 exact⟨h1,h2⟩
theorem renOk {c:Cur}{s:Strand}{d:Doc}{m t:Int}(hc:curOk c)(hs:tinyS s):curOk (renewD c s d m t).2:=(renew_P hc (tiny_big hs)).2
end Fw
namespace Fw
open Go
set_option linter.unusedSimpArgs false
section
variable {f:Frame} {a b e:Evidence} {d:Doc} {x:Sig} {p:Piece}
section
variable {less more:List Piece} {k i:Int}
end
theorem moBad {v:Verdict}(h:(v.1 != v.1)=true):False:=bneT h rfl
theorem del_sub {α:Type}:∀ (l:List α) (n:Nat),(l.take n++l.drop (n+1)).Sublist l
 | [],n=>by simp
 | x::l,0=>by simp
 | x::l,n+1=>by
   show (x::(l.take n++l.drop (n+1))).Sublist (x::l)
   exact List.Sublist.cons_cons x (del_sub l n)
theorem sm_sub {code:Int}:∀ (n:Nat) (o:Evidence),n≤List.length o.1→List.length o.1≤bigLen→(judgeDocF f o d x).1=code→
   (smRun f d x code n o).1.Sublist o.1∧(smRun f d x code n o).2=o.2∧(judgeDocF f (smRun f d x code n o) d x).1=code
 | 0,o,_,_,h=>⟨List.Sublist.refl _,rfl,h⟩
 | n+1,o,hn,hb,h=>by
   show (smRun f d x code n (smStep f d x code o n)).1.Sublist o.1∧(smRun f d x code n (smStep f d x code o n)).2=o.2∧(judgeDocF f (smRun f d x code n (smStep f d x code o n)) d x).1=code
   have hr:inRange (n:Int) (List.length o.1):=⟨by omega,by omega⟩
   unfold smStep
   cases hd:((judgeDocF f (lessE o n) d x).1==code)with
   | true=>
     have e1:=less_len hr hb
     have e2:(lessE o n).1.Sublist o.1:=by rw[less_eq hr hb];exact del_sub _ _
     have:=sm_sub n (lessE o n) (by omega) (by omega) (beqI2 hd)
     show (smRun f d x code n (lessE o n)).1.Sublist o.1∧(smRun f d x code n (lessE o n)).2=o.2∧(judgeDocF f (smRun f d x code n (lessE o n)) d x).1=code
     exact⟨this.1.trans e2,this.2.1,this.2.2⟩
   | false=>exact sm_sub n o (by omega) hb h
theorem small_sub (hb:List.length e.1≤bigLen):(smallF f e d x).1.Sublist e.1∧(smallF f e d x).2=e.2∧(judgeDocF f (smallF f e d x) d x).1=(judgeDocF f e d x).1:=
 sm_sub (List.length e.1) e (Nat.le_refl _) hb rfl
theorem small_tiny (h:tinyE e):tinyE (smallF f e d x):=by
 have hs:=small_sub (f:=f) (d:=d) (x:=x) (Nat.le_trans h.1.1.1 (by decide))
 refine⟨⟨⟨Nat.le_trans hs.1.length_le h.1.1.1,fun s hm=>h.1.1.2 s (hs.1.subset hm)⟩,?_⟩,fun s hm=>h.2 s (hs.1.subset hm)⟩
 rw[hs.2.1];exact h.1.2
def cpG (n:Int)(s:Strand):Int:=IntKind.i64.wrap (n+(List.length s.1:Int))
theorem cp_val:∀ (l:List Strand) (n:Int),0≤n→n+64*l.length≤1000000→(∀ s∈l,List.length s.1≤64)→l.foldl cpG n=n+pieces l
 | [],n,_,_,_=>by simp[pieces,cellsL]
 | s::r,n,h0,h1,h2=>by
   have h3:=h2 s (by simp)
   rw[List.length_cons]at h1
   have e:cpG n s=n+(List.length s.1:Int):=w64 (by omega) (by omega)
   rw[List.foldl_cons,e,cp_val r _ (by omega) (by omega) (fun y hy=>h2 y (by simp[hy]))]
   have:pieces (s::r)=List.length s.1+pieces r:=rfl
   omega
theorem pieces_sub:∀ {l m:List Strand},l.Sublist m→pieces l≤pieces m
 | _,_,.slnil=>Nat.le_refl _
 | _,_,.cons (l₂:=m) y h=>by
   have:=pieces_sub h
   have e:pieces (y::m)=List.length y.1+pieces m:=rfl
   omega
 | _,_,.cons_cons (l₁:=l) (l₂:=m) y h=>by
   have:=pieces_sub h
   have e:pieces (y::m)=List.length y.1+pieces m:=rfl
   have e2:pieces (y::l)=List.length y.1+pieces l:=rfl
   omega
theorem small_count (h:tinyE e):List.foldl cpG 0 (smallF f e d x).1≤List.foldl cpG 0 e.1:=by
 have hs:=small_sub (f:=f) (d:=d) (x:=x) (Nat.le_trans h.1.1.1 (by decide))
 have ht:=small_tiny (f:=f) (d:=d) (x:=x) h
 have l1:List.length e.1≤64:=h.1.1.1
 have l2:List.length (smallF f e d x).1≤64:=ht.1.1.1
 rw[cp_val _ 0 (by decide) (by omega) (fun s hm=>(h.1.1.2 s hm).1.1),cp_val _ 0 (by decide) (by omega) (fun s hm=>(ht.1.1.2 s hm).1.1)]
 have:=pieces_sub hs.1
 omega
theorem eno_range:0≤enoughF f a b d x∧enoughF f a b d x≤3∧(enoughF f a b d x=0∨(judgeBothF f a b d x).1≠3):=by
 unfold enoughF
 split
 · exact⟨by decide,by decide,.inl rfl⟩
 · rename_i h
   have h:((judgeBothF f a b d x).1==3)=false:=by simpa using h
   have h2:=bneI' h
   split<;>split<;>exact⟨by decide,by decide,.inr h2⟩
end
end Fw
namespace Fw
open Go
section
variable {code:List Int} (h:code.length≤bigLen)
include h
theorem bcP:bhP (bothD (curNewF code)):=bothD_P (newCur_ok h)
theorem bcTA:tinyE (bothC code).2.1:=(bcP h).1
theorem bcTB:tinyE (bothC code).2.2.1:=(bcP h).2.1
theorem bcTJ:tinyE (joinEvF (bothC code).2.1 (bothC code).2.2.1):=tinyE_join (bcTA h) (bcTB h) (bcP h).2.2.1 (bcP h).2.2.2
theorem bcTK:tinyE (joinEvF (bothC code).2.2.1 (bothC code).2.1):=tinyE_join (bcTB h) (bcTA h) (by have:=(bcP h).2.2.1;show List.length (bothC code).2.2.1.1+List.length (bothC code).2.1.1≤64;unfold bothC;omega) (by have:=(bcP h).2.2.2;show List.length (bothC code).2.2.1.2+List.length (bothC code).2.1.2≤64;unfold bothC;omega)
end
theorem tinyCells {e:Evidence}(h:tinyE e):((cellsC (.slice TStrand) e.1:Nat):Int)≤2000000000:=evdCells (tinyE_cells h.1)
end Fw
namespace Fw
open Go
abbrev TVerdict:Ty:=.pair TI (.pair TI (.pair TI TI))
theorem ordFin {f:Frame}{a b:Evidence}{d:Doc}{x:Sig}(hj:tinyE (joinEvF a b)):
   pick2 (pick2 (pick2 (pick2 (pick2 (El.eq TVerdict (judgeBothF f a b d x) (judgeBothF f b a d x)) (decide (enoughF f a b d x≥0)) false) (decide (enoughF f a b d x≤3)) false)
     (pick2 (enoughF f a b d x==0) true ((judgeBothF f a b d x).1 != 3)) false) ((judgeDocF f (smallF f (joinEvF a b) d x) d x).1==(judgeBothF f a b d x).1) false)
     (decide (List.foldl cpG 0 (smallF f (joinEvF a b) d x).1≤List.foldl cpG 0 (joinEvF a b).1)) false=true:=by
 have h1:El.eq TVerdict (judgeBothF f a b d x) (judgeBothF f b a d x)=true:=by rw[both_comm];exact El.eq_self _ _ rfl
 obtain⟨h2,h3,h4⟩:=eno_range (f:=f) (a:=a) (b:=b) (d:=d) (x:=x)
 have h5:pick2 (enoughF f a b d x==0) true ((judgeBothF f a b d x).1 != 3)=true:=by
   rw[pick2_or,Bool.or_eq_true,beq_iff_eq,bne_iff_ne];exact h4
 have h6:((judgeDocF f (smallF f (joinEvF a b) d x) d x).1==(judgeBothF f a b d x).1)=true:=by
   rw[beq_iff_eq];exact(small_sub (f:=f) (d:=d) (x:=x) (Nat.le_trans hj.1.1.1 (by decide))).2.2
 have h7:=small_count (f:=f) (d:=d) (x:=x) hj
 rw[h1,decide_eq_true h2,decide_eq_true h3,h5,h6,decide_eq_true h7]
 rfl
end Fw
