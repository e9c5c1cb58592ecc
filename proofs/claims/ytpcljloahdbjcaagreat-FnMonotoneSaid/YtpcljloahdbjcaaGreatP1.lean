/- What is owned is taken, and a hole is left. Conditions: none. -/
import Derived.Test.YtpcljloahdbjcaaGreatP0
import Derived.Laws.AppendOwn
import Derived.Laws.MakeOwn
import Derived.Laws.BytesString
import Derived.Laws.StructEq
set_option linter.unusedSimpArgs false
set_option linter.unusedVariables false
namespace Fw
open Go
theorem Sh.cutK_ok {R:Type}:∀ (s:Sh) (x:El s.ty) (off:Nat) (t:Ty) (k:(s:Sh)→El s.ty→(s2:Sh)→El s2.ty→Option R) (r:R),s.cutK x off t k=some r→
   ∃ s' y s2 x2,k s' y s2 x2=some r∧s'.ty=t∧s2.ty=s.ty∧∀ M Rw vs bs,EncO M Rw s vs x bs→∃ b1 b2 b3,bs=b1++b2++b3∧EncO M Rw s' ((vs.drop off).take s'.size) y b2∧EncO M Rw s2 vs x2 (b1++b3)
 | .pure T,x,off,t,k,r,h=>by
   obtain⟨y,h1,h2⟩:=El.subK_ok T x off t _ r h
   exact⟨.pure t,y,.pure T,x,h1,rfl,rfl,fun M Rw vs bs ⟨e1,e2⟩=>⟨[],[],[],by simp[e1],⟨rfl,h2 M vs e2⟩,⟨rfl,e2⟩⟩⟩
 | .pair a b,x,off,t,k,r,h=>by
   simp only[Sh.cutK]at h
   split at h
   · rename_i hc
     obtain⟨rfl,rfl,hno⟩:=hc
     refine⟨_,_,_,_,h,rfl,rfl,fun M Rw vs bs he=>?_⟩
     have hl:=EncO.length _ _ _ _ he
     refine⟨[],bs,[],by simp,?_,rfl,?_⟩
     · have:(vs.drop 0).take (Sh.pair a b).size=vs:=by rw[List.drop_zero,←hl,List.take_length]
       rw[this];exact he
     · rw[hl];exact Sh.size_ty _ hno
   · split at h
     · rename_i hlt
       obtain⟨s',y,s2,x2,h1,h2,h2',h3⟩:=Sh.cutK_ok a x.1 off t _ r h
       obtain⟨s3,x3,g1,g2,_,_,_,_,g7⟩:=mkPair_ok s2 x2 b x.2
       rw[g1]at h1
       refine⟨s',y,s3,x3,h1,h2,by rw[g2,h2'],fun M Rw vs bs ⟨v1,v2,c1,c2,e1,e2,k1,k2⟩=>?_⟩
       subst e1;subst e2
       obtain⟨d1,d2,d3,f1,f2,f3⟩:=h3 M Rw v1 c1 k1
       have l1:=EncO.length _ _ _ _ k1
       have l2:=EncO.length _ _ _ _ f2
       simp at l2
       refine⟨d1,d2,d3++c2,by simp[f1],?_,by rw[←List.append_assoc];exact g7 M Rw _ _ _ _ f3 k2⟩
       rwa [List.drop_append_of_le_length (by omega),List.take_append_of_le_length (by simp;omega)]
     · rename_i hge
       obtain⟨s',y,s2,x2,h1,h2,h2',h3⟩:=Sh.cutK_ok b x.2 (off - a.size) t _ r h
       obtain⟨s3,x3,g1,g2,_,_,_,_,g7⟩:=mkPair_ok a x.1 s2 x2
       rw[g1]at h1
       refine⟨s',y,s3,x3,h1,h2,by rw[g2,h2'],fun M Rw vs bs ⟨v1,v2,c1,c2,e1,e2,k1,k2⟩=>?_⟩
       subst e1;subst e2
       obtain⟨d1,d2,d3,f1,f2,f3⟩:=h3 M Rw v2 c2 k2
       have l1:=EncO.length _ _ _ _ k1
       refine⟨c1++d1,d2,d3,by simp[f1],?_,by rw[List.append_assoc];exact g7 M Rw _ _ _ _ k1 f3⟩
       rwa [List.drop_append,List.drop_eq_nil_of_le (by omega:v1.length≤off),List.nil_append,l1]
 | .own e,x,off,t,k,r,h=>by
   simp only[Sh.cutK]at h
   split at h
   · rename_i hc
     obtain⟨rfl,rfl⟩:=hc
     refine⟨_,_,_,_,h,rfl,rfl,fun M Rw vs bs he=>?_⟩
     have hl:=EncO.length _ _ _ _ he
     refine⟨[],bs,[],by simp,?_,rfl,hl⟩
     have:(vs.drop 0).take (Sh.own e).size=vs:=by rw[List.drop_zero,←hl,List.take_length]
     rw[this];exact he
   · cases h
 | .nil e,x,off,t,k,r,h=>by
   simp only[Sh.cutK]at h
   split at h
   · rename_i hc
     obtain⟨rfl,rfl⟩:=hc
     refine⟨_,_,_,_,h,rfl,rfl,fun M Rw vs bs he=>?_⟩
     have hl:=EncO.length _ _ _ _ he
     have h0:=he.1
     refine⟨[],[],[],by simp[h0],?_,⟨rfl,he.2⟩⟩
     have:(vs.drop 0).take (Sh.nil e).size=vs:=by rw[List.drop_zero,←hl,List.take_length]
     rw[this];exact⟨rfl,he.2⟩
   · cases h
 | .ref s,x,off,t,k,r,h=>by simp[Sh.cutK]at h
 | .hole s,x,off,t,k,r,h=>by simp[Sh.cutK]at h
theorem ValC.fun_ {ag:Bool}{v:Value}{c1 c2:List Value}(h1:ValC ag v c1)(h2:ValC ag v c2):c1=c2:=by
 unfold ValC at *
 cases ag with
 | true=>
   simp only[if_true]at h1 h2
   rw[h1]at h2
   simpa using h2
 | false=>
   simp only[Bool.false_eq_true,if_false]at h1 h2
   rw[h1,h2]
section
variable {n B:Nat} {X:List Nat} {w0:World} {M0 M:Mem} {ω:Own} {ρ:Env} {tmps:Array Value} {w w':World} {P:Program} {C:Ctx}
theorem cut_ok (S:St0 n B X w0 M0 M ω ρ tmps w){j L:Nat}(hj:j<n){bl:List Nat}(hbl:∀ b∈bl,ω b=some j){A':A}
   (hA:Rel n M (fun b=>if b∈bl then some L else ω b) w (ρ.puts [⟨j,true,A'⟩]) (vl tmps) j (vl tmps j) A'):
   St0 n B X w0 M0 M (fun b=>if b∈bl then some L else ω b) (ρ.puts [⟨j,true,A'⟩]) tmps w∧Moved n M M ω (fun b=>if b∈bl then some L else ω b) w ρ tmps [⟨j,true,A'⟩] L:=by
 have hdis:∀ b k,(if b∈bl then some L else ω b)=some k→(B≤b∨b∈X)∧b<w.heap.size∧∀ o,M b o=none:=by
   intro b k hk
   by_cases hb:b∈bl
   · exact S.dis b j (hbl b hb)
   · rw[if_neg hb]at hk;exact S.dis b k hk
 have hown:∀ t,t<n→(∀ x∈([⟨j,true,A'⟩]:List Wr),x.slot≠t)→∀ b,ω b=some t→(if b∈bl then some L else ω b)=some t∧w.heap[b]?=w.heap[b]?:=by
   intro t _ hne b hb
   have:t≠j:=fun e=>hne _ (List.mem_singleton.2 rfl) e.symm
   refine⟨?_,rfl⟩
   rw[if_neg (fun h=>by rw[hbl b h]at hb;simp at hb;exact this hb.symm)]
   exact hb
 have hget:(ρ.puts [(⟨j,true,A'⟩:Wr)]).get j=⟨(ρ.get j).g,(ρ.get j).ver+1,A'⟩:=by
   show (ρ.put _).get j=_
   rw[Env.get_put];simp
 refine⟨S.step _ S.size (Fr.refl _ _ _) (Mem.le_refl _) (fun _ _ _ _=>rfl) S.mem hdis (fun _ _=>rfl) (by intro x hx;simp at hx;subst hx;exact hj) hown ?_,?_⟩
 · intro t ⟨x,hx,hxt⟩ _
   simp at hx;subst hx
   have:t=j:=hxt.symm
   subst this
   rw[hget];exact hA
 · refine⟨⟨Mem.le_refl _,fun b k hk=>(hdis b k hk).2.2,fun k=>Older.puts _ ρ k,fun _ _=>rfl,fun k hkn hk b hb=>?_⟩,by intro x hx;simp at hx;subst hx;exact hj,?_⟩
   · refine hown k hkn (fun x hx e=>?_) b hb
     simp at hx;subst hx
     have:j=k:=e
     subst this
     rw[hget]at hk
     have:=congrArg Ent.ver hk
     simp at this
   · intro L' hL' hne b hb
     show (if b∈bl then some L else ω b)=some L'
     rw[if_neg (fun h=>by rw[hbl b h]at hb;simp at hb;omega)];exact hb
theorem tkCut_ok (S:St0 n B X w0 M0 M ω ρ tmps w)(L:Nat){R:Type}{j off:Nat}{t:Ty}(hjn:j<n){k:(s:Sh)→El s.ty→List Wr→Option R}{r:R}
   (h:tkCut j off t (ρ.get j) k=some r) {v:Value} {pc:List Value} (h4:Place ω w j (ρ.get j).a (vl tmps j) pc) (h1:ValC t.ag v ((pc.drop off).take t.size)):∃ s x ws,k s x ws=some r∧
     ∃ M' ω',St0 n B X w0 M0 M' ω' (ρ.puts ws) tmps w∧Moved n M M' ω ω' w ρ tmps ws L∧Taken n M' ω' w L v s x:=by
 unfold tkCut at h
 have hslot:=S.slots j hjn
 split at h
 · rename_i s x hA
   rw[hA]at hslot h4
   obtain⟨pcs,bs,k1,⟨b,row,bss,k2,k3,k4,k5⟩,k6,k7⟩:=hslot
   obtain⟨b',h6,h7,h8⟩:=h4
   have hbb:b'=b:=by
     have e1:pcs=[tmps.getD j undef]:=k1
     have e2:tmps.getD j undef=.pointer (some ⟨b',0,none⟩):=h6
     rw[e1,e2]at k3
     simpa using k3
   subst hbb
   rw[k4]at h8
   simp only[Option.some.injEq]at h8
   subst h8
   obtain⟨s',y,s2,x2,g1,g2,_,g3⟩:=Sh.cutK_ok s x off t _ r h
   split at g1
   · rename_i hno
     obtain⟨b1,b2,b3,e1,e2,e3⟩:=g3 _ _ _ _ k5
     have hsz:s'.size=t.size:=by rw[Sh.size_ty s' hno,g2]
     have hag:s'.ag=t.ag:=by rw[Sh.ag_ty s' hno,g2]
     subst k2
     rw[e1]at k6 k7
     have hnd:=List.nodup_cons.1 k6
     obtain⟨q1,q2⟩:=hnd
     rw[List.nodup_append]at q2
     obtain⟨q3,q4,q5⟩:=q2
     rw[List.nodup_append]at q3
     obtain⟨q6,q7,q8⟩:=q3
     obtain⟨S1,m1⟩:=cut_ok S (L:=L) hjn (bl:=b2) (fun i hi=>k7 i (by simp[hi])) (A':=.c (.ref s2) x2)
       ⟨pcs,b'::(b1++b3),k1,⟨b',row,b1++b3,rfl,k3,k4,e3⟩,by
         rw[List.nodup_cons,List.nodup_append]
         refine⟨fun hm=>q1 (by simp at hm ⊢;rcases hm with hm | hm<;>simp[hm]),q6,q4,fun a ha c hc=>q5 a (by simp[ha]) c hc⟩,fun i hi=>by
         refine(if_neg (fun hm=>?_)).trans (k7 i (by simp at hi ⊢;rcases hi with hi | hi | hi<;>simp[hi]))
         simp only[List.mem_cons,List.mem_append]at hi
         rcases hi with hi | hi | hi
         · subst hi;exact q1 (by simp[hm])
         · exact q8 i hi i hm rfl
         · exact q5 i (by simp[hm]) i hi rfl⟩
     exact⟨s',y,_,g1,M,_,S1,m1,⟨_,b2,by rw[hag];exact h1,by rw[←hsz];exact e2,q7,fun i hi=>if_pos hi⟩⟩
   · cases g1
 · rename_i s x hnr hA
   rw[hA]at hslot h4
   have hslot':Owns M ω w j s x (tmps.getD j undef):=hslot
   obtain⟨pcs,bs,k1,k2,k6,k7⟩:=hslot'
   have h4':ValC s.ag (tmps.getD j undef) pc:=by cases s<;>first | exact h4 | exact(hnr _ _ rfl (HEq.refl _)).elim
   have:=ValC.fun_ k1 h4'
   subst this
   obtain⟨s',y,s2,x2,g1,g2,_,g3⟩:=Sh.cutK_ok s x off t _ r h
   split at g1
   · rename_i hno
     obtain⟨b1,b2,b3,e1,e2,e3⟩:=g3 _ _ _ _ k2
     have hsz:s'.size=t.size:=by rw[Sh.size_ty s' hno,g2]
     have hag:s'.ag=t.ag:=by rw[Sh.ag_ty s' hno,g2]
     obtain⟨S1,m1⟩:=move_ok S (L:=L) hjn
     rw[e1]at k6 k7
     rw[List.nodup_append]at k6
     obtain⟨q1,_,_⟩:=k6
     rw[List.nodup_append]at q1
     exact⟨s',y,_,g1,M,_,S1,m1,⟨_,b2,by rw[hag];exact h1,by rw[←hsz];exact e2,q1.2.1,fun i hi=>if_pos (k7 i (by simp[hi]))⟩⟩
   · cases g1
 · cases h
theorem tkOwn_ok (S:St0 n B X w0 M0 M ω ρ tmps w)(L:Nat){R:Type}{q:Opd}{k:(s:Sh)→El s.ty→List Wr→Option R}{r:R}
   (h:tkOwn q k=some r) {v:Value} (hq:OpdR n M ω w ρ (vl tmps) q v):∃ s x ws,k s x ws=some r∧
     ∃ M' ω',St0 n B X w0 M0 M' ω' (ρ.puts ws) tmps w∧Moved n M M' ω ω' w ρ tmps ws L∧Taken n M' ω' w L v s x:=by
 unfold tkOwn at h
 split at h
 · rename_i j g ver t y0 off ha
   have hr:=hq.rel (by rw[ha];intro _ _ _ _ _ e;cases e)
   have htg:=hq.tgt j (by rw[ha];rfl)
   rw[ha]at hr
   obtain⟨⟨hjn,_⟩,hcl⟩:=hr
   split at h
   · rename_i hc
     rw[htg]at hc h
     obtain⟨cs,h1,h2,h3⟩:=hcl hc
     obtain⟨pc,h4,h5⟩:=h3.1 off rfl
     simp only[Bx.isT,if_true]at h5
     subst h5
     exact tkCut_ok S L hjn h h4 h1
   · cases h
 · rename_i j g ver t y0 i ha
   have hr:=hq.rel (by rw[ha];intro _ _ _ _ _ e;cases e)
   have htg:=hq.tgt j (by rw[ha];rfl)
   rw[ha]at hr
   obtain⟨⟨hjn,_⟩,hcl⟩:=hr
   split at h
   · rename_i hc
     rw[htg]at hc h
     obtain⟨_,_,_,_,_,h10⟩:=hcl hc
     exact tkTp_ok S L hjn h h10
   · cases h
 · rename_i s x ha
   have hr:=hq.rel (by rw[ha];intro _ _ _ _ _ e;cases e)
   rw[ha]at hr
   obtain⟨cs,bs,h1,h2,h3,h4⟩:=hr
   split at h
   · rename_i hf
     have hbs:=EncO.free s cs x bs hf h2
     subst hbs
     exact⟨s,x,[],h,M,ω,S,⟨Step.refl S,by simp,fun _ _ _ _ h=>h⟩,⟨cs,[],h1,h2,h3,by simp⟩⟩
   · split at h
     · rename_i j hj
       obtain⟨e1,e2,e3⟩:=hq.slot j hj
       have hjn:=e3 (by rw[ha];intro e;cases e)
       obtain⟨g1,g2⟩:=move_ok S (L:=L) hjn
       refine⟨s,x,_,h,M,_,g1,g2,⟨cs,bs,h1,h2,h3,fun b hb=>?_⟩⟩
       have:=h4 b hb
       rw[hj]at this
       simp only[Option.getD_some]at this
       simp[this]
     · cases h
 · cases h
end
end Fw
namespace Fw
open Go
section
variable {n B:Nat} {X:List Nat} {w0:World} {M0 M:Mem} {ω:Own} {ρ:Env} {tmps:Array Value} {w:World} {P:Program} {C:Ctx}
theorem castK_cast {a b:Ty}{R:Type}(h:a=b)(k:El b→R)(x:El a):castK h k x=k (h ▸ x):=by subst h;rfl
theorem enc_cast {M:Mem}{a b:Ty}(h:a=b){cs:List Value}{x:El a}(he:Enc M a cs x):Enc M b cs (h ▸ x):=by subst h;exact he
theorem run_newRow (t:TypeId)(cells:Array Value):(newRow t cells).run P w=.ok ⟨w.heap.size,0,none⟩ (w.alloc (.cells cells t)):=by
 simp[newRow]
theorem tkAs_ok (S:St0 n B X w0 M0 M ω ρ tmps w)(L:Nat){R:Type}{s:Sh}{q:Opd}{k:El s.ty→List Wr→Option R}{r:R}
   (h:tkAs s q k=some r) {v:Value} (hq:OpdR n M ω w ρ (vl tmps) q v):∃ x ws,k x ws=some r∧
     ∃ M' ω',St0 n B X w0 M0 M' ω' (ρ.puts ws) tmps w∧Moved n M M' ω ω' w ρ tmps ws L∧Taken n M' ω' w L v s x:=by
 unfold tkAs at h
 obtain⟨s',x,ws,h1,M',ω',S1,m1,t1⟩:=tk_ok S L h hq
 split at h1
 · rename_i hty
   split at h1
   · rename_i hs
     subst hs
     exact⟨x,ws,h1,M',ω',S1,m1,t1⟩
   · split at h1
     · rename_i hs
       obtain⟨hs1,hs2,hs3⟩:=hs
       obtain⟨T,hT⟩:∃ T,s=.pure T:=⟨_,hs1⟩
       subst hT
       rw[castK_cast]at h1
       refine⟨_,ws,h1,M',ω',S1,m1,?_⟩
       obtain⟨cs,bs,k1,k2,k3,k4⟩:=t1.enc
       have:=EncO.free _ _ _ _ hs3 k2
       subst this
       have he:=EncO.toEnc (Mem.le_refl _) s' cs x [] hs2 (by simp) k2
       have hty':s'.ty=T:=hty
       exact⟨cs,[],by rw[free_solid_ag hs3,hty']at k1;exact k1,⟨rfl,enc_cast hty' he⟩,List.nodup_nil,by simp⟩
     · cases h1
 · cases h1
theorem tkEl_ok (S:St0 n B X w0 M0 M ω ρ tmps w)(L:Nat){R:Type}{s:Sh}{q:Opd}{k:El s.ty→List Wr→Option R}{r:R}
   (h:tkEl s q k=some r) {v:Value} (hq:OpdR n M ω w ρ (vl tmps) q v):∃ x ws,k x ws=some r∧
     ∃ M' ω',St0 n B X w0 M0 M' ω' (ρ.puts ws) tmps w∧Moved n M M' ω ω' w ρ tmps ws L∧Taken n M' ω' w L v s x:=by
 unfold tkEl at h
 split at h
 · exact tkAs_ok S L h hq
 · obtain⟨s',x,ws,h1,M',ω',S1,m1,t1⟩:=tkOwn_ok S L h hq
   split at h1
   · split at h1
     · rename_i hs
       subst hs
       exact⟨x,ws,h1,M',ω',S1,m1,t1⟩
     · cases h1
   · cases h1
theorem guard_next {gd:Gd}(hg:GuardOk ρ (vl tmps) gd)(ws:List Wr):GuardOk (ρ.puts ws) (vl tmps) (nextG gd ws):=by
 intro s g ver b h
 unfold nextG at h
 split at h
 · split at h
   · rename_i s' g' ver' b' hn
     simp only[Option.some.injEq,Prod.mk.injEq]at h
     obtain⟨rfl,rfl,rfl,rfl⟩:=h
     obtain⟨h1,h2⟩:=hg _ _ _ _ rfl
     have key:∀ (ws:List Wr),noneIs s' ws=true→∀ x∈ws,x.slot≠s':=by
       intro ws
       induction ws with
       | nil=>intro _ x hx;simp at hx
       | cons y r ih=>
         intro hn x hx
         simp only[noneIs]at hn
         split at hn
         · cases hn
         · rename_i hne
           rcases List.mem_cons.1 hx with rfl | hx
           · exact hne
           · exact ih hn x hx
     have:=Env.puts_other ws ρ s' (key ws hn)
     exact⟨by unfold curK at *;rw[this];exact h1,h2⟩
   · cases h
 · cases h
theorem elems_ok {R:Type}(s:Sh)(hn:s.noref=true)(df:List Deferred):∀ (ps:List (Nat×Operand)) (i:Nat) (gd:Gd) (ρ:Env) (M:Mem) (ω:Own) (k:List (El s.ty)→List Wr→Option R) (r:R),
   St0 n B X w0 M0 M ω ρ tmps w→GuardOk ρ (vl tmps) gd→elemsK s gd ρ ps i k=some r→
   ∃ xs ws M' ω' bs,k xs ws=some r∧St0 n B X w0 M0 M' ω' (ρ.puts ws) tmps w∧M.le M'∧(∀ b L,n≤L→L<n+i→ω b=some L→ω' b=some L)∧
     xs.length=ps.length∧ps.map Prod.fst=List.range' i ps.length∧
     GroupsO (EncO M' (rows w) s) s.size (ps.map fun q=>(Act.eval ⟨tmps,df⟩ q.2).cells.toList).flatten xs bs∧bs.Nodup∧(∀ b∈bs,∃ L,n+i≤L∧ω' b=some L)∧
     ∀ q∈ps,(Act.eval ⟨tmps,df⟩ q.2).cells.size=s.size
 | [],i,gd,ρ,M,ω,k,r,S,_,h=>⟨[],[],M,ω,[],h,S,Mem.le_refl _,fun _ _ _ _ h=>h,rfl,rfl,rfl,List.nodup_nil,by simp,by simp⟩
 | (j,o)::ps,i,gd,ρ,M,ω,k,r,S,hg,h=>by
   simp only[elemsK]at h
   split at h
   · rename_i hji
     subst hji
     obtain⟨x,ws,h1,M1,ω1,S1,m1,t1⟩:=tkEl_ok S (n+j) h (opd_rel S hg o df)
     obtain⟨xs,ws',M2,ω2,bs,k1,k2,k3,k4,k5,k6,k7,k8,k9,k10⟩:=elems_ok s hn df ps (j+1) _ _ _ _ _ _ S1 (guard_next hg ws) h1
     obtain⟨cs,b1,e1,e2,e3,e4⟩:=t1.enc
     have hc:=ValC.cells e1 (EncO.plain s cs x b1 hn e2)
     have hlen:=EncO.length _ _ _ _ e2
     have e5:∀ b∈b1,ω2 b=some (n+j):=fun b hb=>k4 b _ (by omega) (by omega) (e4 b hb)
     refine⟨x::xs,ws++ws',M2,ω2,b1++bs,k1,by rw[Env.puts_append];exact k2,Mem.le_trans m1.step.mem k3,fun b L hL hL2 hb=>k4 b L hL (by omega) (m1.limbo L hL (by omega) b hb),by simp[k5],
       by simp[k6,List.range'_succ],?_,?_,?_,?_⟩
     · refine⟨cs,_,b1,bs,by simp[hc],hlen,rfl,EncO.mono k3 s cs x b1 (fun _ _=>rfl) e2,k7⟩
     · rw[List.nodup_append]
       refine⟨e3,k8,fun a ha b hb e=>?_⟩
       subst e
       obtain⟨L,g1,g2⟩:=k9 a hb
       rw[e5 a ha]at g2
       simp at g2;omega
     · intro b hb
       rcases List.mem_append.1 hb with hb | hb
       · exact⟨n+j,Nat.le_refl _,e5 b hb⟩
       · obtain⟨L,g1,g2⟩:=k9 b hb
         exact⟨L,by omega,g2⟩
     · intro q hq
       rcases List.mem_cons.1 hq with rfl | hq
       · have:=congrArg List.length hc
         simpa [hlen] using this
       · exact k10 q hq
   · cases h
theorem ownrow_ok (S:St0 n B X w0 M0 M ω ρ tmps w)(hB:B≤w0.heap.size){d:Nat}(hd:d<n){cells:Array Value}{s:Sh}{xs:List (El s.ty)}{bs:List Nat}{cap:Nat}
   (he:GroupsO (EncO M (rows w) s) s.size cells.toList xs bs) (hc:cells.size=cap*s.size) (h1:xs.length≤cap) (h2:cap≤bigLen)
   (hn:bs.Nodup) (hb:∀ b∈bs,∃ L,n≤L∧ω b=some L) (t:TypeId):
   ∃ ω',St0 n B X w0 M0 M ω' (ρ.puts [w1 d (.c (.own s) xs)]) (tmps.setIfInBounds d (.slice (some ⟨w.heap.size,0,none⟩) xs.length cap)) (w.alloc (.cells cells t)):=by
 have S2:=alloc_ok S (S.bnd hB) cells t n
 have hlt:∀ b∈bs,b<w.heap.size:=fun b hi=>by
   obtain⟨row,hr⟩:=GroupsO.rows (Q:=fun b=>∃ row,rows w b=some row) xs _ bs (fun x _ cs b hp=>EncO.rows s cs x b hp) he b hi
   exact rows_lt hr
 refine⟨_,put_c S2 hd (s:=.own s) (x:=xs) (cs:=[.slice (some ⟨w.heap.size,0,none⟩) xs.length cap]) (bs:=w.heap.size::bs) rfl
   (.inr ⟨_,cap,cells.toList,bs,rfl,rfl,h1,h2,rows_alloc _ _,by simpa using hc,GroupsO.imp xs _ bs (fun x _ cs b _ hp=>EncO.alloc hp) he⟩) ?_ ?_⟩
 · rw[List.nodup_cons]
   exact⟨fun h=>by have:=hlt _ h;omega,hn⟩
 · intro b hi
   rcases List.mem_cons.1 hi with rfl | hi
   · exact⟨n,Nat.le_refl _,by simp⟩
   · obtain⟨L,g1,g2⟩:=hb b hi
     have:=hlt b hi
     exact⟨L,g1,(if_neg (by omega)).trans g2⟩
theorem segs_flatten (sz:Nat):∀ (L:List (List Value)) (z:List Value),z.length=L.length*sz→(∀ i p,L[i]?=some p→(z.drop (i*sz)).take sz=p)→z=L.flatten
 | [],z,h,_=>by simp at h;simp[h]
 | p::L,z,h,hp=>by
   have h0:=hp 0 p rfl
   simp at h0
   rw[List.flatten_cons,←h0,←segs_flatten sz L (z.drop sz) (by simp[h,Nat.add_mul]) (fun i q hq=>by
     have:=hp (i+1) q (by simpa using hq)
     rw[List.drop_drop,Nat.add_comm]
     rwa [Nat.add_mul,Nat.one_mul]at this),List.take_append_drop]
theorem exBuildSlice_ok (hC:CtxOk P C)(S:St0 n B X w0 M0 M ω ρ tmps w)(hB:B≤w0.heap.size){gd:Gd}(hg:GuardOk ρ (vl tmps) gd){t:TypeId}{d len:Nat}(hd:d<n){ps:Array (Nat×Operand)}{ws:List Wr}{cs:List Prop}
   (h:exBuildSlice C t d len gd ρ ps.toList=some (ws,cs)) (df:List Deferred):
   Res n B X w0 M0 ρ tmps d ws ((Instr.buildSlice t len (ps.map fun(i,x)=>(i,Act.eval ⟨tmps,df⟩ x))).run P w):=by
 unfold exBuildSlice at h
 split at h
 · rename_i e hT
   have hTy:=hC.ty t _ hT
   obtain⟨te,hu,hTe⟩:=hTy.under
   split at h
   · rename_i hc
     obtain⟨c1,c2,c3,c4,c5⟩:=hc
     obtain⟨xs,ws',M',ω',bs,k1,k2,k3,k4,k5,k6,k7,k8,k9,k10⟩:=elems_ok _ c5 df _ _ _ _ _ _ _ _ S hg h
     simp only[Option.some.injEq,Prod.mk.injEq]at k1
     obtain⟨rfl,rfl⟩:=k1
     generalize elemSh e gd ρ ps.toList=s at *
     have hsz:s.size=e.size:=by rw[Sh.size_ty s c5,c4]
     have hmul:len*e.size≤2 ^ 24:=Nat.le_trans (Nat.mul_le_mul c2 c3) (by decide)
     have hf:=fun(z:Array Value) (hz:z.size=len*e.size)=>fill_ok (fun i=>some (i*e.size,e.size)) len (by
       intro i j oi si oj sj h1 h2 hi hj hne
       simp only[Option.some.injEq,Prod.mk.injEq]at h1 h2
       obtain⟨rfl,rfl⟩:=h1
       obtain⟨rfl,rfl⟩:=h2
       rcases Nat.lt_or_gt_of_ne hne with hl | hl
       · left
         have:=Nat.mul_le_mul_right e.size (show i+1≤j from hl)
         rw[Nat.add_mul]at this;omega
       · right
         have:=Nat.mul_le_mul_right e.size (show j+1≤i from hl)
         rw[Nat.add_mul]at this;omega) (ps.map fun(i,x)=>(i,Act.eval ⟨tmps,df⟩ x)).toList z (by
       intro q hq
       simp only[Array.toList_map,List.mem_map]at hq
       obtain⟨p,hp,rfl⟩:=hq
       have hm:=k10 p hp
       have hk:p.1∈ps.toList.map Prod.fst:=List.mem_map_of_mem hp
       rw[k6,List.mem_range'_1]at hk
       rw[c1]at hk
       refine⟨by simpa using hk.2,p.1*e.size,by simp[hm,hsz],?_⟩
       rw[hz,hm,hsz]
       have:=Nat.mul_le_mul_right e.size (show p.1+1≤len from by have:=hk.2;omega)
       rw[Nat.add_mul]at this;omega) (by
       rw[Array.toList_map,List.map_map]
       have:(Prod.fst ∘ fun(q:Nat×Operand)=>(q.1,Act.eval ⟨tmps,df⟩ q.2))=Prod.fst:=rfl
       show (List.map (Prod.fst ∘ fun(q:Nat×Operand)=>(q.1,Act.eval ⟨tmps,df⟩ q.2)) ps.toList).Nodup
       rw[this,k6]
       exact List.nodup_range')
     have hcells:∀ z:Array Value,z.size=len*e.size→∃ cells,Instr.fill (fun i=>some (i*e.size,e.size)) z (ps.map fun(i,x)=>(i,Act.eval ⟨tmps,df⟩ x)).toList=some cells∧cells.size=len*e.size∧
         cells.toList=(ps.toList.map fun q=>(Act.eval ⟨tmps,df⟩ q.2).cells.toList).flatten:=by
       intro z hz
       obtain⟨cells,f1,f2,f3⟩:=hf z hz
       refine⟨cells,f1,by rw[f2,hz],segs_flatten e.size _ _ (by simp[f2,hz,c1]) fun i p hp=>?_⟩
       rw[List.getElem?_map]at hp
       cases hq:ps.toList[i]? with
       | none=>rw[hq]at hp;simp at hp
       | some q=>
         rw[hq]at hp
         simp at hp
         have hi:i<len:=by rw[←c1];exact(List.getElem?_eq_some_iff.1 hq).1
         rw[f3 i _ _ hi rfl]
         have hk:=congrArg (fun l=>l[i]?) k6
         simp only[List.getElem?_map,hq,Option.map_some]at hk
         rw[List.getElem?_range' (by rw[c1];exact hi)]at hk
         simp at hk
         have hlk:look (ps.map fun(i,x)=>(i,Act.eval ⟨tmps,df⟩ x)).toList i=some (Act.eval ⟨tmps,df⟩ q.2):=by
           have:(ps.map fun(i,x)=>(i,Act.eval ⟨tmps,df⟩ x)).toList=ps.toList.map fun q=>(q.1,Act.eval ⟨tmps,df⟩ q.2):=by rw[Array.toList_map]
           rw[this,look_map]
           have key:∀ (l:List (Nat×Operand)) (m:Nat),l.map Prod.fst=List.range' m l.length→∀ i q,l[i]?=some q→look l (m+i)=some q.2:=by
             intro l
             induction l with
             | nil=>intro m _ i q hq;simp at hq
             | cons a r ih=>
               intro m hm i q hq
               simp only[List.map_cons,List.length_cons,List.range'_succ,List.cons.injEq]at hm
               obtain⟨a1,a2⟩:=a
               simp only at hm
               cases i with
               | zero=>simp at hq;subst hq;simp[look,hm.1]
               | succ i=>
                 simp only[look]
                 rw[if_neg (by omega)]
                 have:=ih (m+1) hm.2 i q (by simpa using hq)
                 rwa [Nat.add_assoc,Nat.add_comm 1 i]at this
           have:=key ps.toList 0 k6 i q hq
           rw[Nat.zero_add]at this
           rw[this];rfl
         rw[hlk]
         exact hp
     obtain⟨i',hi1,hi2,hi3,zv,hi4,hi5⟩:=hTe.info
     have hz:(zeroValue te).run P w=.ok zv w:=by simp[zeroValue,typeInfo,hi1,hi4]
     have fin:∀ z0:Array Value,∃ cells,Instr.fill (fun i=>some (i*e.size,e.size)) ((Array.range (len*e.size)).map (z0[· % z0.size]!)) (ps.map fun(i,x)=>(i,Act.eval ⟨tmps,df⟩ x)).toList=some cells∧
         ∃ ω2,St0 n B X w0 M0 M' ω2 (ρ.puts (ws'++[w1 d (.c (.own s) xs)])) (tmps.setIfInBounds d (.slice (some ⟨w.heap.size,0,none⟩) len len)) (w.alloc (.cells cells te)):=by
       intro z0
       obtain⟨cells,f1,f2,f3⟩:=hcells ((Array.range (len*e.size)).map (z0[· % z0.size]!)) (by simp)
       obtain⟨ω2,S2⟩:=ownrow_ok k2 hB hd (cells:=cells) (cap:=len) (by rw[f3];exact k7) (by rw[f2,hsz]) (by rw[k5,c1];exact Nat.le_refl _) (Nat.le_trans c2 (by decide)) k8 (fun b hb=>by obtain⟨L,g1,g2⟩:=k9 b hb;exact⟨L,by omega,g2⟩) te
       refine⟨cells,f1,ω2,?_⟩
       rw[Env.puts_append]
       rw[k5,c1]at S2
       exact S2
     have hbig:¬len*e.size>2 ^ 24:=by omega
     by_cases h0:len*e.size=0
     · obtain⟨cells,f1,ω2,S2⟩:=fin #[]
       refine⟨_,_,M',ω2,?_,S2⟩
       unfold Instr.buildSlice
       rw[Sem.run_bind,run_underlying' hu,Result.andThen_ok]
       simp only
       rw[Sem.run_bind,run_sizeOf hTe,Result.andThen_ok,if_neg hbig,if_pos h0]
       simp only[Sem.run_bind,Sem.run_pure,Result.andThen_ok,f1,run_newRow]
     · obtain⟨cells,f1,ω2,S2⟩:=fin zv.cells
       refine⟨_,_,M',ω2,?_,S2⟩
       unfold Instr.buildSlice
       rw[Sem.run_bind,run_underlying' hu,Result.andThen_ok]
       simp only
       rw[Sem.run_bind,run_sizeOf hTe,Result.andThen_ok,if_neg hbig,if_neg h0]
       simp only[Sem.run_bind,Sem.run_pure,Result.andThen_ok,hz,f1,run_newRow]
   · cases h
 · cases h
end
end Fw
namespace Fw
open Go
section
variable {n B:Nat} {X:List Nat} {w0:World} {M0 M:Mem} {ω:Own} {ρ:Env} {tmps:Array Value} {w:World} {P:Program} {C:Ctx}
theorem run_indexAt_slice {t te:TypeId}{E:Ty}(hu:P.underlying t=some (.slice te))(hTe:TyR P te E){a:Addr}{len cap:Nat}{idx:Int}(h:inRange idx len)(ha:a.spot=none):
   (Instr.indexAt t (.slice (some a) len cap) (.int .i64 idx)).run P w=.ok (.pointer (some ⟨a.block,a.off+idx.toNat*E.size,none⟩)) w:=by
 obtain⟨b,o,sp⟩:=a
 simp only at ha
 subst ha
 unfold inRange at h
 unfold Instr.indexAt
 simp only[asIntOf,Sem.run_bind,Sem.run_pure,Result.andThen_ok,run_underlying' hu,run_sizeOf hTe,addr_add,if_pos h]
theorem run_indexAt_arr {t te:TypeId}{E:Ty}{m:Nat}(hu:P.underlying t=some (.array m te))(hTe:TyR P te E){b o:Nat}{idx:Int}(h:inRange idx m):
   (Instr.indexAt t (.pointer (some ⟨b,o,none⟩)) (.int .i64 idx)).run P w=.ok (.pointer (some ⟨b,o+idx.toNat*E.size,none⟩)) w:=by
 unfold inRange at h
 unfold Instr.indexAt
 simp only[asIntOf,Sem.run_bind,Sem.run_pure,Result.andThen_ok,run_underlying' hu,run_sizeOf hTe,addr_add,if_pos h,Instr.sureAddr]
theorem exIndexAddr_ok (hC:CtxOk P C)(S:St0 n B X w0 M0 M ω ρ tmps w){t:TypeId}{d:Nat}(hd:d<n){q1 q2:Opd}{ws:List Wr}{cs:List Prop}
   (h:exIndexAddr C t d q1 q2=some (ws,cs)) (hcs:∀ p∈cs,p) {v1 v2:Value} (hq1:OpdR n M ω w ρ (vl tmps) q1 v1) (hq2:OpdR n M ω w ρ (vl tmps) q2 v2):
   Res n B X w0 M0 ρ tmps d ws ((Instr.indexAt t v1 v2).run P w):=by
 unfold exIndexAddr at h
 obtain⟨idx,h1,h2⟩:=rd_int S h
 obtain⟨ev,ri⟩:=h2 v2 hq2
 subst ev
 split at h1
 · rename_i E hT
   obtain⟨te,hu,hTe⟩:=(hC.ty t _ hT).under
   split at h1
   · rename_i e xs ha
     split at h1
     · rename_i heE
       subst heE
       simp only[Option.some.injEq,Prod.mk.injEq]at h1
       obtain⟨rfl,rfl⟩:=h1
       have hr:inRange idx (List.length xs):=hcs _ (by simp)
       have hrel:=hq1.rel (by rw[ha];intro _ _ _ _ _ e;cases e)
       rw[ha]at hrel
       obtain⟨cs',bs,k1,⟨k2,k3⟩,_,_⟩:=hrel
       obtain⟨a,cap,g1,g2,g3,g4⟩:=k3
       subst g1
       have k1:v1=.slice a (List.length xs) cap:=by simpa [ValC,Sh.ag,Ty.ag] using k1.symm
       subst k1
       have hlt:idx.toNat<List.length xs:=by unfold inRange at hr;omega
       cases a with
       | none=>simp only at g4;omega
       | some a=>
         obtain⟨g4,g5⟩:=g4
         have g4:a.spot=none:=g4.resolve_right (by omega)
         obtain⟨c2,l1,l2,l3⟩:=SliceAt.get xs _ idx.toNat _ g5 (getD_of_lt' xs idx.toNat (dflt e) hlt)
         refine⟨_,w,_,_,run_indexAt_slice hu hTe hr g4,put_ref S hd (t:=0) (by intros;intro e;cases e) (by intros;intro e;cases e) (by intros;intro e;cases e) ?_⟩
         exact⟨a.block,a.off+idx.toNat*e.size,c2,rfl,l2,l3⟩
     · cases h1
   · rename_i u0 x0 ha
     split at h1
     · rename_i j e xs hj hea
       split at h1
       · rename_i heE
         subst heE
         simp only[Option.some.injEq,Prod.mk.injEq]at h1
         obtain⟨rfl,rfl⟩:=h1
         have hr:inRange idx (List.length xs):=hcs _ (by simp)
         obtain⟨e1,e2,e3⟩:=hq1.slot j hj
         have hjn:=e3 (by rw[ha];intro e;cases e)
         rw[e2]at hea
         have hs:=S.slots j hjn
         rw[hea]at hs
         obtain⟨cs',bs,k1,k2,_,_⟩:=hs
         have hlt:idx.toNat<List.length xs:=by unfold inRange at hr;omega
         rcases k2 with⟨_,_,k2⟩ | ⟨b,cap,row,bss,_,k3,_⟩
         · subst k2;simp at hlt
         · subst k3
           have k1:vl tmps j=.slice (some ⟨b,0,none⟩) (List.length xs) cap:=by
             have:[vl tmps j]=[Value.slice (some ⟨b,0,none⟩) (List.length xs) cap]:=by simpa [ValC,Sh.ag] using k1.symm
             simpa using this
           rw[e1,k1,e2]
           refine⟨_,w,_,_,run_indexAt_slice hu hTe hr rfl,put_ref S hd (t:=0) (by intros;intro e;cases e) (by intros;intro e;cases e) (by intros;intro e;cases e) ⟨⟨hjn,Nat.le_refl _,fun _=>Nat.le_refl _⟩,fun _=>?_⟩⟩
           unfold ElpR
           simp only[Option.isSome_none,Bool.false_eq_true,if_false]
           refine⟨[vl tmps j],?_,⟨b,0,none⟩,List.length xs,cap,by simp[k1],hlt,rfl,rfl⟩
           rw[hea]
           simp[Place,ValC,Sh.ag]
       · cases h1
     · cases h1
   · rename_i k g ver e xs off ex ha
     split at h1
     · rename_i hc
       obtain⟨c1,c2,heE⟩:=hc
       subst heE
       simp only[Option.some.injEq,Prod.mk.injEq]at h1
       obtain⟨rfl,rfl⟩:=h1
       have hr:inRange idx (List.length xs):=hcs _ (by simp)
       have hrel:=hq1.rel (by rw[ha];intro _ _ _ _ _ e;cases e)
       have htg:=hq1.tgt k (by rw[ha];rfl)
       rw[ha]at hrel
       obtain⟨r1,r2⟩:=hrel
       rw[htg]at c1 c2
       obtain⟨cs',k1,k2,k3,_⟩:=r2 ⟨c1,c2⟩
       obtain⟨a,cap,g1,g2,g3,g4⟩:=k2
       subst g1
       have k1:v1=.slice a (List.length xs) cap:=by
         have:[v1]=[Value.slice a (List.length xs) cap]:=by simpa [ValC,Ty.ag] using k1.symm
         simpa using this
       subst k1
       have hlt:idx.toNat<List.length xs:=by unfold inRange at hr;omega
       obtain⟨pc,p1,p2⟩:=k3 off rfl
       cases a with
       | none=>simp only at g4;omega
       | some a=>
         have g4s:a.spot=none:=g4.1.resolve_right (by omega)
         refine⟨_,w,_,_,run_indexAt_slice hu hTe hr g4s,put_ref S hd (t:=0) (by intros;intro e;cases e) (by intros;intro e;cases e) (by intros;intro e;cases e) ⟨r1,fun _=>?_⟩⟩
         unfold ElpR
         simp only[Option.isSome_none,Bool.false_eq_true,if_false]
         refine⟨pc,p1,?_⟩
         split at p2
         · have:pc[off]?=some (.slice (some a) (List.length xs) cap):=by
             have:=congrArg (fun l=>l[0]?) p2
             simp[Ty.size]at this
             exact this.symm
           exact⟨a,List.length xs,cap,this,hlt,g4s,rfl⟩
         · obtain⟨a',len',cap',n',q1,q2,q3⟩:=p2
           simp only[List.cons.injEq,Value.slice.injEq,and_true]at q2
           obtain⟨rfl,q5,rfl⟩:=q2
           exact⟨a,len',cap,q1,by omega,g4s,rfl⟩
     · cases h1
   · cases h1
 · rename_i m e hT
   obtain⟨te,hu,hTe⟩:=(hC.ty t _ hT).under
   obtain⟨j,g,off,en,g1,g2⟩:=ptrK_ok S h1
   obtain⟨hj,rfl,hro,hp⟩:=g2 v1 hq1
   split at g1
   · rename_i hc
     simp only[Option.some.injEq,Prod.mk.injEq]at g1
     obtain⟨rfl,rfl⟩:=g1
     have hr:inRange idx m:=hcs _ (by simp)
     obtain⟨b,hb,hv⟩:=hp hc.1
     subst hv
     refine⟨_,w,_,_,run_indexAt_arr hu hTe hr,put_ref S hd (t:=0) (by intros;intro e;cases e) (by intros;intro e;cases e) (by intros;intro e;cases e) ⟨⟨hj,hro.2,fun _=>Nat.le_refl _⟩,fun _=>?_⟩⟩
     unfold ElpR
     simp only[Option.isSome_some,if_true]
     exact⟨fun m' hm=>by simp only[Option.some.injEq]at hm;unfold inRange at hr;omega,b,hb,rfl⟩
   · cases g1
 · cases h1
theorem groups_of_segs {α:Type}{p:List Value→α→Prop}{sz:Nat}:∀ (xs:List α) (z:List Value),z.length=xs.length*sz→(∀ j x,xs[j]?=some x→p ((z.drop (j*sz)).take sz) x)→Groups p sz z xs
 | [],z,h,_=>by simp at h;simp[Groups,h]
 | x::xs,z,h,hp=>by
   simp only[List.length_cons,Nat.add_mul,Nat.one_mul]at h
   refine⟨z.take sz,z.drop sz,(List.take_append_drop _ _).symm,by simp;omega,by simpa using hp 0 x rfl,groups_of_segs xs _ (by simp;omega) fun j y hj=>?_⟩
   have:=hp (j+1) y (by simpa using hj)
   rw[List.drop_drop,Nat.add_comm]
   rwa [Nat.add_mul,Nat.one_mul]at this
theorem arr_ok (S:St0 n B X w0 M0 M ω ρ tmps w){gd:Gd}(hg:GuardOk ρ (vl tmps) gd){e:Ty}(he:e.flat=true)(df:List Deferred){ps:List (Nat×Operand)}{R:Type}:
   ∀ (m i:Nat) (k:List (El e)→Option R) (r:R),arrK e gd ρ m i ps k=some r→∃ xs,k xs=some r∧xs.length=m∧∀ j x,xs[j]?=some x→
     match look ps (i+j)with
     | some o=>(Act.eval ⟨tmps,df⟩ o).cells.size=e.size∧Enc M e (Act.eval ⟨tmps,df⟩ o).cells.toList x
     | none=>x=dflt e
 | 0,i,k,r,h=>⟨[],h,rfl,fun j x hj=>by simp at hj⟩
 | m+1,i,k,r,h=>by
   simp only[arrK]at h
   split at h
   · rename_i o hl
     obtain⟨x,h1,h2⟩:=rd_ok S h
     obtain⟨xs,k1,k2,k3⟩:=arr_ok S hg he df m (i+1) _ r h1
     refine⟨x::xs,k1,by simp[k2],fun j y hj=>?_⟩
     cases j with
     | zero=>
       simp at hj;subst hj
       rw[Nat.add_zero,hl]
       obtain⟨cs,g1,g2⟩:=h2 _ (opd_rel S hg o df)
       have hc:=ValC.cells g1 (Enc.plain e cs x g2)
       have:=congrArg List.length hc
       rw[Enc.length _ _ _ g2]at this
       exact⟨by simpa using this,by rw[hc];exact Enc.flat e _ _ he g2⟩
     | succ j=>
       have:=k3 j y (by simpa using hj)
       rwa [Nat.add_assoc,Nat.add_comm 1 j]at this
   · rename_i hl
     obtain⟨xs,k1,k2,k3⟩:=arr_ok S hg he df m (i+1) _ r h
     refine⟨dflt e::xs,k1,by simp[k2],fun j y hj=>?_⟩
     cases j with
     | zero=>
       simp at hj
       rw[Nat.add_zero,hl];exact hj.symm
     | succ j=>
       have:=k3 j y (by simpa using hj)
       rwa [Nat.add_assoc,Nat.add_comm 1 j]at this
def foldTy:List (Nat×Ty)→Ty
 | []=>.bool
 | [(_,t)]=>t
 | (_,t)::r=>.pair t (foldTy r)
def total:List (Nat×Ty)→Nat
 | []=>0
 | (_,t)::r=>t.size+total r
theorem foldTy_size:∀ (l:List (Nat×Ty)),l≠[]→(foldTy l).size=total l
 | [],h=>(h rfl).elim
 | [(_,t)],_=>rfl
 | (_,t)::q::r,_=>by simp[foldTy,Ty.size,total,foldTy_size (q::r)]
theorem zc_drop {T:Ty}{vs rest:List Value}(h:zc T vs=some rest):rest=vs.drop T.size∧T.size≤vs.length:=by
 obtain⟨v1,h1,h2⟩:=zc_enc (fun _ _=>none) T vs rest h
 have:=Enc.length _ _ _ h2
 subst h1
 exact⟨by rw[←this];simp,by simp;omega⟩
theorem build_ok {R:Type}(df:List Deferred)(ps:List (Nat×Operand)):∀ (l:List (Nat×Ty)) (p i:Nat) (gd:Gd) (ρ:Env) (M:Mem) (ω:Own) (k:(s:Sh)→El s.ty→List Wr→Option R) (r:R),
   St0 n B X w0 M0 M ω ρ tmps w→GuardOk ρ (vl tmps) gd→contB p l=true→buildK l i gd ρ ps k=some r→
   ∃ s x ws M' ω' bs,k s x ws=some r∧St0 n B X w0 M0 M' ω' (ρ.puts ws) tmps w∧M.le M'∧(∀ b L,n≤L→L<n+i→ω b=some L→ω' b=some L)∧
     s.noref=true∧bs.Nodup∧(∀ b∈bs,∃ L,n+i≤L∧ω' b=some L)∧s.ty=foldTy l∧l≠[]∧
     (∀ j o t q,l[j]?=some (o,t)→look ps (i+j)=some q→(Act.eval ⟨tmps,df⟩ q).cells.size=t.size)∧
     ∀ (z cells:List Value) (rest:List Value),zc (foldTy l) (z.drop p)=some rest→cells.length=z.length→
       (∀ j o t,l[j]?=some (o,t)→(cells.drop o).take t.size=match look ps (i+j)with | some q=>(Act.eval ⟨tmps,df⟩ q).cells.toList | none=>(z.drop o).take t.size)→
       EncO M' (rows w) s ((cells.drop p).take (total l)) x bs
 | [],p,i,gd,ρ,M,ω,k,r,S,hg,hc,h=>by simp[buildK]at h
 | [(o,t)],p,i,gd,ρ,M,ω,k,r,S,hg,hc,h=>by
   simp only[contB,Bool.and_true,beq_iff_eq]at hc
   subst hc
   simp only[buildK]at h
   split at h
   · rename_i q hl
     obtain⟨s,x,ws,h1,M',ω',S1,m1,t1⟩:=tk_ok S (n+i) h (opd_rel S hg q df)
     split at h1
     · rename_i hs
       obtain⟨hs1,hs2⟩:=hs
       obtain⟨cs,bs,e1,e2,e3,e4⟩:=t1.enc
       have hcl:=ValC.cells e1 (EncO.plain s cs x bs hs2 e2)
       have hlen:=EncO.length _ _ _ _ e2
       have hsz:(Act.eval ⟨tmps,df⟩ q).cells.size=t.size:=by
         have:=congrArg List.length hcl
         rw[hlen,Sh.size_ty s hs2,hs1]at this
         simpa using this
       refine⟨s,x,ws,M',ω',bs,h1,S1,m1.step.mem,fun b L g1 g2 g3=>m1.limbo L g1 (by omega) b g3,hs2,e3,fun b hb=>⟨_,Nat.le_refl _,e4 b hb⟩,hs1,by simp,?_,?_⟩
       · intro j o' t' q' hj hq'
         cases j with
         | zero=>simp at hj;obtain⟨rfl,rfl⟩:=hj;rw[Nat.add_zero,hl]at hq';cases hq';exact hsz
         | succ j=>simp at hj
       · intro z cells rest hz hcz hseg
         have:=hseg 0 o t rfl
         rw[Nat.add_zero,hl]at this
         simp only at this
         simp only[total,Nat.add_zero]
         rw[this,hcl];exact e2
     · cases h1
   · rename_i hl
     obtain⟨s,x,k1,k2,k3,k4,k5,k6⟩:=zeroK_ok t
     rw[k1]at h
     refine⟨s,x,[],M,ω,[],h,S,Mem.le_refl _,fun _ _ _ _ h=>h,k4,List.nodup_nil,by simp,k2,by simp,?_,?_⟩
     · intro j o' t' q' hj hq'
       cases j with
       | zero=>rw[Nat.add_zero,hl]at hq';cases hq'
       | succ j=>simp at hj
     · intro z cells rest hz hcz hseg
       have:=hseg 0 o t rfl
       rw[Nat.add_zero,hl]at this
       simp only[total,Nat.add_zero]
       rw[this]
       obtain⟨v1,g1,g2⟩:=k6 M (rows w) _ _ hz
       have hlen:=EncO.length _ _ _ _ g2
       rw[Sh.size_ty s k4,k2]at hlen
       rw[g1,←hlen,List.take_left];exact g2
 | (o,t)::y::l,p,i,gd,ρ,M,ω,k,r,S,hg,hc,h=>by
   simp only[contB,Bool.and_eq_true,beq_iff_eq]at hc
   obtain⟨rfl,hc⟩:=hc
   have hc':contB (o+t.size) (y::l)=true:=by simp only[contB,Bool.and_eq_true,beq_iff_eq];exact hc
   simp only[buildK]at h
   split at h
   · rename_i q hl
     obtain⟨s,x,ws,h1,M1,ω1,S1,m1,t1⟩:=tk_ok S (n+i) h (opd_rel S hg q df)
     split at h1
     · rename_i hs
       obtain⟨hs1,hs2⟩:=hs
       obtain⟨s',x',ws',M2,ω2,bs,k1,k2,k3,k4,k5,k6,k7,k8,k9,k10,k11⟩:=build_ok df ps (y::l) (o+t.size) (i+1) _ _ _ _ _ _ S1 (guard_next hg ws) hc' h1
       obtain⟨cs,b1,e1,e2,e3,e4⟩:=t1.enc
       have hcl:=ValC.cells e1 (EncO.plain s cs x b1 hs2 e2)
       have hlen:=EncO.length _ _ _ _ e2
       have hsz:(Act.eval ⟨tmps,df⟩ q).cells.size=t.size:=by
         have:=congrArg List.length hcl
         rw[hlen,Sh.size_ty s hs2,hs1]at this
         simpa using this
       have e5:∀ b∈b1,ω2 b=some (n+i):=fun b hb=>k4 b _ (by omega) (by omega) (e4 b hb)
       obtain⟨s2,z2,g1,g2,g3,g4,g5,g6,g7⟩:=mkPair_ok s x s' x'
       rw[g1]at k1
       refine⟨s2,z2,ws++ws',M2,ω2,b1++bs,k1,by rw[Env.puts_append];exact k2,Mem.le_trans m1.step.mem k3,fun b L hL hL2 hb=>k4 b L hL (by omega) (m1.limbo L hL (by omega) b hb),
         by rw[g4,hs2,k5];rfl,?_,?_,by rw[g2,hs1,k8];rfl,by simp,?_,?_⟩
       · rw[List.nodup_append]
         refine⟨e3,k6,fun a ha b hb e=>?_⟩
         subst e
         obtain⟨L,q1,q2⟩:=k7 a hb
         rw[e5 a ha]at q2
         simp at q2;omega
       · intro b hb
         rcases List.mem_append.1 hb with hb | hb
         · exact⟨n+i,Nat.le_refl _,e5 b hb⟩
         · obtain⟨L,q1,q2⟩:=k7 b hb
           exact⟨L,by omega,q2⟩
       · intro j o' t' q' hj hq'
         cases j with
         | zero=>simp at hj;obtain⟨rfl,rfl⟩:=hj;rw[Nat.add_zero,hl]at hq';cases hq';exact hsz
         | succ j=>exact k10 j o' t' q' (by simpa using hj) (by rw[Nat.add_assoc,Nat.add_comm 1 j];exact hq')
       · intro z cells rest hz hcz hseg
         simp only[foldTy,zc]at hz
         split at hz
         · rename_i r1 hz1
           obtain⟨hr1,hle⟩:=zc_drop hz1
           subst hr1
           rw[List.drop_drop]at hz
           have h0:=hseg 0 o t rfl
           rw[Nat.add_zero,hl]at h0
           simp only at h0
           have ih:=k11 z cells rest hz hcz (fun j o' t' hj=>by
             have:=hseg (j+1) o' t' (by simpa using hj)
             rw[this,Nat.add_assoc,Nat.add_comm 1 j])
           have hsplit:(cells.drop o).take (total ((o,t)::y::l))=(cells.drop o).take t.size++(cells.drop (o+t.size)).take (total (y::l)):=by
             show (cells.drop o).take (t.size+total (y::l))=_
             rw[List.take_add,List.drop_drop]
           rw[hsplit,h0,hcl]
           exact g7 M2 (rows w) _ _ _ _ (EncO.mono k3 s cs x b1 (fun _ _=>rfl) e2) ih
         · cases hz
     · cases h1
   · rename_i hl
     obtain⟨s,x,z1,z2,z3,z4,z5,z6⟩:=zeroK_ok t
     rw[z1]at h
     obtain⟨s',x',ws',M2,ω2,bs,k1,k2,k3,k4,k5,k6,k7,k8,k9,k10,k11⟩:=build_ok df ps (y::l) (o+t.size) (i+1) _ _ _ _ _ _ S hg hc' h
     obtain⟨s2,zz,g1,g2,g3,g4,g5,g6,g7⟩:=mkPair_ok s x s' x'
     rw[g1]at k1
     refine⟨s2,zz,ws',M2,ω2,bs,k1,k2,k3,fun b L hL hL2 hb=>k4 b L hL (by omega) hb,by rw[g4,z4,k5];rfl,k6,fun b hb=>by obtain⟨L,q1,q2⟩:=k7 b hb;exact⟨L,by omega,q2⟩,
       by rw[g2,z2,k8];rfl,by simp,?_,?_⟩
     · intro j o' t' q' hj hq'
       cases j with
       | zero=>rw[Nat.add_zero,hl]at hq';cases hq'
       | succ j=>exact k10 j o' t' q' (by simpa using hj) (by rw[Nat.add_assoc,Nat.add_comm 1 j];exact hq')
     · intro z cells rest hz hcz hseg
       simp only[foldTy,zc]at hz
       split at hz
       · rename_i r1 hz1
         obtain⟨v1,q1,q2⟩:=z6 M2 (rows w) _ _ hz1
         have hlen:=EncO.length _ _ _ _ q2
         rw[Sh.size_ty s z4,z2]at hlen
         obtain⟨hr1,hle⟩:=zc_drop hz1
         have h0:=hseg 0 o t rfl
         rw[Nat.add_zero,hl]at h0
         simp only at h0
         have hv1:(z.drop o).take t.size=v1:=by rw[q1,←hlen,List.take_left]
         subst hr1
         rw[List.drop_drop]at hz
         have ih:=k11 z cells rest hz hcz (fun j o' t' hj=>by
           have:=hseg (j+1) o' t' (by simpa using hj)
           rw[this,Nat.add_assoc,Nat.add_comm 1 j])
         have hsplit:(cells.drop o).take (total ((o,t)::y::l))=(cells.drop o).take t.size++(cells.drop (o+t.size)).take (total (y::l)):=by
           show (cells.drop o).take (t.size+total (y::l))=_
           rw[List.take_add,List.drop_drop]
         rw[hsplit,h0,hv1]
         exact g7 M2 (rows w) _ _ [] _ q2 ih
       · cases hz
end
end Fw
namespace Fw
open Go
section
variable {n B:Nat} {X:List Nat} {w0:World} {M0 M:Mem} {ω:Own} {ρ:Env} {tmps:Array Value} {w:World} {P:Program} {C:Ctx}
theorem run_places:∀ (fs:List Go.Field),(∀ f∈fs,∃ T,TyR P f.type T)→
   ∃ r,(fs.mapM fun f=>(do pure (f.offset,←Go.sizeOf f.type):Sem (Nat×Nat))).run P w=.ok r w∧∀ (i:Nat) (f:Go.Field) (T:Ty),fs[i]?=some f→TyR P f.type T→r[i]?=some (f.offset,T.size)
 | [],_=>⟨[],rfl,fun i f T h=>by simp at h⟩
 | f::fs,h=>by
   obtain⟨r,h1,h2⟩:=run_places fs (fun g hg=>h g (by simp[hg]))
   obtain⟨T,hT⟩:=h f (by simp)
   refine⟨(f.offset,T.size)::r,?_,fun i g T' hi hT'=>?_⟩
   · rw[List.mapM_cons]
     simp only[Sem.run_bind,run_sizeOf hT,Sem.run_pure,Result.andThen_ok,h1]
   · cases i with
     | zero=>
       simp at hi;subst hi
       obtain⟨i1,a1,a2,_⟩:=hT.info
       obtain⟨i2,b1,b2,_⟩:=hT'.info
       rw[a1]at b1;cases b1
       simp[←a2,←b2]
     | succ i=>simpa using h2 i g T' (by simpa using hi) hT'
theorem run_places' (fs:Array Go.Field)(h:∀ f∈fs.toList,∃ T,TyR P f.type T):
   ∃ r:Array (Nat×Nat),(fs.mapM fun f=>(do pure (f.offset,←Go.sizeOf f.type):Sem (Nat×Nat))).run P w=.ok r w∧∀ (i:Nat) (f:Go.Field) (T:Ty),fs[i]?=some f→TyR P f.type T→r[i]?=some (f.offset,T.size):=by
 obtain⟨r,h1,h2⟩:=run_places (w:=w) fs.toList h
 refine⟨r.toArray,?_,fun i f T hi hT=>by simpa using h2 i f T (by simpa using hi) hT⟩
 rw[Array.mapM_eq_mapM_toList,map_eq_pure_bind]
 simp only[Sem.run_bind,h1,Sem.run_pure,Result.andThen_ok]
theorem optAll_all {α β:Type}{f:α→Option β}:∀ {l:List α} {r:List β},optAll f l=some r→∀ a∈l,∃ b,f a=some b
 | a::l,r,h,x,hx=>by
   simp only[optAll]at h
   split at h
   · rename_i b l' h1 h2
     rcases List.mem_cons.1 hx with rfl | hx
     · exact⟨b,h1⟩
     · exact optAll_all h2 x hx
   · cases h
theorem contB_ge:∀ (l:List (Nat×Ty)) (p:Nat),contB p l=true→∀ (i o:Nat) (t:Ty),l[i]?=some (o,t)→p≤o∧o+t.size≤p+total l
 | [],p,_,i,o,t,h=>by simp at h
 | (o',t')::l,p,hc,i,o,t,h=>by
   simp only[contB,Bool.and_eq_true,beq_iff_eq]at hc
   obtain⟨rfl,hc⟩:=hc
   cases i with
   | zero=>simp at h;obtain⟨rfl,rfl⟩:=h;simp only[total];omega
   | succ i=>
     have:=contB_ge l _ hc i o t (by simpa using h)
     simp only[total];omega
theorem contB_disj:∀ (l:List (Nat×Ty)) (p:Nat),contB p l=true→∀ (i j oi:Nat) (ti:Ty) (oj:Nat) (tj:Ty),l[i]?=some (oi,ti)→l[j]?=some (oj,tj)→i<j→oi+ti.size≤oj
 | [],p,_,i,j,oi,ti,oj,tj,h,_,_=>by simp at h
 | (o',t')::l,p,hc,i,j,oi,ti,oj,tj,hi,hj,hlt=>by
   simp only[contB,Bool.and_eq_true,beq_iff_eq]at hc
   obtain⟨rfl,hc⟩:=hc
   cases j with
   | zero=>omega
   | succ j=>
     cases i with
     | zero=>
       simp at hi;obtain⟨rfl,rfl⟩:=hi
       exact(contB_ge l _ hc j oj tj (by simpa using hj)).1
     | succ i=>exact contB_disj l _ hc i j oi ti oj tj (by simpa using hi) (by simpa using hj) (by omega)
theorem parts_look (ps:Array (Nat×Operand))(df:List Deferred)(i:Nat):
   look (ps.map fun(i,x)=>(i,Act.eval ⟨tmps,df⟩ x)).toList i=(look ps.toList i).map (Act.eval ⟨tmps,df⟩):=by
 have:(ps.map fun(i,x)=>(i,Act.eval ⟨tmps,df⟩ x)).toList=ps.toList.map fun q=>(q.1,Act.eval ⟨tmps,df⟩ q.2):=by rw[Array.toList_map]
 rw[this,look_map]
theorem parts_keys (ps:Array (Nat×Operand))(df:List Deferred):((ps.map fun(i,x)=>(i,Act.eval ⟨tmps,df⟩ x)).toList.map Prod.fst)=ps.toList.map Prod.fst:=by
 rw[Array.toList_map,List.map_map];rfl
theorem look_nodup {α:Type}:∀ {ps:List (Nat×α)},(ps.map Prod.fst).Nodup→∀ q∈ps,look ps q.1=some q.2
 | (k,a)::r,hn,q,hq=>by
   simp only[List.map_cons,List.nodup_cons]at hn
   rcases List.mem_cons.1 hq with rfl | hq
   · simp[look]
   · have hne:k≠q.1:=fun e=>hn.1 (e ▸ List.mem_map_of_mem hq)
     simp only[look,if_neg hne]
     exact look_nodup hn.2 q hq
theorem exBuild_ok (hC:CtxOk P C)(S:St0 n B X w0 M0 M ω ρ tmps w){gd:Gd}(hg:GuardOk ρ (vl tmps) gd){t:TypeId}{d:Nat}(hd:d<n){ps:Array (Nat×Operand)}{ws:List Wr}{cs:List Prop}
   (h:exBuild C t d gd ρ ps.toList=some (ws,cs)) (df:List Deferred):
   Res n B X w0 M0 ρ tmps d ws ((Instr.build t (ps.map fun(i,x)=>(i,Act.eval ⟨tmps,df⟩ x))).run P w):=by
 unfold exBuild at h
 split at h
 · rename_i a b hT
   have hTy:=hC.ty t _ hT
   split at h
   · rename_i l hl
     split at h
     · rename_i hc
       obtain⟨hc1,hc2⟩:=hc
       obtain⟨hk1,hk2⟩:=keysB_ok hc2
       obtain⟨fs,hu,hfld⟩:=hC.flds t l hl
       obtain⟨fs',m,l',hu',ho,hp⟩:=hTy.under
       rw[hu]at hu';cases hu'
       obtain⟨r,hr1,hr2⟩:=run_places' (P:=P) (w:=w) fs (fun f hf=>by obtain⟨T,hT⟩:=optAll_all ho f hf;exact⟨T,_,hT⟩)
       have hplace:∀ (i o:Nat) (T:Ty),l[i]?=some (o,T)→r[i]?=some (o,T.size):=by
         intro i o T hi
         obtain⟨f,e1,e2,e3,_⟩:=hfld i o T hi
         rw[hr2 i f T e1 e3,e2]
       obtain⟨s,x,ws',M',ω',bs,k1,k2,k3,k4,k5,k6,k7,k8,k9,k10,k11⟩:=build_ok df ps.toList l 0 0 gd ρ M ω _ _ S hg hc1 h
       split at k1
       · rename_i hs
         simp only[Option.some.injEq,Prod.mk.injEq]at k1
         obtain⟨rfl,rfl⟩:=k1
         obtain⟨inf,i1,i2,i3,z,i4,i5⟩:=hTy.info
         obtain⟨zcs,z1,z2,z3⟩:=zOk_cells i5
         have hzl:zcs.length=total l:=by
           have:=zc_drop z2
           rw[←foldTy_size l k9,←k8,hs]
           have h1:=congrArg List.length this.1
           simp at h1;omega
         have hzrun:(zeroValue t).run P w=.ok z w:=by simp[zeroValue,typeInfo,i1,i4]
         obtain⟨cells,f1,f2,f3⟩:=fill_ok (fun i=>r[i]?) l.length (by
           intro i j oi si oj sj h1 h2 hi hj hne
           obtain⟨⟨o1,t1⟩,g1⟩:∃ q,l[i]?=some q:=⟨l[i],List.getElem?_eq_getElem hi⟩
           obtain⟨⟨o2,t2⟩,g2⟩:∃ q,l[j]?=some q:=⟨l[j],List.getElem?_eq_getElem hj⟩
           rw[hplace i o1 t1 g1]at h1
           rw[hplace j o2 t2 g2]at h2
           simp only[Option.some.injEq,Prod.mk.injEq]at h1 h2
           obtain⟨rfl,rfl⟩:=h1
           obtain⟨rfl,rfl⟩:=h2
           rcases Nat.lt_or_gt_of_ne hne with hlt | hlt
           · exact .inl (contB_disj l 0 hc1 i j _ _ _ _ g1 g2 hlt)
           · exact .inr (contB_disj l 0 hc1 j i _ _ _ _ g2 g1 hlt)) (ps.map fun(i,x)=>(i,Act.eval ⟨tmps,df⟩ x)).toList z.cells (by
           intro q hq
           simp only[Array.toList_map,List.mem_map]at hq
           obtain⟨p,hp',rfl⟩:=hq
           have hlt:=hk2 p hp'
           obtain⟨⟨o1,t1⟩,g1⟩:∃ q,l[p.1]?=some q:=⟨l[p.1],List.getElem?_eq_getElem hlt⟩
           have hsz:=k10 p.1 o1 t1 p.2 g1 (by rw[Nat.zero_add];exact look_nodup hk1 p hp')
           refine⟨hlt,o1,by simp only[hsz];exact hplace _ _ _ g1,?_⟩
           have:=contB_ge l 0 hc1 _ _ _ g1
           simp only[hsz]
           rw[←Array.length_toList,z3,hzl];omega) (by rw[parts_keys];exact hk1)
         have hcl:cells.toList.length=zcs.length:=by
           rw[Array.length_toList,f2,←Array.length_toList,z3]
         have he:=k11 zcs cells.toList [] (by rw[List.drop_zero,←k8,hs];exact z2) hcl (fun j o T hj=>by
           have hlt:=(List.getElem?_eq_some_iff.1 hj).1
           rw[f3 j o T.size hlt (hplace j o T hj),parts_look,Nat.zero_add,z3]
           cases look ps.toList j<;>rfl)
         rw[List.drop_zero,←hzl,←hcl,List.take_length]at he
         refine⟨.agg cells,w,M',settle n d ω',?_,?_⟩
         · simp only[Instr.build,Sem.run_bind,hzrun,Result.andThen_ok,run_underlying' hu]
           show (Sem.run P (fs.mapM fun f=>(do pure (f.offset,←Go.sizeOf f.type):Sem (Nat×Nat))) w).andThen _=_
           rw[hr1]
           simp only[Result.andThen_ok,f1,Sem.run_pure]
         · rw[Env.puts_append]
           refine put_c k2 hd (cs:=cells.toList) ?_ he k6 (fun b hb=>by obtain⟨L,g1,g2⟩:=k7 b hb;exact⟨L,by omega,g2⟩)
           rw[Sh.ag_ty s k5,hs]
           simp[ValC,Ty.ag]
       · cases k1
     · cases h
   · cases h
 · rename_i m e hT
   have hTy:=hC.ty t _ hT
   obtain⟨te,hu,hTe⟩:=hTy.under
   split at h
   · rename_i hc
     obtain⟨he,hc2⟩:=hc
     obtain⟨hk1,hk2⟩:=keysB_ok hc2
     obtain⟨xs,k1,k2,k3⟩:=arr_ok S hg he df m 0 _ _ h
     simp only[out1,Option.some.injEq,Prod.mk.injEq]at k1
     obtain⟨rfl,rfl⟩:=k1
     obtain⟨inf,i1,i2,i3,z,i4,i5⟩:=hTy.info
     obtain⟨zcs,z1,z2,z3⟩:=zOk_cells i5
     have hzrun:(zeroValue t).run P w=.ok z w:=by simp[zeroValue,typeInfo,i1,i4]
     obtain⟨v1,e1,e2⟩:=zc_enc M _ _ _ z2
     rw[List.append_nil]at e1
     subst e1
     have hzl:zcs.length=m*e.size:=Enc.length _ _ _ e2
     obtain⟨e3,e4⟩:=e2
     obtain⟨cells,f1,f2,f3⟩:=fill_ok (fun i=>some (i*e.size,e.size)) m (by
       intro i j oi si oj sj h1 h2 hi hj hne
       simp only[Option.some.injEq,Prod.mk.injEq]at h1 h2
       obtain⟨rfl,rfl⟩:=h1
       obtain⟨rfl,rfl⟩:=h2
       rcases Nat.lt_or_gt_of_ne hne with hl | hl
       · left
         have:=Nat.mul_le_mul_right e.size (show i+1≤j from hl)
         rw[Nat.add_mul]at this;omega
       · right
         have:=Nat.mul_le_mul_right e.size (show j+1≤i from hl)
         rw[Nat.add_mul]at this;omega) (ps.map fun(i,x)=>(i,Act.eval ⟨tmps,df⟩ x)).toList z.cells (by
       intro q hq
       simp only[Array.toList_map,List.mem_map]at hq
       obtain⟨p,hp',rfl⟩:=hq
       have hlt:=hk2 p hp'
       have hx:=k3 p.1 xs[p.1] (List.getElem?_eq_getElem (by omega))
       rw[Nat.zero_add,look_nodup hk1 p hp']at hx
       refine⟨hlt,p.1*e.size,by simp only[hx.1],?_⟩
       simp only[hx.1]
       rw[←Array.length_toList,z3,hzl]
       have:=Nat.mul_le_mul_right e.size (show p.1+1≤m from hlt)
       rw[Nat.add_mul]at this;omega) (by rw[parts_keys];exact hk1)
     have hcl:cells.toList.length=m*e.size:=by
       rw[Array.length_toList,f2,←Array.length_toList,z3,hzl]
     refine⟨.agg cells,w,M,_,?_,put_pure S hd (t:=.arr m e) (x:=xs) (cs:=cells.toList) ?_ ⟨k2,?_⟩⟩
     · simp only[Instr.build,Sem.run_bind,hzrun,Result.andThen_ok,run_underlying' hu,run_sizeOf hTe,f1,Sem.run_pure]
     · simp[ValC,Ty.ag]
     · refine groups_of_segs xs _ (by rw[hcl,k2]) fun j x hj=>?_
       have hlt:j<m:=by rw[←k2];exact(List.getElem?_eq_some_iff.1 hj).1
       have hx:=k3 j x hj
       rw[f3 j _ _ hlt rfl,parts_look]
       rw[Nat.zero_add]at hx
       cases hlk:look ps.toList j with
       | some q=>rw[hlk]at hx;exact hx.2
       | none=>
         rw[hlk]at hx
         simp only[Option.map_none]
         rw[hx,z3]
         exact Groups.get _ _ j _ e4 (by simp[dflt,hlt])
   · cases h
 · cases h
end
end Fw
namespace Fw
open Go
theorem ov_left {v1 v2 p:List Value}{o:Nat}(h:o+p.length≤v1.length):ov (v1++v2) o p=ov v1 o p++v2:=by
 unfold ov
 rw[List.take_append_of_le_length (by omega),List.drop_append_of_le_length h]
 simp
theorem ov_right {v1 v2 p:List Value}{o:Nat}(h:v1.length≤o):ov (v1++v2) o p=v1++ov v2 (o-v1.length) p:=by
 unfold ov
 rw[List.take_append,List.take_of_length_le h,List.drop_append,List.drop_eq_nil_of_le (by omega),show o+p.length-v1.length=o-v1.length+p.length by omega]
 simp
theorem ov_all {v p:List Value}(h:p.length=v.length):ov v 0 p=p:=by
 unfold ov
 simp[h]
def UpdOk (a:Sh)(x:El a.ty)(off:Nat)(s':Sh)(y:El s'.ty)(s2:Sh)(x2:El s2.ty):Prop:=
 s2.ty=a.ty∧∀ M R vs bs cs bs',EncO M R a vs x bs→EncO M R s' cs y bs'→off+cs.length≤vs.length∧
   ∃ b1 b2 b3,bs=b1++b2++b3∧EncO M R s2 (ov vs off cs) x2 (b1++bs'++b3)
theorem upd_here {a s':Sh}{x:El a.ty}{y:El s'.ty}{off:Nat}(h0:off=0)(hty:s'.ty=a.ty)(hsz:s'.size=a.size):UpdOk a x off s' y s' y:=by
 subst h0
 refine⟨hty,fun M R vs bs cs bs' h1 h2=>?_⟩
 have l1:=EncO.length _ _ _ _ h1
 have l2:=EncO.length _ _ _ _ h2
 have hl:cs.length=vs.length:=by rw[l1,l2,hsz]
 exact⟨by omega,[],bs,[],by simp,by rw[ov_all hl];simpa using h2⟩
theorem upd_left {a b s' s1:Sh}{x:El a.ty}{z:El b.ty}{y:El s'.ty}{y1:El s1.ty}{off:Nat}(h:UpdOk a x off s' y s1 y1){s2:Sh}{x2:El s2.ty}
   (hty:s2.ty=.pair s1.ty b.ty) (he:∀ M R v1 v2 b1 b2,EncO M R s1 v1 y1 b1→EncO M R b v2 z b2→EncO M R s2 (v1++v2) x2 (b1++b2)):
   s2.ty=.pair a.ty b.ty∧∀ M R vs bs cs bs',(∃ v1 v2 b1 b2,vs=v1++v2∧bs=b1++b2∧EncO M R a v1 x b1∧EncO M R b v2 z b2)→EncO M R s' cs y bs'→off+cs.length≤vs.length∧
     ∃ b1 b2 b3,bs=b1++b2++b3∧EncO M R s2 (ov vs off cs) x2 (b1++bs'++b3):=by
 refine⟨by rw[hty,h.1],fun M R vs bs cs bs' ⟨v1,v2,c1,c2,e1,e2,g1,g2⟩ hs=>?_⟩
 subst e1;subst e2
 obtain⟨k1,d1,d2,d3,k2,k3⟩:=h.2 M R v1 c1 cs bs' g1 hs
 refine⟨by simp;omega,d1,d2,d3++c2,by rw[k2];simp,?_⟩
 rw[ov_left k1]
 have:=he M R _ _ _ _ k3 g2
 simpa using this
theorem upd_right {a b s' s1:Sh}{x:El a.ty}{z:El b.ty}{y:El s'.ty}{y1:El s1.ty}{off:Nat}(hoff:a.size≤off)(h:UpdOk b z (off-a.size) s' y s1 y1){s2:Sh}{x2:El s2.ty}
   (hty:s2.ty=.pair a.ty s1.ty) (he:∀ M R v1 v2 b1 b2,EncO M R a v1 x b1→EncO M R s1 v2 y1 b2→EncO M R s2 (v1++v2) x2 (b1++b2)):
   s2.ty=.pair a.ty b.ty∧∀ M R vs bs cs bs',(∃ v1 v2 b1 b2,vs=v1++v2∧bs=b1++b2∧EncO M R a v1 x b1∧EncO M R b v2 z b2)→EncO M R s' cs y bs'→off+cs.length≤vs.length∧
     ∃ b1 b2 b3,bs=b1++b2++b3∧EncO M R s2 (ov vs off cs) x2 (b1++bs'++b3):=by
 refine⟨by rw[hty,h.1],fun M R vs bs cs bs' ⟨v1,v2,c1,c2,e1,e2,g1,g2⟩ hs=>?_⟩
 subst e1;subst e2
 have l1:=EncO.length _ _ _ _ g1
 obtain⟨k1,d1,d2,d3,k2,k3⟩:=h.2 M R v2 c2 cs bs' g2 hs
 refine⟨by simp;omega,c1++d1,d2,d3,by rw[k2];simp,?_⟩
 rw[ov_right (by omega),l1]
 have:=he M R _ _ _ _ g1 k3
 simpa using this
theorem El.updK_ok {R:Type}{s':Sh}{y:El s'.ty}(hn:s'.noref=true):∀ (T:Ty) (x:El T) (off:Nat) (k:(s:Sh)→El s.ty→Option R) (r:R),El.updK T x off s' y k=some r→
   ∃ s2 x2,k s2 x2=some r∧UpdOk (.pure T) x off s' y s2 x2∧s2.ag=s2.ty.ag
 | .pair a b,x,off,k,r,h=>by
   simp only[El.updK]at h
   have hpair:∀ M R vs bs,EncO M R (.pure (.pair a b)) vs x bs→∃ v1 v2 b1 b2,vs=v1++v2∧bs=b1++b2∧EncO M R (.pure a) v1 x.1 b1∧EncO M R (.pure b) v2 x.2 b2:=
     fun M R vs bs ⟨e1,v1,v2,e2,e3,e4⟩=>⟨v1,v2,[],[],e2,by simp[e1],⟨rfl,e3⟩,⟨rfl,e4⟩⟩
   split at h
   · rename_i hc
     exact⟨s',y,h,upd_here hc.1 hc.2.symm (by rw[Sh.size_ty s' hn,←hc.2];rfl),Sh.ag_ty s' hn⟩
   · split at h
     · obtain⟨s1,y1,h1,h2,_⟩:=El.updK_ok hn a x.1 off _ r h
       obtain⟨s2,z,g1,g2,g3,_,_,_,g7⟩:=mkPair_ok s1 y1 (.pure b) x.2
       rw[g1]at h1
       obtain⟨u1,u2⟩:=upd_left (b:=.pure b) (z:=x.2) h2 g2 g7
       exact⟨s2,z,h1,⟨u1,fun M R vs bs cs bs' e1 e2=>u2 M R vs bs cs bs' (hpair M R vs bs e1) e2⟩,by rw[g3,g2];rfl⟩
     · rename_i hge
       obtain⟨s1,y1,h1,h2,_⟩:=El.updK_ok hn b x.2 (off - a.size) _ r h
       obtain⟨s2,z,g1,g2,g3,_,_,_,g7⟩:=mkPair_ok (.pure a) x.1 s1 y1
       rw[g1]at h1
       obtain⟨u1,u2⟩:=upd_right (a:=.pure a) (x:=x.1) (by show a.size≤off;omega) h2 g2 g7
       exact⟨s2,z,h1,⟨u1,fun M R vs bs cs bs' e1 e2=>u2 M R vs bs cs bs' (hpair M R vs bs e1) e2⟩,by rw[g3,g2];rfl⟩
 | .int _,x,off,k,r,h=>by
   simp only[El.updK]at h
   split at h
   · rename_i hc;exact⟨s',y,h,upd_here hc.1 hc.2.symm (by rw[Sh.size_ty s' hn,←hc.2];rfl),Sh.ag_ty s' hn⟩
   · cases h
 | .bool,x,off,k,r,h=>by
   simp only[El.updK]at h
   split at h
   · rename_i hc;exact⟨s',y,h,upd_here hc.1 hc.2.symm (by rw[Sh.size_ty s' hn,←hc.2];rfl),Sh.ag_ty s' hn⟩
   · cases h
 | .str,x,off,k,r,h=>by
   simp only[El.updK]at h
   split at h
   · rename_i hc;exact⟨s',y,h,upd_here hc.1 hc.2.symm (by rw[Sh.size_ty s' hn,←hc.2];rfl),Sh.ag_ty s' hn⟩
   · cases h
 | .slice _,x,off,k,r,h=>by
   simp only[El.updK]at h
   split at h
   · rename_i hc;exact⟨s',y,h,upd_here hc.1 hc.2.symm (by rw[Sh.size_ty s' hn,←hc.2];rfl),Sh.ag_ty s' hn⟩
   · cases h
 | .arr _ _,x,off,k,r,h=>by
   simp only[El.updK]at h
   split at h
   · rename_i hc;exact⟨s',y,h,upd_here hc.1 hc.2.symm (by rw[Sh.size_ty s' hn,←hc.2];rfl),Sh.ag_ty s' hn⟩
   · cases h
theorem Sh.updK_ok {R:Type}{s':Sh}{y:El s'.ty}(hn:s'.noref=true):∀ (a:Sh) (x:El a.ty) (off:Nat) (k:(s:Sh)→El s.ty→Option R) (r:R),a.updK x off s' y k=some r→
   ∃ s2 x2,k s2 x2=some r∧UpdOk a x off s' y s2 x2∧s2.ag=s2.ty.ag
 | .pure T,x,off,k,r,h=>El.updK_ok hn T x off k r h
 | .pair a b,x,off,k,r,h=>by
   simp only[Sh.updK]at h
   split at h
   · rename_i hc
     exact⟨s',y,h,upd_here hc.1 hc.2.1.symm hc.2.2,Sh.ag_ty s' hn⟩
   · split at h
     · obtain⟨s1,y1,h1,h2,_⟩:=Sh.updK_ok hn a x.1 off _ r h
       obtain⟨s2,z,g1,g2,g3,_,_,_,g7⟩:=mkPair_ok s1 y1 b x.2
       rw[g1]at h1
       obtain⟨u1,u2⟩:=upd_left (b:=b) (z:=x.2) h2 g2 g7
       exact⟨s2,z,h1,⟨u1,fun M R vs bs cs bs' e1 e2=>u2 M R vs bs cs bs' e1 e2⟩,by rw[g3,g2];rfl⟩
     · rename_i hge
       obtain⟨s1,y1,h1,h2,_⟩:=Sh.updK_ok hn b x.2 (off - a.size) _ r h
       obtain⟨s2,z,g1,g2,g3,_,_,_,g7⟩:=mkPair_ok a x.1 s1 y1
       rw[g1]at h1
       obtain⟨u1,u2⟩:=upd_right (a:=a) (x:=x.1) (by omega) h2 g2 g7
       exact⟨s2,z,h1,⟨u1,fun M R vs bs cs bs' e1 e2=>u2 M R vs bs cs bs' e1 e2⟩,by rw[g3,g2];rfl⟩
 | .own e,x,off,k,r,h=>by
   simp only[Sh.updK]at h
   split at h
   · rename_i hc;exact⟨s',y,h,upd_here hc.1 hc.2.symm (by rw[Sh.size_ty s' hn,←hc.2];rfl),Sh.ag_ty s' hn⟩
   · cases h
 | .nil e,x,off,k,r,h=>by
   simp only[Sh.updK]at h
   split at h
   · rename_i hc;exact⟨s',y,h,upd_here hc.1 hc.2.symm (by rw[Sh.size_ty s' hn,←hc.2];rfl),Sh.ag_ty s' hn⟩
   · cases h
 | .hole t,x,off,k,r,h=>by
   simp only[Sh.updK]at h
   split at h
   · rename_i hc;exact⟨s',y,h,upd_here hc.1 hc.2.symm (by rw[Sh.size_ty s' hn,←hc.2];rfl),Sh.ag_ty s' hn⟩
   · cases h
 | .ref s,x,off,k,r,h=>by simp[Sh.updK]at h
section
variable {n B:Nat} {X:List Nat} {w0:World} {M0 M:Mem} {ω:Own} {ρ:Env} {tmps:Array Value} {w:World} {P:Program} {C:Ctx}
theorem put_row (S:St0 n B X w0 M0 M ω ρ tmps w){j b:Nat}(hj:j<n)(hb:ω b=some j)(hv:vl tmps j=.pointer (some ⟨b,0,none⟩)){row:List Value}{w':World}(hu:Upd w b row w')
   {s2:Sh} {x2:El s2.ty} {bs:List Nat} (he:EncO M (rows w) s2 row x2 bs) (hn:(b::bs).Nodup) (hbs:∀ i∈bs,ω i=some n∨ω i=some j):
   ∃ ω',St0 n B X w0 M0 M ω' (ρ.puts [⟨j,true,.c (.ref s2) x2⟩]) tmps w':=by
 refine⟨fun i=>if ω i=some n then some j else ω i,?_⟩
 obtain⟨d1,d2,d3⟩:=S.dis b j hb
 have hget:(ρ.puts [(⟨j,true,.c (.ref s2) x2⟩:Wr)]).get j=⟨(ρ.get j).g,(ρ.get j).ver+1,.c (.ref s2) x2⟩:=by
   show (ρ.put _).get j=_
   rw[Env.get_put];simp
 have hbn:b∉bs:=(List.nodup_cons.1 hn).1
 refine S.step _ S.size ⟨hu.os,hu.tape,hu.output,Nat.le_of_eq hu.size.symm,fun k hk hx=>hu.other k (fun e=>?_)⟩ (Mem.le_refl _) (fun _ _ _ _=>rfl) ?_ ?_ (fun _ _=>rfl) ?_ ?_ ?_
 · subst e
   rcases d1 with d1 | d1
   · omega
   · exact hx d1
 · intro i o v hm
   have hne:i≠b:=fun e=>by subst e;rw[d3 o]at hm;cases hm
   rw[cell_of_block (hu.other i hne)]
   exact S.mem i o v hm
 · intro i k hk
   have:∃ k',ω i=some k':=by
     revert hk
     show (if ω i=some n then some j else ω i)=some k→_
     split
     · rename_i e;intro _;exact⟨n,e⟩
     · intro e;exact⟨k,e⟩
   obtain⟨k',hk'⟩:=this
   obtain⟨q1,q2,q3⟩:=S.dis i k' hk'
   exact⟨q1,by rw[hu.size];exact q2,q3⟩
 · intro x hx
   simp at hx;subst hx;exact hj
 · intro t ht hne i hi
   have htj:t≠j:=fun e=>hne _ (List.mem_singleton.2 rfl) e.symm
   refine⟨?_,hu.other i (fun e=>?_)⟩
   · show (if ω i=some n then some j else ω i)=some t
     rw[if_neg (by rw[hi];simp;omega)];exact hi
   · subst e;rw[hb]at hi;simp at hi;exact htj hi.symm
 · intro t ⟨x,hx,hxt⟩ _
   simp at hx;subst hx
   have:t=j:=hxt.symm
   subst this
   rw[hget]
   refine⟨[.pointer (some ⟨b,0,none⟩)],b::bs,?_,⟨b,row,bs,rfl,rfl,hu.row,?_⟩,hn,?_⟩
   · have hv':tmps.getD t undef=.pointer (some ⟨b,0,none⟩):=hv
     rw[hv'];rfl
   · exact EncO.mono (Mem.le_refl _) s2 row x2 bs (fun i hi=>rows_of_block (hu.other i (fun e=>hbn (e ▸ hi)))) he
   · intro i hi
     show (if ω i=some n then some t else ω i)=some t
     rcases List.mem_cons.1 hi with rfl | hi
     · rw[if_neg (by rw[hb];simp;omega)];exact hb
     · rcases hbs i hi with h | h
       · rw[if_pos h]
       · rw[if_neg (by rw[h];simp;omega)];exact h
theorem noneIs_ok {j:Nat}:∀ {ws:List Wr},noneIs j ws=true→∀ x∈ws,x.slot≠j
 | [],_,x,hx=>by simp at hx
 | y::r,hn,x,hx=>by
   simp only[noneIs]at hn
   split at hn
   · cases hn
   · rename_i hne
     rcases List.mem_cons.1 hx with rfl | hx
     · exact hne
     · exact noneIs_ok hn x hx
end
end Fw
namespace Fw
open Go
structure Grown (w w':World) (row:List Value):Prop where
 os:w'.os=w.os
 tape:w'.tape=w.tape
 output:w'.output=w.output
 size:w'.heap.size=w.heap.size+1
 old:∀ k,k<w.heap.size→w'.heap[k]?=w.heap[k]?
 row:rows w' w.heap.size=some row
theorem Grown.alloc (w:World)(c:Array Value)(e:TypeId):Grown w (w.alloc (.cells c e)) c.toList:=
 ⟨rfl,rfl,rfl,by simp,fun _ hk=>heap_alloc_old hk,rows_alloc c e⟩
theorem Grown.drew {w w':World}{row:List Value}{k:Nat}(h:Grown { w with drawn:=k } w' row):Grown w w' row:=
 ⟨h.os,h.tape,h.output,h.size,h.old,h.row⟩
section
variable {n B:Nat} {X:List Nat} {w0:World} {M0 M:Mem} {ω:Own} {ρ:Env} {tmps:Array Value} {w w':World} {P:Program} {C:Ctx}
theorem grown_ok (S:St0 n B X w0 M0 M ω ρ tmps w)(hB:B≤w.heap.size){row:List Value}(hg:Grown w w' row)(L:Nat):
   St0 n B X w0 M0 M (fun b=>if b=w.heap.size then some L else ω b) ρ tmps w':=by
 refine S.step [] S.size ⟨hg.os,hg.tape,hg.output,by rw[hg.size];omega,fun k hk _=>hg.old k (by omega)⟩ (Mem.le_refl _) (fun _ _ _ _=>rfl) ?_ ?_ (fun _ _=>rfl) (by simp) ?_ (by simp)
 · intro b o v hm
   have h:=S.mem b o v hm
   have hlt:=World.block_lt_of_cell? _ _ h
   rw[cell_of_block (hg.old b hlt)];exact h
 · intro b k hk
   by_cases hb:b=w.heap.size
   · subst hb
     refine⟨.inl hB,by rw[hg.size];omega,fun o=>?_⟩
     cases hm:M w.heap.size o with
     | none=>rfl
     | some v=>have:=World.block_lt_of_cell? _ _ (S.mem _ _ _ hm);simp at this
   · rw[if_neg hb]at hk
     obtain⟨h1,h2,h3⟩:=S.dis b k hk
     exact⟨h1,by rw[hg.size];omega,h3⟩
 · intro t _ _ b hb
   obtain⟨_,h2,_⟩:=S.dis b t hb
   exact⟨by rw[if_neg (by omega)];exact hb,hg.old b h2⟩
theorem EncO.grown {row:List Value}(hg:Grown w w' row){s:Sh}{cs:List Value}{x:El s.ty}{bs:List Nat}(h:EncO M (Fw.rows w) s cs x bs):
   EncO M (Fw.rows w') s cs x bs:=
 EncO.mono (Mem.le_refl _) s cs x bs (fun b hb=>by obtain⟨row,hr⟩:=EncO.rows s cs x bs h b hb;exact rows_of_block (hg.old b (rows_lt hr))) h
theorem own_new (S:St0 n B X w0 M0 M ω ρ tmps w)(hB:B≤w0.heap.size){d:Nat}(hd:d<n){row:List Value}(hg:Grown w w' row){s:Sh}{xs:List (El s.ty)}{bs:List Nat}{cap:Nat}
   (he:GroupsO (EncO M (rows w) s) s.size row xs bs) (hc:row.length=cap*s.size) (h1:xs.length≤cap) (h2:cap≤bigLen)
   (hn:bs.Nodup) (hb:∀ b∈bs,∃ L,n≤L∧ω b=some L):
   ∃ ω',St0 n B X w0 M0 M ω' (ρ.puts [w1 d (.c (.own s) xs)]) (tmps.setIfInBounds d (.slice (some ⟨w.heap.size,0,none⟩) xs.length cap)) w':=by
 have S2:=grown_ok S (S.bnd hB) hg n
 have hlt:∀ b∈bs,b<w.heap.size:=fun b hi=>by
   obtain⟨row,hr⟩:=GroupsO.rows (Q:=fun b=>∃ row,rows w b=some row) xs _ bs (fun x _ cs b hp=>EncO.rows s cs x b hp) he b hi
   exact rows_lt hr
 refine⟨_,put_c S2 hd (s:=.own s) (x:=xs) (cs:=[.slice (some ⟨w.heap.size,0,none⟩) xs.length cap]) (bs:=w.heap.size::bs) rfl
   (.inr ⟨_,cap,row,bs,rfl,rfl,h1,h2,hg.row,hc,GroupsO.imp xs _ bs (fun x _ cs b _ hp=>EncO.grown hg hp) he⟩) ?_ ?_⟩
 · rw[List.nodup_cons]
   exact⟨fun h=>by have:=hlt _ h;omega,hn⟩
 · intro b hi
   rcases List.mem_cons.1 hi with rfl | hi
   · exact⟨n,Nat.le_refl _,by simp⟩
   · obtain⟨L,g1,g2⟩:=hb b hi
     have:=hlt b hi
     exact⟨L,g1,(if_neg (by omega)).trans g2⟩
theorem groups_ints (k:IntKind):∀ (ns:List Int),(∀ x∈ns,inR k x)→Groups (Enc M (.int k)) 1 (ns.map (Value.int k)) ns
 | [],_=>rfl
 | x::ns,h=>⟨[.int k x],ns.map (Value.int k),rfl,rfl,⟨rfl,h x (by simp)⟩,groups_ints k ns fun y hy=>h y (by simp[hy])⟩
theorem groups_ints_eq (k:IntKind):∀ (ns:List Int) (vs:List Value),Groups (Enc M (.int k)) 1 vs ns→vs=ns.map (Value.int k)∧∀ x∈ns,inR k x
 | [],vs,h=>⟨h,by simp⟩
 | x::ns,vs,⟨v1,v2,h1,h2,⟨h3,h4⟩,h5⟩=>by
   obtain⟨e1,e2⟩:=groups_ints_eq k ns v2 h5
   subst h1;subst h3;subst e1
   exact⟨rfl,fun y hy=>by rcases List.mem_cons.1 hy with rfl | hy;exact h4;exact e2 y hy⟩
theorem bytesOf_range (x:List UInt8):∀ y∈bytesOf x,inR .u8 y:=by
 intro y hy
 obtain⟨b,_,rfl⟩:=List.mem_map.1 hy
 have:=b.toNat_lt
 constructor
 · show (0:Int)≤_;omega
 · show _≤(255:Int);omega
theorem grown_markStringish {w w':World}{c:Array Value}{e:TypeId}(he:w'=w.alloc (.cells c e)):
   ∃ w2,(markStringish ⟨w.heap.size,0,none⟩).run P w'=.ok () w2∧Grown w w2 c.toList:=by
 subst he
 have hblk:(w.alloc (.cells c e)).heap[w.heap.size]?=some (.cells c e):=heap_alloc_new w _
 refine⟨(w.alloc (.cells c e)).freeze ⟨w.heap.size,c.size,none⟩ 1,?_,?_⟩
 · have hsh:(shape w.heap.size).run P (w.alloc (.cells c e))=.ok (some (e,c.size)) (w.alloc (.cells c e)):=by
     rw[run_shape];unfold World.shape?;rw[hblk]
   unfold markStringish
   simp only[Sem.run_bind,hsh,Result.andThen_ok,run_freeze]
 · have hfz:∀ k,((w.alloc (.cells c e)).freeze ⟨w.heap.size,c.size,none⟩ 1).heap[k]?=if w.heap.size=k then some (.cells c e (if (0:Nat)==0 then(c.size,c.size+1)else(min 0 c.size,max 0 (c.size+1))))else(w.alloc (.cells c e)).heap[k]?:=by
     intro k
     unfold World.freeze
     rw[if_neg (by decide),Array.getElem?_modify]
     by_cases hk:w.heap.size=k
     · subst hk;rw[if_pos rfl,if_pos rfl,hblk];rfl
     · rw[if_neg hk,if_neg hk]
   refine⟨rfl,rfl,rfl,?_,fun k hk=>?_,?_⟩
   · unfold World.freeze
     rw[if_neg (by decide),Array.size_modify];simp
   · rw[hfz,if_neg (by omega)]
     exact heap_alloc_old hk
   · unfold rows
     rw[hfz,if_pos rfl]
     simp
theorem exConvert_ok (hC:CtxOk P C)(S:St0 n B X w0 M0 M ω ρ tmps w)(hB:B≤w0.heap.size){t u:TypeId}{d:Nat}(hd:d<n){q:Opd}{ws:List Wr}{cs:List Prop}
   (h:exConvert C t u d q=some (ws,cs)) (hcs:∀ p∈cs,p) {v:Value} (hq:OpdR n M ω w ρ (vl tmps) q v):Res n B X w0 M0 ρ tmps d ws ((convert t u v).run P w):=by
 unfold exConvert at h
 split at h
 · rename_i k k2 ht hu
   have e1:P.underlying t=some (.int k):=(hC.ty t _ ht).under
   have e2:P.underlying u=some (.int k2):=(hC.ty u _ hu).under
   obtain⟨x,h1,h2⟩:=rd_int S h
   simp only[out1,Option.some.injEq,Prod.mk.injEq]at h1
   obtain⟨rfl,rfl⟩:=h1
   obtain⟨rfl,_⟩:=h2 v hq
   refine⟨_,w,_,_,?_,put_int S hd (inR_wrap k2 x)⟩
   simp only[convert,Sem.run_bind,run_underlying' e1,run_underlying' e2,Result.andThen_ok]
   rfl
 · rename_i ht hu
   have e1:P.underlying t=some .string:=(hC.ty t _ ht).under
   obtain⟨te,e2,e3⟩:=(hC.ty u _ hu).under
   have e3':P.underlying te=some (.int .u8):=e3.under
   obtain⟨x,h1,h2⟩:=rd_str S h
   simp only[Option.some.injEq,Prod.mk.injEq]at h1
   obtain⟨rfl,rfl⟩:=h1
   obtain⟨rfl,hx⟩:=h2 v hq
   have hlen:(ByteArray.mk x.toArray).size=x.length:=by simp[ByteArray.size]
   have hcap:=grownCap_ge w x.length 0 te
   have hcap2:=grownCap_le_maxLen w x.length 0 te (by simp only[maxLen];simp only[bigLen]at hx;omega)
   have hmap:((ByteArray.mk x.toArray).data.map fun b=>Value.int .u8 b.toNat).toList=(bytesOf x).map (Value.int .u8):=by
     simp[bytesOf]
   obtain⟨w2,r1,r2⟩:=grown_markStringish (P:=P) (w:=w.drew) (c:=((ByteArray.mk x.toArray).data.map fun b=>Value.int .u8 b.toNat)++Array.replicate (grownCap w x.length 0 te - x.length) (.int .u8 0)) (e:=te) rfl
   have r2':Grown w w2 _:=r2.drew
   obtain⟨ω',S2⟩:=own_new S hB hd r2' (s:=.pure (.int .u8)) (xs:=bytesOf x) (bs:=[]) (cap:=grownCap w x.length 0 te) (by
       rw[Array.toList_append,hmap]
       refine GroupsO.spare _ _ _ _ (GroupsO.ofGroups _ _ (fun cs x h=>⟨rfl,h⟩) (groups_ints .u8 _ (bytesOf_range x)))) (by
       show _=_*1
       rw[Array.toList_append,List.length_append,hmap,Array.toList_replicate,List.length_map,List.length_replicate,Nat.mul_one]
       have:(bytesOf x).length=x.length:=by simp[bytesOf]
       omega) (by simpa [bytesOf] using hcap) (by simp only[maxLen]at hcap2;simp only[bigLen];omega) List.nodup_nil (by simp)
   refine⟨_,w2,_,ω',?_,S2⟩
   have hl2:(bytesOf x).length=x.length:=by simp[bytesOf]
   rw[hl2]
   simp only[convert,Sem.run_bind,run_underlying' e1,run_underlying' e2,run_underlying' e3',Result.andThen_ok,Conv.stringToBytes,run_choose,Question.forced,Bool.false_eq_true,if_false,hlen,Sem.run_pure]
   have hr:(newRow te (((ByteArray.mk x.toArray).data.map fun b=>Value.int .u8 b.toNat)++Array.replicate (grownCap w x.length 0 te-x.length) (.int .u8 0))).run P w.drew=.ok ⟨w.drew.heap.size,0,none⟩ (w.drew.alloc (.cells (((ByteArray.mk x.toArray).data.map fun b=>Value.int .u8 b.toNat)++Array.replicate (grownCap w x.length 0 te-x.length) (.int .u8 0)) te)):=run_newRow (P:=P) (w:=w.drew) te _
   unfold grownCap at *
   unfold World.drew at *
   rw[hr]
   simp only[Result.andThen_ok]
   rw[r1]
   rfl
 · rename_i ht hu
   have e2:P.underlying u=some .string:=(hC.ty u _ hu).under
   obtain⟨te,e1,e3⟩:=(hC.ty t _ ht).under
   have e3':P.underlying te=some (.int .u8):=e3.under
   obtain⟨x,h1,h2⟩:=rd_ok S h
   simp only[out1,Option.some.injEq,Prod.mk.injEq]at h1
   obtain⟨rfl,rfl⟩:=h1
   obtain⟨cs,g1,a,cap,g2,g3,g4,g5⟩:=h2 v hq
   have hv:v=.slice a x.length cap:=by
     have:cs=[v]:=g1
     rw[this]at g2
     simpa using g2
   subst hv
   have hfold:∀ (x:List Int) (acc:List UInt8),x.foldl (fun(r:ByteArray) n=>r.push (UInt8.ofNat n.toNat)) ⟨acc.toArray⟩=⟨(acc++strOf x).toArray⟩:=by
     intro x
     induction x with
     | nil=>intro acc;simp[strOf]
     | cons y x ih=>
       intro acc
       have:(ByteArray.mk acc.toArray).push (UInt8.ofNat y.toNat)=⟨(acc++[UInt8.ofNat y.toNat]).toArray⟩:=by
         simp[ByteArray.push]
       rw[List.foldl_cons,this,ih]
       simp[strOf]
   have hstr:(strOf x).length≤bigLen:=by simp only[strOf,List.length_map];omega
   refine⟨.string ⟨(strOf x).toArray⟩,w,_,_,?_,put_pure S hd (t:=.str) (cs:=[_]) rfl ⟨rfl,hstr⟩⟩
   cases a with
   | none=>
     have hx0:x=[]:=List.length_eq_zero_iff.1 (by simp at g5;omega)
     subst hx0
     simp only[convert,Sem.run_bind,run_underlying' e1,run_underlying' e2,run_underlying' e3',Result.andThen_ok,Conv.bytesToString]
     rfl
   | some ad=>
     obtain⟨g6,g7⟩:=g5
     obtain⟨vs,g8,g9⟩:=SliceAt.groups x _ g7
     obtain⟨g10,g11⟩:=groups_ints_eq .u8 x vs g8
     subst g10
     have hload:(loadCells ad x.length).run P w=.ok (x.map (Value.int .u8)).toArray w:=by
       by_cases hx0:x=[]
       · subst hx0;rfl
       · have:x.length≠0:=fun h=>hx0 (List.length_eq_zero_iff.1 h)
         have g6:ad.spot=none:=g6.resolve_right (by omega)
         obtain⟨b,o,sp⟩:=ad
         simp only at g6
         subst g6
         exact run_loadCells (by simp) g9
     have:=run_bytesToString (P:=P) w ad x.length cap x hload
     have he:(ByteArray.empty)=⟨([]:List UInt8).toArray⟩:=rfl
     rw[he,hfold,List.nil_append]at this
     simp only[convert,Sem.run_bind,run_underlying' e1,run_underlying' e2,run_underlying' e3',Result.andThen_ok]
     exact this
 · cases h
theorem repN_groups {M:Mem}{Rw:RowFn}{T:Ty}{s:Sh}{x:El s.ty}(hs:s.ty=T)(hno:s.noref=true){cs:List Value}(he:EncO M Rw s cs x []):∀ (m:Nat),
   GroupsO (EncO M Rw s) s.size ((List.replicate m cs).flatten) (List.replicate m x) []
 | 0=>rfl
 | m+1=>by
   refine⟨cs,(List.replicate m cs).flatten,[],[],by simp[List.replicate_succ],EncO.length _ _ _ _ he,rfl,he,?_⟩
   exact repN_groups hs hno he m
theorem madeCells_flat (z:Array Value)(m:Nat)(_:0<z.size):(madeCells z (m*z.size)).toList=(List.replicate m z.toList).flatten:=by
 have hlen:(madeCells z (m*z.size)).toList.length=(List.replicate m z.toList).length*z.size:=by simp[madeCells]
 refine segs_flatten z.size _ _ hlen fun i p hp=>?_
 have hi:i<m:=by
   have:=(List.getElem?_eq_some_iff.1 hp).1
   simpa using this
 have hp':p=z.toList:=by
   rw[List.getElem?_replicate,if_pos hi]at hp
   simpa using hp.symm
 subst hp'
 apply List.ext_getElem?
 intro j
 rw[List.getElem?_take]
 by_cases hj:j<z.size
 · rw[if_pos hj,List.getElem?_drop]
   have hmul:i*z.size+z.size≤m*z.size:=by
     have:=Nat.mul_le_mul_right z.size (show i+1≤m from hi)
     rw[Nat.add_mul,Nat.one_mul]at this;exact this
   have hlt:i*z.size+j<m*z.size:=by omega
   have hmod:(i*z.size+j) % z.size=j:=by rw[Nat.mul_comm,Nat.mul_add_mod,Nat.mod_eq_of_lt hj]
   simp[madeCells,hlt,hmod,hj]
 · rw[if_neg hj]
   symm
   rw[List.getElem?_eq_none_iff];simpa using hj
theorem exMakeSlice_ok (hC:CtxOk P C)(S:St0 n B X w0 M0 M ω ρ tmps w)(hB:B≤w0.heap.size){t:TypeId}{d:Nat}(hd:d<n){q1 q2:Opd}{ws:List Wr}{cs:List Prop}
   (h:exMakeSlice C t d q1 q2=some (ws,cs)) (hcs:∀ p∈cs,p) {v1 v2:Value} (hq1:OpdR n M ω w ρ (vl tmps) q1 v1) (hq2:OpdR n M ω w ρ (vl tmps) q2 v2):
   Res n B X w0 M0 ρ tmps d ws ((Instr.makeSlice t v1 v2).run P w):=by
 unfold exMakeSlice at h
 split at h
 · rename_i e hT
   obtain⟨te,hu,hTe⟩:=(hC.ty t _ hT).under
   obtain⟨x,h1,h2⟩:=rd_int S h
   obtain⟨y,h3,h4⟩:=rd_int S h1
   obtain⟨rfl,_⟩:=h2 v1 hq1
   obtain⟨rfl,_⟩:=h4 v2 hq2
   obtain⟨s,z,k1,k2,k3,k4,k5,k6⟩:=zeroK_ok e
   rw[k1]at h3
   simp only[Option.some.injEq,Prod.mk.injEq]at h3
   obtain⟨rfl,rfl⟩:=h3
   have c1:x=y:=hcs _ (by simp)
   have c2:0≤x:=hcs _ (by simp)
   have c3:x≤maxNew:=hcs _ (by simp)
   subst c1
   obtain⟨i,i1,i2,i3,zv,i4,i5⟩:=hTe.info
   obtain⟨zc,z1,z2,z3⟩:=zOk_cells i5
   obtain⟨v1',z4,z5⟩:=k6 M (rows w) zc [] z2
   rw[List.append_nil]at z4
   subst z4
   have hsz:s.size=e.size:=by rw[Sh.size_ty s k4,k2]
   have hzl:zv.cells.size=e.size:=by
     have:=EncO.length _ _ _ _ z5
     rw[←z3]at this
     simpa [hsz] using this
   have hb:(i.bytes:Int)*x≤281474976710656:=by
     have:(i.bytes:Int)*x≤32768*(maxNew:Int):=Int.mul_le_mul (by omega) c3 c2 (by omega)
     exact Int.le_trans this (by decide)
   have hrun:=run_make (P:=P) w t te i zv hu i1 i4 .i64 .i64 x x c2 (Int.le_refl _) hb (by simp only[maxNew]at c3;omega)
   have hrow:GroupsO (EncO M (rows w) s) s.size (madeCells zv.cells (x.toNat*i.size)).toList (List.replicate x.toNat z) []:=by
     rcases Nat.eq_zero_or_pos e.size with h0 | h0
     · have hz0:zc=[]:=List.length_eq_zero_iff.1 (by rw[←z3];simp[hzl,h0])
       have:(madeCells zv.cells (x.toNat*i.size)).toList=(List.replicate x.toNat zc).flatten:=by
         rw[i2,h0,Nat.mul_zero,hz0]
         simp[madeCells]
       rw[this]
       exact repN_groups k2 k4 z5 _
     · rw[i2,←hzl,madeCells_flat _ _ (by omega),z3]
       exact repN_groups k2 k4 z5 _
   obtain⟨ω',S2⟩:=own_new S hB hd (Grown.alloc w (madeCells zv.cells (x.toNat*i.size)) te) (s:=s) (xs:=List.replicate x.toNat z) (bs:=[]) (cap:=x.toNat) hrow
     (by simp[madeCells,i2,hsz]) (by simp) (by simp only[maxNew]at c3;simp only[bigLen];omega) List.nodup_nil (by simp)
   refine⟨_,_,M,ω',hrun,?_⟩
   simpa using S2
 · cases h
theorem exExtract_ok (S:St0 n B X w0 M0 M ω ρ tmps w){d i:Nat}(hd:d<n){q:Opd}{ws:List Wr}{cs:List Prop}
   (h:exExtract d q i=some (ws,cs)) {v:Value} (hq:OpdR n M ω w ρ (vl tmps) q v):Res n B X w0 M0 ρ tmps d ws ((Instr.extract v i).run P w):=by
 unfold exExtract at h
 split at h
 · rename_i l j ha hj
   have hr:=hq.rel (by rw[ha];intro _ _ _ _ _ e;cases e)
   rw[ha]at hr
   obtain⟨vs,bs,hv,ht,hn,hb⟩:=hr
   subst hv
   have hjn:j<n:=(hq.slot j hj).2.2 (by rw[ha];simp)
   have hvj:=(hq.slot j hj).1
   rw[hj]at hb
   simp only[Option.getD_some]at hb
   split at h
   · rename_i s x hl
     obtain⟨v,cs',b,bs',g1,g2,g3,g4,g5⟩:=TupR.get l vs bs i ⟨s,x⟩ ht hl
     have hrun:(Instr.extract (.tuple vs.toArray) i).run P w=.ok v w:=by
       unfold Instr.extract
       have:vs.toArray[i]?=some v:=by simpa using g1
       simp only[this];rfl
     split at h
     · rename_i hf
       simp only[out1,Option.some.injEq,Prod.mk.injEq]at h
       obtain⟨rfl,rfl⟩:=h
       have hb0:=EncO.free _ _ _ _ hf g3
       subst hb0
       exact⟨v,w,_,_,hrun,put_c S hd g2 g3 List.nodup_nil (by simp)⟩
     · split at h
       · rename_i hno
         simp only[out1,Option.some.injEq,Prod.mk.injEq]at h
         obtain⟨rfl,rfl⟩:=h
         have he:=(hq.slot j hj).2.1
         rw[he]
         have hbx:∀ c∈b,notBox (vl tmps j) c=true:=fun c _=>by
           have:vl tmps j=.tuple vs.toArray:=hvj.symm
           rw[this];rfl
         refine⟨v,w,_,_,hrun,put_ref S hd (t:=0) (by intros;intro e;cases e) (by intros;intro e;cases e) (by intros;intro e;cases e) ⟨⟨hjn,Nat.le_refl _,fun _=>Nat.le_refl _⟩,fun _=>?_⟩⟩
         exact⟨cs',by rw[←Sh.ag_ty s hno];exact g2,EncO.toEnc (M_heapOf _ _ _ _ _) s cs' x b hno (fun c hc row hrow=>heapOf_rows S hrow (hb c (g5.mem_iff.2 (by simp[hc]))) (hbx c hc)) g3,
           (by intro off ho;cases ho),(by intro _ _ _ _ e;cases e),⟨vs,hvj.symm,g1⟩⟩
       · cases h
   · cases h
 · cases h
end
end Fw
namespace Fw
open Go
theorem upP_ag:∀ (t:Ty) (s:Sh),upP t s=true→t.ag=s.ag:=by
 intro t s h
 rcases upP_cases h with h | ⟨a,b,c,d,h1,h2,_⟩
 · rw[h];rfl
 · rw[h1,h2];rfl
theorem upB_ag:∀ (a b:Sh),upB a b=true→a.ag=b.ag:=by
 intro a b h
 cases a with
 | pure t=>exact upP_ag t b h
 | nil e=>cases b with
   | own e'=>rfl
   | pure t=>cases t with
     | slice e'=>rfl
     | _=>simp[upB]at h
   | nil e'=>rfl
   | _=>simp[upB]at h
 | pair a b'=>cases b with
   | pair c d=>rfl
   | pure t=>cases t with
     | pair c d=>rfl
     | _=>simp[upB]at h
   | _=>simp[upB]at h
 | own e=>cases b<;>first | rfl | (simp[upB]at h)
 | ref e=>cases b<;>first | rfl | (simp[upB]at h)
 | hole t=>cases b<;>first | (simp[upB]at h;done) | (simp[upB]at h;rw[h])
theorem upP_size:∀ (t:Ty) (s:Sh),upP t s=true→t.size=s.size:=by
 intro t
 induction t with
 | pair a b iha ihb=>
   intro s h
   rcases upP_cases h with h | ⟨a',b',c,d,h1,h2,h3,h4⟩
   · rw[h];rfl
   · cases h1;subst h2;simp[Ty.size,Sh.size,iha c h3,ihb d h4]
 | _=>
   intro s h
   rcases upP_cases h with h | ⟨_,_,_,_,h,_⟩
   · rw[h];rfl
   · cases h
theorem upB_size:∀ (a b:Sh),upB a b=true→a.size=b.size:=by
 intro a
 induction a with
 | pure t=>intro b h;exact upP_size t b h
 | nil e=>intro b h;cases b with
   | own e'=>rfl
   | pure t=>cases t with
     | slice e'=>rfl
     | _=>simp[upB]at h
   | nil e'=>rfl
   | _=>simp[upB]at h
 | pair a b iha ihb=>
   intro s h
   cases s with
   | pair c d=>simp[upB]at h;simp[Sh.size,iha c h.1,ihb d h.2]
   | pure t=>cases t with
     | pair c d=>simp[upB]at h;simp[Sh.size,Ty.size,iha (.pure c) h.1,ihb (.pure d) h.2]
     | _=>simp[upB]at h
   | _=>simp[upB]at h
 | own e ih=>intro b h;cases b<;>first | rfl | (simp[upB]at h)
 | ref e ih=>intro b h;cases b<;>first | rfl | (simp[upB]at h)
 | hole t=>intro b h;cases b<;>first | (simp[upB]at h;done) | (simp[upB]at h;rw[h])
theorem heq_pair:∀ {A B C D:Ty},A=C→B=D→∀ {x:El A×El B} {y:El C×El D},HEq x y→HEq x.1 y.1∧HEq x.2 y.2:=by
 intro A B C D h1 h2 x y h
 subst h1;subst h2
 cases h;exact⟨HEq.rfl,HEq.rfl⟩
theorem heq_nil:∀ {A C:Ty},A=C→∀ {ys:List (El C)},HEq ([]:List (El A)) ys→ys=[]:=by
 intro A C h ys e
 subst h;cases e;rfl
theorem heq_cons:∀ {A C:Ty},A=C→∀ {x:El A} {xs:List (El A)} {ys:List (El C)},HEq (x::xs) ys→∃ y ys',ys=y::ys'∧HEq x y∧HEq xs ys':=by
 intro A C h x xs ys e
 subst h;cases e;exact⟨x,xs,rfl,HEq.rfl,HEq.rfl⟩
theorem heq_nil':∀ {A C:Ty},A=C→∀ {xs:List (El A)} {ys:List (El C)},HEq xs ys→xs=[]→ys=[]:=by
 intro A C h xs ys e hx
 subst h;cases e;exact hx
theorem heq_len:∀ {A C:Ty},A=C→∀ {xs:List (El A)} {ys:List (El C)},HEq xs ys→xs.length=ys.length:=by
 intro A C h xs ys e
 subst h;cases e;rfl
theorem GroupsO.heq {A C:Ty}(hA:A=C){p:List Value→El A→List Nat→Prop}{q:List Value→El C→List Nat→Prop}{sz:Nat}(hpq:∀ x y cs b,HEq x y→p cs x b→q cs y b):
   ∀ (xs:List (El A)) (ys:List (El C)) (vs:List Value) (bs:List Nat),HEq xs ys→GroupsO p sz vs xs bs→GroupsO q sz vs ys bs
 | [],ys,vs,bs,he,h=>by rw[heq_nil hA he];exact h
 | x::xs,ys,vs,bs,he,⟨v1,v2,b1,b2,h1,h2,h3,h4,h5⟩=>by
   obtain⟨y,ys',rfl,e1,e2⟩:=heq_cons hA he
   exact⟨v1,v2,b1,b2,h1,h2,h3,hpq x y v1 b1 e1 h4,GroupsO.heq hA hpq xs ys' v2 b2 e2 h5⟩
theorem upP_enc {M:Mem}{R:RowFn}:∀ (t:Ty) (s:Sh),upP t s=true→∀ (x:El t) (y:El s.ty) (vs:List Value),HEq x y→Enc M t vs x→EncO M R s vs y []:=by
 intro t
 induction t with
 | pair a b iha ihb=>
   intro s h x y vs he hh
   rcases upP_cases h with h | ⟨a',b',c,d,h1,h2,h3,h4⟩
   · subst h;cases he;exact⟨rfl,hh⟩
   · cases h1;subst h2
     obtain⟨v1,v2,e1,e2,e3⟩:=hh
     obtain⟨g1,g2⟩:=heq_pair (upP_ty _ _ h3) (upP_ty _ _ h4) he
     exact⟨v1,v2,[],[],e1,rfl,iha c h3 _ _ _ g1 e2,ihb d h4 _ _ _ g2 e3⟩
 | _=>
   intro s h x y vs he hh
   rcases upP_cases h with h | ⟨_,_,_,_,h,_⟩
   · subst h;cases he;exact⟨rfl,hh⟩
   · cases h
theorem upB_enc {M:Mem}{R:RowFn}:∀ (a b:Sh),upB a b=true→∀ (x:El a.ty) (y:El b.ty) (vs:List Value) (bs:List Nat),HEq x y→EncO M R a vs x bs→EncO M R b vs y bs:=by
 have same:∀ (a b:Sh),a=b→∀ (x:El a.ty) (y:El b.ty) (vs:List Value) (bs:List Nat),HEq x y→EncO M R a vs x bs→EncO M R b vs y bs:=by
   intro a b h x y vs bs he hh
   subst h;cases he;exact hh
 intro a
 induction a with
 | pure t=>intro b h x y vs bs he ⟨h1,h2⟩;rw[h1];exact upP_enc t b h x y vs he h2
 | nil e=>
   intro b h x y vs bs he hh
   cases b with
   | own e'=>
     obtain⟨h1,h2,h3⟩:=hh
     have ht:e=e'.ty:=by simp[upB]at h;exact h.symm
     exact .inl ⟨h1,h2,heq_nil' ht he h3⟩
   | pure t=>cases t with
     | slice e'=>
       obtain⟨h1,h2,h3⟩:=hh
       have ht:e=e':=by simp[upB]at h;exact h.symm
       have hy:(y:List (El e'))=[]:=heq_nil' ht he h3
       refine⟨h1,?_⟩
       rw[hy];exact EmptySl.enc h2
     | _=>simp[upB]at h
   | nil e'=>exact same _ _ (by simp[upB]at h;rw[h]) x y vs bs he hh
   | _=>simp[upB]at h
 | pair a b iha ihb=>
   intro s h x y vs bs he hh
   obtain⟨v1,v2,b1,b2,h1,h2,h3,h4⟩:=hh
   cases s with
   | pair c d=>
     simp[upB]at h
     obtain⟨e1,e2⟩:=heq_pair (upB_ty _ _ h.1) (upB_ty _ _ h.2) he
     exact⟨v1,v2,b1,b2,h1,h2,iha c h.1 _ _ _ _ e1 h3,ihb d h.2 _ _ _ _ e2 h4⟩
   | pure t=>cases t with
     | pair c d=>
       simp[upB]at h
       obtain⟨e1,e2⟩:=heq_pair (show _=c from upB_ty _ _ h.1) (show _=d from upB_ty _ _ h.2) he
       obtain⟨k1,k2⟩:=iha (.pure c) h.1 x.1 y.1 _ _ e1 h3
       obtain⟨k3,k4⟩:=ihb (.pure d) h.2 x.2 y.2 _ _ e2 h4
       exact⟨by rw[h2,k1,k3];rfl,v1,v2,h1,k2,k4⟩
     | _=>simp[upB]at h
   | _=>simp[upB]at h
 | own e ih=>
   intro b h x y vs bs he hh
   cases b with
   | own e'=>
     simp only[upB]at h
     have ht:=upB_ty _ _ h
     have hl:=heq_len ht he
     rcases hh with⟨h1,h2,h3⟩ | ⟨b,cap,row,bss,h1,h2,h3,h4,h5,h6,h7⟩
     · exact .inl ⟨h1,h2,heq_nil' ht he h3⟩
     · refine .inr ⟨b,cap,row,bss,h1,by rw[←hl];exact h2,by rw[←hl];exact h3,h4,h5,by rw[←upB_size _ _ h];exact h6,?_⟩
       rw[←upB_size _ _ h]
       exact GroupsO.heq ht (fun x y cs b he hp=>ih e' h x y cs b he hp) x y row bss he h7
   | _=>simp[upB]at h
 | ref e ih=>
   intro b h x y vs bs he hh
   cases b with
   | ref e'=>exact same _ _ (by simp[upB]at h;rw[h]) x y vs bs he hh
   | _=>simp[upB]at h
 | hole t=>
   intro b h x y vs bs he hh
   cases b with
   | hole t'=>exact same _ _ (by simp[upB]at h;rw[h]) x y vs bs he hh
   | _=>simp[upB]at h
theorem castK_heq {a b:Ty}{R:Type}(h:a=b)(k:El b→R)(x:El a):∃ y,castK h k x=k y∧HEq x y:=by subst h;exact⟨x,rfl,HEq.rfl⟩
end Fw
namespace Fw
open Go
section
variable {n B:Nat} {X:List Nat} {w0:World} {M0 M:Mem} {ω:Own} {ρ:Env} {tmps:Array Value} {w:World}
def partM (M:Mem)(w:World)(b2:List Nat):Mem:=fun b o=>
 match M b o with
 | some v=>some v
 | none=>if b∈b2 then w.cell? ⟨b,o,none⟩else none
def partω (ω:Own)(b2:List Nat):Own:=fun b=>if b∈b2 then none else ω b
theorem partM_le (M:Mem)(w:World)(b2:List Nat):M.le (partM M w b2):=fun b o v hm=>by unfold partM;rw[hm]
theorem frz_taken {M1:Mem}{ω1:Own}{ws:List Wr}{L:Nat}(S:St0 n B X w0 M0 M1 ω1 (ρ.puts ws) tmps w)(m:Moved n M M1 ω ω1 w ρ tmps ws L)(hL:n≤L){v:Value}{s:Sh}{x:El s.ty}
   (t:Taken n M1 ω1 w L v s x) (hn:s.noref=true):∃ M2 ω2,St0 n B X w0 M0 M2 ω2 (ρ.puts ws) tmps w∧Moved n M M2 ω ω2 w ρ tmps ws L∧Taken n M2 ω2 w L v (.pure s.ty) x:=by
 obtain⟨cs,bs,k1,k2,k3,k4⟩:=t.enc
 have hM:=partM_le M1 w bs
 have hdis:∀ b k,partω ω1 bs b=some k→(B≤b∨b∈X)∧b<w.heap.size∧∀ o,partM M1 w bs b o=none:=by
   intro b k hk
   unfold partω at hk
   split at hk
   · cases hk
   · rename_i hne
     obtain⟨h1,h2,h3⟩:=S.dis b k hk
     refine⟨h1,h2,fun o=>?_⟩
     unfold partM
     rw[h3 o]
     simp only[if_neg hne]
 have hin:∀ b k,k≠L→ω1 b=some k→partω ω1 bs b=some k:=by
   intro b k hne hb
   unfold partω
   rw[if_neg (fun h=>hne (by have:=k4 b h;rw[hb]at this;simpa using this))]
   exact hb
 refine⟨partM M1 w bs,partω ω1 bs,?_,⟨⟨Mem.le_trans m.step.mem hM,fun b k hk=>(hdis b k hk).2.2,m.step.old,m.step.ptr,fun k hkn hk b hb=>?_⟩,m.low,fun L' hL' hne b hb=>hin b L' hne (m.limbo L' hL' hne b hb)⟩,⟨cs,[],?_,⟨rfl,?_⟩,List.nodup_nil,by simp⟩⟩
 · have:=S.step [] S.size (Fr.refl _ _ _) hM ?_ ?_ hdis (fun _ _=>rfl) (by simp) ?_ (by simp)
   · exact this
   · intro b o hb hx
     unfold partM
     cases hm:M1 b o with
     | some u=>rfl
     | none=>
       simp only
       rw[if_neg]
       intro h1
       rcases (S.dis b L (k4 b h1)).1 with h2 | h2
       · omega
       · exact hx h2
   · intro b o v hm
     unfold partM at hm
     cases he:M1 b o with
     | some u=>rw[he]at hm;simp only[Option.some.injEq]at hm;subst hm;exact S.mem b o u he
     | none=>
       rw[he]at hm
       simp only at hm
       split at hm
       · exact hm
       · cases hm
   · intro t ht _ b hb
     exact⟨hin b t (by omega) hb,rfl⟩
 · have h:=m.step.own k hkn hk b hb
   exact⟨hin b k (by omega) h.1,h.2⟩
 · show ValC s.ty.ag _ cs
   rw[←Sh.ag_ty s hn];exact k1
 · refine EncO.toEnc hM s cs x bs hn (fun b hb row hrow i c hc=>?_) k2
   unfold partM
   rw[(S.dis b L (k4 b hb)).2.2 (0+i)]
   simp only[hb,if_true]
   exact rows_full hrow i c hc
theorem tkF_ok (S:St0 n B X w0 M0 M ω ρ tmps w)(L:Nat)(hL:n≤L){R:Type}{t:Ty}{q:Opd}{k:El t→List Wr→Option R}{r:R}
   (h:tkF t q k=some r) {v:Value} (hq:OpdR n M ω w ρ (vl tmps) q v):∃ x ws,k x ws=some r∧
     ∃ M' ω',St0 n B X w0 M0 M' ω' (ρ.puts ws) tmps w∧Moved n M M' ω ω' w ρ tmps ws L∧Taken n M' ω' w L v (.pure t) x:=by
 unfold tkF at h
 obtain⟨s,x,ws,h1,M1,ω1,S1,m1,t1⟩:=tk_ok S L h hq
 split at h1
 · rename_i ht
   subst ht
   split at h1
   · rename_i hn
     obtain⟨M2,ω2,S2,m2,t2⟩:=frz_taken S1 m1 hL t1 hn
     exact⟨x,ws,h1,M2,ω2,S2,m2,t2⟩
   · cases h1
 · cases h1
end
end Fw
namespace Fw
open Go
section
variable {n B:Nat} {X:List Nat} {w0:World} {M0 M:Mem} {ω:Own} {ρ:Env} {tmps:Array Value} {w w':World} {P:Program} {C:Ctx}
theorem upd_ok (S:St0 n B X w0 M0 M ω ρ tmps w){b L:Nat}(hL:n≤L)(hb:ω b=some L){row:List Value}(hu:Upd w b row w'):St0 n B X w0 M0 M ω ρ tmps w':=by
 obtain⟨d1,d2,d3⟩:=S.dis b L hb
 refine S.step [] S.size ⟨hu.os,hu.tape,hu.output,Nat.le_of_eq hu.size.symm,fun k hk hx=>hu.other k (fun e=>?_)⟩ (Mem.le_refl _) (fun _ _ _ _=>rfl) ?_ ?_ (fun _ _=>rfl) (by simp) ?_ (by simp)
 · subst e
   rcases d1 with d1 | d1
   · omega
   · exact hx d1
 · intro i o v hm
   have hne:i≠b:=fun e=>by subst e;rw[d3 o]at hm;cases hm
   rw[cell_of_block (hu.other i hne)]
   exact S.mem i o v hm
 · intro i k hk
   obtain⟨q1,q2,q3⟩:=S.dis i k hk
   exact⟨q1,by rw[hu.size];exact q2,q3⟩
 · intro t ht _ i hi
   exact⟨hi,hu.other i (fun e=>by subst e;rw[hb]at hi;simp at hi;omega)⟩
theorem run_append_room {t ty te:TypeId}{E:Ty}(hu:P.underlying t=some (.slice te))(hE:TyR P te E){base:Option Addr}{nn cap m c:Nat}{a:Option Addr}{news:List Value}
   (hl:news.length=m*E.size) (hnews:∀ ad,a=some ad→(ad.spot=none∨m=0)∧CellsAt (full w) ad.block ad.off news) (ha:a=none→m=0) (hroom:nn+m≤cap)
   {w':World} (hst:∀ ad,base=some ad→(storeCells (ad.add (nn*E.size)) news).run P w=.ok () w') (hno:base=none→w'=w):
   (Builtin.append_ #[t,t] ty #[.slice base nn cap,.slice a m c]).run P w=.ok (.slice base (nn+m) cap) w':=by
 obtain⟨i,h1,h2,_⟩:=hE.info
 have hf:(Builtin.firstCells E.size m (.slice a m c)).run P w=.ok news.toArray w:=by
   cases a with
   | none=>
     have:news=[]:=List.length_eq_zero_iff.1 (by rw[hl,ha rfl,Nat.zero_mul])
     subst this;rfl
   | some ad=>
     obtain⟨g1,g2⟩:=hnews _ rfl
     rcases g1 with g1 | g1
     · obtain⟨b,o,sp⟩:=ad
       simp only at g1
       subst g1
       exact run_loadCells hl g2
     · subst g1
       have:news=[]:=List.length_eq_zero_iff.1 (by rw[hl,Nat.zero_mul])
       subst this
       unfold Builtin.firstCells
       rw[Nat.zero_mul];rfl
 cases base with
 | none=>
   rw[hno rfl]
   simp[Builtin.append_,run_underlying' hu,run_sizeOf hE,Builtin.lenOf,hroom,hf]
 | some ad=>
   have hs:=hst ad rfl
   simp[Builtin.append_,run_underlying' hu,run_sizeOf hE,Builtin.lenOf,hroom,hf,hs]
theorem run_append_new {t ty te:TypeId}{E:Ty}(hu:P.underlying t=some (.slice te))(hE:TyR P te E){base:Option Addr}{nn cap m c:Nat}{ad:Addr}{olds news:List Value}
   (hlo:olds.length=nn*E.size) (holds:∀ bd,base=some bd→(bd.spot=none∨nn=0)∧CellsAt (full w) bd.block bd.off olds) (hbase:base=none→nn=0∧cap=0)
   (hl:news.length=m*E.size) (hsp:ad.spot=none) (hnews:CellsAt (full w) ad.block ad.off news) (hg:cap<nn+m) (hle:nn+m≤maxApp):
   ∃ cap' zs w',(Builtin.append_ #[t,t] ty #[.slice base nn cap,.slice (some ad) m c]).run P w=.ok (.slice (some ⟨w.heap.size,0,none⟩) (nn+m) cap') w'∧Grown w w' (olds++news++zs)∧
     nn+m≤cap'∧cap'≤bigLen∧(olds++news++zs).length=cap'*E.size:=by
 obtain⟨i,i1,i2,i3,zv,i4,i5⟩:=hE.info
 obtain⟨zd,_,y2,y3⟩:=zOk_cells i5
 obtain⟨zv1,y4,y5⟩:=zc_enc (fun _ _=>none) E zd [] y2
 rw[List.append_nil]at y4
 have hzl:zv.cells.size=E.size:=by
   have:=Enc.length _ _ _ y5
   rw[←y4,←y3]at this
   simpa using this
 have hbytes:(nn+m)*i.bytes≤140737488355328:=Nat.le_trans (Nat.mul_le_mul hle i3) (by decide)
 have h63:nn+m≤maxLen:=Nat.le_trans hle (by decide)
 have hN:∀ j v,news[j]?=some v→w.cell? (ad.add j)=some v:=fun j v hj=>by
   obtain⟨b,o,sp⟩:=ad
   simp only at hsp
   subst hsp
   rw[addr_add];exact hnews j v hj
 have hcap:=grownCap_ge w (nn+m) cap te
 have hcap2:=grownCap_le_maxLen w (nn+m) cap te h63
 have hz:(Builtin.zeroCells zv.cells (grownCap w (nn+m) cap te-(nn+m))).size=(grownCap w (nn+m) cap te-(nn+m))*E.size:=by simp[Builtin.zeroCells,hzl]
 refine⟨grownCap w (nn+m) cap te,(Builtin.zeroCells zv.cells (grownCap w (nn+m) cap te-(nn+m))).toList,w.drew.alloc (.cells (olds.toArray++news.toArray++Builtin.zeroCells zv.cells (grownCap w (nn+m) cap te-(nn+m))) te),?_,?_,hcap,by simp only[maxLen]at hcap2;simp only[bigLen];omega,?_⟩
 · cases base with
   | none=>
     obtain⟨rfl,rfl⟩:=hbase rfl
     have:olds=[]:=List.length_eq_zero_iff.1 (by simpa using hlo)
     subst this
     have hr:=run_append_nil (P:=P) w t ty te i zv hu i1 i4 ad m c news (by rw[i2];exact hl) hN (by omega) (by simp only[maxLen]at h63;omega) (by rw[Nat.zero_add]at hbytes;omega)
     simpa using hr
   | some bd=>
     obtain⟨g1,g2⟩:=holds bd rfl
     have hO:∀ j v,olds[j]?=some v→w.cell? (bd.add j)=some v:=fun j v hj=>by
       rcases g1 with g1 | g1
       · obtain⟨b,o,sp⟩:=bd
         simp only at g1
         subst g1
         rw[addr_add];exact g2 j v hj
       · subst g1
         have:olds=[]:=List.length_eq_zero_iff.1 (by rw[hlo,Nat.zero_mul])
         subst this;simp at hj
     exact run_append_grow (P:=P) w t ty te i zv hu i1 i4 bd nn cap olds (by rw[i2];exact hlo) hO ad m c news (by rw[i2];exact hl) hN hg (by simp only[maxLen]at h63;omega) (growslice_fits hg hbytes)
 · have:=Grown.drew (Grown.alloc w.drew (olds.toArray++news.toArray++Builtin.zeroCells zv.cells (grownCap w (nn+m) cap te-(nn+m))) te)
   simpa using this
 · simp only[List.length_append,hlo,hl,Array.length_toList,hz]
   rw[←Nat.add_mul,←Nat.add_mul];congr 1;omega
structure SrcR (n:Nat) (M:Mem) (ω:Own) (w:World) (E:Ty) (v:Value) (e:Sh) (ys:List (El e.ty)):Prop where
 src:∃ a c news bs,v=.slice a ys.length c∧news.length=ys.length*e.size∧(∀ ad,a=some ad→(ad.spot=none∨ys.length=0)∧CellsAt (full w) ad.block ad.off news)∧(a=none→ys.length=0)∧
   GroupsO (EncO M (rows w) e) e.size news ys bs∧bs.Nodup∧(∀ b∈bs,ω b=some n)∧(e.ty=E→e.noref=true→Plain news)
theorem groupsO_plain {M:Mem}{Rw:RowFn}{e:Sh}(hn:e.noref=true):∀ (ys:List (El e.ty)) (vs:List Value) (bs:List Nat),vs.length=ys.length*e.size→GroupsO (EncO M Rw e) e.size vs ys bs→Plain vs
 | [],vs,bs,hl,_=>by
   have:vs=[]:=List.length_eq_zero_iff.1 (by simpa using hl)
   subst this;intro c hc;simp at hc
 | y::ys,vs,bs,hl,⟨v1,v2,b1,b2,h1,h2,h3,h4,h5⟩=>by
   subst h1
   intro c hc
   rcases List.mem_append.1 hc with hc | hc
   · exact EncO.plain e _ _ _ hn h4 c hc
   · exact groupsO_plain hn ys v2 b2 (by simp[Nat.add_mul]at hl;omega) h5 c hc
theorem tkSh_ok (S:St0 n B X w0 M0 M ω ρ tmps w)(L:Nat){R:Type}{t:Ty}{q:Opd}{k:El t→List Wr→Option R}{r:R}
   (h:tkSh t q k=some r) {v:Value} (hq:OpdR n M ω w ρ (vl tmps) q v):∃ x ws,k x ws=some r∧
     ∃ M' ω',St0 n B X w0 M0 M' ω' (ρ.puts ws) tmps w∧Moved n M M' ω ω' w ρ tmps ws L∧Taken n M' ω' w L v (.pure t) x:=by
 unfold tkSh at h
 split at h
 · rename_i s x0 j ha hj
   split at h
   · exact tkAs_ok S L h hq
   · split at h
     · rename_i u y hf
       split at h
       · rename_i hu
         subst hu
         obtain⟨e1,e2,e3⟩:=hq.slot j hj
         have hjn:=e3 (by rw[ha];intro e;cases e)
         rw[e2]at hf
         obtain⟨g1,g2⟩:=freeze_ok S hjn hf
         refine⟨y,_,h,_,_,g1,g2 L,?_⟩
         have hr:=g1.slots j hjn
         have hget:((ρ.puts [(⟨j,true,.c (.pure u) y⟩:Wr)]).get j).a=.c (.pure u) y:=by
           show ((ρ.put _).get j).a=_
           rw[Env.get_put];simp
         rw[hget]at hr
         obtain⟨cs,bs,k1,⟨k2,k3⟩,_,_⟩:=hr
         rw[e1]
         exact⟨cs,[],k1,⟨rfl,k3⟩,List.nodup_nil,by simp⟩
       · cases h
     · cases h
 · exact tkAs_ok S L h hq
theorem src_shared {E:Ty}{v:Value}(M' M2:Mem)(ω':Own)(e:Ty)(ys:List (El e))(cs:List Value)(hM:M'.le (full w))(hM2:∀ cs x,Enc M' e cs x→Enc M2 e cs x)(hv:ValC (Ty.ag (.slice e)) v cs)(he:Enc M' (.slice e) cs ys):SrcR n M2 ω' w E v (.pure e) ys:=by
 obtain⟨a,cap,g2,g3,g4,g5⟩:=he
 have e1:cs=[v]:=hv
 rw[e1]at g2
 simp only[List.cons.injEq,and_true]at g2
 cases a with
 | none=>
   have hy:ys=[]:=List.length_eq_zero_iff.1 (by simp at g5;omega)
   subst hy
   exact⟨none,cap,[],[],g2,by simp,by simp,by simp,rfl,List.nodup_nil,by simp,fun _ _ c hc=>by simp at hc⟩
 | some ad=>
   obtain⟨k1,k2⟩:=g5
   obtain⟨vs,k3,k4⟩:=SliceAt.groups ys _ k2
   have hgl:=Groups.length _ _ k3
   have hgo:GroupsO (EncO M2 (rows w) (.pure e)) e.size vs ys []:=GroupsO.ofGroups ys vs (fun cs x hx=>⟨rfl,hM2 cs x hx⟩) k3
   exact⟨some ad,cap,vs,[],g2,hgl,fun ad' h=>by simp only[Option.some.injEq]at h;subst h;exact⟨k1.imp id (fun hc=>by omega),k4.mono hM⟩,by simp,hgo,List.nodup_nil,by simp,fun _ hn=>groupsO_plain hn ys vs [] hgl hgo⟩
theorem srcK_ok (S:St0 n B X w0 M0 M ω ρ tmps w){E:Ty}{R:Type}{q:Opd}{k:(e:Sh)→List (El e.ty)→List Wr→Option R}{r:R}
   (h:srcK E q k=some r) {v:Value} (hq:OpdR n M ω w ρ (vl tmps) q v):∃ e ys ws,k e ys ws=some r∧
     ∃ M' ω',St0 n B X w0 M0 M' ω' (ρ.puts ws) tmps w∧M.le M'∧(∀ L,n≤L→L≠n→∀ b,ω b=some L→ω' b=some L)∧(∀ k,k<n→(ρ.puts ws).get k=ρ.get k→∀ b,ω b=some k→ω' b=some k)∧SrcR n M' ω' w E v e ys:=by
 have shared:=fun M' M2 ω' e ys cs=>src_shared (w:=w) (n:=n) (E:=E) (v:=v) M' M2 ω' e ys cs
 unfold srcK at h
 split at h
 · rename_i hf
   obtain⟨ys,h1,h2⟩:=rd_ok S h
   obtain⟨cs,g1,g2⟩:=h2 v hq
   exact⟨.pure E,ys,[],h1,M,ω,S,Mem.le_refl _,fun _ _ _ _ h=>h,fun _ _ _ _ h=>h,shared (full w) M ω E ys cs (Mem.le_refl _) (fun cs x hx=>Enc.flat E cs x hf hx) g1 g2⟩
 · obtain⟨s,y,ws,h1,M',ω',S1,m1,t1⟩:=tk_ok S n h hq
   have hlim:∀ L,n≤L→L≠n→∀ b,ω b=some L→ω' b=some L:=fun L hL hne b hb=>m1.limbo L hL hne b hb
   have hown:∀ k,k<n→(ρ.puts ws).get k=ρ.get k→∀ b,ω b=some k→ω' b=some k:=fun k hk he b hb=>(m1.step.own k hk he b hb).1
   obtain⟨cs,bs,k1,k2,k3,k4⟩:=t1.enc
   split at h1
   · rename_i e ys
     split at h1
     · rename_i hc
       refine⟨e,ys,ws,h1,M',ω',S1,m1.step.mem,hlim,hown,?_⟩
       have e1:cs=[v]:=k1
       subst e1
       rcases k2 with⟨k2,⟨a,e2,e3⟩,rfl⟩ | ⟨b,cap,row,bss,e2,e3,e4,e5,e6,e7,e8⟩
       · simp only[List.cons.injEq,and_true]at e2
         exact⟨a,0,[],[],e2,by simp,fun ad h=>⟨.inr rfl,fun j c hj=>by simp at hj⟩,by simp,rfl,List.nodup_nil,by simp,fun _ _ c hc=>by simp at hc⟩
       · simp only[List.cons.injEq,and_true]at e3
         obtain⟨g1,g2⟩:=GroupsO.cut ys row bss e8
         rw[e2]at k3 k4
         have hnl:(row.take (ys.length*e.size)).length=ys.length*e.size:=by rw[List.length_take];omega
         refine⟨some ⟨b,0,none⟩,cap,row.take (ys.length*e.size),bss,e3,hnl,fun ad h=>?_,by simp,g2,(List.nodup_cons.1 k3).2,fun i hi=>k4 i (by simp[hi]),fun _ hn=>groupsO_plain hn ys _ bss hnl g2⟩
         simp only[Option.some.injEq]at h
         subst h
         refine⟨.inl rfl,fun j c hj=>rows_full e6 j c ?_⟩
         rw[List.getElem?_take]at hj
         split at hj
         · exact hj
         · cases hj
     · cases h1
   · rename_i e ys
     split at h1
     · have k2':=k2.2
       exact⟨.pure e,ys,ws,h1,M',ω',S1,m1.step.mem,hlim,hown,shared M' M' ω' e ys cs (M_full S1) (fun _ _ h=>h) k1 k2'⟩
     · cases h1
   · rename_i e _
     split at h1
     · refine⟨.pure e,[],ws,h1,M',ω',S1,m1.step.mem,hlim,hown,?_⟩
       have e1:cs=[v]:=k1
       subst e1
       obtain⟨_,⟨a,e2,e3⟩,_⟩:=k2
       simp only[List.cons.injEq,and_true]at e2
       exact⟨a,0,[],[],e2,by simp,fun ad h=>⟨.inr rfl,fun j c hj=>by simp at hj⟩,by simp,rfl,List.nodup_nil,by simp,fun _ _ c hc=>by simp at hc⟩
     · cases h1
   · cases h1
theorem castSh_cast {a b:Sh}{R:Type}(h:a=b)(k:List (El b.ty)→R)(x:List (El a.ty)):castSh h k x=k (h ▸ x):=by subst h;rfl
theorem castLs_heq {a b:Ty}{R:Type}(h:a=b)(k:List (El b)→R)(ys:List (El a)):∃ ys':List (El b),castLs h k ys=k ys'∧HEq ys ys':=by subst h;exact⟨ys,rfl,HEq.rfl⟩
theorem heq_groups {a b:Ty}(h:a=b){p:List Value→El a→List Nat→Prop}{q:List Value→El b→List Nat→Prop}{sz:Nat}(hpq:∀ cs x y bs,HEq x y→p cs x bs→q cs y bs){ys:List (El a)}{ys':List (El b)}(hh:HEq ys ys')
   {vs:List Value} {bs:List Nat} (hg:GroupsO p sz vs ys bs):GroupsO q sz vs ys' bs∧ys'.length=ys.length:=by
 subst h
 have:=eq_of_heq hh
 subst this
 exact⟨GroupsO.imp ys vs bs (fun x _ cs b _ hp=>hpq cs x x b HEq.rfl hp) hg,rfl⟩
theorem upRow_src {s:Sh}{E:Ty}{e2:Sh}{ys:List (El e2.ty)}{R:Type}{k:(e:Sh)→List (El e.ty)→Option R}{r:R}{v:Value}(h:upRowK s e2 ys k=some r)(hs:SrcR n M ω w E v e2 ys):
   ∃ e ys',k e ys'=some r∧SrcR n M ω w E v e ys':=by
 unfold upRowK at h
 split at h
 · rename_i e
   split at h
   · exact⟨e2,ys,h,hs⟩
   · split at h
     · rename_i hu
       split at h
       · rename_i hc
         obtain⟨c1,c2⟩:=hc
         obtain⟨ys',h1,h2⟩:=castLs_heq (upB_ty e2 e hu) (fun ys=>k e ys) ys
         rw[h1]at h
         obtain⟨a,c,news,bs,e1,e3,e4,e5,e6,e7,e8,e9⟩:=hs.src
         obtain⟨g1,g2⟩:=heq_groups (upB_ty e2 e hu) (q:=EncO M (rows w) e) (fun cs x y bs hxy hp=>upB_enc e2 e hu x y cs bs hxy hp) h2 e6
         have hsz:e2.size=e.size:=by rw[Sh.size_ty e2 c1,Sh.size_ty e c2,upB_ty e2 e hu]
         refine⟨e,ys',h,⟨a,c,news,bs,by rw[g2];exact e1,by rw[g2,←hsz];exact e3,by rw[g2];exact e4,by rw[g2];exact e5,by rw[←hsz];exact g1,e7,e8,fun he _=>e9 (by rw[upB_ty e2 e hu];exact he) c1⟩⟩
       · exact⟨e2,ys,h,hs⟩
     · exact⟨e2,ys,h,hs⟩
 · exact⟨e2,ys,h,hs⟩
theorem exAppend_ok (hC:CtxOk P C)(S:St0 n B X w0 M0 M ω ρ tmps w)(hB:B≤w0.heap.size){gd:Gd}(hg:GuardOk ρ (vl tmps) gd){t:TypeId}{d:Nat}(hd:d<n){oa ob:Operand}{ws:List Wr}{cs:List Prop}
   (h:exAppend C t d gd ρ oa ob=some (ws,cs)) (hcs:∀ p∈cs,p) (df:List Deferred) (ty:TypeId):
   Res n B X w0 M0 ρ tmps d ws ((Builtin.append_ #[t,t] ty #[Act.eval ⟨tmps,df⟩ oa,Act.eval ⟨tmps,df⟩ ob]).run P w):=by
 unfold exAppend at h
 split at h
 · rename_i E hT
   obtain⟨te,hu,hTe⟩:=(hC.ty t _ hT).under
   obtain⟨s,x,ws1,h1,M1,ω1,S1,m1,t1⟩:=tkOwn_ok S (n+1) h (opd_rel S hg oa df)
   have hsrc:∃ e2 ys ws2,appB E d s x ws1 e2 ys ws2=some (ws,cs)∧∃ M2 ω2,St0 n B X w0 M0 M2 ω2 ((ρ.puts ws1).puts ws2) tmps w∧M1.le M2∧(∀ L,n≤L→L≠n→∀ b,ω1 b=some L→ω2 b=some L)∧
       SrcR n M2 ω2 w E (Act.eval ⟨tmps,df⟩ ob) e2 ys:=by
     split at h1
     · obtain⟨ys,ws2,k1,M',ω',S',m',t'⟩:=tkF_ok S1 n (Nat.le_refl n) h1 (opd_rel S1 (guard_next hg ws1) ob df)
       obtain⟨cs',bs',q1,q2,_,_⟩:=t'.enc
       exact⟨.pure E,ys,ws2,k1,M',ω',S',m'.step.mem,fun L hL hne b hb=>m'.limbo L hL hne b hb,src_shared M' M' ω' E ys cs' (M_full S') (fun _ _ hx=>hx) q1 q2.2⟩
     · obtain⟨e2,ys,ws2,h2,M2,ω2,S2,m2,l2,_,r2⟩:=srcK_ok S1 h1 (opd_rel S1 (guard_next hg ws1) ob df)
       exact⟨e2,ys,ws2,h2,M2,ω2,S2,m2,l2,r2⟩
   obtain⟨e2,ys,ws2,h2,M2,ω2,S2,m2,l2,r2⟩:=hsrc
   unfold appB at h2
   obtain⟨e2,ys,h2,r2⟩:=upRow_src h2 r2
   split at h2
   · rename_i hc
     obtain⟨c1,c0,c2,c3⟩:=hc
     obtain⟨cs1,bs1,a1,a2,a3,a4⟩:=t1.enc
     obtain⟨a,c,news,bs2,e1,e3,e4,e5,e6,e7,e8,e9⟩:=r2.src
     have hpl:=e9 c2 c3
     have hsz:e2.size=E.size:=by rw[Sh.size_ty e2 c3,c2]
     rw[hsz]at e3 e6
     have hput:∀ A:List Wr,ρ.puts (ws1++(ws2++A))=((ρ.puts ws1).puts ws2).puts A:=fun A=>by rw[Env.puts_append,Env.puts_append]
     have a4':∀ b∈bs1,ω2 b=some (n+1):=fun b hb=>l2 (n+1) (by omega) (by omega) b (a4 b hb)
     -- the destination: empty, or a row
     have dest:(∃ a,Act.eval ⟨tmps,df⟩ oa=.slice a 0 0∧True)∧(∀ (R:Type) (k:Nat→(e:Sh)→List (El e.ty)→Option R) (r:R),appRowK E s x e2 ys k=some r→k 0 e2 ys=some r)∨
         ∃ (e:Sh) (xs:List (El e.ty)) (b cap:Nat) (row:List Value) (bss:List Nat),Act.eval ⟨tmps,df⟩ oa=.slice (some ⟨b,0,none⟩) xs.length cap∧bs1=b::bss∧rows w b=some row∧row.length=cap*E.size∧xs.length≤cap∧cap≤bigLen∧e.size=E.size∧
           GroupsO (EncO M2 (rows w) e) E.size row xs bss∧
           (∀ (R:Type) (k:Nat→(e:Sh)→List (El e.ty)→Option R) (r:R),appRowK E s x e2 ys k=some r→(xs=[]∧k 0 e2 ys=some r)∨∃ h:e2=e,k xs.length e (xs++h ▸ ys)=some r):=by
       cases s with
       | nil e=>
         obtain⟨q1,⟨a,q2,q3⟩,q4⟩:=a2
         have:cs1=[Act.eval ⟨tmps,df⟩ oa]:=a1
         rw[this]at q2
         simp only[List.cons.injEq,and_true]at q2
         exact .inl ⟨⟨a,q2,q3⟩,fun R k r hh=>hh⟩
       | own e=>
         have hcs1:cs1=[Act.eval ⟨tmps,df⟩ oa]:=a1
         have hes:e.size=E.size:=by
           have h1:e.ty=E:=by have:=c1;simpa using this
           rw[Sh.size_ty e c0,h1]
         rcases a2 with⟨q1,⟨a,q2,q3⟩,q4⟩ | ⟨b,cap,row,bss,q1,q2,q3,q4,q5,q6,q7⟩
         · rw[hcs1]at q2
           simp only[List.cons.injEq,and_true]at q2
           have q4':x=([]:List (El e.ty)):=q4
           subst q4'
           refine .inl ⟨⟨a,q2,q3⟩,fun R k r hh=>?_⟩
           simp only[appRowK]at hh
           split at hh
           · rename_i he
             subst he
             rw[castSh_cast]at hh
             exact hh
           · exact hh
         · rw[hcs1]at q2
           simp only[List.cons.injEq,and_true]at q2
           refine .inr ⟨e,x,b,cap,row,bss,q2,q1,q5,by rw[q6,hes],q3,q4,hes,?_,?_⟩
           · rw[←hes]
             exact GroupsO.imp _ row bss (fun x _ cs b _ hp=>EncO.mono m2 e cs x b (fun _ _=>rfl) hp) q7
           · intro R k r hh
             simp only[appRowK]at hh
             split at hh
             · rename_i he
               rw[castSh_cast]at hh
               exact .inr ⟨he,hh⟩
             · cases x with
               | nil=>exact .inl ⟨rfl,hh⟩
               | cons x0 xs=>cases hh
       | pure T=>simp[appRowK]at h2
       | hole T=>simp[Sh.noref]at c0
       | ref T=>simp[Sh.noref]at c0
       | pair T T'=>simp at c1
     have hvb:=e1
     rcases dest with⟨⟨a0,d1,d2⟩,d3⟩ | ⟨e,xs,b,cap,row,bss,d1,d2,d3,d4,d5,d6,d7,d8,d9⟩
     · have h3:=d3 _ _ _ h2
       simp only[Option.some.injEq,Prod.mk.injEq]at h3
       obtain⟨rfl,rfl⟩:=h3
       have hle:0+ys.length≤maxApp:=hcs _ (by simp)
       unfold Res
       rw[d1,hvb]
       simp only[hput]
       by_cases hm:ys.length=0
       · have hy:ys=[]:=List.length_eq_zero_iff.1 hm
         subst hy
         have hnews:news=[]:=List.length_eq_zero_iff.1 (by rw[e3];simp)
         subst hnews
         refine⟨.slice a0 0 0,w,M2,_,?_,put_c S2 hd (s:=.own e2) (x:=[]) (cs:=[.slice a0 0 0]) (bs:=[]) rfl (.inl ⟨rfl,⟨a0,rfl,trivial⟩,rfl⟩) List.nodup_nil (by simp)⟩
         exact run_append_room (P:=P) (w:=w) (ty:=ty) hu hTe (base:=a0) (nn:=0) (cap:=0) (m:=0) (c:=c) (a:=a) (news:=[]) (by simp) (fun ad h=>⟨(e4 ad h).1,fun j c hj=>by simp at hj⟩) (fun _=>rfl) (Nat.le_refl _) (fun ad _=>rfl) (fun _=>rfl)
       · cases a with
         | none=>exact(hm (e5 rfl)).elim
         | some ad=>
           obtain⟨f1,f2⟩:=e4 ad rfl
           have f1:ad.spot=none:=f1.resolve_right (by omega)
           obtain⟨cap',zs,w',g1,g2,g3,g4,g5⟩:=run_append_new (P:=P) (w:=w) (ty:=ty) hu hTe (base:=a0) (nn:=0) (cap:=0) (m:=ys.length) (c:=c) (ad:=ad) (olds:=[]) (news:=news) (by simp)
             (fun bd h=>⟨.inr rfl,fun j c hj=>by simp at hj⟩) (fun _=>⟨rfl,rfl⟩) e3 f1 f2 (by omega) hle
           rw[List.nil_append]at g2 g5
           obtain⟨ω3,S3⟩:=own_new S2 hB hd g2 (s:=e2) (xs:=ys) (bs:=bs2) (cap:=cap') (GroupsO.spare _ _ _ _ (by rw[hsz];exact e6)) (by rw[g5,hsz]) (by omega) g4 e7 (fun i hi=>⟨n,Nat.le_refl _,e8 i hi⟩)
           rw[Nat.zero_add]at g1
           exact⟨_,w',M2,ω3,g1,S3⟩
     · -- a row
       have hbl:ω2 b=some (n+1):=a4' b (by rw[d2];simp)
       have hnd:(b::bss).Nodup:=by rw[←d2];exact a3
       obtain⟨n1,n2⟩:=List.nodup_cons.1 hnd
       have hlim1:∀ i∈bss,ω2 i=some (n+1):=fun i hi=>a4' i (by rw[d2];simp[hi])
       have hdj:∀ i∈bs2,ω2 i≠some (n+1):=fun i hi e=>by rw[e8 i hi]at e;simp at e
       -- what is to be encoded behind
       have goal:∃ (e':Sh) (zs:List (El e'.ty)),cs=[xs.length+ys.length≤maxApp]∧ws=ws1++(ws2++[w1 d (.c (.own e') zs)])∧zs.length=xs.length+ys.length∧e'.size=E.size∧
           (∀ (w':World),(∀ i∈bss++bs2,rows w' i=rows w i)→∀ old spare,old.length=xs.length*E.size→GroupsO (EncO M2 (rows w) e) E.size old xs bss→GroupsO (EncO M2 (rows w') e') e'.size (old++news++spare) zs (bss++bs2)):=by
         rcases d9 _ _ _ h2 with⟨hx,h3⟩ | ⟨he,h3⟩
         · simp only[Option.some.injEq,Prod.mk.injEq]at h3
           obtain⟨rfl,rfl⟩:=h3
           subst hx
           refine⟨e2,ys,by simp,rfl,by simp,hsz,fun w' hrow old spare hold hgo=>?_⟩
           have hb0:bss=[]:=hgo
           have ho:old=[]:=List.length_eq_zero_iff.1 (by simpa using hold)
           subst hb0;subst ho
           rw[List.nil_append,List.nil_append,hsz]
           exact GroupsO.spare _ _ _ _ (GroupsO.imp ys news bs2 (fun x _ cs b' hb' hp=>EncO.mono (Mem.le_refl _) e2 cs x b' (fun i hi=>hrow i (by simp[hb' i hi])) hp) e6)
         · subst he
           simp only[Option.some.injEq,Prod.mk.injEq]at h3
           obtain⟨rfl,rfl⟩:=h3
           refine⟨e2,xs++ys,rfl,rfl,by simp,hsz,fun w' hrow old spare hold hgo=>?_⟩
           rw[hsz]
           refine GroupsO.spare _ _ _ _ (GroupsO.append xs ys old news bss bs2 hold ?_ ?_)
           · exact GroupsO.imp xs old bss (fun x _ cs b' hb' hp=>EncO.mono (Mem.le_refl _) e2 cs x b' (fun i hi=>hrow i (by simp[hb' i hi])) hp) hgo
           · exact GroupsO.imp ys news bs2 (fun x _ cs b' hb' hp=>EncO.mono (Mem.le_refl _) e2 cs x b' (fun i hi=>hrow i (by simp[hb' i hi])) hp) e6
       obtain⟨e',zs,k1,k2,k3,k4,k5⟩:=goal
       subst k2
       have hle:xs.length+ys.length≤maxApp:=hcs _ (by rw[k1];simp)
       obtain⟨q1,q2⟩:=GroupsO.cut xs row bss d8
       have hol:(row.take (xs.length*E.size)).length=xs.length*E.size:=by rw[List.length_take];omega
       have hnd2:(bss++bs2).Nodup:=by
         rw[List.nodup_append]
         exact⟨n2,e7,fun i hi j hj e=>by subst e;exact hdj i hj (hlim1 i hi)⟩
       have hlim2:∀ i∈bss++bs2,∃ L,n≤L∧ω2 i=some L:=fun i hi=>by
         rcases List.mem_append.1 hi with hi | hi
         · exact⟨n+1,by omega,hlim1 i hi⟩
         · exact⟨n,Nat.le_refl _,e8 i hi⟩
       have hbn:b∉bss++bs2:=fun hm=>by
         rcases List.mem_append.1 hm with hm | hm
         · exact n1 hm
         · exact hdj b hm hbl
       unfold Res
       rw[d1,hvb]
       simp only[hput]
       by_cases hroom:xs.length+ys.length≤cap
       · have hfit:xs.length*E.size+0+news.length≤row.length:=by
           rw[e3,d4,Nat.add_zero,←Nat.add_mul];exact Nat.mul_le_mul_right _ hroom
         obtain⟨w',f1,f2⟩:=run_storeCells (P:=P) news 0 w b (xs.length*E.size) row d3 hfit hpl
         rw[Nat.add_zero]at f2
         have S3:=upd_ok S2 (L:=n+1) (by omega) hbl f2
         have hrow:∀ i∈bss++bs2,rows w' i=rows w i:=fun i hi=>rows_of_block (f2.other i (fun e=>hbn (e ▸ hi)))
         refine⟨.slice (some ⟨b,0,none⟩) (xs.length+ys.length) cap,w',M2,_,?_,put_c S3 hd (s:=.own e') (x:=zs) (cs:=[.slice (some ⟨b,0,none⟩) (xs.length+ys.length) cap]) (bs:=b::(bss++bs2)) rfl
           (.inr ⟨b,cap,_,bss++bs2,rfl,by rw[k3],by omega,d6,f2.row,?_,k5 w' hrow _ _ hol q2⟩) (List.nodup_cons.2 ⟨hbn,hnd2⟩) ?_⟩
         · exact run_append_room (P:=P) (w:=w) (ty:=ty) hu hTe (base:=some ⟨b,0,none⟩) (nn:=xs.length) (cap:=cap) (m:=ys.length) (c:=c) (a:=a) (news:=news) e3 e4 e5 hroom
             (fun ad h=>by simp only[Option.some.injEq]at h;subst h;rw[addr_add,Nat.zero_add];exact f1) (fun h=>by cases h)
         · simp only[List.length_append,hol,List.length_drop]
           rw[k4,←d4];omega
         · intro i hi
           rcases List.mem_cons.1 hi with rfl | hi
           · exact⟨n+1,by omega,hbl⟩
           · exact hlim2 i hi
       · cases a with
         | none=>have:=e5 rfl;omega
         | some ad=>
           obtain⟨f1,f2⟩:=e4 ad rfl
           have f1:ad.spot=none:=f1.resolve_right (by omega)
           obtain⟨cap',sp,w',g1,g2,g3,g4,g5⟩:=run_append_new (P:=P) (w:=w) (ty:=ty) hu hTe (base:=some ⟨b,0,none⟩) (nn:=xs.length) (cap:=cap) (m:=ys.length) (c:=c) (ad:=ad) (olds:=row.take (xs.length*E.size)) (news:=news) hol
             (fun bd h=>by
               simp only[Option.some.injEq]at h;subst h
               refine⟨.inl rfl,fun j c hj=>rows_full d3 j c ?_⟩
               rw[List.getElem?_take]at hj
               split at hj
               · exact hj
               · cases hj) (fun h=>by cases h) e3 f1 f2 (by omega) hle
           obtain⟨ω3,S3⟩:=own_new S2 hB hd g2 (s:=e') (xs:=zs) (bs:=bss++bs2) (cap:=cap') (k5 w (fun _ _=>rfl) _ _ hol q2) (by rw[g5,k4]) (by omega) g4 hnd2 hlim2
           rw[k3]at S3
           exact⟨_,w',M2,ω3,g1,S3⟩
   · cases h2
 · cases h
end
end Fw
namespace Fw
open Go
section
variable {n B:Nat} {X:List Nat} {w0:World} {M0 M:Mem} {ω:Own} {ρ:Env} {tmps:Array Value} {w w':World} {P:Program} {C:Ctx}
theorem takeK_ok (S:St0 n B X w0 M0 M ω ρ tmps w)(L:Nat){R:Type}{j:Nat}{q:Opd}{k:(s:Sh)→El s.ty→List Wr→Option R}{r:R}
   (h:takeK C j q k=some r) {v:Value} (hq:OpdR n M ω w ρ (vl tmps) q v):∃ s x ws,k s x ws=some r∧
     ∃ M' ω',St0 n B X w0 M0 M' ω' (ρ.puts ws) tmps w∧Moved n M M' ω ω' w ρ tmps ws L∧Taken n M' ω' w L v s x:=by
 unfold takeK at h
 split at h
 · exact tkOwn_ok S L h hq
 · exact tk_ok S L h hq
theorem put_var (S:St0 n B X w0 M0 M ω ρ tmps w){k b:Nat}(hk:k<n)(hb:ω b=some k){row:List Value}(hu:Upd w b row w'){A':A}
   (hA:Step n M M ω ω w w' ρ (ρ.puts [⟨k,true,A'⟩]) (vl tmps) (vl tmps)→Rel n M ω w' (ρ.puts [⟨k,true,A'⟩]) (vl tmps) k (vl tmps k) A'):
   St0 n B X w0 M0 M ω (ρ.puts [⟨k,true,A'⟩]) tmps w':=by
 obtain⟨d1,d2,d3⟩:=S.dis b k hb
 have hget:(ρ.puts [(⟨k,true,A'⟩:Wr)]).get k=⟨(ρ.get k).g,(ρ.get k).ver+1,A'⟩:=by
   show (ρ.put _).get k=_
   rw[Env.get_put];simp
 refine S.step _ S.size ⟨hu.os,hu.tape,hu.output,Nat.le_of_eq hu.size.symm,fun i hi hx=>hu.other i (fun e=>?_)⟩ (Mem.le_refl _) (fun _ _ _ _=>rfl) ?_ ?_ (fun _ _=>rfl) ?_ ?_ ?_
 · subst e
   rcases d1 with d1 | d1
   · omega
   · exact hx d1
 · intro i o v hm
   have hne:i≠b:=fun e=>by subst e;rw[d3 o]at hm;cases hm
   rw[cell_of_block (hu.other i hne)]
   exact S.mem i o v hm
 · intro i j hj
   obtain⟨q1,q2,q3⟩:=S.dis i j hj
   exact⟨q1,by rw[hu.size];exact q2,q3⟩
 · intro x hx
   simp at hx;subst hx;exact hk
 · intro t ht hne i hi
   have htj:t≠k:=fun e=>hne _ (List.mem_singleton.2 rfl) e.symm
   refine⟨hi,hu.other i (fun e=>?_)⟩
   subst e;rw[hb]at hi;simp at hi;exact htj hi.symm
 · intro t ⟨x,hx,hxt⟩ hst
   simp at hx;subst hx
   have:t=k:=hxt.symm
   subst this
   rw[hget];exact hA hst
theorem exStoreL_ok {t:TypeId}{T:Ty}(hTy:TyR P t T)(S:St0 n B X w0 M0 M ω ρ tmps w){q1 q2:Opd}{ws:List Wr}{cs:List Prop}
   (h:exStoreL T q1 q2=some (ws,cs)) {v1 v2:Value} (hq1:OpdR n M ω w ρ (vl tmps) q1 v1) (hq2:OpdR n M ω w ρ (vl tmps) q2 v2):
   ∃ w',(Instr.storeAt t v1 v2).run P w=.ok () w'∧∃ M' ω',St0 n B X w0 M0 M' ω' (ρ.puts ws) tmps w':=by
 unfold exStoreL at h
 obtain⟨j,g,off,e,h1,h2⟩:=ptrK_ok S h
 obtain⟨hj,rfl,hro,hp⟩:=h2 v1 hq1
 split at h1
 · rename_i hg
   obtain⟨hg,rfl⟩:=hg
   obtain⟨b0,hb0,hv1⟩:=hp hg
   split at h1
   · rename_i s x0 ha
     split at h1
     · rename_i k g2 ver u x org bx hv
       split at h1
       · rename_i hc
         obtain⟨rfl,c2,c3,c4,c5,c6⟩:=hc
         simp only[Option.some.injEq,Prod.mk.injEq]at h1
         obtain⟨rfl,rfl⟩:=h1
         have hr:=hq2.rel (by rw[hv];intro _ _ _ _ _ e;cases e)
         have htg:=hq2.tgt k (by rw[hv];rfl)
         rw[hv]at hr
         obtain⟨hver,hcl⟩:=id hr
         rw[htg]at c4 c5
         obtain⟨cs',k1,k2,_⟩:=hcl ⟨c4,c5⟩
         obtain⟨b,row,bss,r1,r2,r3,r4,r5⟩:=ref_ptr S hj ha
         rw[hb0]at r1
         simp only[Value.pointer.injEq,Option.some.injEq,Addr.mk.injEq,and_true]at r1
         subst r1
         have hl:=Enc.length _ _ _ k2
         have hrl:row.length=u.size:=by rw[EncO.length _ _ _ _ r3,c3]
         have hpl:=Enc.plain _ _ _ k2
         obtain⟨w',e1,e2⟩:=run_storeVar (P:=P) (o:=0) (cs:=cs') hTy r2 hl (by omega) hpl (ValC.cells k1 hpl)
         have hrow:row.take 0++cs'++row.drop (0+cs'.length)=cs':=by
           rw[List.drop_eq_nil_of_le (by omega)];simp
         rw[hrow]at e2
         refine⟨w',?_,M,ω,put_var S hj (r5 b0 (by simp)) e2 fun hst=>?_⟩
         · subst hv1
           simp only[Instr.storeAt,Instr.sureAddr,Sem.run_bind,Sem.run_pure,Result.andThen_ok]
           exact e1
         · have hf:=Rel0.frameRef (t':=0) hst (by intros;intro e;cases e) (by intros;intro e;cases e) rfl hr
           exact⟨b0,v2,cs',hb0,r5 b0 (by simp),e2.row,k1,hf.1,TpR.frame hst hver.2.1 (fun i he _=>by subst he;exact(hcl ⟨c4,c5⟩).choose_spec.2.2.2.2),hf.2⟩
       · cases h1
     · cases h1
   · cases h1
 · cases h1
theorem exStore_ok (hC:CtxOk P C)(S:St0 n B X w0 M0 M ω ρ tmps w){t:TypeId}{q1 q2:Opd}{ws:List Wr}{cs:List Prop}
   (h:exStore C t q1 q2=some (ws,cs)) {v1 v2:Value} (hq1:OpdR n M ω w ρ (vl tmps) q1 v1) (hq2:OpdR n M ω w ρ (vl tmps) q2 v2):
   ∃ w',(Instr.storeAt t v1 v2).run P w=.ok () w'∧∃ M' ω',St0 n B X w0 M0 M' ω' (ρ.puts ws) tmps w':=by
 unfold exStore at h
 split at h
 · rename_i T hT
   have hTy:=hC.ty t T hT
   split at h
   · exact exStoreL_ok hTy S h hq1 hq2
   split at h
   · cases h
   · obtain⟨j,g,off,e,h1,h2⟩:=ptrK_ok S h
     obtain⟨hj,rfl,hro,hp⟩:=h2 v1 hq1
     split at h1
     · rename_i hg
       obtain⟨b0,hb0,hv1⟩:=hp hg
       obtain⟨s',y,ws',k1,M',ω',S1,_,⟨cs',bs',k2,k3,k4,k5⟩⟩:=takeK_ok S n h1 hq2
       split at k1
       · rename_i hc
         obtain⟨c1,c2,c3⟩:=hc
         have hsame:=Env.puts_other ws' ρ j (noneIs_ok c3)
         split at k1
         · rename_i s x ha
           rw[←hsame]at ha
           obtain⟨s2,x2,u1,⟨u2,u3⟩,_⟩:=Sh.updK_ok c2 s x off _ _ k1
           simp only[Option.some.injEq,Prod.mk.injEq]at u1
           obtain⟨rfl,rfl⟩:=u1
           obtain⟨b,row,bss,r1,r2,r3,r4,r5⟩:=ref_ptr S1 hj ha
           rw[hb0]at r1
           simp only[Value.pointer.injEq,Option.some.injEq,Addr.mk.injEq,and_true]at r1
           subst r1
           obtain⟨g1,b1,b2,b3,g2,g3⟩:=u3 _ _ _ _ _ _ r3 k3
           have hpl:=EncO.plain s' cs' y bs' c2 k3
           have hl:cs'.length=T.size:=by rw[EncO.length _ _ _ _ k3,Sh.size_ty s' c2,c1]
           obtain⟨w',e1,e2⟩:=run_storeVar (P:=P) hTy r2 hl g1 hpl (ValC.cells k2 hpl)
           have hdj:∀ i∈bs',ω' i≠some j:=fun i hi e=>by rw[k5 i hi]at e;simp at e;omega
           have hnd:(b0::(b1++bs'++b3)).Nodup:=by
             rw[g2]at r4 r5
             rw[List.nodup_cons]at r4 ⊢
             obtain⟨q1,q2⟩:=r4
             have hb0':b0∉bs':=fun hi=>hdj b0 hi (r5 b0 (by simp))
             refine⟨by simp only[List.mem_append,not_or]at q1 ⊢;exact⟨⟨q1.1.1,hb0'⟩,q1.2⟩,?_⟩
             rw[List.nodup_append]at q2 ⊢
             obtain⟨p1,p2,p3⟩:=q2
             rw[List.nodup_append]at p1
             refine⟨?_,p2,fun a ha c hc=>?_⟩
             · rw[List.nodup_append]
               exact⟨p1.1,k4,fun a ha c hc e=>by subst e;exact hdj a hc (r5 a (by simp[ha]))⟩
             · rcases List.mem_append.1 ha with ha | ha
               · exact p3 a (by simp[ha]) c hc
               · intro e;subst e;exact hdj a ha (r5 a (by simp[hc]))
           obtain⟨ω2,S2⟩:=put_row S1 hj (r5 b0 (by simp)) hb0 e2 g3 hnd (fun i hi=>by
             rw[g2]at r5
             simp only[List.mem_append]at hi
             rcases hi with(hi | hi) | hi
             · exact .inr (r5 i (by simp[hi]))
             · exact .inl (k5 i hi)
             · exact .inr (r5 i (by simp[hi])))
           refine⟨w',?_,M',ω2,by rw[Env.puts_append];exact S2⟩
           subst hv1
           simp only[Instr.storeAt,Instr.sureAddr,Sem.run_bind,Sem.run_pure,Result.andThen_ok]
           exact e1
         · cases k1
       · cases k1
     · cases h1
 · cases h
theorem exTake_ok (S:St0 n B X w0 M0 M ω ρ tmps w){d:Nat}(hd:d<n){q:Opd}{ws:List Wr}{cs:List Prop}(h:exTake d q=some (ws,cs))
   {v:Value} (hq:OpdR n M ω w ρ (vl tmps) q v):∃ M' ω',St0 n B X w0 M0 M' ω' (ρ.puts ws) (tmps.setIfInBounds d v) w:=by
 unfold exTake at h
 obtain⟨s,x,ws1,h1,M1,ω1,S1,m1,t1⟩:=tkOwn_ok S n h hq
 simp only[Option.some.injEq,Prod.mk.injEq]at h1
 obtain⟨rfl,rfl⟩:=h1
 obtain⟨cs,bs,a1,a2,a3,a4⟩:=t1.enc
 have S2:=put_c S1 hd a1 a2 a3 (fun b hb=>⟨n,Nat.le_refl _,a4 b hb⟩)
 rw[←Env.puts_append]at S2
 exact⟨_,_,S2⟩
def bndV (v:Option Value)(x:Int):Prop:=match v with | none=>True | some v=>v=.int .i64 x
theorem loK_ok (S:St0 n B X w0 M0 M ω ρ tmps w){gd:Gd}(hg:GuardOk ρ (vl tmps) gd)(df:List Deferred){R:Type}{o:Option Operand}{k:Int→Option R}{r:R}(h:loK (o.map (opd ρ gd)) k=some r):
   ∃ x,k x=some r∧bndV (o.map (Act.eval ⟨tmps,df⟩)) x∧(o=none→x=0):=by
 cases o with
 | none=>exact⟨0,h,trivial,fun _=>rfl⟩
 | some o=>
   obtain⟨x,h1,h2⟩:=rd_int S h
   exact⟨x,h1,(h2 _ (opd_rel S hg o df)).1,fun e=>by cases e⟩
theorem hiK_ok (S:St0 n B X w0 M0 M ω ρ tmps w){gd:Gd}(hg:GuardOk ρ (vl tmps) gd)(df:List Deferred){R:Type}{o:Option Operand}{m:Int}{k:Int→Option R}{r:R}(h:hiK (o.map (opd ρ gd)) m k=some r):
   ∃ x,k x=some r∧bndV (o.map (Act.eval ⟨tmps,df⟩)) x∧(o=none→x=m):=by
 cases o with
 | none=>exact⟨m,h,trivial,fun _=>rfl⟩
 | some o=>
   obtain⟨x,h1,h2⟩:=rd_int S h
   exact⟨x,h1,(h2 _ (opd_rel S hg o df)).1,fun e=>by cases e⟩
theorem run_bounds {isS:Bool}{len cap:Nat}{lo hi:Option Value}{l h:Int}(hl:bndV lo l)(hl0:lo=none→l=0)(hh:bndV hi h)(hh0:hi=none→h=len)(h0:0≤l)(h1:l≤h)(h2:h≤len)(hc:len≤cap):
   (Instr.sliceBounds isS len cap lo hi none).run P w=.ok (l.toNat,h.toNat,cap) w:=by
 have e1:∀ (x:Int) (y:Nat) (c:BoundsCode),0≤x→x≤y→(Instr.sliceBound (.int .i64 x) y c).run P w=.ok x.toNat w:=by
   intro x y c g1 g2
   simp[Instr.sliceBound,asIntOf,g1,g2]
 have eh:h≤(cap:Int):=by omega
 have el:l≤(h.toNat:Int):=by omega
 cases lo with
 | none=>
   have:=hl0 rfl
   subst this
   cases hi with
   | none=>have:=hh0 rfl;subst this;simp[Instr.sliceBounds]
   | some v=>
     have hv:v=.int .i64 h:=hh
     subst hv
     simp[Instr.sliceBounds,e1 h cap _ (by omega) eh]
 | some u=>
   have hu:u=.int .i64 l:=hl
   subst hu
   cases hi with
   | none=>
     have:=hh0 rfl;subst this
     simp[Instr.sliceBounds,e1 l len _ h0 h1]
   | some v=>
     have hv:v=.int .i64 h:=hh
     subst hv
     simp[Instr.sliceBounds,e1 h cap _ (by omega) eh,e1 l h.toNat _ h0 el]
theorem subL_length {α:Type}(xs:List α){l h:Int}(h0:0≤l)(h1:l≤h)(h2:h≤xs.length):(subL xs l h).length=h.toNat-l.toNat:=by
 simp only[subL,List.length_drop,List.length_take];omega
theorem enc_sub {M:Mem}{e:Ty}{xs:List (El e)}{a:Option Addr}{cap:Nat}(he:Enc M (.slice e) [.slice a xs.length cap] xs){l h:Int}(h0:0≤l)(h1:l≤h)(h2:h≤xs.length):
   Enc M (.slice e) [.slice (if cap=l.toNat then a else a.map (·.add (l.toNat*e.size))) (h.toNat-l.toNat) (cap-l.toNat)] (subL xs l h):=by
 obtain⟨a',cap',g1,g2,g3,g4⟩:=he
 simp only[List.cons.injEq,Value.slice.injEq,and_true,true_and]at g1
 obtain⟨rfl,rfl⟩:=g1
 refine⟨_,cap-l.toNat,by rw[subL_length xs h0 h1 h2],by rw[subL_length xs h0 h1 h2];omega,by omega,?_⟩
 cases a with
 | none=>
   have:cap=0:=g4
   subst this
   have hl:l.toNat=0:=by omega
   rw[hl];simp
 | some ad=>
   obtain⟨b,o,sp⟩:=ad
   obtain⟨k1,k2⟩:=g4
   simp only at k1
   by_cases hc:cap=l.toNat
   · rw[if_pos hc]
     have hn:subL xs l h=[]:=List.length_eq_zero_iff.1 (by rw[subL_length xs h0 h1 h2];omega)
     rw[hn];exact⟨.inr (by omega),trivial⟩
   · rw[if_neg hc]
     have k1:sp=none:=k1.resolve_right (by omega)
     subst k1
     simp only[Option.map_some,addr_add]
     refine⟨.inl trivial,?_⟩
     have:=SliceAt.drop (xs.take h.toNat) _ l.toNat (SliceAt.take xs _ h.toNat k2)
     exact this
theorem map_add0 (a:Option Addr):a.map (·.add 0)=a:=by
 cases a with
 | none=>rfl
 | some ad=>obtain⟨b,o,sp⟩:=ad;cases sp<;>simp[Addr.add]
theorem sub_bor {α:Type}{k:Nat}{ak:A}{vk:Value}{e:Ty}{ys:List (El e)}{org:Option Nat}{b:Bx}{a:Option Addr}{len cap:Nat}{lo hi:Option α}{l h:Int}
   (hlo:lo=none→l=0) (hhi:hi=none→h=len) (c1:0≤l) (c2:l≤h) (c3:h≤len)
   (hp:∀ off,org=some off→∃ pc,Place ω w k ak vk pc∧
     if b.isT=true then [Value.slice a len cap]=(pc.drop off).take (Ty.slice e).size
     else ∃ a' len' cap' n',pc[off]?=some (.slice a' len' cap')∧[Value.slice a len cap]=[.slice a' n' cap']∧n'≤len')
   (henc:Enc (heapOf M ω w k vk) (.slice e) [.slice (if cap=l.toNat then a else a.map (·.add (l.toNat*e.size))) (h.toNat-l.toNat) (cap-l.toNat)] ys):
   BorR M ω w k ak vk (.slice e) ys (preO lo org b) (tlB lo hi org b l.toNat) (.slice (if cap=l.toNat then a else a.map (·.add (l.toNat*e.size))) (h.toNat-l.toNat) (cap-l.toNat)):=by
 have hat:∀ off,org=some off→b=.t→∃ pc,Place ω w k ak vk pc∧pc[off]?=some (.slice a len cap):=fun off ho hb=>by
   obtain⟨pc,h1,h2⟩:=hp off ho
   subst hb
   simp only[Bx.isT,if_true]at h2
   refine⟨pc,h1,?_⟩
   have:((pc.drop off).take 1)[0]?=some (.slice a len cap):=by rw[show (pc.drop off).take 1=_ from h2.symm];rfl
   simpa using this
 refine⟨_,rfl,henc,fun off ho=>?_,fun off et i eo he=>?_,?_⟩
 · have hnb:(tlB lo hi org b l.toNat).isT=false:=by unfold tlB;split<;>rfl
   have hl:lo=none∧org=some off∧(b=.t∨b=.f):=by
     unfold preO at ho
     split at ho
     · split at ho
       · exact⟨rfl,ho,.inl rfl⟩
       · cases ho
     · split at ho
       · exact⟨rfl,ho,.inr rfl⟩
       · cases ho
     · cases ho
   obtain⟨l1,l2,l3⟩:=hl
   have hl0:=hlo l1
   subst hl0
   simp only[Int.toNat_zero,Nat.zero_mul,map_add0,ite_self,Nat.sub_zero]at hnb ⊢
   rcases l3 with l3 | l3
   · obtain⟨pc,g1,g2⟩:=hat off l2 l3
     refine⟨pc,g1,?_⟩
     rw[if_neg (by rw[hnb];simp)]
     exact⟨a,len,cap,h.toNat,g2,rfl,by omega⟩
   · obtain⟨pc,g1,g2⟩:=hp off l2
     subst l3
     simp only[Bx.isT,Bool.false_eq_true,if_false]at g2
     obtain⟨a',len',cap',n',g3,g4,g5⟩:=g2
     simp only[List.cons.injEq,Value.slice.injEq,and_true]at g4
     obtain⟨rfl,rfl,rfl⟩:=g4
     refine⟨pc,g1,?_⟩
     rw[if_neg (by rw[hnb];simp)]
     exact⟨a,len',cap,h.toNat,g3,rfl,by omega⟩
 · unfold tlB at he
   split at he<;>cases he
 · unfold tlB
   split
   · rename_i off
     obtain⟨pc,g1,g2⟩:=hat off rfl rfl
     have:=hhi rfl
     subst this
     exact⟨pc,a,len,cap,g1,g2,by omega,by simp[Ty.esz]⟩
   · trivial
theorem exSlice_ok (hC:CtxOk P C)(S:St0 n B X w0 M0 M ω ρ tmps w){gd:Gd}(hg:GuardOk ρ (vl tmps) gd){t:TypeId}{d:Nat}(hd:d<n){q:Opd}{lo hi:Option Operand}{ws:List Wr}{cs:List Prop}
   (h:exSlice C t d q (lo.map (opd ρ gd)) (hi.map (opd ρ gd))=some (ws,cs)) (hcs:∀ p∈cs,p) (df:List Deferred) {v:Value} (hq:OpdR n M ω w ρ (vl tmps) q v):
   Res n B X w0 M0 ρ tmps d ws ((Instr.sliceAt t v (lo.map (Act.eval ⟨tmps,df⟩)) (hi.map (Act.eval ⟨tmps,df⟩)) none).run P w):=by
 unfold exSlice at h
 split at h
 · rename_i E hT
   obtain⟨te,hu,hTe⟩:=(hC.ty t _ hT).under
   -- what runs
   have hrun:∀ (a:Option Addr) (len cap:Nat) (l h:Int),bndV (lo.map (Act.eval ⟨tmps,df⟩)) l→(lo=none→l=0)→bndV (hi.map (Act.eval ⟨tmps,df⟩)) h→(hi=none→h=len)→0≤l→l≤h→h≤len→len≤cap→
       (Instr.sliceAt t (.slice a len cap) (lo.map (Act.eval ⟨tmps,df⟩)) (hi.map (Act.eval ⟨tmps,df⟩)) none).run P w=.ok (.slice (if cap=l.toNat then a else a.map (·.add (l.toNat*E.size))) (h.toNat-l.toNat) (cap-l.toNat)) w:=by
     intro a len cap l h g1 g2 g3 g4 g5 g6 g7 g8
     have hb:=run_bounds (P:=P) (w:=w) (isS:=true) (len:=len) (cap:=cap) g1 (fun e=>g2 (by cases lo with | none=>rfl | some _=>cases e)) g3 (fun e=>g4 (by cases hi with | none=>rfl | some _=>cases e)) g5 g6 g7 g8
     simp only[Instr.sliceAt,Instr.slice,Sem.run_bind,run_underlying' hu,Result.andThen_ok,hb,run_sizeOf hTe,Sem.run_pure]
   split at h
   · rename_i e xs ha
     split at h
     · rename_i he
       subst he
       obtain⟨l,h1,h2,h3⟩:=loK_ok S hg df h
       obtain⟨hh,h4,h5,h6⟩:=hiK_ok S hg df h1
       simp only[Option.some.injEq,Prod.mk.injEq]at h4
       obtain⟨rfl,rfl⟩:=h4
       have c1:0≤l:=hcs _ (by simp)
       have c2:l≤hh:=hcs _ (by simp)
       have c3:hh≤xs.length:=hcs _ (by simp)
       have hr:=hq.rel (by rw[ha];intro _ _ _ _ _ e;cases e)
       rw[ha]at hr
       obtain⟨cs',bs,k1,⟨k2,k3⟩,_⟩:=hr
       have e1:cs'=[v]:=k1
       obtain⟨a,cap,g2,g3,g4,g5⟩:=id k3
       rw[e1]at g2
       simp only[List.cons.injEq,and_true]at g2
       subst g2
       rw[e1]at k3
       exact⟨_,w,_,_,hrun a _ cap l hh h2 h3 h5 h6 c1 c2 c3 g3,put_pure S hd (t:=.slice e) (cs:=[_]) rfl (enc_sub k3 c1 c2 c3)⟩
     · cases h
   · rename_i e0 x0 ha
     split at h
     · rename_i j e xs hj hent
       split at h
       · rename_i hc
         obtain⟨hc1,hc2⟩:=hc
         subst hc1
         obtain⟨l,h1,h2,h3⟩:=loK_ok S hg df h
         obtain⟨hh,h4,h5,h6⟩:=hiK_ok S hg df h1
         simp only[Option.some.injEq,Prod.mk.injEq]at h4
         obtain⟨rfl,rfl⟩:=h4
         have c1:0≤l:=hcs _ (by simp)
         have c2:l≤hh:=hcs _ (by simp)
         have c3:hh≤(List.length xs:Int):=hcs _ (by simp)
         obtain⟨e1,e2,e3⟩:=hq.slot j hj
         have hjn:=e3 (by rw[ha];intro e;cases e)
         rw[e2]at hent ⊢
         have hs:=S.slots j hjn
         rw[hent]at hs
         obtain⟨cs2,bs2,k1,k2,k3,k4⟩:=hs
         have hn:(Sh.own e).noref=true:=hc2
         have henc:=EncO.toEnc (M_heapOf M ω w j (vl tmps j)) (.own e) cs2 xs bs2 hn (fun b hb row hrow=>heapOf_rows S hrow (k4 b hb) (noref_box hn k1 k2 b hb)) k2
         have e1':v=tmps.getD j undef:=e1
         have ec:cs2=[v]:=by rw[e1'];exact k1
         rw[ec]at henc
         obtain⟨a,cap,g2,g3,g4,g5⟩:=id henc
         simp only[List.cons.injEq,and_true]at g2
         subst g2
         refine⟨_,w,_,_,?_,put_ref S hd (t:=0) (by intros;intro e;cases e) (by intros;intro e;cases e) (by intros;intro e;cases e) ⟨⟨hjn,Nat.le_refl _,fun _=>Nat.le_refl _⟩,fun _=>sub_bor (fun e=>h3 (Option.map_eq_none_iff.1 e)) (fun e=>h6 (Option.map_eq_none_iff.1 e)) c1 c2 c3 (fun off ho=>⟨cs2,by rw[hent];exact k1,by rw[if_pos (show Bx.isT .t=true from rfl),ec];cases ho;simp[Ty.size]⟩) (enc_sub henc c1 c2 c3)⟩⟩
         exact hrun a _ cap l hh h2 h3 h5 h6 c1 c2 c3 g3
       · cases h
     · cases h
   · rename_i k g ver e xs org ex ha
     split at h
     · rename_i hc
       obtain⟨hc1,hc2,hc3⟩:=hc
       subst hc3
       obtain⟨l,h1,h2,h3⟩:=loK_ok S hg df h
       obtain⟨hh,h4,h5,h6⟩:=hiK_ok S hg df h1
       simp only[Option.some.injEq,Prod.mk.injEq]at h4
       obtain⟨rfl,rfl⟩:=h4
       have c1:0≤l:=hcs _ (by simp)
       have c2:l≤hh:=hcs _ (by simp)
       have c3:hh≤xs.length:=hcs _ (by simp)
       have hr:=hq.rel (by rw[ha];intro _ _ _ _ _ e;cases e)
       have htg:=hq.tgt k (by rw[ha];rfl)
       rw[ha]at hr
       obtain⟨r1,r2⟩:=hr
       rw[htg]at hc1 hc2
       obtain⟨cs',k1,k2,k5,_⟩:=r2 ⟨hc1,hc2⟩
       have e1:cs'=[v]:=k1
       obtain⟨a,cap,g2,g3,g4,g5⟩:=id k2
       rw[e1]at g2
       simp only[List.cons.injEq,and_true]at g2
       subst g2
       rw[e1]at k2 k5
       exact⟨_,w,_,_,hrun a _ cap l hh h2 h3 h5 h6 c1 c2 c3 g3,put_ref S hd (t:=0) (by intros;intro e;cases e) (by intros;intro e;cases e) (by intros;intro e;cases e) ⟨r1,fun _=>sub_bor (fun e=>h3 (Option.map_eq_none_iff.1 e)) (fun e=>h6 (Option.map_eq_none_iff.1 e)) c1 c2 c3 k5 (enc_sub k2 c1 c2 c3)⟩⟩
     · cases h
   · cases h
 · rename_i hT
   have hu:P.underlying t=some .string:=(hC.ty t _ hT).under
   obtain⟨xs,k1,k2⟩:=rd_str S h
   obtain⟨l,h1,h2,h3⟩:=loK_ok S hg df k1
   obtain⟨hh,h4,h5,h6⟩:=hiK_ok S hg df h1
   simp only[Option.some.injEq,Prod.mk.injEq]at h4
   obtain⟨rfl,rfl⟩:=h4
   have c1:0≤l:=hcs _ (by simp)
   have c2:l≤hh:=hcs _ (by simp)
   have c3:hh≤xs.length:=hcs _ (by simp)
   obtain⟨rfl,hx⟩:=k2 v hq
   have hsz:(ByteArray.mk xs.toArray).size=xs.length:=by simp[ByteArray.size]
   have hb:=run_bounds (P:=P) (w:=w) (isS:=false) (len:=xs.length) (cap:=xs.length) (lo:=lo.map (Act.eval ⟨tmps,df⟩)) (hi:=hi.map (Act.eval ⟨tmps,df⟩)) h2 (fun e=>h3 (by cases lo with | none=>rfl | some _=>cases e)) h5 (fun e=>h6 (by cases hi with | none=>rfl | some _=>cases e)) c1 c2 c3 (Nat.le_refl _)
   refine⟨.string ((ByteArray.mk xs.toArray).extract l.toNat hh.toNat),w,_,_,?_,put_pure S hd (t:=.str) (cs:=[_]) rfl ⟨?_,?_⟩⟩
   · simp only[Instr.sliceAt,Instr.slice,Sem.run_bind,run_underlying' hu,Result.andThen_ok,hsz,Option.isSome_none,Bool.false_eq_true,if_false,Sem.run_pure,hb]
   · congr 2
     apply ByteArray.ext
     simp[subL,List.drop_take]
   · rw[subL_length xs c1 c2 c3];omega
 · cases h
theorem GroupsO.at {α:Type}{p:List Value→α→List Nat→Prop}{sz:Nat}:∀ (xs:List α) (vs:List Value) (bs:List Nat) (i:Nat) (x:α),GroupsO p sz vs xs bs→xs[i]?=some x→
   ∃ r1 r2 r3 c1 c2 c3,vs=r1++r2++r3∧bs=c1++c2++c3∧r1.length=i*sz∧r2.length=sz∧p r2 x c2∧
     ∀ r2' z c2',r2'.length=sz→p r2' z c2'→GroupsO p sz (r1++r2'++r3) (xs.set i z) (c1++c2'++c3)
 | [],_,_,_,_,_,h=>by simp at h
 | y::xs,vs,bs,0,x,⟨v1,v2,b1,b2,h1,h2,h3,h4,h5⟩,hx=>by
   simp at hx;subst hx
   exact⟨[],v1,v2,[],b1,b2,by simp[h1],by simp[h3],by simp,h2,h4,fun r2' z c2' g1 g2=>⟨r2',v2,c2',b2,by simp,g1,by simp,g2,h5⟩⟩
 | y::xs,vs,bs,i+1,x,⟨v1,v2,b1,b2,h1,h2,h3,h4,h5⟩,hx=>by
   obtain⟨r1,r2,r3,c1,c2,c3,g1,g2,g3,g4,g5,g6⟩:=GroupsO.at xs v2 b2 i x h5 (by simpa using hx)
   refine⟨v1++r1,r2,r3,b1++c1,c2,c3,by simp[h1,g1],by simp[h3,g2],by simp[h2,g3,Nat.add_mul];omega,g4,g5,fun r2' z c2' k1 k2=>?_⟩
   exact⟨v1,r1++r2'++r3,b1,c1++c2'++c3,by simp,h2,by simp,h4,g6 r2' z c2' k1 k2⟩
theorem put_cont (S:St0 n B X w0 M0 M ω ρ tmps w){k b:Nat}(hk:k<n)(hb:ω b=some k){row:List Value}(hu:Upd w b row w'){A':A}
   (hA:Rel n M (fun i=>if ω i=some n then some k else ω i) w' (ρ.puts [⟨k,true,A'⟩]) (vl tmps) k (vl tmps k) A'):
   ∃ ω',St0 n B X w0 M0 M ω' (ρ.puts [⟨k,true,A'⟩]) tmps w':=by
 refine⟨fun i=>if ω i=some n then some k else ω i,?_⟩
 obtain⟨d1,d2,d3⟩:=S.dis b k hb
 have hget:(ρ.puts [(⟨k,true,A'⟩:Wr)]).get k=⟨(ρ.get k).g,(ρ.get k).ver+1,A'⟩:=by
   show (ρ.put _).get k=_
   rw[Env.get_put];simp
 refine S.step _ S.size ⟨hu.os,hu.tape,hu.output,Nat.le_of_eq hu.size.symm,fun i hi hx=>hu.other i (fun e=>?_)⟩ (Mem.le_refl _) (fun _ _ _ _=>rfl) ?_ ?_ (fun _ _=>rfl) ?_ ?_ ?_
 · subst e
   rcases d1 with d1 | d1
   · omega
   · exact hx d1
 · intro i o v hm
   have hne:i≠b:=fun e=>by subst e;rw[d3 o]at hm;cases hm
   rw[cell_of_block (hu.other i hne)]
   exact S.mem i o v hm
 · intro i j hj
   have:∃ k',ω i=some k':=by
     revert hj
     show (if ω i=some n then some k else ω i)=some j→_
     split
     · rename_i e;intro _;exact⟨n,e⟩
     · intro e;exact⟨j,e⟩
   obtain⟨k',hk'⟩:=this
   obtain⟨q1,q2,q3⟩:=S.dis i k' hk'
   exact⟨q1,by rw[hu.size];exact q2,q3⟩
 · intro x hx
   simp at hx;subst hx;exact hk
 · intro t ht hne i hi
   have htj:t≠k:=fun e=>hne _ (List.mem_singleton.2 rfl) e.symm
   refine⟨?_,hu.other i (fun e=>?_)⟩
   · show (if ω i=some n then some k else ω i)=some t
     rw[if_neg (by rw[hi];simp;omega)];exact hi
   · subst e;rw[hb]at hi;simp at hi;exact htj hi.symm
 · intro t ⟨x,hx,hxt⟩ _
   simp at hx;subst hx
   have:t=k:=hxt.symm
   subst this
   rw[hget];exact hA
theorem contK_inv {R:Type}{e:Ent}{k:(s:Sh)→El s.ty→Option R}{r:R}(h:contK e k=some r):
   ∃ s x,k s x=some r∧(e.a=.c (.ref s) x∨(e.a=.c s x∧∀ s' (x':El s'.ty),e.a≠.c (.ref s') x')):=by
 unfold contK at h
 split at h
 · rename_i s x he;exact⟨s,x,h,.inl he⟩
 · rename_i s x hne he
   refine⟨s,x,h,.inr ⟨he,fun s' x' e=>?_⟩⟩
   rw[he]at e
   simp only[A.c.injEq]at e
   obtain⟨e1,e2⟩:=e
   subst e1
   exact hne _ _ rfl HEq.rfl
 · cases h
theorem nodup_swap {b:Nat}{b0 b1 b3 d1 y1 y2 y3 d3 bs f1 f2 f3:List Nat}(h:(b0++(b1++(b::(d1++(y1++y2++y3)++d3))++b3)).Nodup)(hb:bs.Nodup)
   (hd:∀ i∈bs,i∉b0++(b1++(b::(d1++(y1++y2++y3)++d3))++b3)) (e:b1++b3=f1++f2++f3):(b0++(f1++(b::(d1++(y1++bs++y3)++d3))++f3)).Nodup:=by
 rw[List.nodup_iff_count]at h hb ⊢
 intro a
 have h1:=h a
 have h2:=hb a
 have e1:=congrArg (List.count a) e
 by_cases hm:a∈bs
 · have h3:=List.count_eq_zero.2 (hd a hm)
   simp only[List.count_append,List.count_cons]at h1 h2 h3 e1 ⊢
   omega
 · have h3:=List.count_eq_zero.2 hm
   simp only[List.count_append,List.count_cons]at h1 h2 h3 e1 ⊢
   omega
theorem Groups.set {α:Type}{p:List Value→α→Prop}{sz:Nat}{y:α}{cs:List Value}(hy:p cs y)(hl:cs.length=sz):∀ (xs:List α) (vs:List Value) (i:Nat),i<xs.length→Groups p sz vs xs→
   Groups p sz (vs.take (i*sz)++cs++vs.drop (i*sz+sz)) (xs.set i y)
 | [],_,_,h,_=>by simp at h
 | x::xs,vs,0,_,⟨v1,v2,h1,h2,h3,h4⟩=>by
   subst h1
   refine⟨cs,v2,?_,hl,hy,h4⟩
   simp[←h2]
 | x::xs,vs,i+1,h,⟨v1,v2,h1,h2,h3,h4⟩=>by
   subst h1
   refine⟨v1,v2.take (i*sz)++cs++v2.drop (i*sz+sz),?_,h2,h3,Groups.set hy hl xs v2 i (by simpa using h) h4⟩
   have e1:(v1++v2).take ((i+1)*sz)=v1++v2.take (i*sz):=by
     rw[Nat.add_mul,Nat.one_mul,Nat.add_comm,←h2,List.take_append,List.take_of_length_le (by omega)]
     congr 1;congr 1;omega
   have e2:(v1++v2).drop ((i+1)*sz+sz)=v2.drop (i*sz+sz):=by
     rw[Nat.add_mul,Nat.one_mul,←h2,List.drop_append,List.drop_eq_nil_of_le (by omega),List.nil_append]
     congr 1;omega
   rw[e1,e2];simp
theorem exStoreArr_ok {t:TypeId}{T:Ty}(hTy:TyR P t T)(S:St0 n B X w0 M0 M ω ρ tmps w){k i:Nat}{et:Ty}{m0:Nat}{q2:Opd}{ws:List Wr}{cs:List Prop}
   (h:exStoreArr T k et i (ρ.get k) q2=some (ws,cs)) (hcs:∀ p∈cs,p) {v1 v2:Value} (hkn:k<n) (hel:ElpR ω w k (ρ.get k).a (vl tmps k) 0 et i 0 (some m0) v1) (hq2:OpdR n M ω w ρ (vl tmps) q2 v2):
   ∃ w',(Instr.storeAt t v1 v2).run P w=.ok () w'∧∃ M' ω',St0 n B X w0 M0 M' ω' (ρ.puts ws) tmps w':=by
 unfold exStoreArr at h
 obtain⟨y,h1,h2⟩:=rd_ok S h
 obtain⟨cs2,k1,k2⟩:=h2 v2 hq2
 split at h1
 · rename_i m e2 xs ha
   split at h1
   · rename_i hT
     subst hT
     split at h1
     · rename_i hc
       obtain⟨rfl,hf⟩:=hc
       simp only[Option.some.injEq,Prod.mk.injEq]at h1
       obtain⟨rfl,rfl⟩:=h1
       have hi:i<List.length xs:=hcs _ (by simp)
       obtain⟨b,row,bss,r1,r2,r3,r4,r5⟩:=ref_ptr S hkn ha
       obtain⟨hb0,hlen,hgr⟩:=r3
       subst hb0
       unfold ElpR at hel
       simp only[Option.isSome_some,if_true]at hel
       obtain⟨_,b',q1,q2⟩:=hel
       rw[r1]at q1
       simp only[Value.pointer.injEq,Option.some.injEq,Addr.mk.injEq,and_true]at q1
       subst q1
       have hl:=Enc.length _ _ _ k2
       have hpl:=Enc.plain _ _ _ k2
       have hrl:=Groups.length _ _ hgr
       have hfit:i*et.size+cs2.length≤row.length:=by
         rw[hl,hrl]
         have:(i+1)*et.size≤xs.length*et.size:=Nat.mul_le_mul_right _ hi
         rwa [Nat.add_mul,Nat.one_mul]at this
       obtain⟨w',e1,e2⟩:=run_storeVar (P:=P) (o:=i*et.size) (cs:=cs2) hTy r2 hl hfit hpl (ValC.cells k1 hpl)
       rw[hl]at e2
       have hset:=Groups.set (Enc.flat et cs2 y hf k2:Enc M et cs2 y) hl xs row i hi hgr
       refine⟨w',?_,M,ω,put_var S hkn (r5 b (by simp)) e2 fun _=>?_⟩
       · subst q2
         simp only[Instr.storeAt,Instr.sureAddr,Sem.run_bind,Sem.run_pure,Result.andThen_ok,Nat.zero_add,Nat.add_zero]
         exact e1
       · exact⟨[vl tmps k],[b],rfl,⟨b,_,[],rfl,by rw[show vl tmps k=_ from r1],e2.row,⟨rfl,by rw[List.length_set];exact hlen,hset⟩⟩,by simp,fun c hc=>by rw[List.mem_singleton.1 hc];exact r5 b (by simp)⟩
     · cases h1
   · cases h1
 · cases h1
theorem exStoreEl_ok (hC:CtxOk P C)(S:St0 n B X w0 M0 M ω ρ tmps w){t:TypeId}{q1 q2:Opd}{ws:List Wr}{cs:List Prop}
   (h:exStoreEl C t q1 q2=some (ws,cs)) (hcs:∀ p∈cs,p) {v1 v2:Value} (hq1:OpdR n M ω w ρ (vl tmps) q1 v1) (hq2:OpdR n M ω w ρ (vl tmps) q2 v2):
   ∃ w',(Instr.storeAt t v1 v2).run P w=.ok () w'∧∃ M' ω',St0 n B X w0 M0 M' ω' (ρ.puts ws) tmps w':=by
 unfold exStoreEl at h
 split at h
 · rename_i T hT
   have hTy:=hC.ty t T hT
   split at h
   · rename_i k g ver off et i eo ha
     have hr:=hq1.rel (by rw[ha];intro _ _ _ _ _ e;cases e)
     have htg:=hq1.tgt k (by rw[ha];rfl)
     rw[ha]at hr
     obtain⟨⟨hkn,_⟩,hcl⟩:=hr
     split at h
     · rename_i hcur
       rw[htg]at hcur h
       have hel:=hcl hcur
       unfold ElpR at hel
       simp only[Option.isSome_none,Bool.false_eq_true,if_false]at hel
       obtain⟨pc,hpc,a,len,cap,e1,e2,e3,e4⟩:=hel
       have tk2:∃ s' y ws',storeElB T k off et i eo (ρ.get k) s' y ws'=some (ws,cs)∧∃ M1 ω1,St0 n B X w0 M0 M1 ω1 (ρ.puts ws') tmps w∧Moved n M M1 ω ω1 w ρ tmps ws' n∧Taken n M1 ω1 w n v2 s' y:=by
         split at h
         · rename_i r hr
           rw[h]at hr
           exact takeK_ok S n hr hq2
         · obtain⟨y,ws',k1,M1,ω1,S1,m1,t1⟩:=tkF_ok S n (Nat.le_refl n) h hq2
           exact⟨.pure T,y,ws',k1,M1,ω1,S1,m1,t1⟩
       obtain⟨s',y,ws',k1,M1,ω1,S1,m1,t1⟩:=tk2
       obtain⟨cs',bs',k2,k3,k4,k5⟩:=t1.enc
       unfold storeElB at k1
       split at k1
       · rename_i hc
         obtain⟨c1,c2,c3⟩:=hc
         have hsame:=Env.puts_other ws' ρ k (noneIs_ok c3)
         obtain⟨s,x,g1,g2⟩:=contK_inv k1
         obtain⟨s1,y1,s2,x2,f1,f2,f2',f3⟩:=Sh.cutK_ok s x off _ _ _ g1
         split at f1
         · rename_i e ys
           split at f1
           · rename_i hen
             obtain⟨u2,z,p1,⟨p2a,p2⟩,_⟩:=Sh.updK_ok c2 e _ eo _ _ f1
             split at p1
             · rename_i hup
               obtain⟨z',p3,p4⟩:=castK_heq (upB_ty u2 e hup) (fun z=>s2.updK x2 off (.own e) (ys.set i z) fun s3 x3=>some (ws'++[(⟨k,true,contWrap (ρ.get k) s3 x3⟩:Wr)],([]:List Prop))) z
               rw[p3]at p1
               obtain⟨s3,x3,p5,⟨p6a,p6⟩,p7⟩:=Sh.updK_ok (s':=.own e) (y:=ys.set i z') hen s2 x2 off _ _ p1
               simp only[Option.some.injEq,Prod.mk.injEq]at p5
               obtain⟨rfl,rfl⟩:=p5
               -- the content of slot k as it now stands
               have hslot:=S1.slots k hkn
               rw[hsame]at hslot
               have hcont:∃ bs,EncO M1 (rows w) s pc x bs∧(∃ b0l,(b0l++bs).Nodup∧(∀ i∈b0l++bs,ω1 i=some k)∧
                   ∀ (R':World) (ω':Own) (bs4:List Nat),(∀ i∈b0l,rows R' i=rows w i)→EncO M1 (rows R') s3 pc x3 bs4→(b0l++bs4).Nodup→(∀ i∈b0l++bs4,ω' i=some k)→
                     Rel n M1 ω' R' ((ρ.puts ws').puts [⟨k,true,contWrap (ρ.get k) s3 x3⟩]) (vl tmps) k (vl tmps k) (contWrap (ρ.get k) s3 x3)):=by
                 rcases g2 with g2 | ⟨g2,g3⟩
                 · rw[g2]at hslot hpc
                   obtain⟨pcs,bs,q1,⟨b,row,bss,q2,q3,q4,q5⟩,q6,q7⟩:=hslot
                   obtain⟨b',r1,r2,r3⟩:=hpc
                   have hbb:b'=b:=by
                     have t1:pcs=[tmps.getD k undef]:=q1
                     have t2:tmps.getD k undef=.pointer (some ⟨b',0,none⟩):=r1
                     rw[t1,t2]at q3
                     simpa using q3
                   subst hbb
                   rw[q4]at r3
                   simp only[Option.some.injEq]at r3
                   subst r3
                   subst q2
                   refine⟨bss,q5,[b'],q6,q7,fun R' ω' bs4 z1 z2 z3 z4=>?_⟩
                   have:contWrap (ρ.get k) s3 x3=.c (.ref s3) x3:=by unfold contWrap;rw[g2]
                   rw[this]
                   exact⟨pcs,b'::bs4,q1,⟨b',row,bs4,rfl,q3,by rw[z1 b' (by simp)];exact q4,z2⟩,z3,z4⟩
                 · rw[g2]at hslot hpc
                   have hslot':Owns M1 ω1 w k s x (tmps.getD k undef):=hslot
                   obtain⟨pcs,bs,q1,q2,q6,q7⟩:=hslot'
                   have hpc':ValC s.ag (tmps.getD k undef) pc:=by cases s<;>first | exact hpc | exact(g3 _ _ g2).elim
                   have:=ValC.fun_ q1 hpc'
                   subst this
                   refine⟨bs,q2,[],q6,q7,fun R' ω' bs4 _ z2 z3 z4=>?_⟩
                   have:contWrap (ρ.get k) s3 x3=.c s3 x3:=by
                     unfold contWrap
                     split
                     · rename_i s5 x5 he;exact(g3 _ _ he).elim
                     · rfl
                   rw[this]
                   have hag:s3.ag=s.ag:=by
                     have:s.ag=s.ty.ag:=by cases s<;>first | rfl | exact(g3 _ _ g2).elim
                     rw[p7,p6a,f2',this]
                   exact⟨pcs,bs4,by rw[hag];exact q1,z2,z3,z4⟩
               obtain⟨bs,hE,b0l,hnd,how,hfin⟩:=hcont
               obtain⟨b1,b2,b3,j1,j2,j3⟩:=f3 _ _ _ _ hE
               have hoff:(pc.drop off).take (Sh.own e).size=[.slice (some a) len cap]:=by
                 have hlt:off<pc.length:=(List.getElem?_eq_some_iff.1 e1).1
                 show (pc.drop off).take 1=_
                 rw[List.drop_eq_getElem_cons hlt]
                 simp[List.getElem?_eq_getElem hlt]at e1
                 simp[e1]
               rw[hoff]at j2
               have hty:e.ty=et:=by have:=f2;simpa using this
               rcases j2 with⟨_,⟨a',j4,_⟩,_⟩ | ⟨b,cap',row,bss,j4,j5,j6,j7,j8,j9,j10⟩
               · simp at j4;omega
               · simp only[List.cons.injEq,Value.slice.injEq,Option.some.injEq,and_true]at j5
                 obtain⟨rfl,rfl,rfl⟩:=j5
                 have hsz:e.size=et.size:=by rw[Sh.size_ty e hen,hty]
                 obtain⟨r1,r2,r3,d1,d2,d3,l1,l2,l3,l4,l5,l6⟩:=GroupsO.at ys row bss i _ j10 (getD_of_lt ys i (dflt e.ty) e2)
                 obtain⟨u1,y1,y2,y3,y4,y5⟩:=p2 _ _ _ _ _ _ l5 k3
                 have y6:=upB_enc u2 e hup z z' _ _ p4 y5
                 have hcl:cs'.length=T.size:=by rw[EncO.length _ _ _ _ k3,Sh.size_ty s' c2,c1]
                 have hpl:=EncO.plain s' cs' y bs' c2 k3
                 have hrl:row.length=r1.length+(r2.length+r3.length):=by rw[l1];simp
                 obtain⟨w',v1',v2'⟩:=run_storeVar (P:=P) hTy j8 hcl (o:=i*et.size+eo) (by rw[hrl,l3,hsz];omega) hpl (ValC.cells k2 hpl)
                 have hrow':row.take (i*et.size+eo)++cs'++row.drop (i*et.size+eo+cs'.length)=r1++ov r2 eo cs'++r3:=by
                   have hi:i*et.size=r1.length:=by rw[l3,hsz]
                   rw[hi,l1]
                   unfold ov
                   rw[List.append_assoc r1 r2 r3,List.take_append,List.drop_append,List.take_of_length_le (by omega),List.drop_eq_nil_of_le (by omega)]
                   rw[show r1.length+eo-r1.length=eo by omega,show r1.length+eo+cs'.length-r1.length=eo+cs'.length by omega,List.take_append_of_le_length (by omega),List.drop_append_of_le_length u1]
                   simp
                 rw[hrow']at v2'
                 have y7:=l6 (ov r2 eo cs') z' (y1++bs'++y3) (by rw[EncO.length _ _ _ _ y6]) y6
                 -- blocks apart
                 subst j4
                 rw[j1]at hnd how
                 have hlim:∀ i∈bs',ω1 i≠some k:=fun i hi e=>by rw[k5 i hi]at e;simp at e;omega
                 rw[l2,y4]at hnd how
                 have hbk:ω1 b=some k:=how b (by simp)
                 have hbn:b∉bs':=fun hi=>hlim b hi hbk
                 have hother:∀ i,i≠b→rows w' i=rows w i:=fun i hi=>rows_of_block (v2'.other i hi)
                 have hnb:b∉b1++b3∧b∉b0l∧b∉d1++(y1++bs'++y3)++d3:=by
                   have:=hnd
                   simp only[List.nodup_append,List.nodup_cons,List.mem_append,List.mem_cons]at this
                   refine⟨?_,?_,?_⟩<;>grind
                 have j3':EncO M1 (rows w') s2 pc x2 (b1++b3):=EncO.mono (Mem.le_refl _) s2 pc x2 _ (fun i hi=>hother i (fun e=>hnb.1 (e ▸ hi))) j3
                 have j2':EncO M1 (rows w') (.own e) [.slice (some ⟨b,0,none⟩) (ys.set i z').length cap] (ys.set i z') (b::(d1++(y1++bs'++y3)++d3)):=by
                   refine .inr ⟨b,cap,r1++ov r2 eo cs'++r3,_,rfl,rfl,by rw[List.length_set];exact j6,j7,v2'.row,?_,?_⟩
                   · rw[←j9,l1];simp only[List.length_append]
                     rw[EncO.length _ _ _ _ y6,l4]
                   · exact GroupsO.imp _ _ _ (fun x _ cs b' hb' hp=>EncO.mono (Mem.le_refl _) e cs x b' (fun i hi=>hother i (fun e=>hnb.2.2 (e ▸ hb' i hi))) hp) y7
                 obtain⟨m5,f1',f2'',f3',m6,m7⟩:=p6 _ _ _ _ _ _ j3' j2'
                 have hov:ov pc off [.slice (some ⟨b,0,none⟩) (ys.set i z').length cap]=pc:=by
                   unfold ov
                   rw[List.length_set]
                   have hlt:off<pc.length:=(List.getElem?_eq_some_iff.1 e1).1
                   have hg:=(List.getElem?_eq_some_iff.1 e1).2
                   rw[←hg]
                   simp
                 rw[hov]at m7
                 have hnew:(b0l++(f1'++(b::(d1++(y1++bs'++y3)++d3))++f3')).Nodup:=by
                   exact nodup_swap hnd k4 (fun i hi hm=>hlim i hi (how i hm)) m6
                 have hS:∃ ω',St0 n B X w0 M0 M1 ω' ((ρ.puts ws').puts [⟨k,true,contWrap (ρ.get k) s3 x3⟩]) tmps w':=by
                   refine put_cont S1 hkn hbk v2' (hfin w' _ _ (fun i hi=>hother i (fun e=>hnb.2.1 (e ▸ hi))) m7 hnew fun i hi=>?_)
                   show (if ω1 i=some n then some k else ω1 i)=some k
                   by_cases hib:i∈bs'
                   · rw[if_pos (k5 i hib)]
                   · have:ω1 i=some k:=how i (by
                       have hm:i∈b1++b3↔i∈f1'++f2''++f3':=by rw[m6]
                       simp only[List.mem_append,List.mem_cons]at hi hm ⊢
                       grind)
                     rw[if_neg (by rw[this];simp;omega)];exact this
                 obtain⟨ω',hS⟩:=hS
                 refine⟨w',?_,M1,ω',by rw[Env.puts_append];exact hS⟩
                 rw[e4]
                 simp only[Instr.storeAt,Instr.sureAddr,Sem.run_bind,Sem.run_pure,Result.andThen_ok,Nat.zero_add]
                 exact v1'
             · cases p1
           · cases f1
         · cases f1
       · cases k1
     · cases h
   · rename_i k g ver off et i eo m0 ha
     have hr:=hq1.rel (by rw[ha];intro _ _ _ _ _ e;cases e)
     have htg:=hq1.tgt k (by rw[ha];rfl)
     rw[ha]at hr
     obtain⟨⟨hkn,_⟩,hcl⟩:=hr
     split at h
     · rename_i hcur
       obtain⟨c1,c2,rfl,rfl⟩:=hcur
       rw[htg]at c1 c2 h
       exact exStoreArr_ok hTy S h hcs hkn (hcl ⟨c1,c2⟩) hq2
     · cases h
   · cases h
 · cases h
end
end Fw
namespace Fw
open Go
def Foc (M:Mem)(R:RowFn)(bs:List Nat)(f:Sh)(fc:List Value)(y y':El f.ty)(Out:RowFn→List Nat→Prop):Prop:=
 ∃ (mid rest:List Nat),(∀ a,bs.count a=mid.count a+rest.count a)∧EncO M R f fc y mid∧
   ∀ (R':RowFn) (mid':List Nat),(∀ b∈rest,R' b=R b)→EncO M R' f fc y' mid'→∃ bs':List Nat,(∀ a,bs'.count a≤mid'.count a+rest.count a)∧Out R' bs'
theorem Foc.comp {M:Mem}{R:RowFn}{bs:List Nat}{f g:Sh}{fc gc:List Value}{y y':El f.ty}{z z':El g.ty}{Out:RowFn→List Nat→Prop}(h1:Foc M R bs f fc y y' Out)
   (h2:∀ mid,EncO M R f fc y mid→Foc M R mid g gc z z' (fun R' m=>EncO M R' f fc y' m)):Foc M R bs g gc z z' Out:=by
 obtain⟨mid,rest,c1,e1,k1⟩:=h1
 obtain⟨mid2,rest2,c2,e2,k2⟩:=h2 mid e1
 refine⟨mid2,rest2++rest,fun a=>by rw[c1,c2,List.count_append];omega,e2,fun R' m' hr he=>?_⟩
 obtain⟨b1,c3,e3⟩:=k2 R' m' (fun b hb=>hr b (by simp[hb])) he
 obtain⟨b2,c4,e4⟩:=k1 R' b1 (fun b hb=>hr b (by simp[hb])) e3
 exact⟨b2,fun a=>by have:=c3 a;have:=c4 a;rw[List.count_append];omega,e4⟩
theorem Foc.out {M:Mem}{R:RowFn}{bs:List Nat}{f:Sh}{fc:List Value}{y y':El f.ty}{Out Out':RowFn→List Nat→Prop}(h1:Foc M R bs f fc y y' Out)(k:∀ R' b,Out R' b→Out' R' b):Foc M R bs f fc y y' Out':=by
 obtain⟨mid,rest,c1,e1,k1⟩:=h1
 refine⟨mid,rest,c1,e1,fun R' m' hr he=>?_⟩
 obtain⟨b1,c3,e3⟩:=k1 R' m' hr he
 exact⟨b1,c3,k _ _ e3⟩
theorem ov_same (vs:List Value)(off n:Nat):ov vs off ((vs.drop off).take n)=vs:=by
 unfold ov
 rw[List.length_take,List.length_drop,←List.drop_drop]
 have:(vs.drop off).take n++(vs.drop off).drop (min n (vs.length-off))=vs.drop off:=by
   rcases Nat.le_total n (vs.length - off)with h | h
   · rw[Nat.min_eq_left h,List.take_append_drop]
   · rw[Nat.min_eq_right h,List.take_of_length_le (by rw[List.length_drop];omega),List.drop_eq_nil_of_le (as:=vs.drop off) (by rw[List.length_drop];exact Nat.le_refl _),List.append_nil]
 rw[List.append_assoc,this,List.take_append_drop]
theorem Foc.cut {M:Mem}{R:RowFn}{s s1 s2 f s3:Sh}{x:El s.ty}{y1:El s1.ty}{x2:El s2.ty}{y y':El f.ty}{x3:El s3.ty}{off:Nat}
   {cells:List Value} {bl:List Nat} (he:EncO M R s cells x bl)
   (h3:∀ M Rw vs bs,EncO M Rw s vs x bs→∃ b1 b2 b3,bs=b1++b2++b3∧EncO M Rw s1 ((vs.drop off).take s1.size) y1 b2∧EncO M Rw s2 vs x2 (b1++b3))
   (hen:∀ M Rw vs bs,EncO M Rw s1 vs y1 bs→EncO M Rw f vs y bs) (hup:UpdOk s2 x2 off f y' s3 x3):
   Foc M R bl f ((cells.drop off).take f.size) y y' (fun R' m=>EncO M R' s3 cells x3 m):=by
 obtain⟨b1,b2,b3,rfl,e2,e3⟩:=h3 M R cells bl he
 have e2':=hen _ _ _ _ e2
 have hsz:s1.size=f.size:=by rw[←EncO.length _ _ _ _ e2,EncO.length _ _ _ _ e2']
 rw[hsz]at e2'
 refine⟨b2,b1++b3,fun a=>by simp only[List.count_append];omega,e2',fun R' m' hr hE=>?_⟩
 have e3':=EncO.mono (Mem.le_refl M) s2 cells x2 _ hr e3
 obtain⟨_,f1,f2,f3,g1,g2⟩:=hup.2 M R' cells (b1++b3) _ m' e3' hE
 rw[ov_same]at g2
 refine⟨_,fun a=>?_,g2⟩
 rw[g1];simp only[List.count_append];omega
theorem GroupsO.at2 {α:Type}{p:List Value→α→List Nat→Prop}{sz:Nat}:∀ (xs:List α) (vs:List Value) (bs:List Nat) (i:Nat) (x:α),GroupsO p sz vs xs bs→xs[i]?=some x→
   ∃ r1 r2 r3 c1 c2 c3,vs=r1++r2++r3∧bs=c1++c2++c3∧r1.length=i*sz∧r2.length=sz∧p r2 x c2∧
     ∀ (q:List Value→α→List Nat→Prop),(∀ cs x b,(∀ i∈b,i∈c1++c3)→p cs x b→q cs x b)→
       ∀ r2' z c2',r2'.length=sz→q r2' z c2'→GroupsO q sz (r1++r2'++r3) (xs.set i z) (c1++c2'++c3)
 | [],_,_,_,_,_,h=>by simp at h
 | y::xs,vs,bs,0,x,⟨v1,v2,b1,b2,h1,h2,h3,h4,h5⟩,hx=>by
   simp at hx;subst hx
   exact⟨[],v1,v2,[],b1,b2,by simp[h1],by simp[h3],by simp,h2,h4,fun q hq r2' z c2' g1 g2=>⟨r2',v2,c2',b2,by simp,g1,by simp,g2,
     GroupsO.imp xs v2 b2 (fun x _ cs b hb hp=>hq cs x b (fun i hi=>by simpa using hb i hi) hp) h5⟩⟩
 | y::xs,vs,bs,i+1,x,⟨v1,v2,b1,b2,h1,h2,h3,h4,h5⟩,hx=>by
   obtain⟨r1,r2,r3,c1,c2,c3,g1,g2,g3,g4,g5,g6⟩:=GroupsO.at2 xs v2 b2 i x h5 (by simpa using hx)
   refine⟨v1++r1,r2,r3,b1++c1,c2,c3,by simp[h1,g1],by simp[h3,g2],by simp[h2,g3,Nat.add_mul];omega,g4,g5,fun q hq r2' z c2' k1 k2=>?_⟩
   exact⟨v1,r1++r2'++r3,b1,c1++c2'++c3,by simp,h2,by simp,hq _ _ _ (fun i hi=>by simp[hi]) h4,
     g6 q (fun cs x b hb hp=>hq cs x b (fun i hi=>by have:=hb i hi;simp only[List.mem_append]at this ⊢;rcases this with h | h<;>simp[h]) hp) r2' z c2' k1 k2⟩
theorem Foc.elem {M:Mem}{R:RowFn}{e:Sh}{fc:List Value}{ys:List (El e.ty)}{bl:List Nat}{i:Nat}{d z':El e.ty}(he:EncO M R (.own e) fc ys bl)(hi:i<ys.length):
   ∃ b cap row,fc=[.slice (some ⟨b,0,none⟩) ys.length cap]∧R b=some row∧b∈bl∧
     Foc M R bl e ((row.drop (i*e.size)).take e.size) (ys.getD i d) z' (fun R' m=>EncO M R' (.own e) fc (ys.set i z') m):=by
 rcases he with⟨_,_,h⟩ | ⟨b,cap,row,bss,h1,h2,h3,h4,h5,h6,h7⟩
 · rw[h]at hi;simp at hi
 · have hx:ys[i]?=some (ys.getD i d):=by rw[List.getD_eq_getElem?_getD,List.getElem?_eq_getElem hi];rfl
   obtain⟨r1,r2,r3,c1,c2,c3,g1,g2,g3,g4,g5,g6⟩:=GroupsO.at2 ys row bss i _ h7 hx
   have hr2:(row.drop (i*e.size)).take e.size=r2:=by
     rw[g1,←g3,List.append_assoc,List.drop_left,←g4,List.take_left]
   refine⟨b,cap,row,h2,h5,by simp[h1],?_⟩
   rw[hr2]
   refine⟨c2,b::(c1++c3),fun a=>by rw[h1,g2];simp only[List.count_append,List.count_cons];omega,g5,fun R' m' hr hE=>?_⟩
   refine⟨b::(c1++m'++c3),fun a=>by simp only[List.count_append,List.count_cons];omega,.inr ⟨b,cap,row,_,rfl,by rw[h2,List.length_set],by rw[List.length_set];exact h3,h4,by rw[hr b (by simp)];exact h5,h6,?_⟩⟩
   have:=g6 (EncO M R' e) (fun cs x b' hb hp=>EncO.mono (Mem.le_refl _) e cs x b' (fun j hj=>hr j (by have:=hb j hj;simp only[List.mem_append,List.mem_cons]at this ⊢;exact .inr this)) hp) r2 z' m' g4 hE
   rwa [←g1]at this
section
variable {n B:Nat} {X:List Nat} {w0:World} {M0 M:Mem} {ω:Own} {ρ:Env} {tmps:Array Value} {w:World} {P:Program} {C:Ctx}
theorem cont_open (S:St0 n B X w0 M0 M ω ρ tmps w){k:Nat}(hk:k<n){R:Type}{g:(s:Sh)→El s.ty→Option R}{r:R}(h:contK (ρ.get k) g=some r):
   ∃ s x pc bs b0l,g s x=some r∧Place ω w k (ρ.get k).a (vl tmps k) pc∧EncO M (rows w) s pc x bs∧(b0l++bs).Nodup∧(∀ i∈b0l++bs,ω i=some k)∧
     (isRef (ρ.get k).a=false→ValC s.ag (vl tmps k) pc∧s.ag=s.ty.ag)∧
     ∀ (R':World) (ω':Own) (ρ':Env) (s3:Sh) (x3:El s3.ty) (bs4:List Nat),s3.ty=s.ty→s3.ag=s3.ty.ag→(∀ i∈b0l,rows R' i=rows w i)→EncO M (rows R') s3 pc x3 bs4→(b0l++bs4).Nodup→
       (∀ i∈b0l++bs4,ω' i=some k)→Rel n M ω' R' ρ' (vl tmps) k (vl tmps k) (contWrap (ρ.get k) s3 x3):=by
 have hslot:=S.slots k hk
 obtain⟨s,x,g1,g2⟩:=contK_inv h
 rcases g2 with g2 | ⟨g2,g3⟩
 · rw[g2]at hslot ⊢
   obtain⟨pcs,bs,q1,⟨b,row,bss,q2,q3,q4,q5⟩,q6,q7⟩:=hslot
   subst q2
   have t1:pcs=[vl tmps k]:=q1
   rw[t1]at q3
   have q3:vl tmps k=.pointer (some ⟨b,0,none⟩):=by simpa using q3
   refine⟨s,x,row,bss,[b],g1,⟨b,q3,q7 b (by simp),q4⟩,q5,q6,q7,fun h=>by simp[isRef]at h,fun R' ω' ρ' s3 x3 bs4 _ _ z1 z2 z3 z4=>?_⟩
   have:contWrap (ρ.get k) s3 x3=.c (.ref s3) x3:=by unfold contWrap;rw[g2]
   rw[this]
   exact⟨pcs,b::bs4,q1,⟨b,row,bs4,rfl,by rw[t1,q3],by rw[z1 b (by simp)];exact q4,z2⟩,z3,z4⟩
 · rw[g2]at hslot
   have hslot':Owns M ω w k s x (vl tmps k):=hslot
   obtain⟨pcs,bs,q1,q2,q6,q7⟩:=hslot'
   have hag:s.ag=s.ty.ag:=by cases s<;>first | rfl | exact(g3 _ _ g2).elim
   refine⟨s,x,pcs,bs,[],g1,?_,q2,q6,q7,fun _=>⟨q1,hag⟩,fun R' ω' ρ' s3 x3 bs4 ht h3 _ z2 z3 z4=>?_⟩
   · rw[g2];cases s<;>first | exact q1 | exact(g3 _ _ g2).elim
   · have:contWrap (ρ.get k) s3 x3=.c s3 x3:=by
       unfold contWrap
       split
       · rename_i s5 x5 he;exact(g3 _ _ he).elim
       · rfl
     rw[this]
     exact⟨pcs,bs4,by rw[h3,ht,←hag];exact q1,z2,z3,z4⟩
theorem count_pos_of_mem {a:Nat}{l:List Nat}(h:a∈l):0<l.count a:=List.count_pos_iff.2 h
theorem io_call (hC:CtxOk P C)(S:St0 n B X w0 M0 M ω ρ tmps w)(hB:B≤w0.heap.size){f:Nat}{F:MFun}(hf:C.fnM f=some F){d j:Nat}(hd:d<n)(hj:j<n)
   {pc:List Value} {bs b0l:List Nat} (hnd:(b0l++bs).Nodup) (how:∀ i∈b0l++bs,ω i=some j) {s3:Sh} {x3:El s3.ty}
   (hfin:∀ (R':World) (ω':Own) (ρ':Env) (bs4:List Nat),(∀ i∈b0l,rows R' i=rows w i)→EncO M (rows R') s3 pc x3 bs4→(b0l++bs4).Nodup→
       (∀ i∈b0l++bs4,ω' i=some j)→Rel n M ω' R' ρ' (vl tmps) j (vl tmps j) (contWrap (ρ.get j) s3 x3))
   {fc:List Value} {y:El F.s.ty} {m:Int} (hfoc:Foc M (rows w) bs F.s fc y (F.out y m) (fun R' b=>EncO M R' s3 pc x3 b)) {v:Value} (hv:ValC F.s.ag v fc) (hm:inR .i64 m) (hpre:F.pre y m):
   Calls P f #[v,.int .i64 m] w fun e w'=>∃ v' M' ω',e=.returned v'∧
     St0 n B X w0 M0 M' ω' (ρ.puts [⟨j,true,contWrap (ρ.get j) s3 x3⟩,w1 d (.c (.pure (.int .i64)) (F.run y m))]) (tmps.setIfInBounds d v') w':=by
 have hF:=hC.fnM f F hf
 obtain⟨mid,rest,hc,he,hk⟩:=hfoc
 have hmem:∀ a,a∈bs↔a∈mid∨a∈rest:=fun a=>by
   have:=hc a
   rw[←List.count_pos_iff,←List.count_pos_iff,←List.count_pos_iff];omega
 have hcnt:=List.nodup_iff_count.1 hnd
 simp only[List.count_append]at hcnt
 have hmidN:mid.Nodup:=List.nodup_iff_count.2 fun a=>by have:=hcnt a;have:=hc a;omega
 refine(hF.call w v fc y mid m hm hv (EncO.closed _ _ _ _ hF.closed he) hmidN hpre).mono ?_
 rintro e w' ⟨mid',rfl,hr,hfr,he',hn',hb'⟩
 -- blocks that are not in mid are as they were
 have hsame:∀ b,b<w.heap.size→b∉mid→w'.heap[b]?=w.heap[b]?:=fun b hb hx=>hfr.block b hb hx
 have hlt:∀ b k,ω b=some k→b<w.heap.size:=fun b k h=>(S.dis b k h).2.1
 have hmidj:∀ b∈mid,ω b=some j:=fun b hb=>how b (by simp[(hmem b).2 (.inl hb)])
 have hrest:∀ b∈rest,b∉mid:=fun b hb hx=>by
   have h1:=hcnt b;have h2:=hc b;have h3:=count_pos_of_mem hb;have h4:=count_pos_of_mem hx;omega
 have hrow:∀ b∈rest,rows w' b=rows w b:=fun b hb=>rows_of_block (hsame b (hlt b j (how b (by simp[(hmem b).2 (.inr hb)]))) (hrest b hb))
 obtain⟨bs',hc',hE⟩:=hk (rows w') mid' hrow (EncO.closed _ _ _ _ hF.closed he')
 have hmid':∀ b∈mid',b<w'.heap.size:=fun b hb=>by obtain⟨row,hrow⟩:=EncO.rows _ _ _ _ he' b hb;exact rows_lt hrow
 have hfresh:∀ b∈mid',b∉mid→w.heap.size≤b:=fun b hb hx=>(hb' b hb).resolve_left hx
 have hMnone:∀ b,w.heap.size≤b→∀ o,M b o=none:=fun b hb o=>by
   cases hm:M b o with
   | none=>rfl
   | some u=>have:=World.block_lt_of_cell? _ _ (S.mem b o u hm);simp at this;omega
 have hbs'mem:∀ b∈bs',b∈mid'∨b∈rest:=fun b hb=>by
   have h1:=count_pos_of_mem hb;have h2:=hc' b
   rcases Nat.eq_zero_or_pos (mid'.count b)with h | h
   · exact .inr (List.count_pos_iff.1 (by omega))
   · exact .inl (List.count_pos_iff.1 h)
 have hget:(ρ.puts [(⟨j,true,contWrap (ρ.get j) s3 x3⟩:Wr)]).get j=⟨(ρ.get j).g,(ρ.get j).ver+1,contWrap (ρ.get j) s3 x3⟩:=by
   show (ρ.put _).get j=_
   rw[Env.get_put];simp
 have S2:St0 n B X w0 M0 M (fun b=>if b∈mid' then some j else ω b) (ρ.puts [⟨j,true,contWrap (ρ.get j) s3 x3⟩]) tmps w':=by
   refine S.step _ S.size ⟨hfr.os,hfr.tape,hfr.output,hfr.size,fun k hkB hx=>hsame k (Nat.lt_of_lt_of_le hkB (S.bnd hB)) (fun hm=>?_)⟩ (Mem.le_refl _) (fun _ _ _ _=>rfl) ?_ ?_ (fun _ _=>rfl) ?_ ?_ ?_
   · rcases (S.dis k j (hmidj k hm)).1 with h | h
     · omega
     · exact hx h
   · intro b o u hM
     have hc:=S.mem b o u hM
     have hbl:=World.block_lt_of_cell? _ _ hc
     rw[cell_of_block (hsame b hbl (fun hx=>by have:=(S.dis b j (hmidj b hx)).2.2 o;rw[this]at hM;cases hM))]
     exact hc
   · intro b k hbk
     by_cases hb:b∈mid'
     · by_cases hx:b∈mid
       · obtain⟨q1,q2,q3⟩:=S.dis b j (hmidj b hx)
         exact⟨q1,hmid' b hb,q3⟩
       · have h1:=hfresh b hb hx
         exact⟨.inl (Nat.le_trans (S.bnd hB) h1),hmid' b hb,hMnone b h1⟩
     · have:ω b=some k:=by simpa [hb] using hbk
       obtain⟨q1,q2,q3⟩:=S.dis b k this
       exact⟨q1,Nat.lt_of_lt_of_le q2 hfr.size,q3⟩
   · intro x hx
     simp at hx;subst hx;exact hj
   · intro t ht hne b hb
     have htj:t≠j:=fun e=>hne _ (List.mem_singleton.2 rfl) e.symm
     have hbm:b∉mid:=fun hx=>by have:=hmidj b hx;rw[hb]at this;simp at this;exact htj this
     have hbl:=hlt b t hb
     refine⟨?_,hsame b hbl hbm⟩
     show (if b∈mid' then some j else ω b)=some t
     rw[if_neg (fun hx=>by have:=hfresh b hx hbm;omega)];exact hb
   · intro t ⟨x,hx,hxt⟩ _
     simp at hx;subst hx
     have:t=j:=hxt.symm
     subst this
     rw[hget]
     refine hfin w' _ _ bs' (fun i hi=>?_) hE ?_ ?_
     · have hij:=how i (by simp[hi])
       refine rows_of_block (hsame i (hlt i _ hij) (fun hx=>?_))
       have h1:=hcnt i;have h2:=hc i;have h3:=count_pos_of_mem hi;have h4:=count_pos_of_mem hx;omega
     · refine List.nodup_iff_count.2 fun a=>?_
       rw[List.count_append]
       have h1:=hcnt a;have h2:=hc a;have h3:=hc' a;have h4:=List.nodup_iff_count.1 hn' a
       by_cases ha:a∈mid'
       · by_cases hx:a∈mid
         · have:=count_pos_of_mem hx;omega
         · have h5:=hfresh a ha hx
           have h6:∀ l:List Nat,(∀ i∈l,ω i=some t)→l.count a=0:=fun l hl=>List.count_eq_zero.2 fun hm=>by have:=hlt a t (hl a hm);omega
           have h7:=h6 b0l (fun i hi=>how i (by simp[hi]))
           have h8:=h6 rest (fun i hi=>how i (by simp[(hmem i).2 (.inr hi)]))
           omega
       · have:=List.count_eq_zero.2 ha
         omega
     · intro i hi
       show (if i∈mid' then some t else ω i)=some t
       split
       · rfl
       · rename_i hn
         rcases List.mem_append.1 hi with h | h
         · exact how i (by simp[h])
         · rcases hbs'mem i h with h | h
           · exact(hn h).elim
           · exact how i (by simp[(hmem i).2 (.inr h)])
 have S3:=put_pure (t:=.int .i64) (x:=F.run y m) S2 hd (v:=.int .i64 (F.run y m)) (cs:=[.int .i64 (F.run y m)]) rfl ⟨rfl,hr⟩
 exact⟨_,_,_,rfl,S3⟩
theorem opdsR2 {q q':Opd}{vs:List Value}{vals:Vl}(h:OpdsR n M ω w ρ vals [q,q'] vs):∃ v v',vs=[v,v']∧OpdR n M ω w ρ vals q v∧OpdR n M ω w ρ vals q' v':=by
 match vs,h with
 | [v,v'],⟨h1,h2,_⟩=>exact⟨v,v',rfl,h1,h2⟩
 | [v],h=>exact h.2.elim
 | [],h=>exact h.elim
 | _::_::_::_,h=>exact h.2.2.elim
theorem ioK_ok (hC:CtxOk P C)(S:St0 n B X w0 M0 M ω ρ tmps w)(hB:B≤w0.heap.size){f:Nat}{F:MFun}(hf:C.fnM f=some F){d j off:Nat}(hd:d<n)(hj:j<n){m:Int}(hm:inR .i64 m)
   {ws:List Wr} {cs:List Prop} (h:ioK F d j off (ρ.get j) m=some (ws,cs)) (hcs:∀ p∈cs,p) {v:Value}
   (hv:∀ pc,Place ω w j (ρ.get j).a (vl tmps j) pc→ValC F.s.ag v ((pc.drop off).take F.s.size)):
   Calls P f #[v,.int .i64 m] w fun e w'=>∃ v' M' ω',e=.returned v'∧St0 n B X w0 M0 M' ω' (ρ.puts ws) (tmps.setIfInBounds d v') w':=by
 unfold ioK at h
 obtain⟨s,x,pc,bs,b0l,g,hpl,he,hnd,how,_,hfin⟩:=cont_open S hj h
 obtain⟨s1,y1,s2,x2,f1,f2,f2',f3⟩:=Sh.cutK_ok s x off _ _ _ g
 split at f1
 · rename_i hu
   obtain⟨y,p3,p4⟩:=castK_heq (upB_ty s1 F.s hu) (fun y=>s2.updK x2 off F.s (F.out y m) fun s3 x3=>
     some ([(⟨j,true,contWrap (ρ.get j) s3 x3⟩:Wr),w1 d (.c (.pure (.int .i64)) (F.run y m))],[F.pre y m])) y1
   rw[p3]at f1
   obtain⟨s3,x3,p5,p6,p7⟩:=Sh.updK_ok (hC.fnM f F hf).noref s2 x2 off _ _ f1
   simp only[Option.some.injEq,Prod.mk.injEq]at p5
   obtain⟨rfl,rfl⟩:=p5
   exact io_call hC S hB hf hd hj hnd how (fun R' ω' ρ' bs4 z1 z2 z3 z4=>hfin R' ω' ρ' s3 x3 bs4 (p6.1.trans f2') p7 z1 z2 z3 z4)
     (Foc.cut he f3 (fun _ _ _ _ h=>upB_enc s1 F.s hu y1 y _ _ p4 h) p6) (hv pc hpl) hm (hcs _ (by simp))
 · cases f1
theorem ioElK_ok (hC:CtxOk P C)(S:St0 n B X w0 M0 M ω ρ tmps w)(hB:B≤w0.heap.size){f:Nat}{F:MFun}(hf:C.fnM f=some F){d j off i eo:Nat}{et:Ty}(hd:d<n)(hj:j<n){m:Int}(hm:inR .i64 m)
   {ws:List Wr} {cs:List Prop} (h:ioElK F d j off et i eo (ρ.get j) m=some (ws,cs)) (hcs:∀ p∈cs,p) {v:Value} {fc:List Value}
   (hel:ElC ω w j (ρ.get j).a (vl tmps j) off et i eo F.s.ty.size fc) (hv:ValC F.s.ag v fc):
   Calls P f #[v,.int .i64 m] w fun e w'=>∃ v' M' ω',e=.returned v'∧St0 n B X w0 M0 M' ω' (ρ.puts ws) (tmps.setIfInBounds d v') w':=by
 have hnr:=(hC.fnM f F hf).noref
 unfold ioElK at h
 obtain⟨s,x,pc,bs,b0l,g,hpl,he,hnd,how,_,hfin⟩:=cont_open S hj h
 obtain⟨s1,y1,s2,x2,f1,f2,f2',f3⟩:=Sh.cutK_ok s x off _ _ _ g
 split at f1
 · rename_i el ys
   split at f1
   · rename_i hen
     obtain⟨u1,z1,u2,w2,k1,k2,k2',k3⟩:=Sh.cutK_ok el (ys.getD i (dflt el.ty)) eo _ _ _ f1
     split at k1
     · rename_i hu
       obtain⟨z,p3,p4⟩:=castK_heq (upB_ty u1 F.s hu) (fun z=>u2.updK w2 eo F.s (F.out z m) fun u3 w3=>
         if h3:upB u3 el=true then castK (upB_ty u3 el h3) (fun w3=>s2.updK x2 off (.own el) (ys.set i w3) fun s3 x3=>
           some ([(⟨j,true,contWrap (ρ.get j) s3 x3⟩:Wr),w1 d (.c (.pure (.int .i64)) (F.run z m))],[F.pre z m])) w3 else none) z1
       rw[p3]at k1
       obtain⟨u3,w3,p5,p6,p7⟩:=Sh.updK_ok hnr u2 w2 eo _ _ k1
       split at p5
       · rename_i hu3
         obtain⟨w3',q3,q4⟩:=castK_heq (upB_ty u3 el hu3) (fun w3=>s2.updK x2 off (.own el) (ys.set i w3) fun s3 x3=>
           some ([(⟨j,true,contWrap (ρ.get j) s3 x3⟩:Wr),w1 d (.c (.pure (.int .i64)) (F.run z m))],[F.pre z m])) w3
         rw[q3]at p5
         obtain⟨s3,x3,r5,r6,r7⟩:=Sh.updK_ok (s':=.own el) (y:=ys.set i w3') hen s2 x2 off _ _ p5
         simp only[Option.some.injEq,Prod.mk.injEq]at r5
         obtain⟨rfl,rfl⟩:=r5
         have F1:=Foc.cut (f:=.own el) he f3 (fun _ _ _ _ h=>h) r6
         obtain⟨pc',b,len,cap,row,h1,h2,h3,h4,h5,h6⟩:=hel
         have:=Place.uniq h1 hpl
         subst this
         have hty:el.ty=et:=by have:=f2;simpa using this
         have hsz:el.size=et.size:=by rw[Sh.size_ty el hen,hty]
         have hfs:F.s.size=F.s.ty.size:=Sh.size_ty F.s hnr
         have hhead:(pc'.drop off).take (Sh.own el).size=[.slice (some ⟨b,0,none⟩) len cap]:=by
           have hlt:off<pc'.length:=(List.getElem?_eq_some_iff.1 h2).1
           show (pc'.drop off).take 1=_
           rw[List.drop_eq_getElem_cons hlt]
           simp[List.getElem?_eq_getElem hlt]at h2
           simp[h2]
         refine io_call hC S hB hf hd hj hnd how (fun R' ω' ρ' bs4 z1 z2 z3 z4=>hfin R' ω' ρ' s3 x3 bs4 (r6.1.trans f2') r7 z1 z2 z3 z4)
           (F1.comp fun mid hE=>?_) hv hm (hcs _ (by simp))
         rw[hhead]at hE
         have hi:i<ys.length:=by
           rcases hE with⟨_,⟨a',e1,_⟩,_⟩ | ⟨b',cap',row',bss,_,e1,_⟩
           · simp at e1;omega
           · simp at e1;omega
         obtain⟨b',cap',row',e1,e2,_,F2⟩:=Foc.elem (d:=dflt el.ty) (z':=w3') hE hi
         simp only[List.cons.injEq,Value.slice.injEq,Option.some.injEq,Addr.mk.injEq,and_true]at e1
         obtain⟨rfl,_,_⟩:=e1
         rw[h5]at e2
         simp only[Option.some.injEq]at e2
         subst e2
         rw[hhead]
         refine F2.comp fun mid2 hE2=>?_
         have F3:=(Foc.cut (f:=F.s) hE2 k3 (fun _ _ _ _ h=>upB_enc u1 F.s hu z1 z _ _ p4 h) p6).out (fun R' b h=>upB_enc u3 el hu3 w3 w3' _ _ q4 h)
         obtain⟨_,_,_,hE3,_⟩:=id F3
         have hl:=EncO.length _ _ _ _ hE3
         have hl2:=EncO.length _ _ _ _ hE2
         have hcell:(((row.drop (i*el.size)).take el.size).drop eo).take F.s.size=fc:=by
           rw[h6,←hfs,←hsz]
           rw[List.length_take,List.length_drop,hl2]at hl
           rw[List.drop_take,List.take_take,List.drop_drop,Nat.min_eq_left (by omega)]
         rw[hcell]at F3
         exact F3
       · cases p5
     · cases k1
   · cases f1
 · cases f1
theorem argsFK_ok (S:St0 n B X w0 M0 M ω ρ tmps w){R:Type}{r:R}:∀ (ts:List Ty) (qs:List Opd) (vs:List Value) (k:Vals ts→Option R),argsFK ts qs k=some r→
   OpdsR n M ω w ρ (vl tmps) qs vs→∃ xs,k xs=some r∧∀ M2,M.le M2→ArgsR M2 ts vs xs
 | [],[],[],k,h,_=>⟨(),h,fun _ _=>trivial⟩
 | t::ts,q::qs,v::vs,k,h,⟨hq,hqs⟩=>by
   simp only[argsFK]at h
   split at h
   · rename_i hf
     obtain⟨x,h1,h2⟩:=rd_ok S h
     obtain⟨xs,h3,h4⟩:=argsFK_ok S ts qs vs _ h1 hqs
     obtain⟨cs,g1,g2⟩:=h2 v hq
     exact⟨(x,xs),h3,fun M2 hM=>⟨⟨cs,g1,Enc.flat t cs x hf g2⟩,h4 M2 hM⟩⟩
   · split at h
     · rename_i s x ha
       split at h
       · rename_i hty
         subst hty
         split at h
         · rename_i hc
           obtain⟨xs,h3,h4⟩:=argsFK_ok S ts qs vs (fun xs=>k (x,xs)) h hqs
           have hr:=hq.rel (by rw[ha];intro _ _ _ _ _ e;cases e)
           rw[ha]at hr
           obtain⟨cs,bs,k1,k2,_,_⟩:=(show Owns M ω w _ s x v from hr)
           have hb:=EncO.free _ _ _ _ hc.1 k2
           subst hb
           exact⟨(x,xs),h3,fun M2 hM=>⟨⟨cs,by rw[←Sh.ag_ty s hc.2];exact k1,EncO.toEnc hM s cs x [] hc.2 (fun b hb=>by simp at hb) k2⟩,h4 M2 hM⟩⟩
         · cases h
       · cases h
     · cases h
 | [],_::_,_,k,h,_=>by simp[argsFK]at h
 | _::_,[],_,k,h,_=>by simp[argsFK]at h
 | [],[],_::_,_,_,hq=>hq.elim
 | _::_,_::_,[],_,_,hq=>hq.elim
theorem OpdR.moved {M':Mem}{ω':Own}{ws:List Wr}{L:Nat}(m:Moved n M M' ω ω' w ρ tmps ws L){q:Opd}{v:Value}(h:OpdR n M ω w ρ (vl tmps) q v)(ho:offWs q ws=true):
   OpdR n M' ω' w (ρ.puts ws) (vl tmps) q v:=by
 unfold offWs at ho
 rw[Bool.and_eq_true]at ho
 obtain⟨h1,h2⟩:=ho
 have ht:∀ k,q.a.tgt=some k→(ρ.puts ws).get k=ρ.get k:=by
   intro k hk
   rw[hk]at h2
   exact Env.puts_other ws ρ k (noneIs_ok h2)
 refine⟨fun hc=>?_,fun k hk=>by rw[ht k hk];exact h.tgt k hk,fun j hj=>?_⟩
 · have hr:=h.rel hc
   cases hs:q.slot with
   | some j=>
     rw[hs]at h1 hr
     have hsame:=Env.puts_other ws ρ j (noneIs_ok h1)
     by_cases hjn:q.a=.junk
     · rw[hjn];exact trivial
     · exact Rel0.frame m.step ((h.slot j hs).2.2 hjn) hsame hr
   | none=>
     rw[hs]at h1 hr
     split at h1
     · cases ‹none=some _›
     · split at h1
       · rename_i t x ha
         rw[ha]at hr ⊢
         obtain⟨cs,bs,k1,k2,k3,k4⟩:=(show Owns M ω w _ (.pure t) x v from hr)
         obtain⟨k5,k6⟩:=k2
         subst k5
         exact⟨cs,[],k1,⟨rfl,Enc.flat t _ _ h1 k6⟩,List.nodup_nil,by simp⟩
       · cases h1
 · obtain⟨a1,a2,a3⟩:=h.slot j hj
   rw[hj]at h1
   exact⟨a1,by rw[Env.puts_other ws ρ j (noneIs_ok h1)];exact a2,a3⟩
theorem OpdsR.moved {M':Mem}{ω':Own}{ws:List Wr}{L:Nat}(m:Moved n M M' ω ω' w ρ tmps ws L):∀ (qs:List Opd) (vs:List Value),OpdsR n M ω w ρ (vl tmps) qs vs→qs.all (fun q=>offWs q ws)=true→OpdsR n M' ω' w (ρ.puts ws) (vl tmps) qs vs
 | [],[],_,_=>trivial
 | q::qs,v::vs,⟨h1,h2⟩,ha=>by
   simp only[List.all_cons,Bool.and_eq_true]at ha
   exact⟨h1.moved m ha.1,OpdsR.moved m qs vs h2 ha.2⟩
 | [],_::_,h,_=>h.elim
 | _::_,[],h,_=>h.elim
theorem argsShX_ok {R:Type}{r:R}:∀ (ts:List Ty) (qs:List Opd) (vs:List Value) (M:Mem) (ω:Own) (ρ:Env) (k:Vals ts→List Wr→Option R),St0 n B X w0 M0 M ω ρ tmps w→argsShX ts qs k=some r→OpdsR n M ω w ρ (vl tmps) qs vs→
   ∃ xs ws,k xs ws=some r∧∃ M' ω',St0 n B X w0 M0 M' ω' (ρ.puts ws) tmps w∧ArgsR M' ts vs xs∧M.le M'
 | [],[],[],M,ω,ρ,k,S,h,_=>⟨(),[],h,M,ω,S,trivial,Mem.le_refl _⟩
 | t::ts,q::qs,v::vs,M,ω,ρ,k,S,h,⟨hq,hqs⟩=>by
   unfold argsShX at h
   obtain⟨x,ws,h1,M1,ω1,S1,m1,t1⟩:=tkSh_ok S n h hq
   split at h1
   · rename_i hoff
     obtain⟨cs,bs,a1,a2,_,_⟩:=t1.enc
     have hqs1:=OpdsR.moved m1 qs vs hqs hoff
     obtain⟨xs,ws',h2,M2,ω2,S2,ar,le2⟩:=argsShX_ok ts qs vs M1 ω1 (ρ.puts ws) _ S1 h1 hqs1
     exact⟨(x,xs),ws++ws',h2,M2,ω2,by rw[Env.puts_append];exact S2,⟨⟨cs,a1,Enc.mono le2 t cs x a2.2⟩,ar⟩,Mem.le_trans m1.step.mem le2⟩
   · cases h1
 | [],[],_::_,_,_,_,_,_,_,hq=>hq.elim
 | [],_::_,_,_,_,_,_,_,h,_=>by simp[argsShX]at h
 | _::_,[],_,_,_,_,_,_,h,_=>by simp[argsShX]at h
 | _::_,_::_,[],_,_,_,_,_,_,hq=>hq.elim
theorem exCallS_ok (S:St0 n B X w0 M0 M ω ρ tmps w)(hB:B≤w0.heap.size)(hF:∀ f F,C.fn f=some F→Meets P f F){f d:Nat}(hd:d<n){qs:List Opd}{ws:List Wr}{cs:List Prop}
   (h:exCallS C f d qs=some (ws,cs)) (hcs:∀ p∈cs,p) {vs:List Value} (hqs:OpdsR n M ω w ρ (vl tmps) qs vs):
   Calls P f vs.toArray w fun e w'=>∃ v M' ω',e=.returned v∧St0 n B X w0 M0 M' ω' (ρ.puts ws) (tmps.setIfInBounds d v) w':=by
 unfold exCallS at h
 split at h
 · rename_i F hf
   have hm:=hF f F hf
   obtain⟨xs,ws0,h3,M1,ω1,S1,hargs,hle⟩:=argsShX_ok F.args qs vs M ω ρ _ S h hqs
   simp only[Option.some.injEq,Prod.mk.injEq]at h3
   obtain⟨rfl,rfl⟩:=h3
   refine(hm.call w M1 vs xs S1.mem hargs (hcs _ (by simp))).mono ?_
   rintro e w' ⟨v,M',bs,rfl,hfr,haf,hr,hn,hbs⟩
   have S2:=call_step S1 hB (M':=M') (bs:=bs) hfr haf.le haf.mem haf.old
     (fun b hb=>⟨(hbs b hb).1,by obtain⟨row,hrow⟩:=ResR.rows F.res v _ bs hr b hb;exact rows_lt hrow,(hbs b hb).2⟩) n
   exact⟨v,M',_,rfl,by rw[Env.puts_append];exact put_res S2 hd hr hn (fun b hb=>⟨n,Nat.le_refl _,by simp[hb]⟩)⟩
 · cases h
theorem exCallP_ok (hC:CtxOk P C)(S:St0 n B X w0 M0 M ω ρ tmps w)(hB:B≤w0.heap.size){f d:Nat}(hd:d<n){qs:List Opd}{ws:List Wr}{cs:List Prop}
   (h:exCallP C f d qs=some (ws,cs)) (hcs:∀ p∈cs,p) {vs:List Value} (hqs:OpdsR n M ω w ρ (vl tmps) qs vs):
   Calls P f vs.toArray w fun e w'=>∃ v M' ω',e=.returned v∧St0 n B X w0 M0 M' ω' (ρ.puts ws) (tmps.setIfInBounds d v) w':=by
 unfold exCallP at h
 split at h
 · rename_i F q qs hf
   have hF:=hC.fnP f F hf
   match vs,hqs with
   | v::vs,⟨hq,hqs⟩=>
     obtain⟨j,g,off,e,h1,h2⟩:=ptrK_ok S h
     obtain⟨hj,rfl,hro,hp⟩:=h2 v hq
     split at h1
     · rename_i hc
       obtain⟨hg,hoff⟩:=hc
       obtain⟨b0,hvj,hv⟩:=hp hg
       subst hoff
       obtain⟨xs,ws0,h3,M1,ω1,S1,hargs,hle⟩:=argsShX_ok F.args qs vs M ω ρ _ S h1 hqs
       split at h3
       · rename_i hno
         have hsame:=Env.puts_other ws0 ρ j (noneIs_ok hno)
         split at h3
         · rename_i s x hA
           split at h3
           · rename_i hu
             obtain⟨y,p3,p4⟩:=castK_heq (upB_ty s F.s hu) (fun y=>some (ws0++([⟨j,true,.c (.ref F.s) (F.out y xs)⟩]++[w1 d (resA F.res (F.run y xs))]),[F.pre y xs])) x
             rw[p3]at h3
             simp only[Option.some.injEq,Prod.mk.injEq]at h3
             obtain⟨rfl,rfl⟩:=h3
             have hs:=S1.slots j hj
             rw[hsame,hA]at hs
             obtain⟨cs0,bs,a1,a2,a3,a4⟩:=(show Owns M1 ω1 w j (.ref s) x (vl tmps j)from hs)
             obtain⟨b1,row,bss,e1,e2,e3,e4⟩:=a2
             have hpt:vl tmps j=.pointer (some ⟨b1,0,none⟩):=by
               have:cs0=[vl tmps j]:=a1
               rw[e2]at this
               simpa using this.symm
             have hbb:b1=b0:=by rw[hvj]at hpt;simpa using hpt.symm
             subst hbb
             have hE:EncO M1 (rows w) (.ref F.s) [.pointer (some ⟨b1,0,none⟩)] y bs:=⟨b1,row,bss,e1,rfl,e3,upB_enc s F.s hu x y row bss p4 e4⟩
             have hv':v=.pointer (some ⟨b1,0,none⟩):=by rw[hv]
             subst hv'
             refine(hF.call w M1 _ y bs vs xs S1.mem (fun b hb=>(S1.dis b j (a4 b hb)).2.2) hE a3 hargs (hcs _ (by simp))).mono ?_
             rintro e w' ⟨r,M2,bs',bs2,rfl,hfr,hMle,hMold,hMmem,he',her,hn',hb'⟩
             have hsame2:∀ b,b<w.heap.size→b∉bs→w'.heap[b]?=w.heap[b]?:=fun b hb hx=>hfr.block b hb hx
             have hlt':∀ b∈bs'++bs2,b<w'.heap.size:=fun b hb=>by
               rcases List.mem_append.1 hb with hb | hb
               · obtain⟨row,hrow⟩:=EncO.rows _ _ _ _ he' b hb;exact rows_lt hrow
               · obtain⟨row,hrow⟩:=ResR.rows F.res r _ bs2 her b hb;exact rows_lt hrow
             rw[List.nodup_append]at hn'
             obtain⟨hn1,hn2,hn3⟩:=hn'
             have S2:St0 n B X w0 M0 M2 (fun b=>if b∈bs' then some j else if b∈bs2 then some n else if b∈bs then none else ω1 b) ((ρ.puts ws0).puts [⟨j,true,.c (.ref F.s) (F.out y xs)⟩]) tmps w':=by
               refine S1.step _ S1.size ⟨hfr.os,hfr.tape,hfr.output,hfr.size,fun k hkB hx=>hsame2 k (Nat.lt_of_lt_of_le hkB (S1.bnd hB)) (fun hm=>?_)⟩ hMle (fun b o hb hx=>hMold b o (Nat.lt_of_lt_of_le hb (S1.bnd hB)) (fun hm=>?_)) ?_ ?_ (fun _ _=>rfl) (by simpa using hj) ?_ ?_
               · rcases (S1.dis k j (a4 k hm)).1 with h | h
                 · omega
                 · exact hx h
               · rcases (S1.dis b j (a4 b hm)).1 with h | h
                 · omega
                 · exact hx h
               · exact hMmem
               · intro b k hbk
                 have own:∀ b∈bs'++bs2,(B≤b∨b∈X)∧b<w'.heap.size∧∀ o,M2 b o=none:=by
                   intro b hb
                   obtain⟨k1,k2⟩:=hb' b hb
                   refine⟨?_,hlt' b hb,k2⟩
                   by_cases hx:b∈bs
                   · exact(S1.dis b j (a4 b hx)).1
                   · exact .inl (Nat.le_trans (S1.bnd hB) (k1.resolve_left hx))
                 by_cases hb:b∈bs'
                 · exact own b (List.mem_append.2 (.inl hb))
                 · by_cases hb2:b∈bs2
                   · exact own b (List.mem_append.2 (.inr hb2))
                   · by_cases hb3:b∈bs
                     · simp[hb,hb2,hb3]at hbk
                     · have:ω1 b=some k:=by simpa [hb,hb2,hb3] using hbk
                       obtain⟨q1,q2,q3⟩:=S1.dis b k this
                       exact⟨q1,Nat.lt_of_lt_of_le q2 hfr.size,fun o=>by rw[hMold b o q2 hb3];exact q3 o⟩
               · intro t ht hnk b hb
                 have htk:t≠j:=fun e=>hnk ⟨j,true,.c (.ref F.s) (F.out y xs)⟩ (by simp) e.symm
                 have hbm:b∉bs:=fun hx=>by have:=a4 b hx;rw[hb]at this;simp at this;exact htk this
                 have hbl:=(S1.dis b t hb).2.1
                 refine⟨?_,hsame2 b hbl hbm⟩
                 have no:b∉bs'++bs2:=fun hx=>by have:=(hb' b hx).1.resolve_left hbm;omega
                 show (if b∈bs' then some j else if b∈bs2 then some n else if b∈bs then none else ω1 b)=some t
                 rw[if_neg (fun hx=>no (List.mem_append.2 (.inl hx))),if_neg (fun hx=>no (List.mem_append.2 (.inr hx))),if_neg hbm];exact hb
               · rintro t ⟨x1,hx1,ht⟩ _
                 simp only[List.mem_singleton]at hx1
                 subst hx1
                 subst ht
                 show Rel n M2 _ w' _ _ j _ (((ρ.puts ws0).put ⟨j,true,.c (.ref F.s) (F.out y xs)⟩).get j).a
                 rw[Env.get_put,if_pos rfl]
                 show Owns M2 _ w' j (.ref F.s) (F.out y xs) (tmps.getD j undef)
                 have hpk:tmps.getD j undef=.pointer (some ⟨b1,0,none⟩):=hvj
                 rw[hpk]
                 exact⟨_,bs',rfl,he',hn1,fun b hb=>by simp[hb]⟩
             have S3:=put_res S2 hd her hn2 (fun b hb=>⟨n,Nat.le_refl _,by
               have:b∉bs':=fun hx=>hn3 b hx b hb rfl
               simp[hb,this]⟩)
             exact⟨r,M2,_,rfl,by rw[Env.puts_append,Env.puts_append];exact S3⟩
           · cases h3
         · cases h3
       · cases h3
     · cases h1
 · cases h
theorem exCallT_ok (hC:CtxOk P C)(S:St0 n B X w0 M0 M ω ρ tmps w)(hB:B≤w0.heap.size){f d:Nat}(hd:d<n){qs:List Opd}{ws:List Wr}{cs:List Prop}
   (h:exCallT C f d qs=some (ws,cs)) (hcs:∀ p∈cs,p) {vs:List Value} (hqs:OpdsR n M ω w ρ (vl tmps) qs vs):
   Calls P f vs.toArray w fun e w'=>∃ v M' ω',e=.returned v∧St0 n B X w0 M0 M' ω' (ρ.puts ws) (tmps.setIfInBounds d v) w':=by
 unfold exCallT at h
 split at h
 · rename_i F q qs hf
   have hF:=hC.fnT f F hf
   match vs,hqs with
   | v::vs,⟨hq,hqs⟩=>
     obtain⟨xs,h,hargs⟩:=argsFK_ok S F.args qs vs _ h hqs
     obtain⟨s,x,ws1,h1,M1,ω1,S1,m1,t1⟩:=tkOwn_ok S n h hq
     split at h1
     · rename_i hu
       obtain⟨y,p3,p4⟩:=castK_heq (upB_ty s F.s hu) (fun y=>some (ws1++[w1 d (.c F.res (F.run y xs))],[F.pre y xs])) x
       rw[p3]at h1
       simp only[Option.some.injEq,Prod.mk.injEq]at h1
       obtain⟨rfl,rfl⟩:=h1
       obtain⟨cs1,bs,a1,a2,a3,a4⟩:=t1.enc
       have hE:EncO emp (rows w) F.s cs1 y bs:=EncO.closed _ _ _ _ hF.closed (upB_enc s F.s hu x y cs1 bs p4 a2)
       have hlt:∀ b k,ω1 b=some k→b<w.heap.size:=fun b k h=>(S1.dis b k h).2.1
       refine(hF.call w M1 v cs1 y bs vs xs S1.mem (fun b hb=>(S1.dis b n (a4 b hb)).2.2) (by rw[←upB_ag s F.s hu];exact a1) hE a3 (hargs M1 m1.step.mem) (hcs _ (by simp))).mono ?_
       rintro e w' ⟨r,cs',bs',rfl,hfr,hv',he',hn',hb'⟩
       have hsame:∀ b,b<w.heap.size→b∉bs→w'.heap[b]?=w.heap[b]?:=fun b hb hx=>hfr.block b hb hx
       have hbs':∀ b∈bs',b<w'.heap.size:=fun b hb=>by obtain⟨row,hrow⟩:=EncO.rows _ _ _ _ he' b hb;exact rows_lt hrow
       have S2:St0 n B X w0 M0 M1 (fun b=>if b∈bs' then some n else ω1 b) (ρ.puts ws1) tmps w':=by
         refine S1.step [] S1.size ⟨hfr.os,hfr.tape,hfr.output,hfr.size,fun k hkB hx=>hsame k (Nat.lt_of_lt_of_le hkB (S1.bnd hB)) (fun hm=>?_)⟩ (Mem.le_refl _) (fun _ _ _ _=>rfl) ?_ ?_ (fun _ _=>rfl) (by simp) ?_ (by simp)
         · rcases (S1.dis k n (a4 k hm)).1 with h | h
           · omega
           · exact hx h
         · intro b o u hM
           have hc:=S1.mem b o u hM
           have hbl:=World.block_lt_of_cell? _ _ hc
           rw[cell_of_block (hsame b hbl (fun hx=>by have:=(S1.dis b n (a4 b hx)).2.2 o;rw[this]at hM;cases hM))]
           exact hc
         · intro b k hbk
           by_cases hb:b∈bs'
           · by_cases hx:b∈bs
             · obtain⟨q1,q2,q3⟩:=S1.dis b n (a4 b hx)
               exact⟨q1,hbs' b hb,q3⟩
             · have h1:=(hb' b hb).resolve_left hx
               refine⟨.inl (Nat.le_trans (S1.bnd hB) h1),hbs' b hb,fun o=>?_⟩
               cases hm:M1 b o with
               | none=>rfl
               | some u=>have:=World.block_lt_of_cell? _ _ (S1.mem b o u hm);simp at this;omega
           · have:ω1 b=some k:=by simpa [hb] using hbk
             obtain⟨q1,q2,q3⟩:=S1.dis b k this
             exact⟨q1,Nat.lt_of_lt_of_le q2 hfr.size,q3⟩
         · intro t ht _ b hb
           have hbm:b∉bs:=fun hx=>by have:=a4 b hx;rw[hb]at this;simp at this;omega
           have hbl:=hlt b t hb
           refine⟨?_,hsame b hbl hbm⟩
           show (if b∈bs' then some n else ω1 b)=some t
           rw[if_neg (fun hx=>by have:=(hb' b hx).resolve_left hbm;omega)];exact hb
       have S3:=put_c S2 hd hv' (EncO.closed (M':=M1) _ _ _ _ hF.rclosed he') hn' (fun b hb=>⟨n,Nat.le_refl _,by simp[hb]⟩)
       exact⟨r,M1,_,rfl,by rw[Env.puts_append];exact S3⟩
     · cases h1
 · exact exCallP_ok hC S hB hd h hcs hqs
 · cases h
theorem exCallM_ok (hC:CtxOk P C)(S:St0 n B X w0 M0 M ω ρ tmps w)(hB:B≤w0.heap.size){f d:Nat}(hd:d<n){qs:List Opd}{ws:List Wr}{cs:List Prop}
   (h:exCallM C f d qs=some (ws,cs)) (hcs:∀ p∈cs,p) {vs:List Value} (hqs:OpdsR n M ω w ρ (vl tmps) qs vs):
   Calls P f vs.toArray w fun e w'=>∃ v M' ω',e=.returned v∧St0 n B X w0 M0 M' ω' (ρ.puts ws) (tmps.setIfInBounds d v) w':=by
 unfold exCallM at h
 split at h
 · rename_i F q qn hf
   have hnr:=(hC.fnM f F hf).noref
   have hfs:F.s.size=F.s.ty.size:=Sh.size_ty F.s hnr
   have hfa:F.s.ag=F.s.ty.ag:=Sh.ag_ty F.s hnr
   obtain⟨v,v',rfl,hq,hqn⟩:=opdsR2 hqs
   obtain⟨m,h,hm⟩:=rd_int S h
   obtain⟨rfl,hr⟩:=hm v' hqn
   split at h
   · split at h
     · rename_i s0 x0 ha _ j hj
       obtain⟨e1,e2,e3⟩:=hq.slot j hj
       have hjn:=e3 (by rw[ha];intro e;cases e)
       rw[e2]at h
       split at h
       · rename_i s x hA
         split at h
         · cases h
         · rename_i hnref
           split at h
           · rename_i hc
             obtain⟨c1,c2⟩:=hc
             refine ioK_ok hC S hB hf hd hjn hr h hcs fun pc hpl=>?_
             have hs:=S.slots j hjn
             rw[hA]at hs hpl
             obtain⟨cs2,bs2,k1,k2,_,_⟩:=(show Owns M ω w j s x (vl tmps j)from hs)
             have hpl':ValC s.ag (vl tmps j) pc:=by
               cases s<;>first | exact hpl | (simp[Sh.noref]at c2)
             have:=ValC.fun_ k1 hpl'
             subst this
             have hl:=EncO.length _ _ _ _ k2
             rw[List.drop_zero,hfs,←c1,←Sh.size_ty s c2,←hl,List.take_length,hfa,←c1,←Sh.ag_ty s c2,e1]
             exact k1
           · cases h
       · cases h
     · cases h
   · rename_i j g ver t y off ha
     split at h
     · rename_i hc
       obtain⟨c1,c2,c3⟩:=hc
       have hrl:=hq.rel (by rw[ha];intro _ _ _ _ _ e;cases e)
       have htg:=hq.tgt j (by rw[ha];rfl)
       rw[ha]at hrl
       obtain⟨⟨hjn,_⟩,hcl⟩:=hrl
       rw[htg]at c1 c2 h
       obtain⟨cs2,k1,k2,k3,_⟩:=hcl ⟨c1,c2⟩
       obtain⟨pc',k4,k5⟩:=k3 off rfl
       simp only[Bx.isT,if_true]at k5
       refine ioK_ok hC S hB hf hd hjn hr h hcs fun pc hpl=>?_
       have:=Place.uniq k4 hpl
       subst this
       rw[hfs,←c3,←k5,hfa,←c3];exact k1
     · cases h
   · rename_i j g ver t y off et i eo ha
     split at h
     · rename_i hc
       obtain⟨c1,c2,c3⟩:=hc
       have hrl:=hq.rel (by rw[ha];intro _ _ _ _ _ e;cases e)
       have htg:=hq.tgt j (by rw[ha];rfl)
       rw[ha]at hrl
       obtain⟨⟨hjn,_⟩,hcl⟩:=hrl
       rw[htg]at c1 c2 h
       obtain⟨cs2,k1,k2,_,k3⟩:=hcl ⟨c1,c2⟩
       have k4:=k3.1 off et i eo rfl
       rw[c3]at k4
       exact ioElK_ok hC S hB hf hd hjn hr h hcs k4 (by rw[hfa,←c3];exact k1)
     · cases h
   · cases h
 · exact exCallT_ok hC S hB hd h hcs hqs
 · cases h
end
end Fw
