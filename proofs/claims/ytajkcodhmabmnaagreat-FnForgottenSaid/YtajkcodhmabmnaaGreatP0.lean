/- The data that the framework's contracts speak of: types, their values, and how memory encodes them. Conditions: none. -/
import Derived.Below
import Derived.Laws.Sem
import Derived.Laws.World
import GoSem.Dispatch
import Derived.Orders
import Derived.IntWalk
import Derived.Laws.StructEq
namespace Fw
open Go
inductive Ty where
 | int (k:IntKind) | bool | str | slice (e:Ty) | pair (a b:Ty) | arr (n:Nat) (e:Ty)
 deriving DecidableEq
@[reducible] def El:Ty→Type
 | .int _=>Int
 | .bool=>Bool
 | .str=>List UInt8
 | .slice e=>List (El e)
 | .pair a b=>El a×El b
 | .arr _ e=>List (El e)
def Ty.size:Ty→Nat
 | .pair a b=>a.size+b.size
 | .arr n e=>n*e.size
 | _=>1
def Ty.flat:Ty→Bool
 | .slice _=>false
 | .pair a b=>a.flat&&b.flat
 | .arr _ e=>e.flat
 | _=>true
def dflt:(t:Ty)→El t
 | .int _=>(0:Int)
 | .bool=>false
 | .str=>[]
 | .slice _=>[]
 | .pair a b=>(dflt a,dflt b)
 | .arr n e=>List.replicate n (dflt e)
abbrev Mem:=Nat→Nat→Option Value
def Mem.le (M M':Mem):Prop:=∀ b o v,M b o=some v→M' b o=some v
theorem Mem.le_refl (M:Mem):M.le M:=fun _ _ _ h=>h
theorem Mem.le_trans {M M' M'':Mem}(h:M.le M')(h':M'.le M''):M.le M'':=fun b o v x=>h' b o v (h b o v x)
def bigLen:Nat:=9223372036854775807
def CellsAt (M:Mem)(b o:Nat)(cs:List Value):Prop:=∀ j c,cs[j]?=some c→M b (o+j)=some c
theorem CellsAt.mono {M M':Mem}(h:M.le M'){b o:Nat}{cs:List Value}(hc:CellsAt M b o cs):CellsAt M' b o cs:=
 fun j c hj=>h _ _ _ (hc j c hj)
def SliceAt {α:Type}(M:Mem)(p:List Value→α→Prop)(sz b:Nat):Nat→List α→Prop
 | _,[]=>True
 | o,x::xs=>(∃ cs,cs.length=sz∧CellsAt M b o cs∧p cs x)∧SliceAt M p sz b (o+sz) xs
def Groups {α:Type}(p:List Value→α→Prop)(sz:Nat):List Value→List α→Prop
 | vs,[]=>vs=[]
 | vs,x::xs=>∃ v1 v2,vs=v1++v2∧v1.length=sz∧p v1 x∧Groups p sz v2 xs
def inR (k:IntKind)(n:Int):Prop:=k.min≤n∧n≤k.max
def Enc (M:Mem):(t:Ty)→List Value→El t→Prop
 | .int k,vs,x=>vs=[.int k x]∧inR k x
 | .bool,vs,x=>vs=[.bool x]
 | .str,vs,x=>vs=[.string ⟨x.toArray⟩]∧x.length≤bigLen
 | .slice e,vs,xs=>∃ a cap,vs=[.slice a xs.length cap]∧xs.length≤cap∧cap≤bigLen∧
     match a with
     | none=>cap=0
     | some a=>(a.spot=none∨cap=0)∧SliceAt M (Enc M e) e.size a.block a.off xs
 | .pair a b,vs,x=>∃ v1 v2,vs=v1++v2∧Enc M a v1 x.1∧Enc M b v2 x.2
 | .arr n e,vs,xs=>xs.length=n∧Groups (Enc M e) e.size vs xs
theorem SliceAt.imp {α:Type}{M M':Mem}{p q:List Value→α→Prop}{sz b:Nat}(hM:M.le M'):
   ∀ (xs:List α) (o:Nat),(∀ x∈xs,∀ cs,p cs x→q cs x)→SliceAt M p sz b o xs→SliceAt M' q sz b o xs
 | [],_,_,_=>trivial
 | x::xs,o,h,⟨⟨cs,h1,h2,h3⟩,h4⟩=>
   ⟨⟨cs,h1,h2.mono hM,h x (by simp) cs h3⟩,SliceAt.imp hM xs (o+sz) (fun y hy=>h y (by simp[hy])) h4⟩
theorem Groups.imp {α:Type}{p q:List Value→α→Prop}{sz:Nat}:
   ∀ (xs:List α) (vs:List Value),(∀ x∈xs,∀ cs,p cs x→q cs x)→Groups p sz vs xs→Groups q sz vs xs
 | [],_,_,h=>h
 | x::xs,vs,h,⟨v1,v2,h1,h2,h3,h4⟩=>⟨v1,v2,h1,h2,h x (by simp) v1 h3,Groups.imp xs v2 (fun y hy=>h y (by simp[hy])) h4⟩
theorem Groups.length {α:Type}{p:List Value→α→Prop}{sz:Nat}:
   ∀ (xs:List α) (vs:List Value),Groups p sz vs xs→vs.length=xs.length*sz
 | [],vs,h=>by cases h;simp
 | x::xs,vs,⟨v1,v2,h1,h2,h3,h4⟩=>by
   subst h1;simp[Groups.length xs v2 h4,h2,Nat.add_mul];omega
theorem Groups.get {α:Type}{p:List Value→α→Prop}{sz:Nat}:
   ∀ (xs:List α) (vs:List Value) (i:Nat) (x:α),Groups p sz vs xs→xs[i]?=some x→p ((vs.drop (i*sz)).take sz) x
 | [],_,_,_,_,hi=>by simp at hi
 | y::xs,vs,0,x,⟨v1,v2,h1,h2,h3,h4⟩,hi=>by
   subst h1;simp at hi;subst hi;simp[←h2,h3]
 | y::xs,vs,i+1,x,⟨v1,v2,h1,h2,h3,h4⟩,hi=>by
   subst h1
   have:=Groups.get xs v2 i x h4 (by simpa using hi)
   rwa [Nat.add_mul,Nat.one_mul,Nat.add_comm,←List.drop_drop,←h2,List.drop_left,h2]
theorem Groups.append {α:Type}{p:List Value→α→Prop}{sz:Nat}:
   ∀ (xs ys:List α) (vs ws:List Value),Groups p sz vs xs→Groups p sz ws ys→Groups p sz (vs++ws) (xs++ys)
 | [],_,_,_,h,h'=>by cases h;simpa using h'
 | x::xs,ys,vs,ws,⟨v1,v2,h1,h2,h3,h4⟩,h'=>by
   subst h1
   exact⟨v1,v2++ws,by simp,h2,h3,Groups.append xs ys v2 ws h4 h'⟩
theorem Groups.split {α:Type}{p:List Value→α→Prop}{sz:Nat}:
   ∀ (xs ys:List α) (vs:List Value),Groups p sz vs (xs++ys)→∃ v1 v2,vs=v1++v2∧Groups p sz v1 xs∧Groups p sz v2 ys
 | [],_,vs,h=>⟨[],vs,rfl,rfl,h⟩
 | x::xs,ys,vs,⟨v1,v2,h1,h2,h3,h4⟩=>by
   obtain⟨u1,u2,e,g1,g2⟩:=Groups.split xs ys v2 h4
   exact⟨v1++u1,u2,by rw[h1,e,List.append_assoc],⟨v1,u1,rfl,h2,h3,g1⟩,g2⟩
theorem Enc.mono {M M':Mem}(hM:M.le M'):∀ (t:Ty) (vs:List Value) (x:El t),Enc M t vs x→Enc M' t vs x
 | .int _,_,_,h=>h
 | .bool,_,_,h=>h
 | .str,_,_,h=>h
 | .slice e,vs,xs,h=>by
   obtain⟨a,cap,h1,h2,h3,h4⟩:=h
   refine⟨a,cap,h1,h2,h3,?_⟩
   cases a with
   | none=>exact h4
   | some a=>exact⟨h4.1,SliceAt.imp hM xs _ (fun x _ cs=>Enc.mono hM e cs x) h4.2⟩
 | .pair a b,vs,x,⟨v1,v2,h1,h2,h3⟩=>⟨v1,v2,h1,Enc.mono hM a _ _ h2,Enc.mono hM b _ _ h3⟩
 | .arr n e,vs,xs,⟨h1,h2⟩=>⟨h1,Groups.imp xs vs (fun x _ cs=>Enc.mono hM e cs x) h2⟩
theorem Enc.length {M:Mem}:∀ (t:Ty) (vs:List Value) (x:El t),Enc M t vs x→vs.length=t.size
 | .int _,_,_,h=>by rw[h.1];rfl
 | .bool,_,_,h=>by rw[show _=_ from h];rfl
 | .str,_,_,h=>by rw[h.1];rfl
 | .slice e,vs,xs,⟨a,cap,h,_⟩=>by rw[h];rfl
 | .pair a b,vs,x,⟨v1,v2,h1,h2,h3⟩=>by
   rw[h1,List.length_append,Enc.length a _ _ h2,Enc.length b _ _ h3];rfl
 | .arr n e,vs,xs,⟨h1,h2⟩=>by rw[Groups.length _ _ h2,h1];rfl
theorem Enc.flat {M M':Mem}:∀ (t:Ty) (vs:List Value) (x:El t),t.flat=true→Enc M t vs x→Enc M' t vs x
 | .int _,_,_,_,h=>h
 | .bool,_,_,_,h=>h
 | .str,_,_,_,h=>h
 | .slice e,_,_,hf,_=>by simp[Ty.flat]at hf
 | .pair a b,vs,x,hf,⟨v1,v2,h1,h2,h3⟩=>by
   simp[Ty.flat]at hf
   exact⟨v1,v2,h1,Enc.flat a _ _ hf.1 h2,Enc.flat b _ _ hf.2 h3⟩
 | .arr n e,vs,xs,hf,⟨h1,h2⟩=>⟨h1,Groups.imp xs vs (fun x _ cs=>Enc.flat e cs x (by simpa [Ty.flat] using hf)) h2⟩
theorem SliceAt.get {α:Type}{M:Mem}{p:List Value→α→Prop}{sz b:Nat}:
   ∀ (xs:List α) (o i:Nat) (x:α),SliceAt M p sz b o xs→xs[i]?=some x→∃ cs,cs.length=sz∧CellsAt M b (o+i*sz) cs∧p cs x
 | [],_,_,_,_,hi=>by simp at hi
 | y::xs,o,0,x,⟨h,_⟩,hi=>by
   simp at hi;subst hi;simpa using h
 | y::xs,o,i+1,x,⟨_,h⟩,hi=>by
   have:=SliceAt.get xs (o+sz) i x h (by simpa using hi)
   rwa [show o+(i+1)*sz=o+sz+i*sz by rw[Nat.add_mul];omega]
theorem SliceAt.drop {α:Type}{M:Mem}{p:List Value→α→Prop}{sz b:Nat}:
   ∀ (xs:List α) (o i:Nat),SliceAt M p sz b o xs→SliceAt M p sz b (o+i*sz) (xs.drop i)
 | xs,o,0,h=>by simpa using h
 | [],o,i+1,h=>trivial
 | y::xs,o,i+1,⟨_,h⟩=>by
   have:=SliceAt.drop xs (o+sz) i h
   rwa [show o+(i+1)*sz=o+sz+i*sz by rw[Nat.add_mul];omega]
theorem SliceAt.take {α:Type}{M:Mem}{p:List Value→α→Prop}{sz b:Nat}:
   ∀ (xs:List α) (o i:Nat),SliceAt M p sz b o xs→SliceAt M p sz b o (xs.take i)
 | xs,o,0,h=>by simp[SliceAt]
 | [],o,i+1,h=>trivial
 | y::xs,o,i+1,⟨h1,h⟩=>⟨h1,SliceAt.take xs (o+sz) i h⟩
theorem SliceAt.append {α:Type}{M:Mem}{p:List Value→α→Prop}{sz b:Nat}:
   ∀ (xs ys:List α) (o:Nat),SliceAt M p sz b o xs→SliceAt M p sz b (o+xs.length*sz) ys→SliceAt M p sz b o (xs++ys)
 | [],ys,o,_,h=>by simpa using h
 | x::xs,ys,o,⟨h1,h2⟩,h=>⟨h1,SliceAt.append xs ys (o+sz) h2 (by
     rwa [show o+sz+xs.length*sz=o+(x::xs).length*sz by simp[Nat.add_mul];omega])⟩
theorem SliceAt.ofGroups {α:Type}{M:Mem}{p:List Value→α→Prop}{sz b:Nat}:
   ∀ (xs:List α) (o:Nat) (vs:List Value),Groups p sz vs xs→CellsAt M b o vs→SliceAt M p sz b o xs
 | [],_,_,_,_=>trivial
 | x::xs,o,vs,⟨v1,v2,h1,h2,h3,h4⟩,hc=>by
   subst h1
   refine⟨⟨v1,h2,fun j c hj=>hc j c ?_,h3⟩,SliceAt.ofGroups xs (o+sz) v2 h4 fun j c hj=>?_⟩
   · have:=List.getElem?_eq_some_iff.1 hj |>.1
     rw[List.getElem?_append_left this];exact hj
   · have:=hc (sz+j) c (by rw[List.getElem?_append_right (by omega)];simpa [h2] using hj)
     rwa [Nat.add_assoc]
theorem SliceAt.groups {α:Type}{M:Mem}{p:List Value→α→Prop}{sz b:Nat}:
   ∀ (xs:List α) (o:Nat),SliceAt M p sz b o xs→∃ vs,Groups p sz vs xs∧CellsAt M b o vs
 | [],_,_=>⟨[],rfl,fun j c hj=>by simp at hj⟩
 | x::xs,o,⟨⟨cs,h1,h2,h3⟩,h⟩=>by
   obtain⟨vs,g1,g2⟩:=SliceAt.groups xs (o+sz) h
   refine⟨cs++vs,⟨cs,vs,rfl,h1,h3,g1⟩,fun j c hj=>?_⟩
   rcases Nat.lt_or_ge j cs.length with hl | hl
   · rw[List.getElem?_append_left hl]at hj;exact h2 j c hj
   · rw[List.getElem?_append_right hl]at hj
     have:=g2 (j-cs.length) c hj
     rwa [show o+sz+(j-cs.length)=o+j by omega]at this
def Wf:(t:Ty)→El t→Prop
 | .int k,x=>inR k x
 | .bool,_=>True
 | .str,x=>x.length≤bigLen
 | .slice e,xs=>xs.length≤bigLen∧∀ x∈xs,Wf e x
 | .pair a b,x=>Wf a x.1∧Wf b x.2
 | .arr n e,xs=>xs.length=n∧∀ x∈xs,Wf e x
theorem SliceAt.all {α:Type}{M:Mem}{p:List Value→α→Prop}{q:α→Prop}{sz b:Nat}:
   ∀ (xs:List α) (o:Nat),(∀ cs x,p cs x→q x)→SliceAt M p sz b o xs→∀ x∈xs,q x
 | [],_,_,_,x,hx=>by simp at hx
 | y::xs,o,h,⟨⟨cs,_,_,h3⟩,h4⟩,x,hx=>by
   rcases List.mem_cons.1 hx with rfl | hx
   · exact h _ _ h3
   · exact SliceAt.all xs _ h h4 x hx
theorem Groups.all {α:Type}{p:List Value→α→Prop}{q:α→Prop}{sz:Nat}:
   ∀ (xs:List α) (vs:List Value),(∀ cs x,p cs x→q x)→Groups p sz vs xs→∀ x∈xs,q x
 | [],_,_,_,x,hx=>by simp at hx
 | y::xs,vs,h,⟨v1,v2,_,_,h3,h4⟩,x,hx=>by
   rcases List.mem_cons.1 hx with rfl | hx
   · exact h _ _ h3
   · exact Groups.all xs _ h h4 x hx
theorem Enc.wf {M:Mem}:∀ (t:Ty) (vs:List Value) (x:El t),Enc M t vs x→Wf t x
 | .int _,_,_,h=>h.2
 | .bool,_,_,_=>trivial
 | .str,_,_,h=>h.2
 | .slice e,vs,xs,⟨a,cap,h1,h2,h3,h4⟩=>by
   refine⟨Nat.le_trans h2 h3,?_⟩
   cases a with
   | none=>intro x hx;have:xs=[]:=List.length_eq_zero_iff.1 (by simp at h4;omega);rw[this]at hx;simp at hx
   | some a=>exact SliceAt.all xs _ (fun cs x=>Enc.wf e cs x) h4.2
 | .pair a b,vs,x,⟨v1,v2,h1,h2,h3⟩=>⟨Enc.wf a _ _ h2,Enc.wf b _ _ h3⟩
 | .arr n e,vs,xs,⟨h1,h2⟩=>⟨h1,Groups.all xs _ (fun cs x=>Enc.wf e cs x) h2⟩
def El.sub:(T:Ty)→El T→(off:Nat)→(t:Ty)→Option (El t)
 | .pair a b,x,off,t=>
   if h:off=0∧Ty.pair a b=t then some (h.2 ▸ x)
   else if off<a.size then El.sub a x.1 off t else El.sub b x.2 (off-a.size) t
 | .int k,x,off,t=>if h:off=0∧Ty.int k=t then some (h.2 ▸ x)else none
 | .bool,x,off,t=>if h:off=0∧Ty.bool=t then some (h.2 ▸ x)else none
 | .str,x,off,t=>if h:off=0∧Ty.str=t then some (h.2 ▸ x)else none
 | .slice e,x,off,t=>if h:off=0∧Ty.slice e=t then some (h.2 ▸ x)else none
 | .arr n e,x,off,t=>if h:off=0∧Ty.arr n e=t then some (h.2 ▸ x)else none
theorem sub_self {M:Mem}{T t:Ty}{x:El T}{y:El t}{off:Nat}{vs:List Value}(h:Enc M T vs x)
   (hs:(if h:off=0∧T=t then some (h.2 ▸ x)else none)=some y):Enc M t ((vs.drop off).take t.size) y:=by
 split at hs
 · rename_i hc
   obtain⟨rfl,rfl⟩:=hc
   simp only[Option.some.injEq]at hs
   subst hs
   have:=Enc.length T vs x h
   simp only[List.drop_zero,←this,List.take_length];exact h
 · cases hs
theorem Enc.sub {M:Mem}:∀ (T:Ty) (x:El T) (off:Nat) (t:Ty) (y:El t) (vs:List Value),
   Enc M T vs x→El.sub T x off t=some y→Enc M t ((vs.drop off).take t.size) y
 | .pair a b,x,off,t,y,vs,h,hs=>by
   simp only[El.sub]at hs
   split at hs
   · rename_i hc
     obtain⟨rfl,rfl⟩:=hc
     simp only[Option.some.injEq]at hs
     subst hs
     have:=Enc.length _ vs x h
     simp only[List.drop_zero,←this,List.take_length];exact h
   · obtain⟨v1,v2,rfl,h1,h2⟩:=h
     have l1:=Enc.length _ _ _ h1
     split at hs
     · rename_i hlt
       have ih:=Enc.sub a x.1 off t y v1 h1 hs
       have il:=Enc.length _ _ _ ih
       simp at il
       rwa [List.drop_append_of_le_length (by omega),List.take_append_of_le_length (by simp;omega)]
     · rename_i hge
       have ih:=Enc.sub b x.2 (off-a.size) t y v2 h2 hs
       rwa [List.drop_append,List.drop_eq_nil_of_le (by omega:v1.length≤off),List.nil_append,l1]
 | .int k,x,off,t,y,vs,h,hs=>sub_self h hs
 | .bool,x,off,t,y,vs,h,hs=>sub_self h hs
 | .str,x,off,t,y,vs,h,hs=>sub_self h hs
 | .slice e,x,off,t,y,vs,h,hs=>sub_self h hs
 | .arr n e,x,off,t,y,vs,h,hs=>sub_self h hs
end Fw
namespace Fw
open Go
inductive Sh where
 | pure (t:Ty) | nil (e:Ty) | own (e:Sh) | ref (s:Sh) | pair (a b:Sh) | hole (t:Ty)
 deriving DecidableEq
@[reducible] def Sh.ty:Sh→Ty
 | .pure t=>t
 | .nil e=>.slice e
 | .hole t=>t
 | .own e=>.slice e.ty
 | .ref s=>s.ty
 | .pair a b=>.pair a.ty b.ty
def Sh.size:Sh→Nat
 | .pure t=>t.size
 | .hole t=>t.size
 | .pair a b=>a.size+b.size
 | _=>1
def Sh.noref:Sh→Bool
 | .ref _=>false
 | .hole _=>false
 | .own e=>e.noref
 | .pair a b=>a.noref&&b.noref
 | _=>true
def Sh.free:Sh→Bool
 | .pure _=>true
 | .nil _=>true
 | .pair a b=>a.free&&b.free
 | _=>false
def Sh.closed:Sh→Bool
 | .pure t=>t.flat
 | .nil _=>true
 | .own e=>e.closed
 | .ref s=>s.closed
 | .hole _=>false
 | .pair a b=>a.closed&&b.closed
abbrev RowFn:=Nat→Option (List Value)
def GroupsO {α:Type}(p:List Value→α→List Nat→Prop)(sz:Nat):List Value→List α→List Nat→Prop
 | _,[],bs=>bs=[]
 | vs,x::xs,bs=>∃ v1 v2 b1 b2,vs=v1++v2∧v1.length=sz∧bs=b1++b2∧p v1 x b1∧GroupsO p sz v2 xs b2
def EmptySl (vs:List Value):Prop:=∃ a,vs=[.slice a 0 0]∧True
def EncO (M:Mem)(R:RowFn):(s:Sh)→List Value→El s.ty→List Nat→Prop
 | .pure t,vs,x,bs=>bs=[]∧Enc M t vs x
 | .nil _,vs,x,bs=>bs=[]∧EmptySl vs∧x=[]
 | .hole t,vs,_,bs=>bs=[]∧vs.length=t.size
 | .own e,vs,xs,bs=>(bs=[]∧EmptySl vs∧xs=[])∨
     ∃ b cap row bss,bs=b::bss∧vs=[.slice (some ⟨b,0,none⟩) xs.length cap]∧xs.length≤cap∧cap≤bigLen∧
       R b=some row∧row.length=cap*e.size∧GroupsO (EncO M R e) e.size row xs bss
 | .ref s,vs,x,bs=>∃ b row bss,bs=b::bss∧vs=[.pointer (some ⟨b,0,none⟩)]∧R b=some row∧EncO M R s row x bss
 | .pair a b,vs,x,bs=>∃ v1 v2 b1 b2,vs=v1++v2∧bs=b1++b2∧EncO M R a v1 x.1 b1∧EncO M R b v2 x.2 b2
theorem GroupsO.imp {α:Type}{p q:List Value→α→List Nat→Prop}{sz:Nat}:
   ∀ (xs:List α) (vs:List Value) (bs:List Nat),(∀ x∈xs,∀ cs b,(∀ i∈b,i∈bs)→p cs x b→q cs x b)→GroupsO p sz vs xs bs→GroupsO q sz vs xs bs
 | [],_,_,_,h=>h
 | x::xs,vs,bs,h,⟨v1,v2,b1,b2,h1,h2,h3,h4,h5⟩=>
   ⟨v1,v2,b1,b2,h1,h2,h3,h x (by simp) v1 b1 (fun i hi=>by rw[h3];simp[hi]) h4,
     GroupsO.imp xs v2 b2 (fun y hy cs b hb=>h y (by simp[hy]) cs b (fun i hi=>by rw[h3];simp[hb i hi])) h5⟩
theorem EncO.mono {M M':Mem}{R R':RowFn}(hM:M.le M'):∀ (s:Sh) (vs:List Value) (x:El s.ty) (bs:List Nat),
   (∀ b∈bs,R' b=R b)→EncO M R s vs x bs→EncO M' R' s vs x bs
 | .pure t,vs,x,bs,_,⟨h1,h2⟩=>⟨h1,Enc.mono hM t vs x h2⟩
 | .nil _,_,_,_,_,h=>h
 | .hole _,_,_,_,_,h=>h
 | .own e,vs,xs,bs,hR,h=>by
   rcases h with h | ⟨b,cap,row,bss,h1,h2,h3,h4,h5,h6,h7⟩
   · exact .inl h
   · refine .inr ⟨b,cap,row,bss,h1,h2,h3,h4,by rw[hR b (by simp[h1])];exact h5,h6,?_⟩
     exact GroupsO.imp xs row bss (fun x _ cs b' hb' hp=>EncO.mono hM e cs x b' (fun i hi=>hR i (by simp[h1,hb' i hi])) hp) h7
 | .ref s,vs,x,bs,hR,⟨b,row,bss,h1,h2,h3,h4⟩=>
   ⟨b,row,bss,h1,h2,by rw[hR b (by simp[h1])];exact h3,EncO.mono hM s row x bss (fun i hi=>hR i (by simp[h1,hi])) h4⟩
 | .pair a b,vs,x,bs,hR,⟨v1,v2,b1,b2,h1,h2,h3,h4⟩=>
   ⟨v1,v2,b1,b2,h1,h2,EncO.mono hM a v1 x.1 b1 (fun i hi=>hR i (by simp[h2,hi])) h3,
     EncO.mono hM b v2 x.2 b2 (fun i hi=>hR i (by simp[h2,hi])) h4⟩
theorem EncO.length {M:Mem}{R:RowFn}:∀ (s:Sh) (vs:List Value) (x:El s.ty) (bs:List Nat),EncO M R s vs x bs→vs.length=s.size
 | .pure t,vs,x,bs,⟨_,h⟩=>Enc.length t vs x h
 | .nil _,_,_,_,⟨_,⟨a,h,_⟩,_⟩=>by rw[h];rfl
 | .hole _,_,_,_,⟨_,h⟩=>h
 | .own e,vs,xs,bs,h=>by
   rcases h with⟨_,⟨a,h,_⟩,_⟩ | ⟨b,cap,row,bss,h1,h2,_⟩
   · rw[h];rfl
   · rw[h2];rfl
 | .ref s,vs,x,bs,⟨b,row,bss,h1,h2,_⟩=>by rw[h2];rfl
 | .pair a b,vs,x,bs,⟨v1,v2,b1,b2,h1,h2,h3,h4⟩=>by
   rw[h1,List.length_append,EncO.length a _ _ _ h3,EncO.length b _ _ _ h4];rfl
theorem GroupsO.rows {α:Type}{p:List Value→α→List Nat→Prop}{sz:Nat}{Q:Nat→Prop}:
   ∀ (xs:List α) (vs:List Value) (bs:List Nat),(∀ x∈xs,∀ cs b,p cs x b→∀ i∈b,Q i)→GroupsO p sz vs xs bs→∀ i∈bs,Q i
 | [],_,_,_,h,i,hi=>by rw[show _=_ from h]at hi;simp at hi
 | x::xs,vs,bs,h,⟨v1,v2,b1,b2,h1,h2,h3,h4,h5⟩,i,hi=>by
   rw[h3]at hi
   rcases List.mem_append.1 hi with hi | hi
   · exact h x (by simp) _ _ h4 i hi
   · exact GroupsO.rows xs v2 b2 (fun y hy=>h y (by simp[hy])) h5 i hi
theorem EncO.rows {M:Mem}{R:RowFn}:∀ (s:Sh) (vs:List Value) (x:El s.ty) (bs:List Nat),EncO M R s vs x bs→∀ b∈bs,∃ row,R b=some row
 | .pure t,vs,x,bs,⟨h,_⟩,b,hb=>by rw[h]at hb;simp at hb
 | .nil _,_,_,bs,⟨h,_⟩,b,hb=>by rw[h]at hb;simp at hb
 | .hole _,_,_,bs,⟨h,_⟩,b,hb=>by rw[h]at hb;simp at hb
 | .own e,vs,xs,bs,h,b,hb=>by
   rcases h with⟨h,_⟩ | ⟨b',cap,row,bss,h1,h2,h3,h4,h5,h6,h7⟩
   · rw[h]at hb;simp at hb
   · rw[h1]at hb
     rcases List.mem_cons.1 hb with rfl | hb
     · exact⟨row,h5⟩
     · exact GroupsO.rows xs row bss (fun x _ cs b'' hp=>EncO.rows e cs x b'' hp) h7 b hb
 | .ref s,vs,x,bs,⟨b',row,bss,h1,h2,h3,h4⟩,b,hb=>by
   rw[h1]at hb
   rcases List.mem_cons.1 hb with rfl | hb
   · exact⟨row,h3⟩
   · exact EncO.rows s row x bss h4 b hb
 | .pair a b',vs,x,bs,⟨v1,v2,b1,b2,h1,h2,h3,h4⟩,b,hb=>by
   rw[h2]at hb
   rcases List.mem_append.1 hb with hb | hb
   · exact EncO.rows a _ _ _ h3 b hb
   · exact EncO.rows b' _ _ _ h4 b hb
theorem GroupsO.toGroups {α:Type}{p:List Value→α→List Nat→Prop}{q:List Value→α→Prop}{sz:Nat}:
   ∀ (xs:List α) (vs:List Value) (bs:List Nat),(∀ x∈xs,∀ cs b,(∀ i∈b,i∈bs)→p cs x b→q cs x)→GroupsO p sz vs xs bs→
     ∃ v1 v2,vs=v1++v2∧Groups q sz v1 xs
 | [],vs,_,_,_=>⟨[],vs,rfl,rfl⟩
 | x::xs,vs,bs,h,⟨v1,v2,b1,b2,h1,h2,h3,h4,h5⟩=>by
   obtain⟨u1,u2,e,g⟩:=GroupsO.toGroups xs v2 b2 (fun y hy cs b hb=>h y (by simp[hy]) cs b (fun i hi=>by rw[h3];simp[hb i hi])) h5
   exact⟨v1++u1,u2,by rw[h1,e,List.append_assoc],v1,u1,rfl,h2,h x (by simp) v1 b1 (fun i hi=>by rw[h3];simp[hi]) h4,g⟩
theorem EmptySl.enc {M:Mem}{e:Ty}{vs:List Value}(h:EmptySl vs):Enc M (.slice e) vs []:=by
 obtain⟨a,h1,h2⟩:=h
 refine⟨a,0,h1,Nat.le_refl _,by simp,?_⟩
 cases a with
 | none=>rfl
 | some ad=>exact⟨.inr rfl,trivial⟩
theorem EncO.toEnc {M M':Mem}{R:RowFn}(hM:M.le M'):∀ (s:Sh) (vs:List Value) (x:El s.ty) (bs:List Nat),s.noref=true→
   (∀ b∈bs,∀ row,R b=some row→CellsAt M' b 0 row)→EncO M R s vs x bs→Enc M' s.ty vs x
 | .pure t,vs,x,bs,_,_,⟨_,h⟩=>Enc.mono hM t vs x h
 | .nil e,vs,x,bs,_,_,⟨_,h1,h2⟩=>by
   subst h2;exact EmptySl.enc h1
 | .hole t,vs,x,bs,hn,_,_=>by simp[Sh.noref]at hn
 | .own e,vs,xs,bs,hn,hc,h=>by
   rcases h with⟨_,h1,h2⟩ | ⟨b,cap,row,bss,h1,h2,h3,h4,h5,h6,h7⟩
   · subst h2;exact EmptySl.enc h1
   · refine⟨some ⟨b,0,none⟩,cap,h2,h3,h4,.inl rfl,?_⟩
     obtain⟨v1,v2,e1,g⟩:=GroupsO.toGroups (q:=Enc M' e.ty) xs row bss (fun x _ cs b' hb' hp=>
       EncO.toEnc hM e cs x b' (by simpa [Sh.noref] using hn) (fun i hi=>hc i (by simp[h1,hb' i hi])) hp) h7
     have hsz:e.size=e.ty.size:=by
       cases xs with
       | nil=>
         have:∀ s:Sh,s.noref=true→s.size=s.ty.size:=by
           intro s;induction s with
           | pure t=>intro _;rfl
           | nil t=>intro _;rfl
           | own t _=>intro _;rfl
           | ref t _=>intro h;simp[Sh.noref]at h
           | hole t=>intro h;simp[Sh.noref]at h
           | pair a b iha ihb=>intro h;simp[Sh.noref]at h;simp[Sh.size,Ty.size,iha h.1,ihb h.2]
         exact this e (by simpa [Sh.noref] using hn)
       | cons y ys=>
         obtain⟨u1,u2,_,k1,k2,_⟩:=g
         rw[←k1,Enc.length _ _ _ k2]
     have hcell:=hc b (by simp[h1]) row h5
     show SliceAt M' (Enc M' e.ty) e.ty.size b 0 xs
     rw[←hsz]
     refine SliceAt.ofGroups xs 0 v1 g fun j c hj=>hcell j c ?_
     rw[e1,List.getElem?_append_left (List.getElem?_eq_some_iff.1 hj).1];exact hj
 | .ref s,vs,x,bs,hn,_,_=>by simp[Sh.noref]at hn
 | .pair a b,vs,x,bs,hn,hc,⟨v1,v2,b1,b2,h1,h2,h3,h4⟩=>by
   simp[Sh.noref]at hn
   exact⟨v1,v2,h1,EncO.toEnc hM a _ _ _ hn.1 (fun i hi=>hc i (by simp[h2,hi])) h3,EncO.toEnc hM b _ _ _ hn.2 (fun i hi=>hc i (by simp[h2,hi])) h4⟩
theorem Sh.size_ty:∀ s:Sh,s.noref=true→s.size=s.ty.size:=by
 intro s;induction s with
 | pure t=>intro _;rfl
 | nil t=>intro _;rfl
 | own t _=>intro _;rfl
 | ref t _=>intro h;simp[Sh.noref]at h
 | hole t=>intro h;simp[Sh.noref]at h
 | pair a b iha ihb=>intro h;simp[Sh.noref]at h;simp[Sh.size,Ty.size,iha h.1,ihb h.2]
theorem EncO.free {M:Mem}{R:RowFn}:∀ (s:Sh) (vs:List Value) (x:El s.ty) (bs:List Nat),s.free=true→EncO M R s vs x bs→bs=[]
 | .pure t,vs,x,bs,_,⟨h,_⟩=>h
 | .nil _,_,_,_,_,⟨h,_⟩=>h
 | .hole _,_,_,_,_,⟨h,_⟩=>h
 | .own e,_,_,_,h,_=>by simp[Sh.free]at h
 | .ref e,_,_,_,h,_=>by simp[Sh.free]at h
 | .pair a b,vs,x,bs,hf,⟨v1,v2,b1,b2,h1,h2,h3,h4⟩=>by
   simp[Sh.free]at hf
   rw[h2,EncO.free a _ _ _ hf.1 h3,EncO.free b _ _ _ hf.2 h4];rfl
theorem EncO.closed {M M':Mem}{R:RowFn}:∀ (s:Sh) (vs:List Value) (x:El s.ty) (bs:List Nat),s.closed=true→EncO M R s vs x bs→EncO M' R s vs x bs
 | .pure t,vs,x,bs,hf,⟨h1,h2⟩=>⟨h1,Enc.flat t vs x hf h2⟩
 | .nil _,_,_,_,_,h=>h
 | .hole _,_,_,_,hf,_=>by simp[Sh.closed]at hf
 | .own e,vs,xs,bs,hf,h=>by
   rcases h with h | ⟨b,cap,row,bss,h1,h2,h3,h4,h5,h6,h7⟩
   · exact .inl h
   · exact .inr ⟨b,cap,row,bss,h1,h2,h3,h4,h5,h6,GroupsO.imp xs row bss (fun x _ cs b' _ hp=>EncO.closed e cs x b' (by simpa [Sh.closed] using hf) hp) h7⟩
 | .ref s,vs,x,bs,hf,⟨b,row,bss,h1,h2,h3,h4⟩=>⟨b,row,bss,h1,h2,h3,EncO.closed s row x bss (by simpa [Sh.closed] using hf) h4⟩
 | .pair a b,vs,x,bs,hf,⟨v1,v2,b1,b2,h1,h2,h3,h4⟩=>by
   simp[Sh.closed]at hf
   exact⟨v1,v2,b1,b2,h1,h2,EncO.closed a _ _ _ hf.1 h3,EncO.closed b _ _ _ hf.2 h4⟩
theorem GroupsO.append {α:Type}{p:List Value→α→List Nat→Prop}{sz:Nat}:
   ∀ (xs ys:List α) (vs ws:List Value) (bs cs:List Nat),vs.length=xs.length*sz→GroupsO p sz vs xs bs→GroupsO p sz ws ys cs→GroupsO p sz (vs++ws) (xs++ys) (bs++cs)
 | [],ys,vs,ws,bs,cs,hl,h,h'=>by
   have:vs=[]:=List.length_eq_zero_iff.1 (by simpa using hl)
   subst this;rw[show bs=[]from h];simpa using h'
 | x::xs,ys,vs,ws,bs,cs,hl,⟨v1,v2,b1,b2,h1,h2,h3,h4,h5⟩,h'=>by
   subst h1;subst h3
   refine⟨v1,v2++ws,b1,b2++cs,by simp,h2,by simp,h4,GroupsO.append xs ys v2 ws b2 cs ?_ h5 h'⟩
   simp[Nat.add_mul]at hl;omega
theorem GroupsO.spare {α:Type}{p:List Value→α→List Nat→Prop}{sz:Nat}:
   ∀ (xs:List α) (vs ws:List Value) (bs:List Nat),GroupsO p sz vs xs bs→GroupsO p sz (vs++ws) xs bs
 | [],_,_,_,h=>h
 | x::xs,vs,ws,bs,⟨v1,v2,b1,b2,h1,h2,h3,h4,h5⟩=>by
   subst h1
   exact⟨v1,v2++ws,b1,b2,by simp,h2,h3,h4,GroupsO.spare xs v2 ws b2 h5⟩
theorem GroupsO.cut {α:Type}{p:List Value→α→List Nat→Prop}{sz:Nat}:
   ∀ (xs:List α) (vs:List Value) (bs:List Nat),GroupsO p sz vs xs bs→xs.length*sz≤vs.length∧GroupsO p sz (vs.take (xs.length*sz)) xs bs
 | [],_,_,h=>⟨by simp,h⟩
 | x::xs,vs,bs,⟨v1,v2,b1,b2,h1,h2,h3,h4,h5⟩=>by
   obtain⟨g1,g2⟩:=GroupsO.cut xs v2 b2 h5
   subst h1
   refine⟨by simp[Nat.add_mul];omega,v1,v2.take (xs.length*sz),b1,b2,?_,h2,h3,h4,g2⟩
   rw[List.take_append,List.take_of_length_le (by simp[Nat.add_mul];omega)]
   congr 1
   simp[Nat.add_mul,h2]
theorem GroupsO.ofGroups {α:Type}{p:List Value→α→List Nat→Prop}{q:List Value→α→Prop}{sz:Nat}:
   ∀ (xs:List α) (vs:List Value),(∀ cs x,q cs x→p cs x [])→Groups q sz vs xs→GroupsO p sz vs xs []
 | [],_,_,_=>rfl
 | _::xs,_,h,⟨v1,v2,h1,h2,h3,h4⟩=>⟨v1,v2,[],[],h1,h2,rfl,h _ _ h3,GroupsO.ofGroups xs v2 h h4⟩
theorem GroupsO.get {α:Type}{p:List Value→α→List Nat→Prop}{sz:Nat}:
   ∀ (xs:List α) (vs:List Value) (bs:List Nat) (i:Nat) (x:α),GroupsO p sz vs xs bs→xs[i]?=some x→
     i*sz+sz≤vs.length∧∃ b,b.Sublist bs∧p ((vs.drop (i*sz)).take sz) x b
 | [],_,_,_,_,_,hi=>by simp at hi
 | y::xs,vs,bs,0,x,⟨v1,v2,b1,b2,h1,h2,h3,h4,h5⟩,hi=>by
   subst h1;simp at hi;subst hi
   refine⟨by simp;omega,b1,by rw[h3];exact List.sublist_append_left _ _,by simpa [←h2] using h4⟩
 | y::xs,vs,bs,i+1,x,⟨v1,v2,b1,b2,h1,h2,h3,h4,h5⟩,hi=>by
   subst h1
   obtain⟨g1,b,g2,g3⟩:=GroupsO.get xs v2 b2 i x h5 (by simpa using hi)
   refine⟨by simp[Nat.add_mul];omega,b,by rw[h3];exact g2.trans (List.sublist_append_right _ _),?_⟩
   rwa [Nat.add_mul,Nat.one_mul,Nat.add_comm,←List.drop_drop,←h2,List.drop_left,h2]
theorem EncO.wf {M:Mem}{R:RowFn}:∀ (s:Sh) (vs:List Value) (x:El s.ty) (bs:List Nat),s.noref=true→EncO M R s vs x bs→Wf s.ty x
 | .pure t,vs,x,_,_,⟨_,h⟩=>Enc.wf t vs x h
 | .nil _,_,x,_,_,⟨_,_,h⟩=>by subst h;exact⟨by simp[bigLen],fun x hx=>by simp at hx⟩
 | .hole _,_,_,_,hn,_=>by simp[Sh.noref]at hn
 | .own e,vs,xs,bs,hn,h=>by
   rcases h with⟨_,_,h⟩ | ⟨b,cap,row,bss,h1,h2,h3,h4,h5,h6,h7⟩
   · subst h;exact⟨by simp[bigLen],fun x hx=>by simp at hx⟩
   · obtain⟨v1,v2,_,g⟩:=GroupsO.toGroups (q:=fun _ x=>Wf e.ty x) xs row bss (fun x _ cs b' _ hp=>EncO.wf e cs x b' (by simpa [Sh.noref] using hn) hp) h7
     exact⟨Nat.le_trans h3 h4,Groups.all xs v1 (fun _ _ h=>h) g⟩
 | .ref s,vs,x,bs,hn,_=>by simp[Sh.noref]at hn
 | .pair a b,vs,x,bs,hn,⟨v1,v2,b1,b2,h1,h2,h3,h4⟩=>by
   simp[Sh.noref]at hn
   exact⟨EncO.wf a _ _ _ hn.1 h3,EncO.wf b _ _ _ hn.2 h4⟩
end Fw
namespace Fw
open Go
def castK {a b:Ty}{R:Type}(h:a=b)(k:El b→R):El a→R:=Eq.rec (motive:=fun c _=>(El c→R)→(El a→R)) (fun k=>k) h k
structure SV where
 s:Sh
 x:El s.ty
inductive Bx where
 | f | t | el (off:Nat) (et:Ty) (i eo:Nat) | tp (i:Nat) | tl (off lo:Nat)
 deriving DecidableEq
def Bx.isEl:Bx→Bool
 | .el _ _ _ _=>true
 | _=>false
def Bx.isT:Bx→Bool
 | .t=>true
 | _=>false
inductive A where
 | junk
 | c (s:Sh) (x:El s.ty)
 | ptr (k g off:Nat)
 | bor (k g ver:Nat) (t:Ty) (x:El t) (org:Option Nat) (exact:Bx)
 | elp (k g ver off:Nat) (et:Ty) (i:Nat) (eo:Nat) (arr:Option Nat)
 | eptr (t:Ty) (x:El t) (off:Nat)
 | al (k g:Nat) (ag:Bool) (off:Nat)
 | cond (s g ver:Nat) (w:Bool) (a:A)
 | tup (l:List (Option SV))
 | fn (f:Nat)
 | br (k g ver off n1:Nat) (s:Sh) (ys:List (El s.ty))
 | rb (k g ver:Nat) (t:Ty) (x:El t) (org:Option Nat) (exact:Bx)
 | clo (f k g:Nat)
 | lz (k g ver off n1 lo:Nat) (s:Sh)
def A.keeps:A→Bool
 | .br _ _ _ _ _ _ _=>true
 | .rb _ _ _ _ _ _ _=>true
 | .lz _ _ _ _ _ _ _=>true
 | _=>false
structure Ent where
 g:Nat
 ver:Nat
 a:A
abbrev Env:=List (Nat×Ent)
def noEnt:Ent:=⟨0,0,.junk⟩
def Env.get:Env→Nat→Ent
 | [],_=>noEnt
 | (k,e)::r,n=>if k=n then e else Env.get r n
structure Wr where
 slot:Nat
 keep:Bool
 a:A
def Env.put (ρ:Env)(w:Wr):Env:=
 (w.slot,if w.keep then⟨(ρ.get w.slot).g,(ρ.get w.slot).ver+1,w.a⟩else⟨(ρ.get w.slot).g+1,0,w.a⟩)::ρ
def Env.puts (ρ:Env):List Wr→Env
 | []=>ρ
 | w::r=>(ρ.put w).puts r
structure Opd where
 slot:Option Nat
 ent:Ent
 a:A
 tgt:Ent
abbrev Vals:List Ty→Type
 | []=>Unit
 | t::r=>El t×Vals r
structure Fun where
 args:List Ty
 res:List Sh
 pre:Vals args→Prop
 run:Vals args→Vals (res.map Sh.ty)
structure MFun where
 s:Sh
 pre:El s.ty→Int→Prop
 out:El s.ty→Int→El s.ty
 run:El s.ty→Int→Int
structure TFun where
 s:Sh
 args:List Ty
 res:Sh
 pre:El s.ty→Vals args→Prop
 run:El s.ty→Vals args→El res.ty
structure KFun where
 s:Sh
 args:List Ty
 pre:El s.ty→Vals args→Prop
 out:El s.ty→Vals args→El s.ty
structure PFun where
 s:Sh
 args:List Ty
 res:List Sh
 pre:El s.ty→Vals args→Prop
 out:El s.ty→Vals args→El s.ty
 run:El s.ty→Vals args→Vals (res.map Sh.ty)
structure Ctx where
 n:Nat
 tys:List (Nat×Ty)
 flds:List (Nat×List (Nat×Ty))
 res:List Nat
 keep:List Nat
 fn:Nat→Option Fun
 eqs:List Nat
 fnM:Nat→Option MFun:=fun _=>none
 pins:List Nat:=[]
 fnT:Nat→Option TFun:=fun _=>none
 late:Bool:=false
 fnK:Nat→Option KFun:=fun _=>none
 lateB:Bool:=false
 fnP:Nat→Option PFun:=fun _=>none
abbrev Out:=Option (List Wr×List Prop)
def A.tgt:A→Option Nat
 | .ptr k _ _=>some k
 | .bor k _ _ _ _ _ _=>some k
 | .elp k _ _ _ _ _ _ _=>some k
 | .al k _ _ _=>some k
 | .cond _ _ _ _ a=>a.tgt
 | .br k _ _ _ _ _ _=>some k
 | .rb k _ _ _ _ _ _=>some k
 | .clo _ k _=>some k
 | .lz k _ _ _ _ _ _=>some k
 | _=>none
def ofConst:Value→A
 | .bool b=>.c (.pure .bool) b
 | .int k n=>if k.min≤n∧n≤k.max then .c (.pure (.int k)) n else .junk
 | .string s=>if s.data.toList.length≤bigLen then .c (.pure .str) s.data.toList else .junk
 | _=>.junk
def A.strip (s g ver:Nat)(w:Bool):A→A
 | .cond s' g' ver' w' a=>if s'=s∧g'=g∧ver'=ver∧w'=w then a else .cond s' g' ver' w' a
 | a=>a
abbrev Gd:=Option (Nat×Nat×Nat×Bool)
def A.stripG:Gd→A→A
 | none,a=>a
 | some (s,g,ver,w),a=>a.strip s g ver w
def tgtOf (ρ:Env)(a:A):Ent:=match a.tgt with | some k=>ρ.get k | none=>noEnt
def opd (ρ:Env)(gd:Gd):Operand→Opd
 | .tmp t=>⟨some t,ρ.get t,(ρ.get t).a.stripG gd,tgtOf ρ ((ρ.get t).a.stripG gd)⟩
 | .const v=>⟨none,noEnt,ofConst v,noEnt⟩
 | .func f=>⟨none,noEnt,.fn f,noEnt⟩
 | .global _=>⟨none,noEnt,.junk,noEnt⟩
def rd {R:Type}(t:Ty)(o:Opd)(k:El t→Option R):Option R:=
 match o.a with
 | .c s x=>if h:s.ty=t then(if s.noref=true then castK h k x else none)else none
 | .bor _ g ver t' x _ _=>if o.tgt.g=g∧o.tgt.ver=ver then(if h:t'=t then castK h k x else none)else none
 | _=>none
def mkPair {R:Type}:(a:Sh)→El a.ty→(b:Sh)→El b.ty→((s:Sh)→El s.ty→R)→R
 | .pure a,x,.pure b,y,k=>k (.pure (.pair a b)) (x,y)
 | a,x,b,y,k=>k (.pair a b) (x,y)
def El.subK {R:Type}:(T:Ty)→El T→(off:Nat)→(t:Ty)→(El t→Option R)→Option R
 | .pair a b,x,off,t,k=>
   if h:off=0∧Ty.pair a b=t then castK h.2 k x
   else if off<a.size then El.subK a x.1 off t k else El.subK b x.2 (off-a.size) t k
 | .int j,x,off,t,k=>if h:off=0∧Ty.int j=t then castK h.2 k x else none
 | .bool,x,off,t,k=>if h:off=0∧Ty.bool=t then castK h.2 k x else none
 | .str,x,off,t,k=>if h:off=0∧Ty.str=t then castK h.2 k x else none
 | .slice e,x,off,t,k=>if h:off=0∧Ty.slice e=t then castK h.2 k x else none
 | .arr n e,x,off,t,k=>if h:off=0∧Ty.arr n e=t then castK h.2 k x else none
def Sh.subK {R:Type}:(s:Sh)→El s.ty→(off:Nat)→(t:Ty)→((s:Sh)→El s.ty→Option R)→Option R
 | .pure T,x,off,t,k=>El.subK T x off t (fun y=>k (.pure t) y)
 | .pair a b,x,off,t,k=>
   if off=0∧Ty.pair a.ty b.ty=t then k (.pair a b) x
   else if off<a.size then a.subK x.1 off t k else b.subK x.2 (off-a.size) t k
 | .own e,x,off,t,k=>if off=0∧Ty.slice e.ty=t then k (.own e) x else none
 | .nil e,x,off,t,k=>if off=0∧Ty.slice e=t then k (.nil e) x else none
 | _,_,_,_,_=>none
def El.updK {R:Type}:(T:Ty)→El T→(off:Nat)→(s':Sh)→El s'.ty→((s:Sh)→El s.ty→Option R)→Option R
 | .pair a b,x,off,s',y,k=>
   if off=0∧Ty.pair a b=s'.ty then k s' y
   else if off<a.size then El.updK a x.1 off s' y (fun s1 y1=>mkPair s1 y1 (.pure b) x.2 k)
   else El.updK b x.2 (off-a.size) s' y (fun s1 y1=>mkPair (.pure a) x.1 s1 y1 k)
 | T,_,off,s',y,k=>if off=0∧T=s'.ty then k s' y else none
def Sh.updK {R:Type}:(s:Sh)→El s.ty→(off:Nat)→(s':Sh)→El s'.ty→((s:Sh)→El s.ty→Option R)→Option R
 | .pure T,x,off,s',y,k=>El.updK T x off s' y k
 | .pair a b,x,off,s',y,k=>
   if off=0∧Ty.pair a.ty b.ty=s'.ty∧s'.size=a.size+b.size then k s' y
   else if off<a.size then a.updK x.1 off s' y (fun s1 y1=>mkPair s1 y1 b x.2 k)
   else b.updK x.2 (off-a.size) s' y (fun s1 y1=>mkPair a x.1 s1 y1 k)
 | .own e,_,off,s',y,k=>if off=0∧Ty.slice e.ty=s'.ty then k s' y else none
 | .nil e,_,off,s',y,k=>if off=0∧Ty.slice e=s'.ty then k s' y else none
 | .hole t,_,off,s',y,k=>if off=0∧t=s'.ty then k s' y else none
 | .ref _,_,_,_,_,_=>none
def froz:A→Option A
 | .c (.ref s) x=>if s.noref=true then some (.c (.ref (.pure s.ty)) x)else none
 | .c s x=>if s.noref=true then some (.c (.pure s.ty) x)else none
 | _=>none
def tkTp {R:Type}(j i:Nat)(e:Ent)(k:(s:Sh)→El s.ty→List Wr→Option R):Option R:=
 match e.a with
 | .tup l=>match l[i]? with
   | some (some q)=>k q.s q.x [⟨j,true,.tup (l.set i none)⟩]
   | _=>none
 | _=>none
def tk {R:Type}(o:Opd)(k:(s:Sh)→El s.ty→List Wr→Option R):Option R:=
 match o.a with
 | .c s x=>if s.free=true then k s x []else match o.slot with | some j=>k s x [⟨j,false,.junk⟩] | none=>none
 | .bor j g ver t x _ b=>
   if o.tgt.g=g∧o.tgt.ver=ver then
     match b with
     | .tp i=>tkTp j i o.tgt k
     | _=>
       match froz o.tgt.a with
       | some a'=>k (.pure t) x [⟨j,true,a'⟩]
       | none=>none
   else none
 | _=>none
def tkAs {R:Type}(s:Sh)(o:Opd)(k:El s.ty→List Wr→Option R):Option R:=
 tk o fun s' x ws=>
   if h:s'.ty=s.ty then
     if s'=s then castK h (fun y=>k y ws) x
     else if s=.pure s.ty∧s'.noref=true∧s'.free=true then castK h (fun y=>k y ws) x
     else none
   else none
def upP:Ty→Sh→Bool
 | .pair a b,.pair c d=>upP a c&&upP b d
 | t,s=>decide (s=.pure t)
def upB:Sh→Sh→Bool
 | .pure t,s=>upP t s
 | .nil e,.own e'=>decide (e'.ty=e)
 | .nil e,.pure (.slice e')=>decide (e'=e)
 | .pair a b,.pair c d=>upB a c&&upB b d
 | .pair a b,.pure (.pair c d)=>upB a (.pure c)&&upB b (.pure d)
 | .own e,.own e'=>upB e e'
 | a,b=>decide (a=b)
theorem upP_cases {t:Ty}{s:Sh}(h:upP t s=true):s=.pure t∨∃ a b c d,t=.pair a b∧s=.pair c d∧upP a c=true∧upP b d=true:=by
 unfold upP at h
 split at h
 · rename_i a b c d
   simp only[Bool.and_eq_true]at h
   exact .inr ⟨a,b,c,d,rfl,rfl,h.1,h.2⟩
 · exact .inl (by simpa using h)
theorem upP_ty:∀ (t:Ty) (s:Sh),upP t s=true→t=s.ty:=by
 intro t
 induction t with
 | pair a b iha ihb=>
   intro s h
   rcases upP_cases h with h | ⟨a',b',c,d,h1,h2,h3,h4⟩
   · rw[h]
   · cases h1;subst h2;simp[iha c h3,ihb d h4]
 | _=>
   intro s h
   rcases upP_cases h with h | ⟨_,_,_,_,h,_⟩
   · rw[h]
   · cases h
theorem upB_ty:∀ (a b:Sh),upB a b=true→a.ty=b.ty:=by
 intro a
 induction a with
 | pure t=>intro b h;exact upP_ty t b h
 | nil e=>
   intro b h
   cases b with
   | own e'=>simp[upB]at h;simp[h]
   | pure t=>cases t with
     | slice e'=>simp[upB]at h;simp[h]
     | _=>simp[upB]at h
   | nil e'=>simp[upB]at h;rw[h]
   | _=>simp[upB]at h
 | pair a b iha ihb=>
   intro s h
   cases s with
   | pair c d=>simp[upB]at h;simp[iha c h.1,ihb d h.2]
   | pure t=>cases t with
     | pair c d=>simp[upB]at h;simp[iha (.pure c) h.1,ihb (.pure d) h.2]
     | _=>simp[upB]at h
   | _=>simp[upB]at h
 | own e ih=>
   intro s h
   cases s with
   | own e'=>simp only[upB]at h;simp[ih e' h]
   | _=>simp[upB]at h
 | ref e ih=>
   intro s h
   cases s<;>simp[upB]at h
   rw[h]
 | hole t=>
   intro s h
   cases s<;>simp[upB]at h
   rw[h]
def Sh.cutK {R:Type}:(s:Sh)→El s.ty→(off:Nat)→(t:Ty)→((s:Sh)→El s.ty→(s2:Sh)→El s2.ty→Option R)→Option R
 | .pure T,x,off,t,k=>El.subK T x off t (fun y=>k (.pure t) y (.pure T) x)
 | .pair a b,x,off,t,k=>
   if off=0∧Ty.pair a.ty b.ty=t∧(Sh.pair a b).noref=true then k (.pair a b) x (.hole (.pair a.ty b.ty)) x
   else if off<a.size then a.cutK x.1 off t fun s' y s2 x2=>mkPair s2 x2 b x.2 fun s3 x3=>k s' y s3 x3
   else b.cutK x.2 (off-a.size) t fun s' y s2 x2=>mkPair a x.1 s2 x2 fun s3 x3=>k s' y s3 x3
 | .own e,x,off,t,k=>if off=0∧Ty.slice e.ty=t then k (.own e) x (.hole (.slice e.ty)) x else none
 | .nil e,x,off,t,k=>if off=0∧Ty.slice e=t then k (.nil e) x (.nil e) x else none
 | _,_,_,_,_=>none
def tkCut {R:Type}(j off:Nat)(t:Ty)(e:Ent)(k:(s:Sh)→El s.ty→List Wr→Option R):Option R:=
 match e.a with
 | .c (.ref s) x=>s.cutK x off t fun s' y s2 x2=>if s'.noref=true then k s' y [⟨j,true,.c (.ref s2) x2⟩]else none
 | .c s x=>s.cutK x off t fun s' y _ _=>if s'.noref=true then k s' y [⟨j,false,.junk⟩]else none
 | _=>none
def tkOwn {R:Type}(o:Opd)(k:(s:Sh)→El s.ty→List Wr→Option R):Option R:=
 match o.a with
 | .bor j g ver t _ (some off) .t=>if o.tgt.g=g∧o.tgt.ver=ver then tkCut j off t o.tgt k else none
 | .bor j g ver _ _ none (.tp i)=>if o.tgt.g=g∧o.tgt.ver=ver then tkTp j i o.tgt k else none
 | .c s x=>if s.free=true then k s x []else match o.slot with | some j=>k s x [⟨j,false,.junk⟩] | none=>none
 | _=>none
def zeroK {R:Type}:(t:Ty)→((s:Sh)→El s.ty→R)→R
 | .slice e,k=>k (.nil e) []
 | .pair a b,k=>zeroK a fun s x=>zeroK b fun s' y=>mkPair s x s' y k
 | t,k=>k (.pure t) (dflt t)
def noneIs (j:Nat):List Wr→Bool
 | []=>true
 | w::r=>if w.slot=j then false else noneIs j r
def nextG:Gd→List Wr→Gd
 | some (s,g,ver,b),ws=>if noneIs s ws=true then some (s,g,ver,b)else none
 | none,_=>none
def look {α:Type}:List (Nat×α)→Nat→Option α
 | [],_=>none
 | (k,a)::r,n=>if k=n then some a else look r n
def buildK {R:Type}:List (Nat×Ty)→Nat→Gd→Env→List (Nat×Operand)→((s:Sh)→El s.ty→List Wr→Option R)→Option R
 | [],_,_,_,_,_=>none
 | [(_,t)],i,gd,ρ,ps,k=>
   match look ps i with
   | some o=>tk (opd ρ gd o) fun s x ws=>if s.ty=t∧s.noref=true then k s x ws else none
   | none=>zeroK t fun s x=>k s x []
 | (_,t)::r,i,gd,ρ,ps,k=>
   match look ps i with
   | some o=>tk (opd ρ gd o) fun s x ws=>if s.ty=t∧s.noref=true then buildK r (i+1) (nextG gd ws) (ρ.puts ws) ps fun s' y ws'=>mkPair s x s' y fun s2 z=>k s2 z (ws++ws')else none
   | none=>zeroK t fun s x=>buildK r (i+1) gd ρ ps fun s' y ws'=>mkPair s x s' y fun s2 z=>k s2 z ws'
def arrK {R:Type}(e:Ty)(gd:Gd)(ρ:Env):Nat→Nat→List (Nat×Operand)→(List (El e)→Option R)→Option R
 | 0,_,_,k=>k []
 | n+1,i,ps,k=>
   match look ps i with
   | some o=>rd e (opd ρ gd o) fun x=>arrK e gd ρ n (i+1) ps fun xs=>k (x::xs)
   | none=>arrK e gd ρ n (i+1) ps fun xs=>k (dflt e::xs)
def tkEl {R:Type}(s:Sh)(o:Opd)(k:El s.ty→List Wr→Option R):Option R:=
 if s.free=true then tkAs s o k
 else tkOwn o fun s' x ws=>if h:s'.ty=s.ty then(if s'=s then castK h (fun y=>k y ws) x else none)else none
def elemsK {R:Type}(s:Sh):Gd→Env→List (Nat×Operand)→Nat→(List (El s.ty)→List Wr→Option R)→Option R
 | _,_,[],_,k=>k [] []
 | gd,ρ,(j,o)::r,i,k=>if j=i then tkEl s (opd ρ gd o) fun x ws=>elemsK s (nextG gd ws) (ρ.puts ws) r (i+1) fun xs ws'=>k (x::xs) (ws++ws')else none
def Sh.anyNil:Sh→Bool
 | .nil _=>true
 | .pair a b=>a.anyNil||b.anyNil
 | _=>false
def elemSh (e:Ty)(gd:Gd)(ρ:Env):List (Nat×Operand)→Sh
 | []=>.pure e
 | (_,o)::_=>match (opd ρ gd o).a with
   | .c s _=>if s.free=true∧s.anyNil=false then .pure e else s
   | .bor _ _ _ _ _ (some 0) .t=>match (opd ρ gd o).tgt.a with
     | .c (.own e') _=>.own e'
     | _=>.pure e
   | _=>.pure e
def nodupB:List Nat→Bool
 | []=>true
 | a::r=>!(r.contains a)&&nodupB r
def keysB {α:Type}(n:Nat)(ps:List (Nat×α)):Bool:=nodupB (ps.map Prod.fst)&&(ps.map Prod.fst).all (fun i=>decide (i<n))
def contB:Nat→List (Nat×Ty)→Bool
 | _,[]=>true
 | p,(o,t)::r=>o==p&&contB (p+t.size) r
def ptrK {R:Type}(o:Opd)(k:(j g off:Nat)→Ent→Option R):Option R:=
 match o.a with
 | .ptr j g off=>k j g off o.tgt
 | .c (.ref _) _=>match o.slot with | some j=>k j o.ent.g 0 o.ent | none=>none
 | _=>none
def inRange (i:Int)(n:Nat):Prop:=0≤i∧i<n
def maxNew:Nat:=2147483648
def binInt (op:BinOp)(k:IntKind)(x y:Int):Option (A×List Prop):=
 match op with
 | .add=>some (.c (.pure (.int k)) (k.wrap (x+y)),[])
 | .sub=>some (.c (.pure (.int k)) (k.wrap (x-y)),[])
 | .mul=>some (.c (.pure (.int k)) (k.wrap (x*y)),[])
 | .quo=>some (.c (.pure (.int k)) (k.wrap (x.tdiv y)),[y≠0])
 | .rem=>some (.c (.pure (.int k)) (x.tmod y),[y≠0])
 | .eql=>some (.c (.pure .bool) (x==y),[])
 | .neq=>some (.c (.pure .bool) (x != y),[])
 | .lss=>some (.c (.pure .bool) (decide (x<y)),[])
 | .leq=>some (.c (.pure .bool) (decide (x≤y)),[])
 | .gtr=>some (.c (.pure .bool) (decide (x>y)),[])
 | .geq=>some (.c (.pure .bool) (decide (x≥y)),[])
 | .and=>some (.c (.pure (.int k)) (k.wrap (BitVec.ofInt k.bits x&&& BitVec.ofInt k.bits y).toNat),[])
 | .or=>some (.c (.pure (.int k)) (k.wrap (BitVec.ofInt k.bits x||| BitVec.ofInt k.bits y).toNat),[])
 | .xor=>some (.c (.pure (.int k)) (k.wrap (BitVec.ofInt k.bits x ^^^ BitVec.ofInt k.bits y).toNat),[])
 | _=>none
def shiftInt (op:BinOp)(k:IntKind)(x y:Int):Option (A×List Prop):=
 match op with
 | .shl=>some (.c (.pure (.int k)) (k.wrap (x*2 ^ (min y.toNat k.bits))),[0≤y])
 | .shr=>some (.c (.pure (.int k)) (x.fdiv (2 ^ (min y.toNat k.bits))),[0≤y])
 | _=>none
def Ty.cmp:Ty→Bool
 | .int _=>true
 | .bool=>true
 | .str=>true
 | .pair a b=>a.cmp&&b.cmp
 | _=>false
def El.eq:(t:Ty)→El t→El t→Bool
 | .int _,x,y=>x==y
 | .bool,x,y=>x==y
 | .str,x,y=>x==y
 | .pair a b,x,y=>El.eq a x.1 y.1&&El.eq b x.2 y.2
 | _,_,_=>false
def binStr (op:BinOp)(x y:List UInt8):Option (A×List Prop):=
 match op with
 | .add=>some (.c (.pure .str) (x++y),[x.length+y.length≤bigLen])
 | .eql=>some (.c (.pure .bool) (x==y),[])
 | .neq=>some (.c (.pure .bool) (x != y),[])
 | _=>none
def bytesOf (x:List UInt8):List Int:=x.map fun b=>(b.toNat:Int)
def strOf (x:List Int):List UInt8:=x.map fun n=>UInt8.ofNat n.toNat
def argsK {R:Type}:(ts:List Ty)→List Opd→(Vals ts→Option R)→Option R
 | [],[],k=>k ()
 | t::ts,o::os,k=>rd t o fun x=>argsK ts os fun xs=>k (x,xs)
 | _,_,_=>none
def resK:(ss:List Sh)→Vals (ss.map Sh.ty)→List (Option SV)
 | [],_=>[]
 | s::ss,x=>some ⟨s,x.1⟩::resK ss x.2
def resA:(ss:List Sh)→Vals (ss.map Sh.ty)→A
 | [s],x=>.c s x.1
 | ss,x=>.tup (resK ss x)
def Ctx.ty (C:Ctx)(t:Nat):Option Ty:=look C.tys t
def pick2 (c a b:Bool):Bool:=cond c a b
def contK {R:Type}(e:Ent)(k:(s:Sh)→El s.ty→Option R):Option R:=
 match e.a with
 | .c (.ref s) x=>k s x
 | .c s x=>k s x
 | _=>none
end Fw
namespace Fw
open Go
def Ty.ag:Ty→Bool
 | .pair _ _=>true
 | .arr _ _=>true
 | _=>false
def Sh.ag:Sh→Bool
 | .pure t=>t.ag
 | .hole t=>t.ag
 | .pair _ _=>true
 | _=>false
def ValC (ag:Bool)(v:Value)(cs:List Value):Prop:=if ag=true then v=.agg cs.toArray else cs=[v]
def rows (w:World):RowFn:=fun b=>
 match w.heap[b]? with
 | some (.cells c _ fr)=>if fr.2≤fr.1∨c.size≤fr.1 then some c.toList else none
 | _=>none
abbrev Own:=Nat→Option Nat
def notBox (v:Value)(b:Nat):Bool:=
 match v with
 | .pointer (some a)=>a.block != b
 | _=>true
def heapOf (M:Mem)(ω:Own)(w:World)(k:Nat)(vk:Value):Mem:=fun b o=>
 match M b o with
 | some v=>some v
 | none=>if ω b=some k∧notBox vk b=true then w.cell? ⟨b,o,none⟩else none
def Owns (M:Mem)(ω:Own)(w:World)(t:Nat)(s:Sh)(x:El s.ty)(v:Value):Prop:=
 ∃ cs bs,ValC s.ag v cs∧EncO M (rows w) s cs x bs∧bs.Nodup∧∀ b∈bs,ω b=some t
def TupR (M:Mem)(R:RowFn):List (Option SV)→List Value→List Nat→Prop
 | [],[],bs=>bs=[]
 | some q::l,v::vs,bs=>∃ cs b1 b2,ValC q.s.ag v cs∧EncO M R q.s cs q.x b1∧bs=b1++b2∧TupR M R l vs b2
 | none::l,_::vs,bs=>TupR M R l vs bs
 | _,_,_=>False
def Place (ω:Own)(w:World)(k:Nat)(a:A)(v:Value)(cs:List Value):Prop:=
 match a with
 | .c (.ref _) _=>∃ b,v=.pointer (some ⟨b,0,none⟩)∧ω b=some k∧rows w b=some cs
 | .c s _=>ValC s.ag v cs
 | _=>False
abbrev Vl:=Nat→Value
def TpR (gk g:Nat)(vk:Value)(e:Bx)(v:Value):Prop:=∀ i,e=.tp i→gk=g→∃ vs:List Value,vk=.tuple vs.toArray∧vs[i]?=some v
def refOk (n:Nat)(ρ:Env)(k g:Nat):Prop:=k<n∧g≤(ρ.get k).g
def curK (ρ:Env)(k g ver:Nat):Prop:=(ρ.get k).g=g∧(ρ.get k).ver=ver
def verOk (n:Nat)(ρ:Env)(k g ver:Nat):Prop:=k<n∧g≤(ρ.get k).g∧((ρ.get k).g=g→ver≤(ρ.get k).ver)
def ElC (ω:Own)(w:World)(k:Nat)(ak:A)(vk:Value)(off:Nat)(et:Ty)(i eo sz:Nat)(cs:List Value):Prop:=
 ∃ pc b len cap row,Place ω w k ak vk pc∧pc[off]?=some (.slice (some ⟨b,0,none⟩) len cap)∧i<len∧ω b=some k∧rows w b=some row∧cs=(row.drop (i*et.size+eo)).take sz
def Ty.esz:Ty→Nat
 | .slice e=>e.size
 | _=>0
def BxR (ω:Own)(w:World)(k:Nat)(ak:A)(vk:Value)(t:Ty)(exact:Bx)(v:Value)(cs:List Value):Prop:=
 match exact with
 | .tp i=>∃ vs:List Value,vk=.tuple vs.toArray∧vs[i]?=some v
 | .tl off lo=>∃ pc a len cap,Place ω w k ak vk pc∧pc[off]?=some (.slice a len cap)∧lo≤len∧
     cs=[.slice (if cap=lo then a else a.map (·.add (lo*t.esz))) (len-lo) (cap-lo)]
 | _=>True
def BrR (M:Mem)(ω:Own)(w:World)(t k:Nat)(ak:A)(vk:Value)(off n1:Nat)(s:Sh)(ys:List (El s.ty))(v:Value):Prop:=
 ∃ olds news bs,olds.length=n1*s.size∧news.length=ys.length*s.size∧
   (n1=0∨∃ pc b len cap row,Place ω w k ak vk pc∧pc[off]?=some (.slice (some ⟨b,0,none⟩) len cap)∧n1≤len∧ω b=some k∧rows w b=some row∧olds=row.take (n1*s.size))∧
   GroupsO (EncO M (rows w) s) s.size news ys bs∧
   ((∃ a,v=.slice a 0 0∧n1=0∧ys=[]∧bs=[])∨
     ∃ d cap spare,v=.slice (some ⟨d,0,none⟩) (n1+ys.length) cap∧n1+ys.length≤cap∧cap≤bigLen∧rows w d=some (olds++news++spare)∧
       (olds++news++spare).length=cap*s.size∧(d::bs).Nodup∧∀ c∈d::bs,ω c=some t)
def LzR (ω:Own)(w:World)(t k:Nat)(ak:A)(vk:Value)(off n1 lo:Nat)(s:Sh)(v:Value):Prop:=
 ∃ (pc:List Value) (a:Option Addr) (len cap:Nat) (lent tls:List Value),Place ω w k ak vk pc∧pc[off]?=some (.slice a len cap)∧n1≤lo∧lo≤len∧lent.length=n1*s.size∧tls.length=(len-lo)*s.size∧
   (len=0∨∃ b row,a=some ⟨b,0,none⟩∧ω b=some k∧rows w b=some row∧lent=row.take (n1*s.size)∧tls=(row.drop (lo*s.size)).take ((len-lo)*s.size))∧
   ((∃ a0,v=.slice a0 0 0∧n1+(len-lo)=0)∨
     ∃ d cap' spare,v=.slice (some ⟨d,0,none⟩) (n1+(len-lo)) cap'∧n1+(len-lo)≤cap'∧cap'≤bigLen∧rows w d=some (lent++tls++spare)∧(lent++tls++spare).length=cap'*s.size∧ω d=some t)
def BorR (M:Mem)(ω:Own)(w:World)(k:Nat)(ak:A)(vk:Value)(t:Ty)(x:El t)(org:Option Nat)(exact:Bx)(v:Value):Prop:=
 ∃ cs,ValC t.ag v cs∧Enc (heapOf M ω w k vk) t cs x∧
   (∀ off,org=some off→∃ pc,Place ω w k ak vk pc∧
     if exact.isT=true then cs=(pc.drop off).take t.size
     else ∃ a len cap n,pc[off]?=some (.slice a len cap)∧cs=[.slice a n cap]∧n≤len)∧
   (∀ off et i eo,exact=.el off et i eo→ElC ω w k ak vk off et i eo t.size cs)∧
   BxR ω w k ak vk t exact v cs
def ElpR (ω:Own)(w:World)(k:Nat)(ak:A)(vk:Value)(off:Nat)(et:Ty)(i eo:Nat)(arr:Option Nat)(v:Value):Prop:=
 if arr.isSome=true then(∀ m,arr=some m→i<m)∧∃ b,vk=.pointer (some ⟨b,0,none⟩)∧v=.pointer (some ⟨b,off+i*et.size+eo,none⟩)
 else ∃ pc,Place ω w k ak vk pc∧∃ a len cap,pc[off]?=some (.slice (some a) len cap)∧i<len∧a.spot=none∧v=.pointer (some ⟨a.block,a.off+i*et.size+eo,none⟩)
def Rel0 (n:Nat)(M:Mem)(ω:Own)(w:World)(ρ:Env)(vals:Vl)(t:Nat)(v:Value):A→Prop
 | .junk=>True
 | .c s x=>Owns M ω w t s x v
 | .ptr k g off=>refOk n ρ k g∧((ρ.get k).g=g→∃ b,vals k=.pointer (some ⟨b,0,none⟩)∧v=.pointer (some ⟨b,off,none⟩))
 | .bor k g ver u x org e=>verOk n ρ k g ver∧(curK ρ k g ver→BorR M ω w k (ρ.get k).a (vals k) u x org e v)
 | .elp k g ver off et i eo arr=>verOk n ρ k g ver∧(curK ρ k g ver→ElpR ω w k (ρ.get k).a (vals k) off et i eo arr v)
 | .al k g ag off=>refOk n ρ k g∧∃ b cs,v=.pointer (some ⟨b,off,none⟩)∧CellsAt M b 0 cs∧((ρ.get k).g=g→ValC ag (vals k) cs)
 | .eptr u x off=>∃ b o cs,v=.pointer (some ⟨b,o+off,none⟩)∧CellsAt M b o cs∧Enc M u cs x
 | .cond _ _ _ _ _=>False
 | .tup l=>∃ vs bs,v=.tuple vs.toArray∧TupR M (rows w) l vs bs∧bs.Nodup∧∀ b∈bs,ω b=some t
 | .fn f=>v=.func (.func f) #[] #[]
 | .clo f k g=>refOk n ρ k g∧((ρ.get k).g=g→∃ b,vals k=.pointer (some ⟨b,0,none⟩)∧v=.func (.func f) #[] #[.pointer (some ⟨b,0,none⟩)])
 | .br k g ver off n1 s ys=>verOk n ρ k g ver∧(curK ρ k g ver→BrR M ω w t k (ρ.get k).a (vals k) off n1 s ys v)
 | .lz k g ver off n1 lo s=>verOk n ρ k g ver∧(curK ρ k g ver→LzR ω w t k (ρ.get k).a (vals k) off n1 lo s v)
 | .rb k g ver u x org e=>∃ b v0 cs,v=.pointer (some ⟨b,0,none⟩)∧ω b=some t∧rows w b=some cs∧ValC u.ag v0 cs∧verOk n ρ k g ver∧TpR (ρ.get k).g g (vals k) e v0∧
     (curK ρ k g ver→BorR M ω w k (ρ.get k).a (vals k) u x org e v0)
def Rel (n:Nat)(M:Mem)(ω:Own)(w:World)(ρ:Env)(vals:Vl)(t:Nat)(v:Value):A→Prop
 | .cond s g ver b a=>verOk n ρ s g ver∧(curK ρ s g ver→(vals s=.bool b→Rel0 n M ω w ρ vals t v a)∧(vals s≠.bool b→v=undef))
 | a=>Rel0 n M ω w ρ vals t v a
structure Fr (B:Nat) (X:List Nat) (w w':World):Prop where
 os:w'.os=w.os
 tape:w'.tape=w.tape
 output:w'.output=w.output
 size:w.heap.size≤w'.heap.size
 block:∀ k,k<B→k∉X→w'.heap[k]?=w.heap[k]?
structure St0 (n B:Nat) (X:List Nat) (w0:World) (M0:Mem) (M:Mem) (ω:Own) (ρ:Env) (tmps:Array Value) (w:World):Prop where
 size:tmps.size=n
 fr:Fr B X w0 w
 m0:M0.le M
 old:∀ b o,b<B→b∉X→M b o=M0 b o
 mem:∀ b o v,M b o=some v→w.cell? ⟨b,o,none⟩=some v
 dis:∀ b k,ω b=some k→(B≤b∨b∈X)∧b<w.heap.size∧∀ o,M b o=none
 high:∀ t,n≤t→(ρ.get t).a=.junk
 slots:∀ t,t<n→Rel n M ω w ρ (fun t=>tmps.getD t undef) t (tmps.getD t undef) (ρ.get t).a
def Sim (n B:Nat)(X:List Nat)(w0:World)(M0:Mem)(ρ:Env)(tmps:Array Value)(w:World):Prop:=
 ∃ M ω,St0 n B X w0 M0 M ω ρ tmps w
theorem Fr.refl (B:Nat)(X:List Nat)(w:World):Fr B X w w:=⟨rfl,rfl,rfl,Nat.le_refl _,fun _ _ _=>rfl⟩
theorem Fr.trans {B:Nat}{X:List Nat}{a b c:World}(h:Fr B X a b)(k:Fr B X b c):Fr B X a c:=
 ⟨k.os.trans h.os,k.tape.trans h.tape,k.output.trans h.output,Nat.le_trans h.size k.size,fun i hi hx=>(k.block i hi hx).trans (h.block i hi hx)⟩
theorem Env.get_put (ρ:Env)(w:Wr)(t:Nat):(ρ.put w).get t=
   if t=w.slot then(if w.keep then⟨(ρ.get t).g,(ρ.get t).ver+1,w.a⟩else⟨(ρ.get t).g+1,0,w.a⟩)else ρ.get t:=by
 unfold Env.put
 by_cases h:t=w.slot
 · subst h;simp[Env.get]
 · simp[Env.get,h,Ne.symm h]
def Older (e e':Ent):Prop:=e.g<e'.g∨(e.g=e'.g∧e.ver<e'.ver)∨e=e'
theorem Older.put (ρ:Env)(w:Wr)(t:Nat):Older (ρ.get t) ((ρ.put w).get t):=by
 rw[Env.get_put]
 by_cases h:t=w.slot
 · cases hk:w.keep
   · simp only[h,if_true];left;simp
   · simp only[h,if_true];right;left;simp
 · simp[h,Older]
theorem Older.trans {a b c:Ent}(h:Older a b)(k:Older b c):Older a c:=by
 rcases h with h | ⟨h1,h2⟩ | rfl
 · rcases k with k | ⟨k1,_⟩ | rfl
   · exact .inl (by omega)
   · exact .inl (by omega)
   · exact .inl h
 · rcases k with k | ⟨k1,k2⟩ | rfl
   · exact .inl (by omega)
   · exact .inr (.inl ⟨by omega,by omega⟩)
   · exact .inr (.inl ⟨h1,h2⟩)
 · exact k
theorem Older.puts (ws:List Wr):∀ (ρ:Env) (t:Nat),Older (ρ.get t) ((ρ.puts ws).get t):=by
 induction ws with
 | nil=>intro ρ t;exact .inr (.inr rfl)
 | cons w r ih=>intro ρ t;exact(Older.put ρ w t).trans (ih (ρ.put w) t)
theorem Env.puts_other (ws:List Wr):∀ (ρ:Env) (t:Nat),(∀ w∈ws,w.slot≠t)→(ρ.puts ws).get t=ρ.get t:=by
 induction ws with
 | nil=>intro ρ t _;rfl
 | cons w r ih=>
   intro ρ t h
   show ((ρ.put w).puts r).get t=_
   rw[ih (ρ.put w) t (fun w' hw=>h w' (by simp[hw])),Env.get_put,if_neg (fun e=>h w (by simp) e.symm)]
theorem Older.same {e e':Ent}{g ver:Nat}(h:Older e e')(hg:g≤e.g)(hv:e.g=g→ver≤e.ver)(h1:e'.g=g)(h2:e'.ver=ver):e=e':=by
 rcases h with h | ⟨h3,h4⟩ | h
 · omega
 · have:=hv (by omega);omega
 · exact h
theorem Older.g_le {e e':Ent}(h:Older e e'):e.g≤e'.g:=by
 rcases h with h | ⟨h3,h4⟩ | h
 · omega
 · omega
 · rw[h];exact Nat.le_refl _
theorem verOk.older {n:Nat}{ρ ρ':Env}{k g ver:Nat}(h:verOk n ρ k g ver)(ho:Older (ρ.get k) (ρ'.get k)):verOk n ρ' k g ver:=by
 obtain⟨h0,h1,h2⟩:=h
 refine⟨h0,Nat.le_trans h1 ho.g_le,fun h3=>?_⟩
 rcases ho with ho | ⟨h4,h5⟩ | ho
 · omega
 · have:=h2 (by omega);omega
 · rw[←ho]at h3 ⊢;exact h2 h3
theorem rows_of_block {w w':World}{b:Nat}(h:w'.heap[b]?=w.heap[b]?):rows w' b=rows w b:=by
 unfold rows;rw[h]
theorem cell_of_block {w w':World}{b o:Nat}(h:w'.heap[b]?=w.heap[b]?):w'.cell? ⟨b,o,none⟩=w.cell? ⟨b,o,none⟩:=by
 unfold World.cell?;simp only[h]
structure Step (n:Nat) (M M':Mem) (ω ω':Own) (w w':World) (ρ ρ':Env) (vals vals':Vl):Prop where
 mem:M.le M'
 dis:∀ b k,ω' b=some k→∀ o,M' b o=none
 old:∀ k,Older (ρ.get k) (ρ'.get k)
 ptr:∀ k,(ρ'.get k).g=(ρ.get k).g→vals' k=vals k
 own:∀ k,k<n→ρ'.get k=ρ.get k→∀ b,ω b=some k→ω' b=some k∧w'.heap[b]?=w.heap[b]?
theorem Step.heap {n:Nat}{M M':Mem}{ω ω':Own}{w w':World}{ρ ρ':Env}{vals vals':Vl}(S:Step n M M' ω ω' w w' ρ ρ' vals vals'){k:Nat}(hn:k<n)
   (hk:ρ'.get k=ρ.get k):(heapOf M ω w k (vals k)).le (heapOf M' ω' w' k (vals' k)):=by
 intro b o v h
 rw[S.ptr k (by rw[hk])]
 unfold heapOf at *
 cases hm:M b o with
 | some u=>rw[hm]at h;simp only[S.mem b o u hm];exact h
 | none=>
   rw[hm]at h
   simp only at h
   split at h
   · rename_i hw
     obtain⟨h1,h2⟩:=S.own k hn hk b hw.1
     rw[S.dis b k h1 o]
     simp only[h1,hw.2,and_self,if_true]
     rw[cell_of_block h2];exact h
   · cases h
theorem Place.frame {n:Nat}{M M':Mem}{ω ω':Own}{w w':World}{ρ ρ':Env}{vals vals':Vl}(S:Step n M M' ω ω' w w' ρ ρ' vals vals'){k:Nat}(hn:k<n)
   (hk:ρ'.get k=ρ.get k) {cs:List Value} (h:Place ω w k (ρ.get k).a (vals k) cs):Place ω' w' k (ρ'.get k).a (vals' k) cs:=by
 rw[hk,S.ptr k (by rw[hk])]
 have key:∀ b,ω b=some k→rows w' b=rows w b∧ω' b=some k:=fun b hb=>
   ⟨rows_of_block (S.own k hn hk b hb).2,(S.own k hn hk b hb).1⟩
 revert h
 generalize (ρ.get k).a=a
 intro h
 cases a with
 | c s x=>
   cases s with
   | ref s=>
     obtain⟨b,h1,h2,h3⟩:=h
     exact⟨b,h1,(key b h2).2,by rw[(key b h2).1];exact h3⟩
   | _=>exact h
 | _=>exact h
theorem ElC.frame {n:Nat}{M M':Mem}{ω ω':Own}{w w':World}{ρ ρ':Env}{vals vals':Vl}(S:Step n M M' ω ω' w w' ρ ρ' vals vals'){k:Nat}(hn:k<n)
   (hk:ρ'.get k=ρ.get k) {off:Nat} {et:Ty} {i eo sz:Nat} {cs:List Value} (h:ElC ω w k (ρ.get k).a (vals k) off et i eo sz cs):ElC ω' w' k (ρ'.get k).a (vals' k) off et i eo sz cs:=by
 obtain⟨pc,b,len,cap,row,h1,h2,h3,h4,h5,h6⟩:=h
 obtain⟨g1,g2⟩:=S.own k hn hk b h4
 exact⟨pc,b,len,cap,row,Place.frame S hn hk h1,h2,h3,g1,by rw[rows_of_block g2];exact h5,h6⟩
theorem BxR.frame {n:Nat}{M M':Mem}{ω ω':Own}{w w':World}{ρ ρ':Env}{vals vals':Vl}(S:Step n M M' ω ω' w w' ρ ρ' vals vals'){k:Nat}(hn:k<n)
   (hk:ρ'.get k=ρ.get k) {t:Ty} {e:Bx} {v:Value} {cs:List Value} (h:BxR ω w k (ρ.get k).a (vals k) t e v cs):BxR ω' w' k (ρ'.get k).a (vals' k) t e v cs:=by
 cases e with
 | tp i=>obtain⟨vs,h1,h2⟩:=h;exact⟨vs,by rw[S.ptr k (by rw[hk])];exact h1,h2⟩
 | tl off lo=>obtain⟨pc,a,len,cap,h1,h2⟩:=h;exact⟨pc,a,len,cap,Place.frame S hn hk h1,h2⟩
 | _=>trivial
theorem BxR.place {ω:Own}{w:World}{k:Nat}{ak ak':A}{vk:Value}{t:Ty}{e:Bx}{v:Value}{cs:List Value}(h:BxR ω w k ak vk t e v cs)(hp:∀ pc,Place ω w k ak vk pc→Place ω w k ak' vk pc):BxR ω w k ak' vk t e v cs:=by
 cases e with
 | tl off lo=>obtain⟨pc,a,len,cap,h1,h2⟩:=h;exact⟨pc,a,len,cap,hp _ h1,h2⟩
 | tp i=>exact h
 | _=>trivial
theorem EncO.frame {n:Nat}{M M':Mem}{ω ω':Own}{w w':World}{ρ ρ':Env}{vals vals':Vl}(S:Step n M M' ω ω' w w' ρ ρ' vals vals'){t:Nat}(hn:t<n)
   (ht:ρ'.get t=ρ.get t) {s:Sh} {cs:List Value} {x:El s.ty} {bs:List Nat} (hb:∀ b∈bs,ω b=some t)
   (h:EncO M (Fw.rows w) s cs x bs):EncO M' (Fw.rows w') s cs x bs:=
 EncO.mono S.mem s cs x bs (fun b hi=>rows_of_block (S.own t hn ht b (hb b hi)).2) h
theorem BrR.frame {n:Nat}{M M':Mem}{ω ω':Own}{w w':World}{ρ ρ':Env}{vals vals':Vl}(S:Step n M M' ω ω' w w' ρ ρ' vals vals'){t k:Nat}(hnt:t<n)(hn:k<n)
   (ht:ρ'.get t=ρ.get t) (hk:ρ'.get k=ρ.get k) {off n1:Nat} {s:Sh} {ys:List (El s.ty)} {v:Value} (h:BrR M ω w t k (ρ.get k).a (vals k) off n1 s ys v):
   BrR M' ω' w' t k (ρ'.get k).a (vals' k) off n1 s ys v:=by
 obtain⟨olds,news,bs,h1,h2,h3,h4,h5⟩:=h
 have hrw:∀ b,ω b=some t→rows w' b=rows w b∧ω' b=some t:=fun b hb=>⟨rows_of_block (S.own t hnt ht b hb).2,(S.own t hnt ht b hb).1⟩
 refine⟨olds,news,bs,h1,h2,?_,?_,?_⟩
 · rcases h3 with h3 | ⟨pc,b,len,cap,row,g1,g2,g3,g4,g5,g6⟩
   · exact .inl h3
   · obtain⟨q1,q2⟩:=S.own k hn hk b g4
     exact .inr ⟨pc,b,len,cap,row,Place.frame S hn hk g1,g2,g3,q1,by rw[rows_of_block q2];exact g5,g6⟩
 · rcases h5 with⟨a,g1,g2,g3,g4⟩ | ⟨d,cap,spare,g1,g2,g3,g4,g5,g6,g7⟩
   · subst g4
     exact GroupsO.imp ys news [] (fun x _ cs b hb hp=>EncO.mono S.mem s cs x b (fun i hi=>by have:=hb i hi;simp at this) hp) h4
   · exact GroupsO.imp ys news bs (fun x _ cs b hb hp=>EncO.mono S.mem s cs x b (fun i hi=>(hrw i (g7 i (by simp[hb i hi]))).1) hp) h4
 · rcases h5 with h5 | ⟨d,cap,spare,g1,g2,g3,g4,g5,g6,g7⟩
   · exact .inl h5
   · exact .inr ⟨d,cap,spare,g1,g2,g3,by rw[(hrw d (g7 d (by simp))).1];exact g4,g5,g6,fun c hc=>(hrw c (g7 c hc)).2⟩
theorem LzR.frame {n:Nat}{M M':Mem}{ω ω':Own}{w w':World}{ρ ρ':Env}{vals vals':Vl}(S:Step n M M' ω ω' w w' ρ ρ' vals vals'){t k:Nat}(hnt:t<n)(hn:k<n)
   (ht:ρ'.get t=ρ.get t) (hk:ρ'.get k=ρ.get k) {off n1 lo:Nat} {s:Sh} {v:Value} (h:LzR ω w t k (ρ.get k).a (vals k) off n1 lo s v):
   LzR ω' w' t k (ρ'.get k).a (vals' k) off n1 lo s v:=by
 obtain⟨pc,a,len,cap,lent,tls,h1,h2,h3,h4,h5,h6,h7,h8⟩:=h
 refine⟨pc,a,len,cap,lent,tls,Place.frame S hn hk h1,h2,h3,h4,h5,h6,?_,?_⟩
 · rcases h7 with h7 | ⟨b,row,g1,g2,g3,g4⟩
   · exact .inl h7
   · obtain⟨q1,q2⟩:=S.own k hn hk b g2
     exact .inr ⟨b,row,g1,q1,by rw[rows_of_block q2];exact g3,g4⟩
 · rcases h8 with h8 | ⟨d,cap',spare,g1,g2,g3,g4,g5,g6⟩
   · exact .inl h8
   · obtain⟨q1,q2⟩:=S.own t hnt ht d g6
     exact .inr ⟨d,cap',spare,g1,g2,g3,by rw[rows_of_block q2];exact g4,g5,q1⟩
theorem TupR.mono {M M':Mem}{R R':RowFn}(hM:M.le M'):∀ (l:List (Option SV)) (vs:List Value) (bs:List Nat),
   (∀ b∈bs,R' b=R b)→TupR M R l vs bs→TupR M' R' l vs bs
 | [],[],_,_,h=>h
 | some q::l,v::vs,bs,hR,⟨cs,b1,b2,h1,h2,h3,h4⟩=>
   ⟨cs,b1,b2,h1,EncO.mono hM q.s cs q.x b1 (fun b hb=>hR b (by simp[h3,hb])) h2,h3,TupR.mono hM l vs b2 (fun b hb=>hR b (by simp[h3,hb])) h4⟩
 | none::l,_::vs,bs,hR,h=>TupR.mono (l:=l) (vs:=vs) hM bs hR h
 | [],_::_,_,_,h=>h
 | some _::_,[],_,_,h=>h
 | none::_,[],_,_,h=>h
theorem TpR.frame {n:Nat}{M M':Mem}{ω ω':Own}{w w':World}{ρ ρ':Env}{vals vals':Vl}(S:Step n M M' ω ω' w w' ρ ρ' vals vals'){k g:Nat}(hg:g≤(ρ.get k).g){e:Bx}{v:Value}
   (h:TpR (ρ.get k).g g (vals k) e v):TpR (ρ'.get k).g g (vals' k) e v:=by
 intro i he hk
 have h1:=(S.old k).g_le
 have h2:(ρ.get k).g=g:=by omega
 rw[S.ptr k (by omega)]
 exact h i he h2
theorem Rel0.frame {n:Nat}{M M':Mem}{ω ω':Own}{w w':World}{ρ ρ':Env}{vals vals':Vl}(S:Step n M M' ω ω' w w' ρ ρ' vals vals'){t:Nat}(hn:t<n)
   (ht:ρ'.get t=ρ.get t) {v:Value}:∀ {a:A},Rel0 n M ω w ρ vals t v a→Rel0 n M' ω' w' ρ' vals' t v a
 | .junk,_=>trivial
 | .c s x,⟨cs,bs,h1,h2,h3,h4⟩=>⟨cs,bs,h1,EncO.frame S hn ht h4 h2,h3,fun b hb=>(S.own t hn ht b (h4 b hb)).1⟩
 | .ptr k g off,⟨h1,h2⟩=>⟨⟨h1.1,Nat.le_trans h1.2 (S.old k).g_le⟩,fun h3=>by
     have h4:(ρ.get k).g=g:=by have:=(S.old k).g_le;have:=h1.2;omega
     obtain⟨b,h5,h6⟩:=h2 h4
     exact⟨b,by rw[S.ptr k (by omega)];exact h5,h6⟩⟩
 | .bor k g ver u x org e,⟨h1,h2⟩=>⟨h1.older (S.old k),fun h3=>by
     have hk:=(S.old k).same h1.2.1 h1.2.2 h3.1 h3.2
     obtain⟨cs,h4,h5,h6,h9,h10⟩:=h2 ⟨by rw[hk];exact h3.1,by rw[hk];exact h3.2⟩
     refine⟨cs,h4,Enc.mono (S.heap h1.1 hk.symm) u cs x h5,fun off ho=>?_,fun off et i eo he=>ElC.frame S h1.1 hk.symm (h9 off et i eo he),BxR.frame S h1.1 hk.symm h10⟩
     obtain⟨pc,h7,h8⟩:=h6 off ho
     exact⟨pc,Place.frame S h1.1 hk.symm h7,h8⟩⟩
 | .elp k g ver off et i eo arr,⟨h1,h2⟩=>⟨h1.older (S.old k),fun h3=>by
     have hk:=(S.old k).same h1.2.1 h1.2.2 h3.1 h3.2
     have h4:=h2 ⟨by rw[hk];exact h3.1,by rw[hk];exact h3.2⟩
     unfold ElpR at *
     cases arr with
     | none=>
       simp only[Option.isSome_none,Bool.false_eq_true,if_false]at h4 ⊢
       obtain⟨pc,h7,h8⟩:=h4
       exact⟨pc,Place.frame S h1.1 hk.symm h7,h8⟩
     | some n=>
       simp only[Option.isSome_some,if_true]at h4 ⊢
       rw[S.ptr k (by rw[hk])];exact h4⟩
 | .al k g ag off,⟨h1,b,cs,h2,h3,h4⟩=>⟨⟨h1.1,Nat.le_trans h1.2 (S.old k).g_le⟩,b,cs,h2,h3.mono S.mem,fun h5=>by
     have h6:(ρ.get k).g=g:=by have:=(S.old k).g_le;have:=h1.2;omega
     rw[S.ptr k (by omega)];exact h4 h6⟩
 | .eptr u x off,⟨b,o,cs,h1,h2,h3⟩=>⟨b,o,cs,h1,h2.mono S.mem,Enc.mono S.mem u cs x h3⟩
 | .cond _ _ _ _ _,h=>h.elim
 | .tup l,⟨vs,bs,h1,h2,h3,h4⟩=>⟨vs,bs,h1,TupR.mono S.mem l vs bs (fun b hi=>rows_of_block (S.own t hn ht b (h4 b hi)).2) h2,h3,fun b hb=>(S.own t hn ht b (h4 b hb)).1⟩
 | .fn f,h=>h
 | .br k g ver off n1 s ys,⟨h1,h2⟩=>⟨h1.older (S.old k),fun h3=>by
     have hk:=(S.old k).same h1.2.1 h1.2.2 h3.1 h3.2
     exact BrR.frame S hn h1.1 ht hk.symm (h2 ⟨by rw[hk];exact h3.1,by rw[hk];exact h3.2⟩)⟩
 | .lz k g ver off n1 lo s,⟨h1,h2⟩=>⟨h1.older (S.old k),fun h3=>by
     have hk:=(S.old k).same h1.2.1 h1.2.2 h3.1 h3.2
     exact LzR.frame S hn h1.1 ht hk.symm (h2 ⟨by rw[hk];exact h3.1,by rw[hk];exact h3.2⟩)⟩
 | .clo f k g,⟨h1,h2⟩=>⟨⟨h1.1,Nat.le_trans h1.2 (S.old k).g_le⟩,fun h3=>by
     have h4:(ρ.get k).g=g:=by have:=(S.old k).g_le;have:=h1.2;omega
     obtain⟨b,h5,h6⟩:=h2 h4
     exact⟨b,by rw[S.ptr k (by omega)];exact h5,h6⟩⟩
 | .rb k g ver u x org e,⟨b,v0,cs,q1,q2,q3,q4,h1,h0,h2⟩=>⟨b,v0,cs,q1,(S.own t hn ht b q2).1,by rw[rows_of_block (S.own t hn ht b q2).2];exact q3,q4,h1.older (S.old k),TpR.frame S h1.2.1 h0,fun h3=>by
     have hk:=(S.old k).same h1.2.1 h1.2.2 h3.1 h3.2
     obtain⟨cs,h4,h5,h6,h9,h10⟩:=h2 ⟨by rw[hk];exact h3.1,by rw[hk];exact h3.2⟩
     refine⟨cs,h4,Enc.mono (S.heap h1.1 hk.symm) u cs x h5,fun off ho=>?_,fun off et i eo he=>ElC.frame S h1.1 hk.symm (h9 off et i eo he),BxR.frame S h1.1 hk.symm h10⟩
     obtain⟨pc,h7,h8⟩:=h6 off ho
     exact⟨pc,Place.frame S h1.1 hk.symm h7,h8⟩⟩
theorem Rel.frame {n:Nat}{M M':Mem}{ω ω':Own}{w w':World}{ρ ρ':Env}{vals vals':Vl}(S:Step n M M' ω ω' w w' ρ ρ' vals vals'){t:Nat}(hn:t<n)
   (ht:ρ'.get t=ρ.get t) {v:Value} {a:A} (h:Rel n M ω w ρ vals t v a):Rel n M' ω' w' ρ' vals' t v a:=by
 cases a with
 | cond s g ver b a=>
   obtain⟨h1,h2⟩:=h
   refine⟨h1.older (S.old s),fun h3=>?_⟩
   have hs:=(S.old s).same h1.2.1 h1.2.2 h3.1 h3.2
   have hv:=S.ptr s (by rw[hs])
   obtain⟨h4,h5⟩:=h2 ⟨by rw[hs];exact h3.1,by rw[hs];exact h3.2⟩
   rw[hv]
   exact⟨fun e=>Rel0.frame S hn ht (h4 e),h5⟩
 | junk=>exact trivial
 | c s x=>exact Rel0.frame (a:=.c s x) S hn ht h
 | ptr k g off=>exact Rel0.frame (a:=.ptr k g off) S hn ht h
 | bor k g ver u x org e=>exact Rel0.frame (a:=.bor k g ver u x org e) S hn ht h
 | elp k g ver off et i eo arr=>exact Rel0.frame (a:=.elp k g ver off et i eo arr) S hn ht h
 | eptr u x off=>exact Rel0.frame (a:=.eptr u x off) S hn ht h
 | al k g ag off=>exact Rel0.frame (a:=.al k g ag off) S hn ht h
 | tup l=>exact Rel0.frame (a:=.tup l) S hn ht h
 | fn f=>exact h
 | br k g ver off n1 s ys=>exact Rel0.frame (a:=.br k g ver off n1 s ys) S hn ht h
 | lz k g ver off n1 lo s=>exact Rel0.frame (a:=.lz k g ver off n1 lo s) S hn ht h
 | rb k g ver u x org e=>exact Rel0.frame (a:=.rb k g ver u x org e) S hn ht h
 | clo f k g=>exact Rel0.frame (a:=.clo f k g) S hn ht h
theorem St0.step {n B:Nat}{X:List Nat}{w0:World}{M0 M M':Mem}{ω ω':Own}{ρ:Env}{tmps tmps':Array Value}{w w':World}
   (S:St0 n B X w0 M0 M ω ρ tmps w) (ws:List Wr) (hsize:tmps'.size=n) (hfr:Fr B X w w') (hM:M.le M') (hold:∀ b o,b<B→b∉X→M' b o=M b o)
   (hmem:∀ b o v,M' b o=some v→w'.cell? ⟨b,o,none⟩=some v)
   (hdis:∀ b k,ω' b=some k→(B≤b∨b∈X)∧b<w'.heap.size∧∀ o,M' b o=none)
   (hkeep:∀ t,(∀ x∈ws,x.slot=t→x.keep=true)→tmps'.getD t undef=tmps.getD t undef)
   (hlow:∀ x∈ws,x.slot<n)
   (hown:∀ t,t<n→(∀ x∈ws,x.slot≠t)→∀ b,ω b=some t→ω' b=some t∧w'.heap[b]?=w.heap[b]?)
   (hnew:∀ t,(∃ x∈ws,x.slot=t)→Step n M M' ω ω' w w' ρ (ρ.puts ws) (fun t=>tmps.getD t undef) (fun t=>tmps'.getD t undef)→
     Rel n M' ω' w' (ρ.puts ws) (fun t=>tmps'.getD t undef) t (tmps'.getD t undef) ((ρ.puts ws).get t).a):
   St0 n B X w0 M0 M' ω' (ρ.puts ws) tmps' w':=by
 have hold':∀ k,Older (ρ.get k) ((ρ.puts ws).get k):=fun k=>Older.puts ws ρ k
 have hgk:∀ t,((ρ.puts ws).get t).g=(ρ.get t).g→∀ x∈ws,x.slot=t→x.keep=true:=by
   intro t
   have key:∀ (ws:List Wr) (ρ:Env),((ρ.puts ws).get t).g=(ρ.get t).g→∀ x∈ws,x.slot=t→x.keep=true:=by
     intro ws
     induction ws with
     | nil=>intro ρ _ x hx;simp at hx
     | cons y r ih=>
       intro ρ h x hx hs
       have h':(((ρ.put y).puts r).get t).g=(ρ.get t).g:=h
       have o1:=(Older.put ρ y t).g_le
       have o2:=(Older.puts r (ρ.put y) t).g_le
       rcases List.mem_cons.1 hx with rfl | hx
       · cases hk:x.keep with
         | true=>rfl
         | false=>
           have:((ρ.put x).get t).g=(ρ.get t).g+1:=by rw[Env.get_put,if_pos hs.symm,hk];rfl
           omega
       · exact ih (ρ.put y) (by omega) x hx hs
   exact key ws ρ
 have hsame:∀ k,(ρ.puts ws).get k=ρ.get k→∀ x∈ws,x.slot≠k:=by
   intro k
   have key:∀ (ws:List Wr) (ρ:Env),(ρ.puts ws).get k=ρ.get k→∀ x∈ws,x.slot≠k:=by
     intro ws
     induction ws with
     | nil=>intro ρ _ x hx;simp at hx
     | cons y r ih=>
       intro ρ h x hx hs
       have h':((ρ.put y).puts r).get k=ρ.get k:=h
       have o2:=Older.puts r (ρ.put y) k
       rw[h']at o2
       by_cases hy:y.slot=k
       · have o1:(ρ.get k).g<((ρ.put y).get k).g∨((ρ.get k).g=((ρ.put y).get k).g∧(ρ.get k).ver<((ρ.put y).get k).ver):=by
           rw[Env.get_put,if_pos hy.symm]
           cases y.keep
           · left;simp
           · right;simp
         rcases o2 with o2 | ⟨o2,o3⟩ | o2
         · omega
         · omega
         · rw[o2]at o1;omega
       · have e:(ρ.put y).get k=ρ.get k:=by rw[Env.get_put,if_neg (fun e=>hy e.symm)]
         rcases List.mem_cons.1 hx with rfl | hx
         · exact hy hs
         · exact ih (ρ.put y) (by rw[h',e]) x hx hs
   exact key ws ρ
 have hst:Step n M M' ω ω' w w' ρ (ρ.puts ws) (fun t=>tmps.getD t undef) (fun t=>tmps'.getD t undef):=
   { mem:=hM
     dis:=fun b k h=>(hdis b k h).2.2
     old:=hold'
     ptr:=fun k h=>hkeep k (hgk k h)
     own:=fun k hn h=>hown k hn (hsame k h) }
 refine { size:=hsize,fr:=S.fr.trans hfr,m0:=Mem.le_trans S.m0 hM,old:=fun b o hb hx=>(hold b o hb hx).trans (S.old b o hb hx),mem:=hmem,dis:=hdis,high:=fun t ht=>?_,slots:=fun t htn=>?_ }
 · rw[Env.puts_other ws ρ t (fun x hx e=>by have:=hlow x hx;omega)];exact S.high t ht
 by_cases ht:∃ x∈ws,x.slot=t
 · exact hnew t ht hst
 · have hne:∀ x∈ws,x.slot≠t:=fun x hx e=>ht ⟨x,hx,e⟩
   have he:=Env.puts_other ws ρ t hne
   rw[he]
   have hv:tmps'.getD t undef=tmps.getD t undef:=hkeep t (fun x hx e=>(hne x hx e).elim)
   rw[hv]
   exact Rel.frame hst htn he (S.slots t htn)
end Fw
namespace Fw
open Go
def repN (f:List Value→Option (List Value)):Nat→List Value→Option (List Value)
 | 0,vs=>some vs
 | m+1,vs=>match f vs with | some r=>repN f m r | none=>none
def zc:Ty→List Value→Option (List Value)
 | .int k,.int k' n::r=>if k=k'∧n=0 then some r else none
 | .bool,.bool b::r=>if b=false then some r else none
 | .str,.string s::r=>if s.data.toList=[]then some r else none
 | .slice _,.slice none 0 0::r=>some r
 | .pair a b,vs=>match zc a vs with | some r=>zc b r | none=>none
 | .arr n e,vs=>repN (zc e) n vs
 | _,_=>none
def zOk (T:Ty):Value→Bool
 | .agg cs=>T.ag&&(match zc T cs.toList with | some []=>true | _=>false)
 | z=>!T.ag&&(match zc T [z]with | some []=>true | _=>false)
def pairTy:List Ty→Option Ty
 | []=>none
 | [_]=>none
 | [a,b]=>some (.pair a b)
 | a::r=>match pairTy r with | some t=>some (.pair a t) | none=>none
def baseOk (P:Program)(t:TypeId)(T:Ty):Bool:=
 match P.info? t with
 | some i=>i.size==T.size&&decide (i.bytes≤32768)&&(match i.zero with | some z=>zOk T z | none=>false)
 | none=>false
def optAll {α β:Type}(f:α→Option β):List α→Option (List β)
 | []=>some []
 | a::r=>match f a,optAll f r with | some b,some l=>some (b::l) | _,_=>none
def tyOf (P:Program):Nat→TypeId→Option Ty
 | 0,_=>none
 | n+1,t=>
   let r:Option Ty:=match P.underlying t with
     | some (.int k)=>some (.int k)
     | some .bool=>some .bool
     | some .string=>some .str
     | some (.slice e)=>match tyOf P n e with | some T=>some (.slice T) | none=>none
     | some (.array m e)=>match tyOf P n e with | some T=>some (.arr m T) | none=>none
     | some (.struct fs)=>match optAll (fun f=>tyOf P n f.type) fs.toList with | some l=>pairTy l | none=>none
     | _=>none
   match r with
   | some T=>if baseOk P t T=true then some T else none
   | none=>none
def TyR (P:Program)(t:TypeId)(T:Ty):Prop:=∃ n,tyOf P n t=some T
theorem tyOf_raw {P:Program}{n:Nat}{t:TypeId}{T:Ty}(h:tyOf P (n+1) t=some T):
   baseOk P t T=true∧(match P.underlying t with
     | some (.int k)=>T=.int k
     | some .bool=>T=.bool
     | some .string=>T=.str
     | some (.slice e)=>∃ E,tyOf P n e=some E∧T=.slice E
     | some (.array m e)=>∃ E,tyOf P n e=some E∧T=.arr m E
     | some (.struct fs)=>∃ l,optAll (fun f=>tyOf P n f.type) fs.toList=some l∧pairTy l=some T
     | _=>False):=by
 simp only[tyOf]at h
 split at h
 · rename_i T' hr
   split at h
   · rename_i hb
     simp only[Option.some.injEq]at h
     subst h
     refine⟨hb,?_⟩
     cases hu:P.underlying t with
     | none=>rw[hu]at hr;simp at hr
     | some d=>
       rw[hu]at hr
       cases d<;>simp at hr ⊢
       case int k=>exact hr.symm
       case bool=>exact hr.symm
       case string=>exact hr.symm
       case slice e=>
         split at hr
         · rename_i E he;simp at hr;exact⟨E,he,hr.symm⟩
         · simp at hr
       case array m e=>
         split at hr
         · rename_i E he;simp at hr;exact⟨E,he,hr.symm⟩
         · simp at hr
       case struct fs=>
         split at hr
         · rename_i l he;exact⟨l,he,hr⟩
         · simp at hr
   · simp at h
 · simp at h
theorem pairTy_pair:∀ (l:List Ty) (T:Ty),pairTy l=some T→∃ a b,T=.pair a b
 | [],_,h=>by simp[pairTy]at h
 | [_],_,h=>by simp[pairTy]at h
 | [a,b],T,h=>by simp[pairTy]at h;exact⟨a,b,h.symm⟩
 | a::b::c::r,T,h=>by
   simp only[pairTy]at h
   split at h
   · simp at h;exact⟨_,_,h.symm⟩
   · simp at h
theorem TyR.base {P:Program}{t:TypeId}{T:Ty}(h:TyR P t T):baseOk P t T=true:=by
 obtain⟨n,h⟩:=h
 cases n with
 | zero=>simp[tyOf]at h
 | succ n=>exact(tyOf_raw h).1
theorem TyR.info {P:Program}{t:TypeId}{T:Ty}(h:TyR P t T):∃ i,P.info? t=some i∧i.size=T.size∧i.bytes≤32768∧∃ z,i.zero=some z∧zOk T z=true:=by
 have hb:=h.base
 unfold baseOk at hb
 split at hb
 · rename_i i hi
   simp only[Bool.and_eq_true,beq_iff_eq,decide_eq_true_eq]at hb
   obtain⟨⟨h1,h2⟩,h3⟩:=hb
   split at h3
   · rename_i z hz;exact⟨i,hi,h1,h2,z,hz,h3⟩
   · simp at h3
 · simp at hb
theorem TyR.under {P:Program}{t:TypeId}{T:Ty}(h:TyR P t T):match T with
   | .int k=>P.underlying t=some (.int k)
   | .bool=>P.underlying t=some .bool
   | .str=>P.underlying t=some .string
   | .slice E=>∃ e,P.underlying t=some (.slice e)∧TyR P e E
   | .arr m E=>∃ e,P.underlying t=some (.array m e)∧TyR P e E
   | .pair a b=>∃ fs n l,P.underlying t=some (.struct fs)∧optAll (fun f=>tyOf P n f.type) fs.toList=some l∧pairTy l=some (.pair a b):=by
 obtain⟨n,h⟩:=h
 cases n with
 | zero=>simp[tyOf]at h
 | succ n=>
   have:=(tyOf_raw h).2
   cases hu:P.underlying t with
   | none=>rw[hu]at this;exact this.elim
   | some d=>
     rw[hu]at this
     cases d<;>simp only at this
     case int k=>subst this;rfl
     case bool=>subst this;rfl
     case string=>subst this;rfl
     case slice e=>obtain⟨E,h1,rfl⟩:=this;exact⟨e,rfl,n,h1⟩
     case array m e=>obtain⟨E,h1,rfl⟩:=this;exact⟨e,rfl,n,h1⟩
     case struct fs=>
       obtain⟨l,h1,h2⟩:=this
       obtain⟨a,b,rfl⟩:=pairTy_pair l T h2
       exact⟨fs,n,l,rfl,h1,h2⟩
     all_goals exact this.elim
section runs
variable {P:Program} {w:World} {t:TypeId} {T:Ty}
theorem run_underlying' {d:TypeDesc}(h:P.underlying t=some d):(underlying t).run P w=.ok d w:=by
 simp[underlying,h]
theorem run_sizeOf (h:TyR P t T):(Go.sizeOf t).run P w=.ok T.size w:=by
 obtain⟨i,h1,h2,_⟩:=h.info
 simp[Go.sizeOf,typeInfo,h1,h2]
theorem run_isAgg (h:TyR P t T):(isAgg t).run P w=.ok T.ag w:=by
 have hu:=h.under
 cases T with
 | int k=>simp[isAgg,run_underlying' hu,Ty.ag]
 | bool=>simp[isAgg,run_underlying' hu,Ty.ag]
 | str=>simp[isAgg,run_underlying' hu,Ty.ag]
 | slice e=>obtain⟨e',h1,_⟩:=hu;simp[isAgg,run_underlying' h1,Ty.ag]
 | arr m e=>obtain⟨e',h1,_⟩:=hu;simp[isAgg,run_underlying' h1,Ty.ag]
 | pair a b=>obtain⟨fs,n,l,h1,_⟩:=hu;simp[isAgg,run_underlying' h1,Ty.ag]
end runs
def full (w:World):Mem:=fun b o=>w.cell? ⟨b,o,none⟩
theorem addr_add (b o n:Nat):(Addr.mk b o none).add n=⟨b,o+n,none⟩:=by
 unfold Addr.add;split
 · rename_i h;subst h;rfl
 · rfl
theorem run_loadCellsFrom {P:Program}{w:World}{b o:Nat}:∀ (n i:Nat) (acc:Array Value) (cs:List Value),cs.length=n→
   CellsAt (full w) b (o+i) cs→(loadCellsFrom ⟨b,o,none⟩ i n acc).run P w=.ok (acc++cs.toArray) w
 | 0,i,acc,cs,hl,_=>by
   have:cs=[]:=List.length_eq_zero_iff.1 hl
   subst this;simp[loadCellsFrom]
 | n+1,i,acc,[],hl,_=>by simp at hl
 | n+1,i,acc,c::cs,hl,hc=>by
   have h0:w.cell? ⟨b,o+i,none⟩=some c:=hc 0 c rfl
   have ih:=run_loadCellsFrom (P:=P) n (i+1) (acc.push c) cs (by simpa using hl) (fun j d hj=>by
     have:=hc (j+1) d (by simpa using hj)
     rwa [show o+i+(j+1)=o+(i+1)+j by omega]at this)
   simp only[loadCellsFrom,Sem.run_bind,run_load,addr_add,h0,Result.andThen_ok]
   rw[ih]
   congr 1
   apply Array.ext'
   simp
theorem run_loadCells {P:Program}{w:World}{b o n:Nat}{cs:List Value}(hl:cs.length=n)(hc:CellsAt (full w) b o cs):
   (loadCells ⟨b,o,none⟩ n).run P w=.ok cs.toArray w:=by
 unfold loadCells
 rw[run_loadCellsFrom n 0 #[] cs hl (by simpa using hc)]
 simp
theorem run_loadVar {P:Program}{w:World}{t:TypeId}{T:Ty}(h:TyR P t T){b o:Nat}{cs:List Value}{v:Value}
   (hl:cs.length=T.size) (hc:CellsAt (full w) b o cs) (hv:ValC T.ag v cs):(loadVar t ⟨b,o,none⟩).run P w=.ok v w:=by
 unfold loadVar
 rw[Sem.run_bind,run_isAgg h]
 unfold ValC at hv
 cases hag:T.ag with
 | true=>
   rw[hag]at hv
   simp only[if_true]at hv
   subst hv
   simp[run_sizeOf h,run_loadCells hl hc]
 | false=>
   rw[hag]at hv
   simp only[Bool.false_eq_true,if_false]at hv
   subst hv
   have:w.cell? ⟨b,o,none⟩=some v:=by simpa [full] using hc 0 v rfl
   simp[this]
def Plain (cs:List Value):Prop:=∀ c∈cs,c.oneCell'=true
theorem Enc.plain {M:Mem}:∀ (t:Ty) (vs:List Value) (x:El t),Enc M t vs x→Plain vs
 | .int _,_,_,h=>by rw[h.1];intro c hc;simp at hc;subst hc;rfl
 | .bool,_,_,h=>by rw[show _=_ from h];intro c hc;simp at hc;subst hc;rfl
 | .str,_,_,h=>by rw[h.1];intro c hc;simp at hc;subst hc;rfl
 | .slice e,vs,xs,⟨a,cap,h,_⟩=>by rw[h];intro c hc;simp at hc;subst hc;rfl
 | .pair a b,vs,x,⟨v1,v2,h1,h2,h3⟩=>by
   subst h1;intro c hc
   rcases List.mem_append.1 hc with hc | hc
   · exact Enc.plain a _ _ h2 c hc
   · exact Enc.plain b _ _ h3 c hc
 | .arr n e,vs,xs,⟨h1,h2⟩=>by
   have key:∀ (xs:List (El e)) (vs:List Value),Groups (Enc M e) e.size vs xs→Plain vs:=by
     intro xs
     induction xs with
     | nil=>intro vs h c hc;rw[show vs=[]from h]at hc;simp at hc
     | cons x xs ih=>
       intro vs ⟨v1,v2,h1,_,h3,h4⟩ c hc
       subst h1
       rcases List.mem_append.1 hc with hc | hc
       · exact Enc.plain e _ _ h3 c hc
       · exact ih v2 h4 c hc
   exact key xs vs h2
structure Upd (w:World) (b:Nat) (row':List Value) (w':World):Prop where
 os:w'.os=w.os
 tape:w'.tape=w.tape
 output:w'.output=w.output
 size:w'.heap.size=w.heap.size
 row:rows w' b=some row'
 other:∀ k,k≠b→w'.heap[k]?=w.heap[k]?
theorem rows_cells {w:World}{b:Nat}{row:List Value}(h:rows w b=some row):
   ∃ c e fr,w.heap[b]?=some (.cells c e fr)∧c.toList=row∧(fr.2≤fr.1∨c.size≤fr.1):=by
 unfold rows at h
 split at h
 · rename_i c e fr hb
   split at h
   · rename_i hf;simp at h;exact⟨c,e,fr,hb,h,hf⟩
   · simp at h
 · simp at h
theorem rows_cell {w:World}{b:Nat}{row:List Value}(h:rows w b=some row)(o:Nat):w.cell? ⟨b,o,none⟩=row[o]?:=by
 obtain⟨c,e,fr,h1,h2,h3⟩:=rows_cells h
 subst h2
 simp[World.cell?,h1]
theorem rows_full {w:World}{b:Nat}{row:List Value}(h:rows w b=some row):CellsAt (full w) b 0 row:=fun j c hj=>by
 show w.cell? _=_
 rw[rows_cell h];simpa using hj
theorem rows_frozen {w:World}{b:Nat}{row:List Value}(h:rows w b=some row){o:Nat}(ho:o<row.length):w.frozen? ⟨b,o,none⟩=false:=by
 obtain⟨c,e,fr,h1,h2,h3⟩:=rows_cells h
 subst h2
 simp only[World.frozen?,h1]
 simp at ho
 rcases h3 with h3 | h3
 · by_cases hh:fr.1≤o
   · have:¬o<fr.2:=by omega
     simp[this]
   · simp[hh]
 · have:¬fr.1≤o:=by omega
   simp[this]
theorem rows_lt {w:World}{b:Nat}{row:List Value}(h:rows w b=some row):b<w.heap.size:=by
 obtain⟨c,e,fr,h1,_⟩:=rows_cells h
 rcases Nat.lt_or_ge b w.heap.size with h' | h'
 · exact h'
 · simp[Array.getElem?_eq_none h']at h1
theorem rows_setCell {w:World}{b o:Nat}{row:List Value}(h:rows w b=some row)(v:Value):rows (w.setCell ⟨b,o,none⟩ v) b=some (row.set o v):=by
 obtain⟨c,e,fr,h1,h2,h3⟩:=rows_cells h
 subst h2
 simp only[rows,World.setCell,Array.getElem?_modify,if_true,h1,Option.map_some]
 have hs:(none:Option Nat).isSome=false:=rfl
 simp only[hs,Bool.false_eq_true,if_false,Array.size_setIfInBounds]
 rw[if_pos h3]
 simp
theorem run_store_row {P:Program}{w:World}{b o:Nat}{row:List Value}{v:Value}(h:rows w b=some row)(ho:o<row.length)(hv:v.oneCell'=true):
   (store ⟨b,o,none⟩ v).run P w=.ok () (w.setCell ⟨b,o,none⟩ v):=by
 rw[run_store P w _ v _ hv,rows_cell h,List.getElem?_eq_getElem ho,rows_frozen h ho]
 rfl
theorem run_storeCells {P:Program}:∀ (cs:List Value) (i:Nat) (w:World) (b o:Nat) (row:List Value),rows w b=some row→o+i+cs.length≤row.length→Plain cs→
   ∃ w',(storeCells ⟨b,o,none⟩ cs i).run P w=.ok () w'∧Upd w b (row.take (o+i)++cs++row.drop (o+i+cs.length)) w'
 | [],i,w,b,o,row,h,_,_=>⟨w,rfl,rfl,rfl,rfl,rfl,by simpa using h,fun _ _=>rfl⟩
 | c::cs,i,w,b,o,row,h,hl,hp=>by
   have ho:o+i<row.length:=by simp at hl;omega
   have h1:=run_store_row (P:=P) h ho (hp c (by simp))
   obtain⟨w',h2,h3⟩:=run_storeCells (P:=P) cs (i+1) (w.setCell ⟨b,o+i,none⟩ c) b o (row.set (o+i) c) (rows_setCell h c) (by simp at hl ⊢;omega) (fun d hd=>hp d (by simp[hd]))
   refine⟨w',?_,?_⟩
   · simp only[storeCells,Sem.run_bind,addr_add,h1,Result.andThen_ok];exact h2
   · refine⟨h3.os,h3.tape,h3.output,by rw[h3.size];simp,?_,fun k hk=>?_⟩
     · rw[h3.row]
       congr 1
       have e1:(row.set (o+i) c).take (o+(i+1))=row.take (o+i)++[c]:=by
         rw[show o+(i+1)=(o+i)+1 by omega,List.take_succ_eq_append_getElem (by simpa using ho)]
         simp[List.take_set_of_le]
       have e2:(row.set (o+i) c).drop (o+(i+1)+cs.length)=row.drop (o+i+(c::cs).length):=by
         rw[List.drop_set_of_lt (by omega)]
         congr 1;simp;omega
       rw[e1,e2];simp
     · rw[h3.other k hk,RowKit.Below.heap_setCell _ _ _ _ hk]
theorem run_storeVar {P:Program}{w:World}{t:TypeId}{T:Ty}(h:TyR P t T){b o:Nat}{row cs:List Value}{v:Value}
   (hr:rows w b=some row) (hl:cs.length=T.size) (ho:o+cs.length≤row.length) (hp:Plain cs) (hv:v.cells.toList=cs):
   ∃ w',(storeVar t ⟨b,o,none⟩ v).run P w=.ok () w'∧Upd w b (row.take o++cs++row.drop (o+cs.length)) w':=by
 obtain⟨w',h1,h2⟩:=run_storeCells (P:=P) cs 0 w b o row hr (by simpa using ho) hp
 refine⟨w',?_,by simpa using h2⟩
 have hsz:v.cells.size=T.size:=by rw[←hl,←hv];simp
 unfold storeVar
 simp only[Sem.run_bind,run_sizeOf h,Result.andThen_ok]
 rw[if_neg (by simp[hsz]),hv]
 exact h1
theorem ValC.cells {ag:Bool}{v:Value}{cs:List Value}(h:ValC ag v cs)(hp:Plain cs):v.cells.toList=cs:=by
 unfold ValC at h
 cases ag with
 | true=>simp only[if_true]at h;subst h;simp[Value.cells]
 | false=>
   simp only[Bool.false_eq_true,if_false]at h;subst h
   have:=hp v (by simp)
   cases v<;>first | rfl | (simp[Value.oneCell']at this)
theorem rows_alloc {w:World}(c:Array Value)(e:TypeId):rows (w.alloc (.cells c e)) w.heap.size=some c.toList:=by
 unfold rows World.alloc
 simp
theorem heap_alloc_old {w:World}{o:Obj}{k:Nat}(h:k<w.heap.size):(w.alloc o).heap[k]?=w.heap[k]?:=RowKit.Below.heap_alloc w o k h
theorem Fr.alloc {B:Nat}{X:List Nat}(w:World)(o:Obj)(h:B≤w.heap.size):Fr B X w (w.alloc o):=
 ⟨rfl,rfl,rfl,by simp,fun k hk _=>heap_alloc_old (by omega)⟩
end Fw
namespace Fw
open Go
def w1 (d:Nat)(a:A):Wr:=⟨d,false,a⟩
def out1 (d:Nat)(a:A):Out:=some ([w1 d a],[])
def exCopy (C:Ctx)(asg:Bool)(d:Nat)(a:Opd):Out:=
 match a.a with
 | .c s x=>
   if s.free=true then out1 d (.c s x)
   else match a.slot with
     | some j=>
       if asg=true then some ([w1 j .junk,w1 d (.c s x)],[])
       else match a.ent.a with
         | .c (.ref _) _=>out1 d (.ptr j a.ent.g 0)
         | .c s' x'=>if s'.noref=true then out1 d (.bor j a.ent.g a.ent.ver s'.ty x' (some 0) .t)else none
         | _=>none
     | none=>none
 | .bor k g ver t x org e=>
   if (asg&&C.res.contains d)=true then none
   else out1 d (.bor k g ver t x org e)
 | .ptr k g off=>out1 d (.ptr k g off)
 | .eptr u x off=>out1 d (.eptr u x off)
 | .al k g ag off=>out1 d (.al k g ag off)
 | .elp k g ver off et i eo arr=>out1 d (.elp k g ver off et i eo arr)
 | .fn f=>out1 d (.fn f)
 | .clo f k g=>out1 d (.clo f k g)
 | .tup l=>match a.slot with | some j=>some ([w1 j .junk,w1 d (.tup l)],[]) | none=>none
 | _=>none
def exNil (C:Ctx)(t:TypeId)(d:Nat):Out:=
 match C.ty t with
 | some (.slice e)=>out1 d (.c (.nil e) [])
 | _=>none
def exPick (d:Nat)(c:Opd)(ab:(s g ver:Nat)→Opd×Opd):Out:=
 rd .bool c fun cb=>
 match c.slot with
 | some s=>
   rd .bool (ab s c.ent.g c.ent.ver).1 fun x=>
   rd .bool (ab s c.ent.g c.ent.ver).2 fun y=>out1 d (.c (.pure .bool) (pick2 cb x y))
 | none=>none
def isRef:A→Bool
 | .c (.ref _) _=>true
 | _=>false
def alOf (C:Ctx)(T:Ty)(a:Opd):Option (Nat×Nat×Bool):=
 match C.pins with
 | []=>none
 | p::r=>match a.slot,a.ent.a with
   | some j,.c s _=>if (p::r).contains j=true∧s.free=false∧s.ty=T∧s.noref=true then some (j,a.ent.g,s.ag)else none
   | _,_=>none
def exBox (C:Ctx)(t:TypeId)(d:Nat)(a:Opd):Out:=
 match C.ty t with
 | some T=>match alOf C T a with
   | some (j,g,ag)=>out1 d (.al j g ag 0)
   | none=>tk a fun s x ws=>if s.ty=T then(if s.noref=true then some (ws++[w1 d (.c (.ref s) x)],[])else none)else none
 | none=>none
def exAlloc (C:Ctx)(t:TypeId)(d:Nat):Out:=
 match C.ty t with
 | some T=>zeroK T fun s x=>out1 d (.c (.ref s) x)
 | none=>none
def give (d j g ver:Nat)(org:Option Nat)(s:Sh)(y:El s.ty):Out:=
 if s.free=true then out1 d (.c s y)
 else if s.noref=true then out1 d (.bor j g ver s.ty y org .t)else none
def giveB (d j g ver:Nat)(b:Bx)(s:Sh)(y:El s.ty):Out:=
 if s.free=true then out1 d (.c s y)
 else if s.noref=true then out1 d (.bor j g ver s.ty y none b)else none
def elB (arr:Option Nat)(off:Nat)(et:Ty)(i eo:Nat):Bx:=
 match arr with
 | none=>.el off et i eo
 | some _=>.t
def elemK {R:Type}(e:Ent)(off:Nat)(et:Ty)(i:Nat)(arr:Option Nat)(k:(s:Sh)→El s.ty→Option R):Option R:=
 match arr with
 | none=>contK e fun s x=>s.subK x off (.slice et) fun s1 y1=>
   match s1,y1 with
   | .own e,ys=>if e.noref=true then k e (ys.getD i (dflt e.ty))else none
   | .pure (.slice e),ys=>k (.pure e) (ys.getD i (dflt e))
   | _,_=>none
 | some n=>
   match e.a with
   | .c (.ref s) x=>s.subK x off (.arr n et) fun s1 y1=>
     match s1,y1 with
     | .pure (.arr _ e),ys=>k (.pure e) (ys.getD i (dflt e))
     | _,_=>none
   | _=>none
def exLoad (C:Ctx)(t:TypeId)(d:Nat)(a:Opd):Out:=
 match C.ty t with
 | some T=>
   match a.a with
   | .eptr u x off=>El.subK u x off T fun y=>out1 d (.c (.pure T) y)
   | .elp k g ver off et i eo arr=>
     if a.tgt.g=g∧a.tgt.ver=ver then
       elemK a.tgt off et i arr fun e y=>e.subK y eo T fun s z=>giveB d k a.tgt.g a.tgt.ver (elB arr off et i eo) s z
     else none
   | .al k g ag off=>if a.tgt.g=g then
       match a.tgt.a with
       | .c s x=>if ag=s.ag∧s.noref=true then s.subK x off T fun s' y=>give d k a.tgt.g a.tgt.ver (some off) s' y else none
       | _=>none
     else none
   | .rb k g ver u x org b=>if a.tgt.g=g∧a.tgt.ver=ver∧T=u then out1 d (.bor k g ver u x org b)else none
   | _=>ptrK a fun j g off e=>
     if e.g=g then
       match e.a with
       | .c (.ref s) x=>s.subK x off T fun s' y=>give d j g e.ver (some off) s' y
       | _=>none
     else none
 | none=>none
def isOrg:A→Bool
 | .bor _ _ _ _ _ (some _) .t=>true
 | _=>false
def takeK {R:Type}(C:Ctx)(j:Nat)(v:Opd)(k:(s:Sh)→El s.ty→List Wr→Option R):Option R:=
 if (C.res.contains j&&isOrg v.a)=true then tkOwn v k else tk v k
def isLate:A→Bool
 | .bor _ _ _ _ _ (some _) .t=>true
 | .bor _ _ _ _ _ none (.tp _)=>true
 | _=>false
def exStoreL (T:Ty)(a v:Opd):Out:=
 ptrK a fun j g off e=>
   if e.g=g∧off=0 then
     match e.a with
     | .c (.ref s) _=>
       match v.a with
       | .bor k g2 ver u x org b=>if u=T∧s.ty=T∧s.size=T.size∧v.tgt.g=g2∧v.tgt.ver=ver∧k≠j then some ([⟨j,true,.rb k g2 ver u x org b⟩],[])else none
       | _=>none
     | _=>none
   else none
def isBw:A→Bool
 | .bor _ _ _ _ _ _ _=>true
 | _=>false
def exStore (C:Ctx)(t:TypeId)(a v:Opd):Out:=
 match C.ty t with
 | some T=>
   if (C.late&&isLate v.a||C.lateB&&isBw v.a)=true then exStoreL T a v else
   match a.a with
   | .elp _ _ _ _ _ _ _ _=>none
   | _=>ptrK a fun j g off e=>
     if e.g=g then
       takeK C j v fun s' y ws=>
       if s'.ty=T∧s'.noref=true∧noneIs j ws=true then
         match e.a with
         | .c (.ref s) x=>s.updK x off s' y fun s2 x2=>some (ws++[⟨j,true,.c (.ref s2) x2⟩],[])
         | _=>none
       else none
     else none
 | none=>none
def exMovePtr (d:Nat)(a:Opd)(o:Nat):Out:=
 match a.a with
 | .eptr u x off=>out1 d (.eptr u x (off+o))
 | .al k g ag off=>out1 d (.al k g ag (off+o))
 | .elp k g ver off et i eo arr=>if a.tgt.g=g∧a.tgt.ver=ver then out1 d (.elp k g ver off et i (eo+o) arr)else none
 | _=>ptrK a fun j g off e=>if e.g=g then out1 d (.ptr j g (off+o))else none
def exFieldAddr (C:Ctx)(t:TypeId)(d:Nat)(a:Opd)(f:Nat):Out:=
 match look C.flds t with
 | some l=>match l[f]? with
   | some (o,_)=>exMovePtr d a o
   | none=>none
 | none=>none
def exIndexAddr (C:Ctx)(t:TypeId)(d:Nat)(a i:Opd):Out:=
 rd (.int .i64) i fun idx=>
 match C.ty t with
 | some (.slice E)=>
   match a.a with
   | .c (.pure (.slice e)) xs=>if e=E then some ([w1 d (.eptr e (xs.getD idx.toNat (dflt e)) 0)],[inRange idx xs.length])else none
   | .c (.own _) _=>match a.slot,a.ent.a with
     | some j,.c (.own e) xs=>if e.ty=E then some ([w1 d (.elp j a.ent.g a.ent.ver 0 e.ty idx.toNat 0 none)],[inRange idx xs.length])else none
     | _,_=>none
   | .bor k g ver (.slice e) xs (some off) _=>
     if a.tgt.g=g∧a.tgt.ver=ver∧e=E then some ([w1 d (.elp k g ver off e idx.toNat 0 none)],[inRange idx xs.length])else none
   | _=>none
 | some (.arr n e)=>ptrK a fun j g off en=>
   if en.g=g∧2≤n then some ([w1 d (.elp j g en.ver off e idx.toNat 0 (some n))],[inRange idx n])else none
 | _=>none
def exIndex (C:Ctx)(t:TypeId)(d:Nat)(a i:Opd):Out:=
 rd (.int .i64) i fun idx=>
 match C.ty t with
 | some (.arr n e)=>if e.flat=true∧e.ag=false then rd (.arr n e) a fun xs=>some ([w1 d (.c (.pure e) (xs.getD idx.toNat (dflt e)))],[inRange idx n])else none
 | some .str=>rd .str a fun xs=>some ([w1 d (.c (.pure (.int .u8)) ((xs.getD idx.toNat 0).toNat:Int))],[inRange idx xs.length])
 | _=>none
def exExtract (d:Nat)(a:Opd)(i:Nat):Out:=
 match a.a,a.slot with
 | .tup l,some j=>match l[i]? with
   | some (some ⟨s,x⟩)=>if s.free=true then out1 d (.c s x)else if s.noref=true then out1 d (.bor j a.ent.g a.ent.ver s.ty x none (.tp i))else none
   | _=>none
 | _,_=>none
def exUn (op:UnOp)(d:Nat)(t:Ty)(a:Opd):Out:=
 match op,t with
 | .not,.bool=>rd .bool a fun x=>out1 d (.c (.pure .bool) (!x))
 | .neg,.int k=>rd (.int k) a fun x=>out1 d (.c (.pure (.int k)) (k.wrap (0-x)))
 | _,_=>none
def exBin (C:Ctx)(op:BinOp)(t u:TypeId)(d:Nat)(a b:Opd):Out:=
 match C.ty t with
 | some (.int k)=>
   match op with
   | .shl | .shr=>match C.ty u with
     | some (.int k2)=>rd (.int k) a fun x=>rd (.int k2) b fun y=>
       match shiftInt op k x y with | some (r,cs)=>some ([w1 d r],cs) | none=>none
     | _=>none
   | _=>rd (.int k) a fun x=>rd (.int k) b fun y=>match binInt op k x y with | some (r,cs)=>some ([w1 d r],cs) | none=>none
 | some .str=>rd .str a fun x=>rd .str b fun y=>match binStr op x y with | some (r,cs)=>some ([w1 d r],cs) | none=>none
 | some .bool=>rd .bool a fun x=>rd .bool b fun y=>
   match op with
   | .eql=>out1 d (.c (.pure .bool) (x==y))
   | .neq=>out1 d (.c (.pure .bool) (x != y))
   | _=>none
 | some (.pair T1 T2)=>
   if C.eqs.contains t=true then rd (.pair T1 T2) a fun x=>rd (.pair T1 T2) b fun y=>
     match op with
     | .eql=>out1 d (.c (.pure .bool) (El.eq (.pair T1 T2) x y))
     | .neq=>out1 d (.c (.pure .bool) (!(El.eq (.pair T1 T2) x y)))
     | _=>none
   else none
 | _=>none
def exConvert (C:Ctx)(t u:TypeId)(d:Nat)(a:Opd):Out:=
 match C.ty t,C.ty u with
 | some (.int k),some (.int k2)=>rd (.int k) a fun x=>out1 d (.c (.pure (.int k2)) (k2.wrap x))
 | some .str,some (.slice (.int .u8))=>rd .str a fun x=>some ([w1 d (.c (.own (.pure (.int .u8))) (bytesOf x))],[x.length≤maxNew])
 | some (.slice (.int .u8)),some .str=>rd (.slice (.int .u8)) a fun x=>out1 d (.c (.pure .str) (strOf x))
 | _,_=>none
def exTake (d:Nat)(a:Opd):Out:=tkOwn a fun s y ws=>some (ws++[w1 d (.c s y)],[])
def loK {R:Type}(o:Option Opd)(k:Int→Option R):Option R:=
 match o with
 | none=>k 0
 | some o=>rd (.int .i64) o k
def hiK {R:Type}(o:Option Opd)(n:Int)(k:Int→Option R):Option R:=
 match o with
 | none=>k n
 | some o=>rd (.int .i64) o k
def subL {α:Type}(xs:List α)(l h:Int):List α:=(xs.take h.toNat).drop l.toNat
def preO {α:Type}(lo:Option α)(org:Option Nat):Bx→Option Nat
 | .t=>match lo with | none=>org | some _=>none
 | .f=>match lo with | none=>org | some _=>none
 | _=>none
def tlB {α:Type}(lo hi:Option α)(org:Option Nat)(b:Bx)(l:Nat):Bx:=
 match lo,hi,org,b with
 | some _,none,some off,.t=>.tl off l
 | _,_,_,_=>.f
def exSlice (C:Ctx)(t:TypeId)(d:Nat)(a:Opd)(lo hi:Option Opd):Out:=
 match C.ty t with
 | some (.slice E)=>
   match a.a with
   | .c (.pure (.slice e)) xs=>if e=E then loK lo fun l=>hiK hi xs.length fun h=>some ([w1 d (.c (.pure (.slice e)) (subL xs l h))],[0≤l,l≤h,h≤xs.length])else none
   | .c (.own _) _=>match a.slot,a.ent.a with
     | some j,.c (.own e) xs=>if e.ty=E∧e.noref=true then loK lo fun l=>hiK hi xs.length fun h=>some ([w1 d (.bor j a.ent.g a.ent.ver (.slice e.ty) (subL xs l h) (preO lo (some 0) .t) (tlB lo hi (some 0) .t l.toNat))],[0≤l,l≤h,h≤xs.length])else none
     | _,_=>none
   | .bor k g ver (.slice e) xs org b=>
     if a.tgt.g=g∧a.tgt.ver=ver∧e=E then loK lo fun l=>hiK hi xs.length fun h=>some ([w1 d (.bor k g ver (.slice e) (subL xs l h) (preO lo org b) (tlB lo hi org b l.toNat))],[0≤l,l≤h,h≤xs.length])else none
   | _=>none
 | some .str=>rd .str a fun xs=>loK lo fun l=>hiK hi xs.length fun h=>some ([w1 d (.c (.pure .str) (subL xs l h))],[0≤l,l≤h,h≤xs.length])
 | _=>none
def contWrap (e:Ent)(s:Sh)(x:El s.ty):A:=
 match e.a with
 | .c (.ref _) _=>.c (.ref s) x
 | _=>.c s x
def exStoreArr (T:Ty)(k:Nat)(et:Ty)(i:Nat)(e:Ent)(v:Opd):Out:=
 rd T v fun y=>
   match e.a with
   | .c (.ref (.pure (.arr m e2))) xs=>if h:T=e2 then(if et=e2∧e2.flat=true then some ([⟨k,true,.c (.ref (.pure (.arr m e2))) (List.set xs i (h ▸ y))⟩],[i<List.length xs])else none)else none
   | _=>none
def tkSh {R:Type}(t:Ty)(o:Opd)(k:El t→List Wr→Option R):Option R:=
 match o.a,o.slot with
 | .c s _,some j=>if s.free=true then tkAs (.pure t) o k else
     match froz o.ent.a with
     | some (.c (.pure u) y)=>if h:u=t then castK h (fun z=>k z [⟨j,true,.c (.pure u) y⟩]) y else none
     | _=>none
 | _,_=>tkAs (.pure t) o k
def tkF {R:Type}(t:Ty)(o:Opd)(k:El t→List Wr→Option R):Option R:=
 tk o fun s x ws=>if h:s.ty=t then(if s.noref=true then castK h (fun y=>k y ws) x else none)else none
def storeElB (T:Ty)(k off:Nat)(et:Ty)(i eo:Nat)(e0:Ent)(s':Sh)(y:El s'.ty)(ws:List Wr):Out:=
 if s'.ty=T∧s'.noref=true∧noneIs k ws=true then
   contK e0 fun s x=>s.cutK x off (.slice et) fun s1 y1 s2 x2=>
     match s1,y1 with
     | .own e,ys=>if e.noref=true then e.updK (ys.getD i (dflt e.ty)) eo s' y fun e2 z=>
         if h:upB e2 e=true then castK (upB_ty e2 e h) (fun z=>s2.updK x2 off (.own e) (ys.set i z) fun s3 x3=>some (ws++[⟨k,true,contWrap e0 s3 x3⟩],[])) z else none
       else none
     | _,_=>none
 else none
def exStoreEl (C:Ctx)(t:TypeId)(a v:Opd):Out:=
 match C.ty t with
 | some T=>
   match a.a with
   | .elp k g ver off et i eo none=>
     if a.tgt.g=g∧a.tgt.ver=ver then
       match takeK C k v (storeElB T k off et i eo a.tgt)with
       | some r=>some r
       | none=>tkF T v (storeElB T k off et i eo a.tgt (.pure T))
     else none
   | .elp k g ver off et i eo (some _)=>
     if a.tgt.g=g∧a.tgt.ver=ver∧off=0∧eo=0 then exStoreArr T k et i a.tgt v else none
   | _=>none
 | none=>none
def exMakeSlice (C:Ctx)(t:TypeId)(d:Nat)(l c:Opd):Out:=
 match C.ty t with
 | some (.slice e)=>rd (.int .i64) l fun n=>rd (.int .i64) c fun m=>
   zeroK e fun s x=>some ([w1 d (.c (.own s) (List.replicate n.toNat x))],[n=m,0≤n,n≤maxNew])
 | _=>none
def exBuild (C:Ctx)(t:TypeId)(d:Nat)(gd:Gd)(ρ:Env)(ps:List (Nat×Operand)):Out:=
 match C.ty t with
 | some (.pair a b)=>
   match look C.flds t with
   | some l=>if contB 0 l=true∧keysB l.length ps=true then
       buildK l 0 gd ρ ps fun s x ws=>if s.ty=.pair a b then some (ws++[w1 d (.c s x)],[])else none
     else none
   | none=>none
 | some (.arr n e)=>if e.flat=true∧keysB n ps=true then arrK e gd ρ n 0 ps fun xs=>out1 d (.c (.pure (.arr n e)) xs)else none
 | _=>none
def castSh {a b:Sh}{R:Type}(h:a=b)(k:List (El b.ty)→R):List (El a.ty)→R:=Eq.rec (motive:=fun c _=>(List (El c.ty)→R)→(List (El a.ty)→R)) (fun k=>k) h k
def preW (ws0:List Wr):Out→Out
 | some (ws,cs)=>some (ws0++ws,cs)
 | none=>none
def exBuildZ2 (C:Ctx)(t:TypeId)(d:Nat)(ρ:Env)(ps:List (Nat×Operand))(k off2:Nat)(t2:Ty)(j2:Nat):Out:=
 if isRef (ρ.get k).a=true then
   tkCut k off2 t2 (ρ.get k) fun s2 y ws2=>preW ws2 (preW [w1 j2 (.c s2 y)] (exBuild C t d none ((ρ.puts ws2).puts [w1 j2 (.c s2 y)]) ps))
 else none
def exBuildZ (C:Ctx)(t:TypeId)(d:Nat)(ρ:Env)(ps:List (Nat×Operand)):Out:=
 match ps with
 | [(_,.tmp j1),(_,.tmp j2)]=>
   match (ρ.get j1).a,(ρ.get j2).a with
   | .lz k g ver off n1 lo s,.bor k2 g2 ver2 t2 _ (some off2) .t=>
     if (ρ.get k).g=g∧(ρ.get k).ver=ver∧k2=k∧g2=g∧ver2=ver∧s.noref=true∧isRef (ρ.get k).a=true then
       tkCut k off (.slice s.ty) ((ρ.puts [w1 j1 .junk]).get k) fun s1 zs ws1=>
         match s1,zs with
         | .own e,zs=>if h:e=s then
             castSh h (fun zs=>preW [w1 j1 .junk] (preW ws1 (preW [w1 j1 (.c (.own s) (List.take n1 zs++List.drop lo zs))]
               (exBuildZ2 C t d (((ρ.puts [w1 j1 .junk]).puts ws1).puts [w1 j1 (.c (.own s) (List.take n1 zs++List.drop lo zs))]) ps k off2 t2 j2)))) zs
           else none
         | _,_=>none
     else none
   | _,_=>none
 | _=>none
def exBuildX (C:Ctx)(t:TypeId)(d:Nat)(gd:Gd)(ρ:Env)(ps:List (Nat×Operand)):Out:=
 match gd with
 | none=>if C.late=true then(match exBuildZ C t d ρ ps with | some r=>some r | none=>exBuild C t d none ρ ps)else exBuild C t d none ρ ps
 | gd=>exBuild C t d gd ρ ps
def exBuildSlice (C:Ctx)(t:TypeId)(d n:Nat)(gd:Gd)(ρ:Env)(ps:List (Nat×Operand)):Out:=
 match C.ty t with
 | some (.slice e)=>
   if ps.length=n∧n≤4096∧e.size≤4096∧(elemSh e gd ρ ps).ty=e∧(elemSh e gd ρ ps).noref=true then
     elemsK (elemSh e gd ρ ps) gd ρ ps 0 fun xs ws=>some (ws++[w1 d (.c (.own (elemSh e gd ρ ps)) xs)],[])
   else none
 | _=>none
def exLen (C:Ctx)(t:TypeId)(d:Nat)(a:Opd):Out:=
 match C.ty t with
 | some (.slice e)=>rd (.slice e) a fun x=>out1 d (.c (.pure (.int .i64)) (x.length:Int))
 | some .str=>rd .str a fun x=>out1 d (.c (.pure (.int .i64)) (x.length:Int))
 | _=>none
def exMinMax (mx:Bool)(d:Nat)(a b:Opd):Out:=
 rd (.int .i64) a fun x=>rd (.int .i64) b fun y=>out1 d (.c (.pure (.int .i64)) (if mx=true then max x y else min x y))
def maxApp:Nat:=4294967296
def srcK {R:Type}(E:Ty)(o:Opd)(k:(e:Sh)→List (El e.ty)→List Wr→Option R):Option R:=
 if E.flat=true then rd (.slice E) o fun ys=>k (.pure E) ys []
 else tk o fun s y ws=>
   match s,y with
   | .own e,ys=>if e.ty=E∧e.noref=true then k e ys ws else none
   | .pure (.slice e),ys=>if e=E then k (.pure e) ys ws else none
   | .nil e,_=>if e=E then k (.pure e) [] ws else none
   | _,_=>none
def appRowK {R:Type}(_:Ty)(s:Sh)(x:El s.ty)(e2:Sh)(ys:List (El e2.ty))(k:Nat→(e:Sh)→List (El e.ty)→Option R):Option R:=
 match s,x with
 | .nil _,_=>k 0 e2 ys
 | .own e,x=>if h:e2=e then castSh h (fun ys=>k (List.length x) e (x++ys)) ys else(match x with | []=>k 0 e2 ys | _=>none)
 | _,_=>none
def castLs {a b:Ty}{R:Type}(h:a=b)(k:List (El b)→R):List (El a)→R:=Eq.rec (motive:=fun c _=>(List (El c)→R)→(List (El a)→R)) (fun k=>k) h k
def upRowK {R:Type}(s:Sh)(e2:Sh)(ys:List (El e2.ty))(k:(e:Sh)→List (El e.ty)→Option R):Option R:=
 match s with
 | .own e=>if e2=e then k e2 ys else if h:upB e2 e=true then(if e2.noref=true∧e.noref=true then castLs (upB_ty e2 e h) (fun ys=>k e ys) ys else k e2 ys)else k e2 ys
 | _=>k e2 ys
def appB (E:Ty)(d:Nat)(s:Sh)(x:El s.ty)(ws:List Wr)(e2:Sh)(ys:List (El e2.ty))(ws2:List Wr):Out:=
 upRowK s e2 ys fun e2 ys=>
   if s.ty=.slice E∧s.noref=true∧e2.ty=E∧e2.noref=true then
     appRowK E s x e2 ys fun nx e zs=>some (ws++(ws2++[w1 d (.c (.own e) zs)]),[nx+ys.length≤maxApp])
   else none
def exAppend (C:Ctx)(t:TypeId)(d:Nat)(gd:Gd)(ρ:Env)(a b:Operand):Out:=
 match C.ty t with
 | some (.slice E)=>
   tkOwn (opd ρ gd a) fun s x ws=>
   if (C.late&&C.lateB)=true then tkF (.slice E) (opd (ρ.puts ws) (nextG gd ws) b) fun ys ws2=>appB E d s x ws (.pure E) ys ws2
   else srcK E (opd (ρ.puts ws) (nextG gd ws) b) (appB E d s x ws)
 | _=>none
def noneK {R:Type}(s:Sh)(x:El s.ty)(k:Option R):Option R:=
 match s,x with
 | .nil _,_=>k
 | .own _,x=>match x with
   | []=>k
   | _::_=>none
 | _,_=>none
def exAppA (E:Ty)(d:Nat)(gd:Gd)(ρ:Env)(a b:Operand):Out:=
 tkOwn (opd ρ gd a) fun s x ws=>
   if s.ty=.slice E∧s.noref=true then noneK s x (
     match (opd (ρ.puts ws) (nextG gd ws) b).a with
     | .bor k g ver (.slice e') ys (some off) .f=>
       if ((ρ.puts ws).get k).g=g∧((ρ.puts ws).get k).ver=ver∧e'=E then
         contK ((ρ.puts ws).get k) fun s0 x0=>s0.cutK x0 off (.slice E) fun s1 _ _ _=>match s1 with
           | .own e=>if e.noref=true∧e.ty=E then some (ws++[w1 d (.br k g ver off (List.length ys) e [])],[List.length ys≤maxApp])else none
           | _=>none
       else none
     | _=>none)
   else none
def exAppB (E:Ty)(d:Nat)(gd:Gd)(ρ:Env)(a b:Operand):Out:=
 match (opd ρ gd a).a,(opd ρ gd a).slot with
 | .br k g ver off n1 s ys,some j=>
   if (ρ.get k).g=g∧(ρ.get k).ver=ver∧s.ty=E∧s.noref=true then
     match (opd (ρ.puts [w1 j .junk]) (nextG gd [w1 j .junk]) b).a with
     | .bor k2 g2 ver2 (.slice e') _ none (.tl off2 lo)=>
       if k2=k∧off2=off∧e'=E∧((ρ.puts [w1 j .junk]).get k2).g=g2∧((ρ.puts [w1 j .junk]).get k2).ver=ver2∧g2=g∧ver2=ver then
         tkCut k off (.slice E) ((ρ.puts [w1 j .junk]).get k) fun s1 zs ws2=>
           match s1,zs with
           | .own e,zs=>if h:s=e then castSh h (fun ys=>some ([w1 j .junk]++(ws2++[w1 d (.c (.own e) (List.take n1 zs++ys++List.drop lo zs))]),[n1≤lo,n1+List.length ys+(List.length zs-lo)≤maxApp])) ys else none
           | _,_=>none
       else none
     | _=>
       srcK E (opd (ρ.puts [w1 j .junk]) (nextG gd [w1 j .junk]) b) fun e2 ys2 ws2=>upRowK (.own s) e2 ys2 fun e ys2=>
         if noneIs k ws2=true∧((ρ.puts [w1 j .junk]).get k).g=g∧((ρ.puts [w1 j .junk]).get k).ver=ver then
           if h:e=s then castSh h (fun ys2=>some ([w1 j .junk]++(ws2++[w1 d (.br k g ver off n1 s (ys++ys2))]),[n1+List.length ys+List.length ys2≤maxApp])) ys2 else none
         else none
   else none
 | _,_=>none
def exAppZ (E:Ty)(d:Nat)(gd:Gd)(ρ:Env)(a b:Operand):Out:=
 match (opd ρ gd a).a,(opd ρ gd a).slot with
 | .br k g ver off n1 s ys,some j=>
   match ys with
   | []=>
     if (ρ.get k).g=g∧(ρ.get k).ver=ver∧s.ty=E∧s.noref=true then
       match (opd (ρ.puts [w1 j .junk]) (nextG gd [w1 j .junk]) b).a with
       | .bor k2 g2 ver2 (.slice e') _ none (.tl off2 lo)=>
         if k2=k∧off2=off∧e'=E∧((ρ.puts [w1 j .junk]).get k2).g=g2∧((ρ.puts [w1 j .junk]).get k2).ver=ver2∧g2=g∧ver2=ver then
           contK ((ρ.puts [w1 j .junk]).get k) fun s0 x0=>s0.cutK x0 off (.slice E) fun s1 zs _ _=>match s1,zs with
             | .own e,zs=>if e=s then some ([w1 j .junk]++[w1 d (.lz k g ver off n1 lo s)],[n1≤lo,n1+(List.length zs-lo)≤maxApp])else none
             | _,_=>none
         else none
       | _=>none
     else none
   | _=>none
 | _,_=>none
def exAppD (E:Ty)(d:Nat)(gd:Gd)(ρ:Env)(a b:Operand):Out:=
 match (opd ρ gd a).a,(opd ρ gd b).a with
 | .bor k g ver (.slice e1) xs (some off) .f,.bor k2 g2 ver2 (.slice e2) _ none (.tl off2 lo)=>
   if k2=k∧off2=off∧e1=E∧e2=E∧(ρ.get k).g=g∧(ρ.get k).ver=ver∧g2=g∧ver2=ver then
     tkCut k off (.slice E) (ρ.get k) fun s1 zs ws=>
       match s1,zs with
       | .own e,zs=>if e.noref=true∧e.ty=E then some (ws++[w1 d (.c (.own e) (List.take (List.length xs) zs++List.drop lo zs))],[List.length xs≤lo,List.length xs+(List.length zs-lo)≤maxApp])else none
       | _,_=>none
   else none
 | _,_=>none
def appX (C:Ctx)(t:TypeId)(d:Nat)(gd:Gd)(ρ:Env)(a b:Operand):Out:=
 match C.ty t with
 | some (.slice E)=>
   if E.flat=true then exAppend C t d gd ρ a b
   else match (opd ρ gd a).a with
     | .br _ _ _ _ _ _ _=>if C.late=true then(match exAppZ E d gd ρ a b with | some r=>some r | none=>exAppB E d gd ρ a b)else exAppB E d gd ρ a b
     | .bor _ _ _ _ _ _ .f=>exAppD E d gd ρ a b
     | _=>match (opd ρ gd b).a with
       | .bor _ _ _ _ _ (some _) .f=>exAppA E d gd ρ a b
       | _=>exAppend C t d gd ρ a b
 | _=>none
def ioK (F:MFun)(d j off:Nat)(e:Ent)(n:Int):Out:=
 contK e fun s x=>s.cutK x off F.s.ty fun s1 y1 s2 x2=>
   if h:upB s1 F.s=true then castK (upB_ty s1 F.s h) (fun y=>s2.updK x2 off F.s (F.out y n) fun s3 x3=>
     some ([⟨j,true,contWrap e s3 x3⟩,w1 d (.c (.pure (.int .i64)) (F.run y n))],[F.pre y n])) y1 else none
def ioElK (F:MFun)(d j off:Nat)(et:Ty)(i eo:Nat)(e:Ent)(n:Int):Out:=
 contK e fun s x=>s.cutK x off (.slice et) fun s1 y1 s2 x2=>
   match s1,y1 with
   | .own el,ys=>if el.noref=true then el.cutK (ys.getD i (dflt el.ty)) eo F.s.ty fun u1 z1 u2 w2=>
       if h:upB u1 F.s=true then castK (upB_ty u1 F.s h) (fun z=>u2.updK w2 eo F.s (F.out z n) fun u3 w3=>
         if h3:upB u3 el=true then castK (upB_ty u3 el h3) (fun w3=>s2.updK x2 off (.own el) (ys.set i w3) fun s3 x3=>
           some ([⟨j,true,contWrap e s3 x3⟩,w1 d (.c (.pure (.int .i64)) (F.run z n))],[F.pre z n])) w3 else none) z1 else none
     else none
   | _,_=>none
def argsFK {R:Type}:(ts:List Ty)→List Opd→(Vals ts→Option R)→Option R
 | [],[],k=>k ()
 | t::ts,o::os,k=>
   if t.flat=true then rd t o fun x=>argsFK ts os fun xs=>k (x,xs)
   else match o.a with
     | .c s x=>if h:s.ty=t then(if s.free=true∧s.noref=true then castK h (fun x=>argsFK ts os fun xs=>k (x,xs)) x else none)else none
     | _=>none
 | _,_,_=>none
def offWs (q:Opd)(ws:List Wr):Bool:=
 (match q.slot with | some j=>noneIs j ws | none=>match q.a with | .c (.pure t) _=>t.flat | _=>false)&&(match q.a.tgt with | some k=>noneIs k ws | none=>true)
def argsShX {R:Type}:(ts:List Ty)→List Opd→(Vals ts→List Wr→Option R)→Option R
 | [],[],k=>k () []
 | t::ts,o::os,k=>tkSh t o fun x ws=>if os.all (fun q=>offWs q ws)=true then argsShX ts os fun xs ws'=>k (x,xs) (ws++ws')else none
 | _,_,_=>none
def exCallP (C:Ctx)(f d:Nat)(as:List Opd):Out:=
 match C.fnP f,as with
 | some F,q::qs=>ptrK q fun j g off e=>
   if e.g=g∧off=0 then
     argsShX F.args qs fun xs ws=>
       if noneIs j ws=true then
         match e.a with
         | .c (.ref s) x=>if h:upB s F.s=true then castK (upB_ty s F.s h) (fun y=>some (ws++([⟨j,true,.c (.ref F.s) (F.out y xs)⟩]++[w1 d (resA F.res (F.run y xs))]),[F.pre y xs])) x else none
         | _=>none
       else none
   else none
 | _,_=>none
def exCallT (C:Ctx)(f d:Nat)(as:List Opd):Out:=
 match C.fnT f,as with
 | some F,q::qs=>argsFK F.args qs fun xs=>tkOwn q fun s x ws=>
     if h:upB s F.s=true then castK (upB_ty s F.s h) (fun y=>some (ws++[w1 d (.c F.res (F.run y xs))],[F.pre y xs])) x else none
 | none,as=>exCallP C f d as
 | _,_=>none
def exCallM (C:Ctx)(f d:Nat)(as:List Opd):Out:=
 match C.fnM f,as with
 | some F,[q,qn]=>rd (.int .i64) qn fun n=>
   match q.a with
   | .c _ _=>match q.slot with
     | some j=>match q.ent.a with
       | .c s _=>if isRef q.ent.a=true then none else if s.ty=F.s.ty∧s.noref=true then ioK F d j 0 q.ent n else none
       | _=>none
     | none=>none
   | .bor j g ver t _ (some off) .t=>if q.tgt.g=g∧q.tgt.ver=ver∧t=F.s.ty then ioK F d j off q.tgt n else none
   | .bor j g ver t _ none (.el off et i eo)=>if q.tgt.g=g∧q.tgt.ver=ver∧t=F.s.ty then ioElK F d j off et i eo q.tgt n else none
   | _=>none
 | none,as=>exCallT C f d as
 | _,_=>none
def exCallS (C:Ctx)(f d:Nat)(as:List Opd):Out:=
 match C.fn f with
 | some F=>argsShX F.args as fun xs ws=>some (ws++[w1 d (resA F.res (F.run xs))],[F.pre xs])
 | none=>none
def exCall (C:Ctx)(f d:Nat)(as:List Opd):Out:=
 match C.fn f with
 | some F=>
   if F.res.all Sh.closed=true then argsK F.args as fun xs=>some ([w1 d (resA F.res (F.run xs))],[F.pre xs])
   else exCallS C f d as
 | none=>exCallM C f d as
end Fw
namespace Fw
open Go
section
variable {n B:Nat} {X:List Nat} {w0:World} {M0 M:Mem} {ω:Own} {ρ:Env} {tmps:Array Value} {w:World}
abbrev vl (tmps:Array Value):Vl:=fun t=>tmps.getD t undef
theorem heapOf_full (S:St0 n B X w0 M0 M ω ρ tmps w)(k:Nat)(vk:Value):(heapOf M ω w k vk).le (full w):=by
 intro b o v h
 unfold heapOf at h
 cases hm:M b o with
 | some u=>rw[hm]at h;simp only[Option.some.injEq]at h;subst h;exact S.mem b o u hm
 | none=>
   rw[hm]at h
   simp only at h
   split at h
   · exact h
   · cases h
theorem M_full (S:St0 n B X w0 M0 M ω ρ tmps w):M.le (full w):=fun b o v h=>S.mem b o v h
structure OpdR (n:Nat) (M:Mem) (ω:Own) (w:World) (ρ:Env) (vals:Vl) (q:Opd) (v:Value):Prop where
 rel:(∀ s g ver b a,q.a≠.cond s g ver b a)→Rel0 n M ω w ρ vals (q.slot.getD 0) v q.a
 tgt:∀ k,q.a.tgt=some k→q.tgt=ρ.get k
 slot:∀ j,q.slot=some j→v=vals j∧q.ent=ρ.get j∧(q.a≠.junk→j<n)
def GuardOk (ρ:Env)(vals:Vl)(gd:Gd):Prop:=∀ s g ver b,gd=some (s,g,ver,b)→curK ρ s g ver∧vals s=.bool b
theorem ofConst_rel (t:Nat)(v:Value):Rel0 n M ω w ρ (vl tmps) t v (ofConst v):=by
 cases v<;>simp only[ofConst]<;>try exact trivial
 case bool b=>exact⟨[.bool b],[],rfl,⟨rfl,rfl⟩,List.nodup_nil,by simp⟩
 case int k x=>
   split
   · rename_i h;exact⟨[.int k x],[],rfl,⟨rfl,rfl,h⟩,List.nodup_nil,by simp⟩
   · exact trivial
 case string s=>
   split
   · rename_i h;exact⟨[.string s],[],rfl,⟨rfl,by simp,h⟩,List.nodup_nil,by simp⟩
   · exact trivial
theorem ofConst_tgt (v:Value):(ofConst v).tgt=none:=by
 cases v<;>simp only[ofConst]<;>try rfl
 all_goals (split<;>rfl)
theorem opd_rel (S:St0 n B X w0 M0 M ω ρ tmps w){gd:Gd}(hg:GuardOk ρ (vl tmps) gd)(x:Operand)(d:List Deferred):
   OpdR n M ω w ρ (vl tmps) (opd ρ gd x) (Act.eval ⟨tmps,d⟩ x):=by
 cases x with
 | const v=>
   refine⟨fun _=>ofConst_rel _ v,fun k hk=>?_,fun j hj=>by cases hj⟩
   simp only[opd,ofConst_tgt]at hk;cases hk
 | func f=>exact⟨fun _=>rfl,fun k hk=>(by cases hk),fun j hj=>(by cases hj)⟩
 | global g=>exact⟨fun _=>trivial,fun k hk=>(by cases hk),fun j hj=>(by cases hj)⟩
 | tmp t=>
   refine⟨fun hne=>?_,fun k hk=>?_,fun j hj=>?_⟩
   · simp only[opd]at hne ⊢
     show Rel0 n M ω w ρ (vl tmps) t _ _
     by_cases ht:t<n
     · have hr:=S.slots t ht
       generalize hA:(ρ.get t).a=A at *
       cases A with
       | cond s g ver b a=>
         cases gd with
         | none=>exact(hne _ _ _ _ _ rfl).elim
         | some q=>
           obtain⟨s',g',ver',b'⟩:=q
           simp only[A.stripG,A.strip]at hne ⊢
           split
           · rename_i he
             obtain⟨rfl,rfl,rfl,rfl⟩:=he
             obtain⟨h1,h2⟩:=hg _ _ _ _ rfl
             exact(hr.2 h1).1 h2
           · rename_i he
             rw[if_neg he]at hne
             exact(hne _ _ _ _ _ rfl).elim
       | _=>cases gd<;>exact hr
     · have hj:=S.high t (Nat.le_of_not_lt ht)
       rw[hj]
       cases gd<;>exact trivial
   · simp only[opd]at hk ⊢
     unfold tgtOf;rw[hk]
   · simp only[opd,Option.some.injEq]at hj
     subst hj
     refine⟨rfl,rfl,fun hne=>?_⟩
     rcases Nat.lt_or_ge t n with h | h
     · exact h
     · simp only[opd,S.high t h]at hne
       exact(hne (by cases gd<;>rfl)).elim
theorem Sh.ag_ty (s:Sh)(h:s.noref=true):s.ag=s.ty.ag:=by
 cases s<;>first | rfl | simp[Sh.noref]at h
theorem rd_ok (S:St0 n B X w0 M0 M ω ρ tmps w){R:Type}{t:Ty}{q:Opd}{k:El t→Option R}{r:R}(h:rd t q k=some r):
   ∃ x,k x=some r∧∀ v,OpdR n M ω w ρ (vl tmps) q v→∃ cs,ValC t.ag v cs∧Enc (full w) t cs x:=by
 unfold rd at h
 split at h
 · rename_i s x ha
   split at h
   · rename_i ht
     split at h
     · rename_i hn
       subst ht
       refine⟨x,h,fun v hq=>?_⟩
       have hr:=hq.rel (by rw[ha];intro _ _ _ _ _ e;cases e)
       rw[ha]at hr
       obtain⟨cs,bs,h1,h2,h3,h4⟩:=hr
       refine⟨cs,by rw[←Sh.ag_ty s hn];exact h1,EncO.toEnc (M_full S) s cs x bs hn (fun b _ row hrow=>rows_full hrow) h2⟩
     · cases h
   · cases h
 · rename_i j g ver t' x org e ha
   split at h
   · rename_i hc
     split at h
     · rename_i ht
       subst ht
       refine⟨x,h,fun v hq=>?_⟩
       have hr:=hq.rel (by rw[ha];intro _ _ _ _ _ e;cases e)
       have htg:=hq.tgt j (by rw[ha];rfl)
       rw[ha]at hr
       obtain⟨h1,h2⟩:=hr
       rw[htg]at hc
       obtain⟨cs,h3,h4,_⟩:=h2 hc
       exact⟨cs,h3,Enc.mono (heapOf_full S _ _) t' cs x h4⟩
     · cases h
   · cases h
 · cases h
theorem rd_int (S:St0 n B X w0 M0 M ω ρ tmps w){R:Type}{kk:IntKind}{q:Opd}{k:Int→Option R}{r:R}(h:rd (.int kk) q k=some r):
   ∃ x,k x=some r∧∀ v,OpdR n M ω w ρ (vl tmps) q v→v=.int kk x∧inR kk x:=by
 obtain⟨x,h1,h2⟩:=rd_ok S h
 refine⟨x,h1,fun v hq=>?_⟩
 obtain⟨cs,h3,h4,h5⟩:=h2 v hq
 have:cs=[v]:=h3
 rw[this]at h4
 exact⟨by simpa using h4,h5⟩
theorem rd_bool (S:St0 n B X w0 M0 M ω ρ tmps w){R:Type}{q:Opd}{k:Bool→Option R}{r:R}(h:rd .bool q k=some r):
   ∃ x,k x=some r∧∀ v,OpdR n M ω w ρ (vl tmps) q v→v=.bool x:=by
 obtain⟨x,h1,h2⟩:=rd_ok S h
 refine⟨x,h1,fun v hq=>?_⟩
 obtain⟨cs,h3,h4⟩:=h2 v hq
 have:cs=[v]:=h3
 rw[this]at h4
 have h5:[v]=[Value.bool x]:=h4
 simpa using h5
theorem rd_str (S:St0 n B X w0 M0 M ω ρ tmps w){R:Type}{q:Opd}{k:List UInt8→Option R}{r:R}(h:rd .str q k=some r):
   ∃ x,k x=some r∧∀ v,OpdR n M ω w ρ (vl tmps) q v→v=.string ⟨x.toArray⟩∧x.length≤bigLen:=by
 obtain⟨x,h1,h2⟩:=rd_ok S h
 refine⟨x,h1,fun v hq=>?_⟩
 obtain⟨cs,h3,h4,h5⟩:=h2 v hq
 have:cs=[v]:=h3
 rw[this]at h4
 exact⟨by simpa using h4,h5⟩
def settle (n d:Nat)(ω:Own):Own:=fun b=>match ω b with | some k=>if n≤k then some d else some k | none=>none
theorem settle_lim {n d:Nat}{ω:Own}{b L:Nat}(h:ω b=some L)(hL:n≤L):settle n d ω b=some d:=by simp[settle,h,hL]
theorem getD_set (tmps:Array Value){d:Nat}(hd:d<tmps.size)(v:Value)(t:Nat):(tmps.setIfInBounds d v).getD t undef=if t=d then v else tmps.getD t undef:=by
 rw[Array.getD_eq_getD_getElem?,Array.getD_eq_getD_getElem?,Array.getElem?_setIfInBounds]
 by_cases h:d=t
 · subst h;simp[hd]
 · simp[h,Ne.symm h]
theorem put_ok (S:St0 n B X w0 M0 M ω ρ tmps w){d:Nat}(hd:d<n){v:Value}{A:A}
   (hA:Step n M M ω (settle n d ω) w w ρ (ρ.puts [w1 d A]) (vl tmps) (vl (tmps.setIfInBounds d v))→
     Rel n M (settle n d ω) w (ρ.puts [w1 d A]) (vl (tmps.setIfInBounds d v)) d v A):
   St0 n B X w0 M0 M (settle n d ω) (ρ.puts [w1 d A]) (tmps.setIfInBounds d v) w:=by
 have hsz:d<tmps.size:=by rw[S.size];exact hd
 refine S.step [w1 d A] (by simpa using S.size) (Fr.refl _ _ _) (Mem.le_refl _) (fun _ _ _ _=>rfl) S.mem ?_ ?_ ?_ ?_ ?_
 · intro b k hk
   unfold settle at hk
   split at hk
   · rename_i k' hk';exact S.dis b k' hk'
   · cases hk
 · intro t ht
   rw[getD_set tmps hsz]
   by_cases h:t=d
   · have:=ht (w1 d A) (by simp) h.symm;cases this
   · simp[h]
 · intro x hx;simp at hx;subst hx;exact hd
 · intro t ht hne b hb
   refine⟨?_,rfl⟩
   simp only[settle,hb]
   rw[if_neg (by omega)]
 · intro t ⟨x,hx,hxt⟩ hst
   simp at hx;subst hx
   have:t=d:=hxt.symm
   subst this
   have h1:(ρ.puts [w1 t A]).get t=⟨(ρ.get t).g+1,0,A⟩:=by
     show (ρ.put (w1 t A)).get t=_
     rw[Env.get_put];simp[w1]
   rw[getD_set tmps hsz,if_pos rfl,h1]
   exact hA hst
theorem put_c (S:St0 n B X w0 M0 M ω ρ tmps w){d:Nat}(hd:d<n){v:Value}{s:Sh}{x:El s.ty}{cs:List Value}{bs:List Nat}
   (hv:ValC s.ag v cs) (he:EncO M (rows w) s cs x bs) (hn:bs.Nodup) (hb:∀ b∈bs,∃ L,n≤L∧ω b=some L):
   St0 n B X w0 M0 M (settle n d ω) (ρ.puts [w1 d (.c s x)]) (tmps.setIfInBounds d v) w:=
 put_ok S hd fun _=>⟨cs,bs,hv,he,hn,fun b hi=>let ⟨_,h1,h2⟩:=hb b hi;settle_lim h2 h1⟩
theorem put_pure (S:St0 n B X w0 M0 M ω ρ tmps w){d:Nat}(hd:d<n){v:Value}{t:Ty}{x:El t}{cs:List Value}
   (hv:ValC t.ag v cs) (he:Enc M t cs x):
   St0 n B X w0 M0 M (settle n d ω) (ρ.puts [w1 d (.c (.pure t) x)]) (tmps.setIfInBounds d v) w:=
 put_c (s:=.pure t) S hd hv ⟨rfl,he⟩ List.nodup_nil (by simp)
theorem alloc_ok (S:St0 n B X w0 M0 M ω ρ tmps w)(hB:B≤w.heap.size)(c:Array Value)(e:TypeId)(L:Nat):
   St0 n B X w0 M0 M (fun b=>if b=w.heap.size then some L else ω b) ρ tmps (w.alloc (.cells c e)):=by
 have hold:∀ b,b<w.heap.size→(w.alloc (.cells c e)).heap[b]?=w.heap[b]?:=fun b hb=>heap_alloc_old hb
 refine S.step [] S.size (Fr.alloc w _ hB) (Mem.le_refl _) (fun _ _ _ _=>rfl) ?_ ?_ (fun _ _=>rfl) (by simp) ?_ (by simp)
 · intro b o v hm
   have h:=S.mem b o v hm
   have hlt:=World.block_lt_of_cell? _ _ h
   rw[cell_of_block (hold b hlt)];exact h
 · intro b k hk
   by_cases hb:b=w.heap.size
   · subst hb
     refine⟨.inl hB,by simp,fun o=>?_⟩
     cases hm:M w.heap.size o with
     | none=>rfl
     | some v=>have:=World.block_lt_of_cell? _ _ (S.mem _ _ _ hm);simp at this
   · rw[if_neg hb]at hk
     obtain⟨h1,h2,h3⟩:=S.dis b k hk
     exact⟨h1,by simp;omega,h3⟩
 · intro t _ _ b hb
   obtain⟨_,h2,_⟩:=S.dis b t hb
   exact⟨by rw[if_neg (by omega)];exact hb,hold b h2⟩
theorem rows_alloc_old {w:World}{o:Obj}{b:Nat}{row:List Value}(h:rows w b=some row):rows (w.alloc o) b=rows w b:=
 rows_of_block (heap_alloc_old (rows_lt h))
theorem EncO.alloc {M:Mem}{w:World}{o:Obj}{s:Sh}{cs:List Value}{x:El s.ty}{bs:List Nat}(h:EncO M (Fw.rows w) s cs x bs):
   EncO M (Fw.rows (w.alloc o)) s cs x bs:=
 EncO.mono (Mem.le_refl _) s cs x bs (fun b hb=>by obtain⟨row,hr⟩:=EncO.rows s cs x bs h b hb;exact rows_alloc_old hr) h
end
end Fw
namespace Fw
open Go
section
variable {n B:Nat} {X:List Nat} {w0:World} {M0 M:Mem} {ω:Own} {ρ:Env} {tmps:Array Value} {w:World}
structure Moved (n:Nat) (M M':Mem) (ω ω':Own) (w:World) (ρ:Env) (tmps:Array Value) (ws:List Wr) (L:Nat):Prop where
 step:Step n M M' ω ω' w w ρ (ρ.puts ws) (vl tmps) (vl tmps)
 low:∀ x∈ws,x.slot<n
 limbo:∀ L',n≤L'→L'≠L→∀ b,ω b=some L'→ω' b=some L'
theorem Step.refl (S:St0 n B X w0 M0 M ω ρ tmps w):Step n M M ω ω w w ρ ρ (vl tmps) (vl tmps):=
 ⟨Mem.le_refl _,fun b k h=>(S.dis b k h).2.2,fun _=>.inr (.inr rfl),fun _ _=>rfl,fun _ _ _ _ h=>⟨h,rfl⟩⟩
def frozM (M:Mem)(ω:Own)(w:World)(j:Nat)(vj:Value):Mem:=heapOf M ω w j vj
def frozω (ω:Own)(j:Nat)(vj:Value):Own:=fun b=>if ω b=some j∧notBox vj b=true then none else ω b
theorem froz_spec {a a':A}(h:froz a=some a'):(∃ s x,a=.c (.ref s) x∧s.noref=true∧a'=.c (.ref (.pure s.ty)) x)∨
   (∃ s x,a=.c s x∧s.noref=true∧a'=.c (.pure s.ty) x):=by
 unfold froz at h
 split at h
 · rename_i s x
   split at h
   · rename_i hn;simp at h;exact .inl ⟨s,x,rfl,hn,h.symm⟩
   · cases h
 · rename_i s x _
   split at h
   · rename_i hn;simp at h;exact .inr ⟨s,x,rfl,hn,h.symm⟩
   · cases h
 · cases h
theorem notBox_ne {b b':Nat}(h:b'≠b):notBox (.pointer (some ⟨b,0,none⟩)) b'=true:=by simp[notBox];exact fun e=>h e.symm
theorem notBox_self (b:Nat):notBox (.pointer (some ⟨b,0,none⟩)) b=false:=by simp[notBox]
theorem freeze_ok (S:St0 n B X w0 M0 M ω ρ tmps w){j:Nat}{a':A}(hj:j<n)(h:froz (ρ.get j).a=some a'):
   St0 n B X w0 M0 (frozM M ω w j (vl tmps j)) (frozω ω j (vl tmps j)) (ρ.puts [⟨j,true,a'⟩]) tmps w∧
   ∀ L,Moved n M (frozM M ω w j (vl tmps j)) ω (frozω ω j (vl tmps j)) w ρ tmps [⟨j,true,a'⟩] L:=by
 have hM:M.le (frozM M ω w j (vl tmps j)):=fun b o v hm=>by unfold frozM heapOf;rw[hm]
 have hold:∀ b o,b<B→b∉X→frozM M ω w j (vl tmps j) b o=M b o:=by
   intro b o hb hx
   unfold frozM heapOf
   cases hm:M b o with
   | some u=>rfl
   | none=>
     simp only
     rw[if_neg]
     rintro⟨h1,_⟩
     rcases (S.dis b j h1).1 with h2 | h2
     · omega
     · exact hx h2
 have hdis:∀ b k,frozω ω j (vl tmps j) b=some k→(B≤b∨b∈X)∧b<w.heap.size∧∀ o,frozM M ω w j (vl tmps j) b o=none:=by
   intro b k hk
   unfold frozω at hk
   split at hk
   · cases hk
   · rename_i hne
     obtain⟨h1,h2,h3⟩:=S.dis b k hk
     refine⟨h1,h2,fun o=>?_⟩
     unfold frozM heapOf
     rw[h3 o]
     simp only[if_neg hne]
 have hown:∀ t,t<n→(∀ x∈([⟨j,true,a'⟩]:List Wr),x.slot≠t)→∀ b,ω b=some t→frozω ω j (vl tmps j) b=some t∧w.heap[b]?=w.heap[b]?:=by
   intro t _ hne b hb
   have:t≠j:=fun e=>hne _ (List.mem_singleton.2 rfl) e.symm
   refine⟨?_,rfl⟩
   unfold frozω
   rw[if_neg (by rintro⟨h1,_⟩;rw[hb]at h1;simp at h1;exact this h1)]
   exact hb
 have hget:(ρ.puts [⟨j,true,a'⟩]).get j=⟨(ρ.get j).g,(ρ.get j).ver+1,a'⟩:=by
   show (ρ.put ⟨j,true,a'⟩).get j=_
   rw[Env.get_put];simp
 refine⟨S.step [⟨j,true,a'⟩] S.size (Fr.refl _ _ _) hM hold ?_ hdis (fun _ _=>rfl) (by intro x hx;simp at hx;subst hx;exact hj) hown ?_,?_⟩
 · intro b o v hm
   unfold frozM at hm
   exact heapOf_full S _ _ b o v hm
 · intro t ⟨x,hx,hxt⟩ _
   simp at hx;subst hx
   have:t=j:=hxt.symm
   subst this
   rw[hget]
   have hr:=S.slots t hj
   rcases froz_spec h with⟨s,x,ha,hn,rfl⟩ | ⟨s,x,ha,hn,rfl⟩
   · rw[ha]at hr
     obtain⟨cs,bs,h1,⟨b,row,bss,h2,h3,h4,h5⟩,h6,h7⟩:=hr
     subst h2;subst h3
     have hv:vl tmps t=.pointer (some ⟨b,0,none⟩):=by
       have h1':[Value.pointer (some ⟨b,0,none⟩)]=[vl tmps t]:=h1
       exact(List.cons.inj h1').1.symm
     rw[List.nodup_cons]at h6
     refine⟨_,[b],h1,⟨b,row,[],rfl,rfl,h4,rfl,?_⟩,by simp,?_⟩
     · refine EncO.toEnc hM s row x bss hn (fun b' hb' row' hrow' i c hc=>?_) h5
       have hne:b'≠b:=fun e=>h6.1 (e ▸ hb')
       have how:=h7 b' (by simp[hb'])
       unfold frozM heapOf
       rw[(S.dis b' t how).2.2 (0+i),hv]
       simp only[how,notBox_ne hne,and_self,if_true]
       exact rows_full hrow' i c hc
     · intro b' hb'
       simp at hb';subst hb'
       unfold frozω
       rw[hv,notBox_self]
       simp[h7 b' (by simp)]
   · have hs:s.noref=true:=hn
     rw[ha]at hr
     have hr':Owns M ω w t s x (tmps.getD t undef):=hr
     obtain⟨cs,bs,h1,h2,h6,h7⟩:=hr'
     have hag:=Sh.ag_ty s hn
     have hbox:∀ b∈bs,notBox (vl tmps t) b=true:=by
       intro b hb
       cases s with
       | ref s=>simp[Sh.noref]at hn
       | pure u=>rw[h2.1]at hb;simp at hb
       | nil e=>rw[h2.1]at hb;simp at hb
       | hole u=>rw[h2.1]at hb;simp at hb
       | own e=>
         rcases h2 with⟨h2,_⟩ | ⟨b',cap,row,bss,_,h3,_⟩
         · rw[h2]at hb;simp at hb
         · have:vl tmps t=.slice (some ⟨b',0,none⟩) (List.length x) cap:=by
             have h1':cs=[vl tmps t]:=h1
             rw[h3]at h1'
             exact(List.cons.inj h1').1.symm
           rw[this];rfl
       | pair a b'=>
         have:vl tmps t=.agg cs.toArray:=by have:=h1;simpa [ValC,Sh.ag] using this
         rw[this];rfl
     refine⟨cs,[],by show ValC s.ty.ag _ _;rw[←hag];exact h1,⟨rfl,?_⟩,List.nodup_nil,by simp⟩
     refine EncO.toEnc hM s cs x bs hn (fun b' hb' row' hrow' i c hc=>?_) h2
     have how:=h7 b' hb'
     unfold frozM heapOf
     rw[(S.dis b' t how).2.2 (0+i)]
     simp only[how,hbox b' hb',and_self,if_true]
     exact rows_full hrow' i c hc
 · intro L
   refine⟨⟨hM,fun b k hk=>(hdis b k hk).2.2,fun k=>Older.puts _ ρ k,fun _ _=>rfl,fun k hkn hk b hb=>?_⟩,by intro x hx;simp at hx;subst hx;exact hj,?_⟩
   · refine hown k hkn (fun x hx e=>?_) b hb
     simp at hx;subst hx
     have:j=k:=e
     subst this
     rw[hget]at hk
     have:=congrArg Ent.ver hk
     simp at this
   · intro L' hL' _ b hb
     unfold frozω
     rw[if_neg (by rintro⟨h1,_⟩;rw[hb]at h1;simp at h1;omega)]
     exact hb
theorem move_ok (S:St0 n B X w0 M0 M ω ρ tmps w){j L:Nat}(hj:j<n):
   St0 n B X w0 M0 M (fun b=>if ω b=some j then some L else ω b) (ρ.puts [w1 j .junk]) tmps w∧
   Moved n M M ω (fun b=>if ω b=some j then some L else ω b) w ρ tmps [w1 j .junk] L:=by
 have hdis:∀ b k,(if ω b=some j then some L else ω b)=some k→(B≤b∨b∈X)∧b<w.heap.size∧∀ o,M b o=none:=by
   intro b k hk
   split at hk
   · rename_i h;exact S.dis b j h
   · exact S.dis b k hk
 have hown:∀ t,t<n→(∀ x∈[w1 j .junk],x.slot≠t)→∀ b,ω b=some t→(if ω b=some j then some L else ω b)=some t∧w.heap[b]?=w.heap[b]?:=by
   intro t _ hne b hb
   have:t≠j:=fun e=>hne _ (List.mem_singleton.2 rfl) e.symm
   exact⟨by rw[if_neg (by rw[hb];simpa using this)];exact hb,rfl⟩
 have hget:(ρ.puts [w1 j .junk]).get j=⟨(ρ.get j).g+1,0,.junk⟩:=by
   show (ρ.put (w1 j .junk)).get j=_
   rw[Env.get_put];simp[w1]
 refine⟨S.step [w1 j .junk] S.size (Fr.refl _ _ _) (Mem.le_refl _) (fun _ _ _ _=>rfl) S.mem hdis (fun _ _=>rfl) (by intro x hx;simp at hx;subst hx;exact hj) hown ?_,?_⟩
 · intro t ⟨x,hx,hxt⟩ _
   simp at hx;subst hx
   have:t=j:=hxt.symm
   subst this
   rw[hget];exact trivial
 · refine⟨⟨Mem.le_refl _,fun b k hk=>(hdis b k hk).2.2,fun k=>Older.puts _ ρ k,fun _ _=>rfl,fun k hkn hk b hb=>?_⟩,by intro x hx;simp at hx;subst hx;exact hj,?_⟩
   · refine hown k hkn (fun x hx e=>?_) b hb
     simp at hx;subst hx
     have:j=k:=e
     subst this
     rw[hget]at hk
     have:=congrArg Ent.g hk
     simp at this
   · intro L' hL' hne b hb
     show (if ω b=some j then some L else ω b)=some L'
     rw[if_neg (by rw[hb];simp;omega)];exact hb
structure Taken (n:Nat) (M:Mem) (ω:Own) (w:World) (L:Nat) (v:Value) (s:Sh) (x:El s.ty):Prop where
 enc:∃ cs bs,ValC s.ag v cs∧EncO M (rows w) s cs x bs∧bs.Nodup∧∀ b∈bs,ω b=some L
theorem TupR.get {M:Mem}{R:RowFn}:∀ (l:List (Option SV)) (vs:List Value) (bs:List Nat) (i:Nat) (q:SV),TupR M R l vs bs→l[i]?=some (some q)→
   ∃ v cs b bs',vs[i]?=some v∧ValC q.s.ag v cs∧EncO M R q.s cs q.x b∧TupR M R (l.set i none) vs bs'∧bs.Perm (b++bs')
 | [],_,_,_,_,_,h=>by simp at h
 | some q'::l,v::vs,bs,0,q,⟨cs,b1,b2,h1,h2,h3,h4⟩,h=>by
   simp at h;subst h
   exact⟨v,cs,b1,b2,rfl,h1,h2,h4,by rw[h3]⟩
 | some q'::l,v::vs,bs,i+1,q,⟨cs,b1,b2,h1,h2,h3,h4⟩,h=>by
   obtain⟨v',cs',b,bs',g1,g2,g3,g4,g5⟩:=TupR.get l vs b2 i q h4 (by simpa using h)
   refine⟨v',cs',b,b1++bs',by simpa using g1,g2,g3,⟨cs,b1,bs',h1,h2,rfl,g4⟩,?_⟩
   rw[h3]
   refine(List.Perm.append_left b1 g5).trans ?_
   rw[←List.append_assoc,←List.append_assoc]
   exact List.Perm.append_right bs' List.perm_append_comm
 | none::l,v::vs,bs,0,q,h,hi=>by simp at hi
 | none::l,v::vs,bs,i+1,q,h,hi=>by
   obtain⟨v',cs',b,bs',g1,g2,g3,g4,g5⟩:=TupR.get l vs bs i q h (by simpa using hi)
   exact⟨v',cs',b,bs',by simpa using g1,g2,g3,g4,g5⟩
 | some _::_,[],_,_,_,h,_=>h.elim
 | none::_,[],_,_,_,h,_=>h.elim
theorem tkTp_ok (S:St0 n B X w0 M0 M ω ρ tmps w)(L:Nat){R:Type}{j i:Nat}(hj:j<n){k:(s:Sh)→El s.ty→List Wr→Option R}{r:R}
   (h:tkTp j i (ρ.get j) k=some r) {v:Value} (hv:∃ vs:List Value,vl tmps j=.tuple vs.toArray∧vs[i]?=some v):∃ s x ws,k s x ws=some r∧
     ∃ M' ω',St0 n B X w0 M0 M' ω' (ρ.puts ws) tmps w∧Moved n M M' ω ω' w ρ tmps ws L∧Taken n M' ω' w L v s x:=by
 unfold tkTp at h
 split at h
 · rename_i l hl
   split at h
   · rename_i q hq
     have hr:=S.slots j hj
     rw[hl]at hr
     obtain⟨vs,bs,h1,h2,h3,h4⟩:=hr
     obtain⟨vs',g1,g2⟩:=hv
     have hvv:vs'=vs:=by
       have:vl tmps j=.tuple vs.toArray:=h1
       rw[this]at g1
       simpa using g1.symm
     subst hvv
     obtain⟨v1,cs,b,bs',k1,k2,k3,k4,k5⟩:=TupR.get l vs' bs i q h2 hq
     have hv1:v1=v:=by rw[k1]at g2;simpa using g2
     subst hv1
     have hnd:(b++bs').Nodup:=k5.nodup_iff.1 h3
     rw[List.nodup_append]at hnd
     have hbl:∀ c∈b,ω c=some j:=fun c hc=>h4 c (k5.mem_iff.2 (by simp[hc]))
     have hdis:∀ c k,(if c∈b then some L else ω c)=some k→(B≤c∨c∈X)∧c<w.heap.size∧∀ o,M c o=none:=by
       intro c k hk
       by_cases hb:c∈b
       · exact S.dis c j (hbl c hb)
       · rw[if_neg hb]at hk;exact S.dis c k hk
     have hown:∀ t,t<n→(∀ x∈([⟨j,true,.tup (l.set i none)⟩]:List Wr),x.slot≠t)→∀ c,ω c=some t→(if c∈b then some L else ω c)=some t∧w.heap[c]?=w.heap[c]?:=by
       intro t _ hne c hc
       have:t≠j:=fun e=>hne _ (List.mem_singleton.2 rfl) e.symm
       refine⟨?_,rfl⟩
       rw[if_neg (fun h=>by rw[hbl c h]at hc;simp at hc;exact this hc.symm)]
       exact hc
     have hget:(ρ.puts [(⟨j,true,.tup (l.set i none)⟩:Wr)]).get j=⟨(ρ.get j).g,(ρ.get j).ver+1,.tup (l.set i none)⟩:=by
       show (ρ.put _).get j=_
       rw[Env.get_put];simp
     refine⟨q.s,q.x,_,h,M,fun c=>if c∈b then some L else ω c,?_,?_,⟨cs,b,k2,k3,hnd.1,fun c hc=>if_pos hc⟩⟩
     · refine S.step _ S.size (Fr.refl _ _ _) (Mem.le_refl _) (fun _ _ _ _=>rfl) S.mem hdis (fun _ _=>rfl) (by intro x hx;simp at hx;subst hx;exact hj) hown ?_
       intro t ⟨x,hx,hxt⟩ _
       simp at hx;subst hx
       have:t=j:=hxt.symm
       subst this
       rw[hget]
       exact⟨vs',bs',h1,k4,hnd.2.1,fun c hc=>(if_neg (fun h=>hnd.2.2 c h c hc rfl)).trans (h4 c (k5.mem_iff.2 (by simp[hc])))⟩
     · refine⟨⟨Mem.le_refl _,fun b k hk=>(hdis b k hk).2.2,fun k=>Older.puts _ ρ k,fun _ _=>rfl,fun k hkn hk c hc=>?_⟩,by intro x hx;simp at hx;subst hx;exact hj,?_⟩
       · refine hown k hkn (fun x hx e=>?_) c hc
         simp at hx;subst hx
         have:j=k:=e
         subst this
         rw[hget]at hk
         have:=congrArg Ent.ver hk
         simp at this
       · intro L' hL' hne c hc
         show (if c∈b then some L else ω c)=some L'
         rw[if_neg (fun h=>by rw[hbl c h]at hc;simp at hc;omega)];exact hc
   · cases h
 · cases h
theorem tk_ok (S:St0 n B X w0 M0 M ω ρ tmps w)(L:Nat){R:Type}{q:Opd}{k:(s:Sh)→El s.ty→List Wr→Option R}{r:R}
   (h:tk q k=some r) {v:Value} (hq:OpdR n M ω w ρ (vl tmps) q v):∃ s x ws,k s x ws=some r∧
     ∃ M' ω',St0 n B X w0 M0 M' ω' (ρ.puts ws) tmps w∧Moved n M M' ω ω' w ρ tmps ws L∧Taken n M' ω' w L v s x:=by
 unfold tk at h
 split at h
 · rename_i s x ha
   have hr:=hq.rel (by rw[ha];intro _ _ _ _ _ e;cases e)
   rw[ha]at hr
   obtain⟨cs,bs,h1,h2,h3,h4⟩:=hr
   split at h
   · rename_i hf
     have hbs:=EncO.free s cs x bs hf h2
     subst hbs
     exact⟨s,x,[],h,M,ω,S,⟨Step.refl S,by simp,fun _ _ _ _ h=>h⟩,⟨cs,[],h1,h2,h3,by simp⟩⟩
   · split at h
     · rename_i j hj
       obtain⟨e1,e2,e3⟩:=hq.slot j hj
       have hjn:=e3 (by rw[ha];intro e;cases e)
       obtain⟨g1,g2⟩:=move_ok S (L:=L) hjn
       refine⟨s,x,_,h,M,_,g1,g2,⟨cs,bs,h1,h2,h3,fun b hb=>?_⟩⟩
       have:=h4 b hb
       rw[hj]at this
       simp only[Option.getD_some]at this
       simp[this]
     · cases h
 · rename_i j g ver t x org e ha
   have hr:=hq.rel (by rw[ha];intro _ _ _ _ _ e;cases e)
   have htg:=hq.tgt j (by rw[ha];rfl)
   rw[ha]at hr
   obtain⟨⟨hjn,_⟩,hcl⟩:=hr
   split at h
   · rename_i hc
     rw[htg]at hc
     split at h
     · rw[htg]at h
       obtain⟨_,_,_,_,_,h10⟩:=hcl hc
       exact tkTp_ok S L hjn h h10
     · split at h
       · rename_i a' hf
         rw[htg]at hf
         obtain⟨g1,g2⟩:=freeze_ok S hjn hf
         obtain⟨cs,h1,h2,_⟩:=hcl hc
         exact⟨.pure t,x,_,h,_,_,g1,g2 L,⟨cs,[],h1,⟨rfl,h2⟩,List.nodup_nil,by simp⟩⟩
       · cases h
   · cases h
 · cases h
end
end Fw
namespace Fw
open Go
def FldR (P:Program)(t:TypeId)(l:List (Nat×Ty)):Prop:=
 ∃ fs,P.underlying t=some (.struct fs)∧∀ (i o:Nat) (T:Ty),l[i]?=some (o,T)→∃ f:Go.Field,fs[i]?=some f∧f.offset=o∧TyR P f.type T∧T.size≠0
def fldEqB (go:TypeId→Ty→Bool):List Go.Field→Nat→Ty→Bool
 | [f], off, T => f.offset == off && f.name != "_" && go f.type T
 | f :: f' :: r, off, .pair A B => f.offset == off && f.name != "_" && go f.type A && fldEqB go (f' :: r) (off + A.size) B
 | _,_,_=>false
def eqB (P:Program):Nat→TypeId→Ty→Bool
 | 0,_,_=>false
 | n+1,t,T=>(tyOf P 12 t==some T)&&(match T,P.underlying t with
   | .int _,some (.int _)=>true
   | .bool,some .bool=>true
   | .str,some .string=>true
   | .pair a b,some (.struct fs)=>!P.stoodInHeld t&&fldEqB (eqB P n) fs.toList 0 (.pair a b)
   | _,_=>false)
def EqR (P:Program)(t:TypeId)(T:Ty):Prop:=eqB P 8 t T=true∧P.eqGuardType P.depth t=false
def emp:Mem:=fun _ _=>none
structure MeetsM (P:Program) (f:Nat) (F:MFun):Prop where
 fn : ∃ fn, P.funcs[f]? = some fn ∧ (fn.name == "runtime.NumGoroutine") = false ∧ fn.body.isNone = false
 closed:F.s.closed=true
 noref:F.s.noref=true
 call:∀ (w:World) (v:Value) (cs:List Value) (x:El F.s.ty) (bs:List Nat) (n:Int),inR .i64 n→ValC F.s.ag v cs→EncO emp (rows w) F.s cs x bs→bs.Nodup→F.pre x n→
   Calls P f #[v,.int .i64 n] w fun e w'=>∃ bs',e=.returned (.int .i64 (F.run x n))∧inR .i64 (F.run x n)∧Fr w.heap.size bs w w'∧EncO emp (rows w') F.s cs (F.out x n) bs'∧
     bs'.Nodup∧∀ b∈bs',b∈bs∨w.heap.size≤b
def ArgsR (M:Mem):(ts:List Ty)→List Value→Vals ts→Prop
 | [],[],_=>True
 | t::ts,v::vs,x=>(∃ cs,ValC t.ag v cs∧Enc M t cs x.1)∧ArgsR M ts vs x.2
 | _,_,_=>False
structure MeetsT (P:Program) (f:Nat) (F:TFun):Prop where
 fn : ∃ fn, P.funcs[f]? = some fn ∧ (fn.name == "runtime.NumGoroutine") = false ∧ fn.body.isNone = false
 closed:F.s.closed=true
 noref:F.s.noref=true
 rclosed:F.res.closed=true
 call:∀ (w:World) (M:Mem) (v:Value) (cs:List Value) (x:El F.s.ty) (bs:List Nat) (vs:List Value) (xs:Vals F.args),(∀ b o u,M b o=some u→w.cell? ⟨b,o,none⟩=some u)→(∀ b∈bs,∀ o,M b o=none)→
   ValC F.s.ag v cs→EncO emp (rows w) F.s cs x bs→bs.Nodup→ArgsR M F.args vs xs→F.pre x xs→
   Calls P f (v::vs).toArray w fun e w'=>∃ r cs' bs',e=.returned r∧Fr w.heap.size bs w w'∧ValC F.res.ag r cs'∧EncO emp (rows w') F.res cs' (F.run x xs) bs'∧
     bs'.Nodup∧∀ b∈bs',b∈bs∨w.heap.size≤b
structure MeetsK (P:Program) (f:Nat) (F:KFun):Prop where
 fn : ∃ fn, P.funcs[f]? = some fn ∧ (fn.name == "runtime.NumGoroutine") = false ∧ fn.body.isNone = false
 closed:F.s.closed=true
 noref:F.s.noref=true
 call:∀ (w:World) (M:Mem) (p:Value) (x:El F.s.ty) (bs:List Nat) (vs:List Value) (xs:Vals F.args),(∀ b o u,M b o=some u→w.cell? ⟨b,o,none⟩=some u)→(∀ b∈bs,∀ o,M b o=none)→
   EncO emp (rows w) (.ref F.s) [p] x bs→bs.Nodup→ArgsR M F.args vs xs→F.pre x xs→
   Calls P f (vs++[p]).toArray w fun e w'=>∃ r bs',e=.returned r∧Fr w.heap.size bs w w'∧EncO emp (rows w') (.ref F.s) [p] (F.out x xs) bs'∧
     bs'.Nodup∧∀ b∈bs',b∈bs∨w.heap.size≤b
def ResR (M:Mem)(R:RowFn):(ss:List Sh)→Value→Vals (ss.map Sh.ty)→List Nat→Prop
 | [s],v,x,bs=>∃ cs,ValC s.ag v cs∧EncO M R s cs x.1 bs
 | ss,v,x,bs=>∃ vs,v=.tuple vs.toArray∧TupR M R (resK ss x) vs bs
structure MeetsP (P:Program) (f:Nat) (F:PFun):Prop where
 fn : ∃ fn, P.funcs[f]? = some fn ∧ (fn.name == "runtime.NumGoroutine") = false ∧ fn.body.isNone = false
 noref:F.s.noref=true
 call:∀ (w:World) (M:Mem) (p:Value) (x:El F.s.ty) (bs:List Nat) (vs:List Value) (xs:Vals F.args),(∀ b o u,M b o=some u→w.cell? ⟨b,o,none⟩=some u)→(∀ b∈bs,∀ o,M b o=none)→
   EncO M (rows w) (.ref F.s) [p] x bs→bs.Nodup→ArgsR M F.args vs xs→F.pre x xs→
   Calls P f (p::vs).toArray w fun e w'=>∃ r M' bs' bs2,e=.returned r∧Fr w.heap.size bs w w'∧M.le M'∧(∀ b o,b<w.heap.size→b∉bs→M' b o=M b o)∧(∀ b o u,M' b o=some u→w'.cell? ⟨b,o,none⟩=some u)∧
     EncO M' (rows w') (.ref F.s) [p] (F.out x xs) bs'∧ResR M' (rows w') F.res r (F.run x xs) bs2∧(bs'++bs2).Nodup∧∀ b∈bs'++bs2,(b∈bs∨w.heap.size≤b)∧∀ o,M' b o=none
structure CtxOk (P:Program) (C:Ctx):Prop where
 eq:∀ t T,C.eqs.contains t=true→C.ty t=some T→EqR P t T
 ty:∀ t T,C.ty t=some T→TyR P t T
 flds:∀ t l,look C.flds t=some l→FldR P t l
 fnM:∀ f F,C.fnM f=some F→MeetsM P f F
 fnT:∀ f F,C.fnT f=some F→MeetsT P f F
 fnK:∀ f F,C.fnK f=some F→MeetsK P f F
 fnP:∀ f F,C.fnP f=some F→MeetsP P f F
theorem Env.puts_append (ρ:Env):∀ (ws ws':List Wr),ρ.puts (ws++ws')=(ρ.puts ws).puts ws'
 | [],_=>rfl
 | w::ws,ws'=>by
   have ih:∀ (ws:List Wr) (ρ:Env),ρ.puts (ws++ws')=(ρ.puts ws).puts ws':=by
     intro ws
     induction ws with
     | nil=>intro ρ;rfl
     | cons w ws ih=>intro ρ;exact ih (ρ.put w)
   exact ih (w::ws) ρ
section
variable {n B:Nat} {X:List Nat} {w0:World} {M0 M:Mem} {ω:Own} {ρ:Env} {tmps:Array Value} {w:World} {P:Program} {C:Ctx}
def Res (n B:Nat)(X:List Nat)(w0:World)(M0:Mem)(ρ:Env)(tmps:Array Value)(d:Nat)(ws:List Wr)(r:Result Value):Prop:=
 ∃ v' w' M' ω',r=.ok v' w'∧St0 n B X w0 M0 M' ω' (ρ.puts ws) (tmps.setIfInBounds d v') w'
theorem Rel0.frameRef {M M':Mem}{ω ω':Own}{w w':World}{ρ ρ':Env}{vals vals':Vl}(S:Step n M M' ω ω' w w' ρ ρ' vals vals'){t t':Nat}
   {v:Value}:∀ {a:A},(∀ s x,a≠.c s x)→(∀ l,a≠.tup l)→a.keeps=false→Rel0 n M ω w ρ vals t v a→Rel0 n M' ω' w' ρ' vals' t' v a
 | .junk,_,_,_,_=>trivial
 | .c s x,h,_,_,_=>(h s x rfl).elim
 | .tup l,_,h,_,_=>(h l rfl).elim
 | .ptr k g off,_,_,_,⟨h1,h2⟩=>⟨⟨h1.1,Nat.le_trans h1.2 (S.old k).g_le⟩,fun h3=>by
     have h4:(ρ.get k).g=g:=by have:=(S.old k).g_le;have:=h1.2;omega
     obtain⟨b,h5,h6⟩:=h2 h4
     exact⟨b,by rw[S.ptr k (by omega)];exact h5,h6⟩⟩
 | .bor k g ver u x org e,_,_,_,⟨h1,h2⟩=>⟨h1.older (S.old k),fun h3=>by
     have hk:=(S.old k).same h1.2.1 h1.2.2 h3.1 h3.2
     obtain⟨cs,h4,h5,h6,h9,h10⟩:=h2 ⟨by rw[hk];exact h3.1,by rw[hk];exact h3.2⟩
     refine⟨cs,h4,Enc.mono (S.heap h1.1 hk.symm) u cs x h5,fun off ho=>?_,fun off et i eo he=>ElC.frame S h1.1 hk.symm (h9 off et i eo he),BxR.frame S h1.1 hk.symm h10⟩
     obtain⟨pc,h7,h8⟩:=h6 off ho
     exact⟨pc,Place.frame S h1.1 hk.symm h7,h8⟩⟩
 | .elp k g ver off et i eo arr,_,_,_,⟨h1,h2⟩=>⟨h1.older (S.old k),fun h3=>by
     have hk:=(S.old k).same h1.2.1 h1.2.2 h3.1 h3.2
     have h4:=h2 ⟨by rw[hk];exact h3.1,by rw[hk];exact h3.2⟩
     unfold ElpR at *
     cases arr with
     | none=>
       simp only[Option.isSome_none,Bool.false_eq_true,if_false]at h4 ⊢
       obtain⟨pc,h7,h8⟩:=h4
       exact⟨pc,Place.frame S h1.1 hk.symm h7,h8⟩
     | some m=>
       simp only[Option.isSome_some,if_true]at h4 ⊢
       rw[S.ptr k (by rw[hk])];exact h4⟩
 | .al k g ag off,_,_,_,⟨h1,b,cs,h2,h3,h4⟩=>⟨⟨h1.1,Nat.le_trans h1.2 (S.old k).g_le⟩,b,cs,h2,h3.mono S.mem,fun h5=>by
     have h6:(ρ.get k).g=g:=by have:=(S.old k).g_le;have:=h1.2;omega
     rw[S.ptr k (by omega)];exact h4 h6⟩
 | .eptr u x off,_,_,_,⟨b,o,cs,h1,h2,h3⟩=>⟨b,o,cs,h1,h2.mono S.mem,Enc.mono S.mem u cs x h3⟩
 | .cond _ _ _ _ _,_,_,_,h=>h.elim
 | .fn f,_,_,_,h=>h
 | .clo f k g,_,_,_,⟨h1,h2⟩=>⟨⟨h1.1,Nat.le_trans h1.2 (S.old k).g_le⟩,fun h3=>by
     have h4:(ρ.get k).g=g:=by have:=(S.old k).g_le;have:=h1.2;omega
     obtain⟨b,h5,h6⟩:=h2 h4
     exact⟨b,by rw[S.ptr k (by omega)];exact h5,h6⟩⟩
 | .br k g ver off n1 s ys,_,_,h,_=>by cases h
 | .lz k g ver off n1 lo s,_,_,h,_=>by cases h
 | .rb k g ver u x org e,_,_,h,_=>by cases h
theorem put_ref (S:St0 n B X w0 M0 M ω ρ tmps w){d:Nat}(hd:d<n){v:Value}{a:A}{t:Nat}(h1:∀ s x,a≠.c s x)(h2:∀ l,a≠.tup l)
   (h3:∀ s g ver b a',a≠.cond s g ver b a') (hr:Rel0 n M ω w ρ (vl tmps) t v a)
   (h4:a.keeps=false:=by rfl):
   St0 n B X w0 M0 M (settle n d ω) (ρ.puts [w1 d a]) (tmps.setIfInBounds d v) w:=
 put_ok S hd fun hst=>by
   have:=Rel0.frameRef (t':=d) hst h1 h2 h4 hr
   cases a<;>first | exact this | exact(h3 _ _ _ _ _ rfl).elim
theorem get_w1_self (ρ:Env)(d:Nat)(a:A):(ρ.puts [w1 d a]).get d=⟨(ρ.get d).g+1,0,a⟩:=by
 show (ρ.put (w1 d a)).get d=_
 rw[Env.get_put];simp[w1]
theorem put_ptr (S:St0 n B X w0 M0 M ω ρ tmps w){d j:Nat}(hd:d<n)(hj:j<n){s:Sh}{x:El s.ty}(_:(ρ.get j).a=.c (.ref s) x)(off:Nat)
   {v:Value} {b:Nat} (hb:vl tmps j=.pointer (some ⟨b,0,none⟩)) (hv:v=.pointer (some ⟨b,off,none⟩)):
   St0 n B X w0 M0 M (settle n d ω) (ρ.puts [w1 d (.ptr j (ρ.get j).g off)]) (tmps.setIfInBounds d v) w:=
 put_ref S hd (t:=0) (a:=.ptr j (ρ.get j).g off) (by intros;intro e;cases e) (by intros;intro e;cases e) (by intros;intro e;cases e)
   ⟨⟨hj,Nat.le_refl _⟩,fun _=>⟨b,hb,hv⟩⟩
theorem ref_ptr (S:St0 n B X w0 M0 M ω ρ tmps w){j:Nat}(hj:j<n){s:Sh}{x:El s.ty}(ha:(ρ.get j).a=.c (.ref s) x):
   ∃ b row bss,vl tmps j=.pointer (some ⟨b,0,none⟩)∧rows w b=some row∧EncO M (rows w) s row x bss∧(b::bss).Nodup∧∀ i∈b::bss,ω i=some j:=by
 have hr:=S.slots j hj
 rw[ha]at hr
 obtain⟨cs,bs,h1,⟨b,row,bss,h2,h3,h4,h5⟩,h6,h7⟩:=hr
 subst h2;subst h3
 have h1':[Value.pointer (some ⟨b,0,none⟩)]=[vl tmps j]:=h1
 exact⟨b,row,bss,(List.cons.inj h1').1.symm,h4,h5,h6,h7⟩
theorem heapOf_rows (S:St0 n B X w0 M0 M ω ρ tmps w){j:Nat}{vj:Value}{b:Nat}{row:List Value}(h:rows w b=some row)(ho:ω b=some j)(hb:notBox vj b=true):
   CellsAt (heapOf M ω w j vj) b 0 row:=by
 intro i c hc
 unfold heapOf
 rw[(S.dis b j ho).2.2 (0+i)]
 simp only[ho,hb,and_self,if_true]
 exact rows_full h i c hc
theorem M_heapOf (M:Mem)(ω:Own)(w:World)(j:Nat)(vj:Value):M.le (heapOf M ω w j vj):=fun b o v hm=>by unfold heapOf;rw[hm]
theorem noref_box {M:Mem}{R:RowFn}{s:Sh}(hn:s.noref=true){v:Value}{cs:List Value}{bs:List Nat}{x:El s.ty}(h1:ValC s.ag v cs)(h2:EncO M R s cs x bs):
   ∀ b∈bs,notBox v b=true:=by
 intro b hb
 cases s with
 | ref s=>simp[Sh.noref]at hn
 | pure u=>rw[h2.1]at hb;simp at hb
 | nil e=>rw[h2.1]at hb;simp at hb
 | hole u=>rw[h2.1]at hb;simp at hb
 | own e=>
   rcases h2 with⟨h2,_⟩ | ⟨b',cap,row,bss,_,h3,_⟩
   · rw[h2]at hb;simp at hb
   · have h1':cs=[v]:=h1
     rw[h3]at h1'
     rw[←(List.cons.inj h1').1];rfl
 | pair a b'=>
   have:v=.agg cs.toArray:=by have:=h1;simpa [ValC,Sh.ag] using this
   rw[this];rfl
theorem exCopy_ok (S:St0 n B X w0 M0 M ω ρ tmps w){asg:Bool}{d:Nat}(hd:d<n){q:Opd}{ws:List Wr}{cs:List Prop}(h:exCopy C asg d q=some (ws,cs))
   {v:Value} (hq:OpdR n M ω w ρ (vl tmps) q v):∃ M' ω',St0 n B X w0 M0 M' ω' (ρ.puts ws) (tmps.setIfInBounds d v) w:=by
 unfold exCopy at h
 split at h
 · rename_i s x ha
   have hr:=hq.rel (by rw[ha];intro _ _ _ _ _ e;cases e)
   rw[ha]at hr
   obtain⟨cs',bs,h1,h2,h3,h4⟩:=hr
   split at h
   · rename_i hf
     simp only[out1,Option.some.injEq,Prod.mk.injEq]at h
     obtain⟨rfl,rfl⟩:=h
     have hbs:=EncO.free s cs' x bs hf h2
     subst hbs
     exact⟨_,_,put_c S hd h1 h2 h3 (by simp)⟩
   · split at h
     · rename_i j hj
       obtain⟨e1,e2,e3⟩:=hq.slot j hj
       have hjn:=e3 (by rw[ha];intro e;cases e)
       rw[hj]at h4
       simp only[Option.getD_some]at h4
       split at h
       · simp only[Option.some.injEq,Prod.mk.injEq]at h
         obtain⟨rfl,rfl⟩:=h
         obtain⟨g1,g2⟩:=move_ok S (L:=n) hjn
         exact⟨_,_,put_c g1 hd h1 h2 h3 (fun b hb=>⟨n,Nat.le_refl _,by simp[h4 b hb]⟩)⟩
       · split at h
         · rename_i s' x' he
           simp only[out1,Option.some.injEq,Prod.mk.injEq]at h
           obtain⟨rfl,rfl⟩:=h
           rw[e2]at he ⊢
           obtain⟨b,row,bss,g1,_⟩:=ref_ptr S hjn he
           exact⟨_,_,put_ptr S hd hjn he 0 g1 (by rw[e1];exact g1)⟩
         · rename_i s' x' hnr he
           split at h
           · rename_i hn
             simp only[out1,Option.some.injEq,Prod.mk.injEq]at h
             obtain⟨rfl,rfl⟩:=h
             rw[e2]at he ⊢
             have hs:=S.slots j hjn
             rw[he]at hs
             obtain⟨cs2,bs2,k1,k2,k3,k4⟩:=hs
             refine⟨_,_,put_ref S hd (t:=0) (by intros;intro e;cases e) (by intros;intro e;cases e) (by intros;intro e;cases e) ⟨⟨hjn,Nat.le_refl _,fun _=>Nat.le_refl _⟩,fun _=>?_⟩⟩
             have e1':v=tmps.getD j undef:=e1
             refine⟨cs2,by rw[←Sh.ag_ty s' hn,e1'];exact k1,EncO.toEnc (M_heapOf _ _ _ _ _) s' cs2 x' bs2 hn (fun b hb row hrow=>heapOf_rows S hrow (k4 b hb) (noref_box hn k1 k2 b hb)) k2,fun off ho=>?_,fun _ _ _ _ e=>by(cases e),trivial⟩
             simp only[Option.some.injEq]at ho
             subst ho
             refine⟨cs2,?_,?_⟩
             · rw[he]
               cases s' with
               | ref s''=>simp[Sh.noref]at hn
               | _=>exact k1
             · have:=EncO.length s' cs2 x' bs2 k2
               simp only[Bx.isT,if_true,List.drop_zero]
               rw[←Sh.size_ty s' hn,←this,List.take_length]
           · cases h
         · cases h
     · cases h
 · rename_i k g ver t x org e ha
   have hr:=hq.rel (by rw[ha];intro _ _ _ _ _ e;cases e)
   rw[ha]at hr
   split at h
   · cases h
   · simp only[out1,Option.some.injEq,Prod.mk.injEq]at h
     obtain⟨rfl,rfl⟩:=h
     exact⟨_,_,put_ref S hd (by intros;intro e;cases e) (by intros;intro e;cases e) (by intros;intro e;cases e) hr⟩
 · rename_i k g off ha
   have hr:=hq.rel (by rw[ha];intro _ _ _ _ _ e;cases e)
   rw[ha]at hr
   simp only[out1,Option.some.injEq,Prod.mk.injEq]at h
   obtain⟨rfl,rfl⟩:=h
   exact⟨_,_,put_ref S hd (by intros;intro e;cases e) (by intros;intro e;cases e) (by intros;intro e;cases e) hr⟩
 · rename_i u x off ha
   have hr:=hq.rel (by rw[ha];intro _ _ _ _ _ e;cases e)
   rw[ha]at hr
   simp only[out1,Option.some.injEq,Prod.mk.injEq]at h
   obtain⟨rfl,rfl⟩:=h
   exact⟨_,_,put_ref S hd (by intros;intro e;cases e) (by intros;intro e;cases e) (by intros;intro e;cases e) hr⟩
 · rename_i k g ag off ha
   have hr:=hq.rel (by rw[ha];intro _ _ _ _ _ e;cases e)
   rw[ha]at hr
   simp only[out1,Option.some.injEq,Prod.mk.injEq]at h
   obtain⟨rfl,rfl⟩:=h
   exact⟨_,_,put_ref S hd (by intros;intro e;cases e) (by intros;intro e;cases e) (by intros;intro e;cases e) hr⟩
 · rename_i k g ver off et i eo arr ha
   have hr:=hq.rel (by rw[ha];intro _ _ _ _ _ e;cases e)
   rw[ha]at hr
   simp only[out1,Option.some.injEq,Prod.mk.injEq]at h
   obtain⟨rfl,rfl⟩:=h
   exact⟨_,_,put_ref S hd (by intros;intro e;cases e) (by intros;intro e;cases e) (by intros;intro e;cases e) hr⟩
 · rename_i f ha
   have hr:=hq.rel (by rw[ha];intro _ _ _ _ _ e;cases e)
   rw[ha]at hr
   simp only[out1,Option.some.injEq,Prod.mk.injEq]at h
   obtain⟨rfl,rfl⟩:=h
   exact⟨_,_,put_ref S hd (by intros;intro e;cases e) (by intros;intro e;cases e) (by intros;intro e;cases e) hr⟩
 · rename_i f k g ha
   have hr:=hq.rel (by rw[ha];intro _ _ _ _ _ e;cases e)
   rw[ha]at hr
   simp only[out1,Option.some.injEq,Prod.mk.injEq]at h
   obtain⟨rfl,rfl⟩:=h
   exact⟨_,_,put_ref S hd (by intros;intro e;cases e) (by intros;intro e;cases e) (by intros;intro e;cases e) hr⟩
 · rename_i l ha
   have hr:=hq.rel (by rw[ha];intro _ _ _ _ _ e;cases e)
   rw[ha]at hr
   obtain⟨vs,bs,h1,h2,h3,h4⟩:=hr
   split at h
   · rename_i j hj
     obtain⟨_,_,e3⟩:=hq.slot j hj
     have hjn:=e3 (by rw[ha];intro e;cases e)
     rw[hj]at h4
     simp only[Option.getD_some]at h4
     simp only[Option.some.injEq,Prod.mk.injEq]at h
     obtain⟨rfl,rfl⟩:=h
     obtain⟨g1,_⟩:=move_ok S (L:=n) hjn
     exact⟨_,_,put_ok g1 hd (A:=.tup l) fun _=>⟨vs,bs,h1,h2,h3,fun b hb=>settle_lim (L:=n) (by simp[h4 b hb]) (Nat.le_refl _)⟩⟩
   · cases h
 · cases h
end
end Fw
namespace Fw
open Go
theorem subK_self {R:Type}{T t:Ty}{x:El T}{off:Nat}{k:El t→Option R}{r:R}
   (h:(if h:off=0∧T=t then castK h.2 k x else none)=some r):
   ∃ y,k y=some r∧∀ M vs,Enc M T vs x→Enc M t ((vs.drop off).take t.size) y:=by
 split at h
 · rename_i hc
   obtain⟨rfl,rfl⟩:=hc
   refine⟨x,h,fun M vs he=>?_⟩
   have:=Enc.length T vs x he
   simp only[List.drop_zero,←this,List.take_length];exact he
 · cases h
theorem El.subK_ok {R:Type}:∀ (T:Ty) (x:El T) (off:Nat) (t:Ty) (k:El t→Option R) (r:R),El.subK T x off t k=some r→
   ∃ y,k y=some r∧∀ M vs,Enc M T vs x→Enc M t ((vs.drop off).take t.size) y
 | .pair a b,x,off,t,k,r,h=>by
   simp only[El.subK]at h
   split at h
   · rename_i hc
     obtain⟨rfl,rfl⟩:=hc
     refine⟨x,h,fun M vs he=>?_⟩
     have:=Enc.length _ vs x he
     simp only[List.drop_zero,←this,List.take_length];exact he
   · split at h
     · rename_i hlt
       obtain⟨y,h1,h2⟩:=El.subK_ok a x.1 off t k r h
       refine⟨y,h1,fun M vs ⟨v1,v2,e,g1,g2⟩=>?_⟩
       subst e
       have l1:=Enc.length _ _ _ g1
       have ih:=h2 M v1 g1
       have il:=Enc.length _ _ _ ih
       simp at il
       rwa [List.drop_append_of_le_length (by omega),List.take_append_of_le_length (by simp;omega)]
     · rename_i hge
       obtain⟨y,h1,h2⟩:=El.subK_ok b x.2 (off - a.size) t k r h
       refine⟨y,h1,fun M vs ⟨v1,v2,e,g1,g2⟩=>?_⟩
       subst e
       have l1:=Enc.length _ _ _ g1
       have ih:=h2 M v2 g2
       rwa [List.drop_append,List.drop_eq_nil_of_le (by omega:v1.length≤off),List.nil_append,l1]
 | .int _,_,_,_,_,_,h=>subK_self h
 | .bool,_,_,_,_,_,h=>subK_self h
 | .str,_,_,_,_,_,h=>subK_self h
 | .slice _,_,_,_,_,_,h=>subK_self h
 | .arr _ _,_,_,_,_,_,h=>subK_self h
theorem Sh.subK_ok {R:Type}:∀ (s:Sh) (x:El s.ty) (off:Nat) (t:Ty) (k:(s:Sh)→El s.ty→Option R) (r:R),s.subK x off t k=some r→
   ∃ s' y,k s' y=some r∧s'.ty=t∧∀ M Rw vs bs,EncO M Rw s vs x bs→∃ bs',bs'.Sublist bs∧EncO M Rw s' ((vs.drop off).take s'.size) y bs'
 | .pure T,x,off,t,k,r,h=>by
   obtain⟨y,h1,h2⟩:=El.subK_ok T x off t _ r h
   exact⟨.pure t,y,h1,rfl,fun M Rw vs bs ⟨e1,e2⟩=>⟨[],List.nil_sublist _,rfl,h2 M vs e2⟩⟩
 | .pair a b,x,off,t,k,r,h=>by
   simp only[Sh.subK]at h
   split at h
   · rename_i hc
     obtain⟨rfl,rfl⟩:=hc
     refine⟨.pair a b,x,h,rfl,fun M Rw vs bs he=>⟨bs,List.Sublist.refl _,?_⟩⟩
     have:=EncO.length _ vs x bs he
     simp only[List.drop_zero,←this,List.take_length];exact he
   · split at h
     · rename_i hlt
       obtain⟨s',y,h1,h0,h2⟩:=Sh.subK_ok a x.1 off t k r h
       refine⟨s',y,h1,h0,fun M Rw vs bs ⟨v1,v2,b1,b2,e1,e2,g1,g2⟩=>?_⟩
       subst e1;subst e2
       have l1:=EncO.length _ _ _ _ g1
       obtain⟨bs',k1,k2⟩:=h2 M Rw v1 b1 g1
       have il:=EncO.length _ _ _ _ k2
       simp at il
       refine⟨bs',k1.trans (List.sublist_append_left _ _),?_⟩
       rwa [List.drop_append_of_le_length (by omega),List.take_append_of_le_length (by simp;omega)]
     · rename_i hge
       obtain⟨s',y,h1,h0,h2⟩:=Sh.subK_ok b x.2 (off - a.size) t k r h
       refine⟨s',y,h1,h0,fun M Rw vs bs ⟨v1,v2,b1,b2,e1,e2,g1,g2⟩=>?_⟩
       subst e1;subst e2
       have l1:=EncO.length _ _ _ _ g1
       obtain⟨bs',k1,k2⟩:=h2 M Rw v2 b2 g2
       refine⟨bs',k1.trans (List.sublist_append_right _ _),?_⟩
       rwa [List.drop_append,List.drop_eq_nil_of_le (by omega:v1.length≤off),List.nil_append,l1]
 | .own e,x,off,t,k,r,h=>by
   simp only[Sh.subK]at h
   split at h
   · rename_i hc
     obtain⟨rfl,rfl⟩:=hc
     refine⟨.own e,x,h,rfl,fun M Rw vs bs he=>⟨bs,List.Sublist.refl _,?_⟩⟩
     have:=EncO.length _ vs x bs he
     simp only[List.drop_zero,←this,List.take_length];exact he
   · cases h
 | .nil e,x,off,t,k,r,h=>by
   simp only[Sh.subK]at h
   split at h
   · rename_i hc
     obtain⟨rfl,rfl⟩:=hc
     refine⟨.nil e,x,h,rfl,fun M Rw vs bs he=>⟨bs,List.Sublist.refl _,?_⟩⟩
     have:=EncO.length _ vs x bs he
     simp only[List.drop_zero,←this,List.take_length];exact he
   · cases h
 | .ref _,_,_,_,_,_,h=>by simp[Sh.subK]at h
 | .hole _,_,_,_,_,_,h=>by simp[Sh.subK]at h
section
variable {n B:Nat} {X:List Nat} {w0:World} {M0 M:Mem} {ω:Own} {ρ:Env} {tmps:Array Value} {w:World} {P:Program} {C:Ctx}
theorem ptrK_ok (_:St0 n B X w0 M0 M ω ρ tmps w){R:Type}{q:Opd}{k:(j g off:Nat)→Ent→Option R}{r:R}(h:ptrK q k=some r):
   ∃ j g off e,k j g off e=some r∧∀ v,OpdR n M ω w ρ (vl tmps) q v→j<n∧e=ρ.get j∧refOk n ρ j g∧
     (e.g=g→∃ b,vl tmps j=.pointer (some ⟨b,0,none⟩)∧v=.pointer (some ⟨b,off,none⟩)):=by
 unfold ptrK at h
 split at h
 · rename_i j g off ha
   refine⟨j,g,off,q.tgt,h,fun v hq=>?_⟩
   have hr:=hq.rel (by rw[ha];intro _ _ _ _ _ e;cases e)
   have htg:=hq.tgt j (by rw[ha];rfl)
   rw[ha]at hr
   exact⟨hr.1.1,htg,hr.1,fun hg=>hr.2 (by rw[←htg];exact hg)⟩
 · rename_i s x ha
   split at h
   · rename_i j hj
     refine⟨j,_,0,_,h,fun v hq=>?_⟩
     have hr:=hq.rel (by rw[ha];intro _ _ _ _ _ e;cases e)
     rw[ha]at hr
     obtain⟨e1,e2,e3⟩:=hq.slot j hj
     have hjn:=e3 (by rw[ha];intro e;cases e)
     obtain⟨cs,bs,h1,⟨b,row,bss,h2,h3,_⟩,_⟩:=hr
     have h1':cs=[v]:=h1
     rw[h3]at h1'
     have hv:=(List.cons.inj h1').1.symm
     exact⟨hjn,e2,⟨hjn,by rw[e2];exact Nat.le_refl _⟩,fun _=>⟨b,by rw[←e1];exact hv,hv⟩⟩
   · cases h
 · cases h
theorem give_ok (S:St0 n B X w0 M0 M ω ρ tmps w){d j:Nat}(hd:d<n)(hj:j<n){s:Sh}{x:El s.ty}(ha:(ρ.get j).a=.c (.ref s) x){off:Nat}
   {s':Sh} {y:El s'.ty} (hs:∀ M Rw vs bs,EncO M Rw s vs x bs→∃ bs',bs'.Sublist bs∧EncO M Rw s' ((vs.drop off).take s'.size) y bs')
   {ws:List Wr} {cs:List Prop} (h:give d j (ρ.get j).g (ρ.get j).ver (some off) s' y=some (ws,cs)) {v:Value} {b:Nat} {row:List Value}
   (hb:vl tmps j=.pointer (some ⟨b,0,none⟩)) (hr:rows w b=some row) (hv:s'.noref=true→ValC s'.ty.ag v ((row.drop off).take s'.size))
   (hv':s'.free=true→ValC s'.ag v ((row.drop off).take s'.size)):
   ∃ M' ω',St0 n B X w0 M0 M' ω' (ρ.puts ws) (tmps.setIfInBounds d v) w:=by
 obtain⟨b',row',bss,k1,k2,k3,k4,k5⟩:=ref_ptr S hj ha
 rw[hb]at k1
 simp only[Value.pointer.injEq,Option.some.injEq,Addr.mk.injEq,and_true]at k1
 subst k1
 rw[hr]at k2
 simp only[Option.some.injEq]at k2
 subst k2
 obtain⟨bs',g1,g2⟩:=hs _ _ _ _ k3
 unfold give at h
 split at h
 · rename_i hf
   simp only[out1,Option.some.injEq,Prod.mk.injEq]at h
   obtain⟨rfl,rfl⟩:=h
   have:=EncO.free _ _ _ _ hf g2
   subst this
   exact⟨_,_,put_c S hd (hv' hf) g2 List.nodup_nil (by simp)⟩
 · split at h
   · rename_i hn
     simp only[out1,Option.some.injEq,Prod.mk.injEq]at h
     obtain⟨rfl,rfl⟩:=h
     refine⟨_,_,put_ref S hd (t:=0) (by intros;intro e;cases e) (by intros;intro e;cases e) (by intros;intro e;cases e) ⟨⟨hj,Nat.le_refl _,fun _=>Nat.le_refl _⟩,fun _=>?_⟩⟩
     rw[List.nodup_cons]at k4
     refine⟨_,hv hn,EncO.toEnc (M_heapOf _ _ _ _ _) s' _ y bs' hn (fun i hi row' hrow=>?_) g2,fun off' ho=>?_,fun _ _ _ _ e=>by(cases e),trivial⟩
     · have hi':=g1.subset hi
       refine heapOf_rows S hrow (k5 i (by simp[hi'])) ?_
       rw[hb]
       exact notBox_ne (fun e=>k4.1 (e ▸ hi'))
     · simp only[Option.some.injEq]at ho
       subst ho
       refine⟨row,?_,?_⟩
       · rw[ha];exact⟨b,hb,k5 b (by simp),hr⟩
       · simp only[Bx.isT,if_true]
         rw[Sh.size_ty s' hn]
   · cases h
def mkVal (ag:Bool)(cs:List Value):Value:=if ag=true then .agg cs.toArray else cs.headD undef
theorem mkVal_ok {ag:Bool}{cs:List Value}(h:ag=false→cs.length=1):ValC ag (mkVal ag cs) cs:=by
 unfold ValC mkVal
 cases ag with
 | true=>simp
 | false=>
   simp only[Bool.false_eq_true,if_false]
   match cs,h rfl with
   | [c],_=>rfl
theorem Ty.size_sc:∀ t:Ty,t.ag=false→t.size=1
 | .int _,_=>rfl
 | .bool,_=>rfl
 | .str,_=>rfl
 | .slice _,_=>rfl
 | .pair _ _,h=>by simp[Ty.ag]at h
 | .arr _ _,h=>by simp[Ty.ag]at h
theorem free_solid_ag {s:Sh}(h:s.free=true):s.ag=s.ty.ag:=by
 cases s<;>first | rfl | simp[Sh.free]at h
theorem free_size:∀ {s:Sh},s.free=true→s.size=s.ty.size:=by
 intro s;induction s with
 | pure t=>intro _;rfl
 | nil t=>intro _;rfl
 | own t _=>intro h;simp[Sh.free]at h
 | ref t _=>intro h;simp[Sh.free]at h
 | hole t=>intro h;simp[Sh.free]at h
 | pair a b iha ihb=>intro h;simp[Sh.free]at h;simp[Sh.size,Ty.size,iha h.1,ihb h.2]
theorem cellsAt_sub {M:Mem}{b:Nat}{row:List Value}(h:CellsAt M b 0 row)(off len:Nat):CellsAt M b off ((row.drop off).take len):=by
 intro i c hc
 rw[List.getElem?_take]at hc
 split at hc
 · rw[List.getElem?_drop]at hc
   have:=h (off+i) c hc
   simpa using this
 · cases hc
theorem getD_of_lt' {α:Type}(xs:List α)(i:Nat)(d:α)(h:i<xs.length):xs[i]?=some (xs.getD i d):=by
 rw[List.getElem?_eq_getElem h,List.getD_eq_getElem?_getD,List.getElem?_eq_getElem h];rfl
theorem give2B_ok (S:St0 n B X w0 M0 M ω ρ tmps w){d j:Nat}(hd:d<n)(hj:j<n){s':Sh}{y:El s'.ty}{cs':List Value}{bs':List Nat}{bx:Bx}
   (he:EncO M (rows w) s' cs' y bs') (hn:bs'.Nodup) (ho:∀ b∈bs',ω b=some j∧notBox (vl tmps j) b=true)
   (hx:s'.free=false→∀ off et i eo,bx=.el off et i eo→ElC ω w j (ρ.get j).a (vl tmps j) off et i eo s'.ty.size cs') (hbx:(∀ i,bx≠.tp i)∧∀ o l,bx≠.tl o l)
   {ws:List Wr} {cs:List Prop} (h:giveB d j (ρ.get j).g (ρ.get j).ver bx s' y=some (ws,cs)) {v:Value} (hv:ValC s'.ag v cs'):
   ∃ M' ω',St0 n B X w0 M0 M' ω' (ρ.puts ws) (tmps.setIfInBounds d v) w:=by
 unfold giveB at h
 split at h
 · rename_i hf
   simp only[out1,Option.some.injEq,Prod.mk.injEq]at h
   obtain⟨rfl,rfl⟩:=h
   have:=EncO.free _ _ _ _ hf he
   subst this
   exact⟨_,_,put_c S hd hv he List.nodup_nil (by simp)⟩
 · rename_i hf
   split at h
   · rename_i hnr
     simp only[out1,Option.some.injEq,Prod.mk.injEq]at h
     obtain⟨rfl,rfl⟩:=h
     refine⟨_,_,put_ref S hd (t:=0) (by intros;intro e;cases e) (by intros;intro e;cases e) (by intros;intro e;cases e) ⟨⟨hj,Nat.le_refl _,fun _=>Nat.le_refl _⟩,fun _=>?_⟩⟩
     exact⟨cs',by rw[←Sh.ag_ty s' hnr];exact hv,EncO.toEnc (M_heapOf _ _ _ _ _) s' _ y bs' hnr (fun i hi row' hrow=>heapOf_rows S hrow (ho i hi).1 (ho i hi).2) he,fun off ho=>by(cases ho),hx (by simpa using hf),by cases bx<;>first | trivial | exact(hbx.1 _ rfl).elim | exact(hbx.2 _ _ rfl).elim⟩
   · cases h
theorem noref_box' {M:Mem}{R:RowFn}{s:Sh}(hn:∀ s',s≠.ref s'){v:Value}{cs:List Value}{bs:List Nat}{x:El s.ty}(h1:ValC s.ag v cs)(h2:EncO M R s cs x bs):
   ∀ b∈bs,notBox v b=true:=by
 intro b hb
 cases s with
 | ref s=>exact(hn _ rfl).elim
 | pure u=>rw[h2.1]at hb;simp at hb
 | nil e=>rw[h2.1]at hb;simp at hb
 | hole u=>rw[h2.1]at hb;simp at hb
 | own e=>
   rcases h2 with⟨h,_⟩ | ⟨b',cap,row,bss,_,h,_⟩
   · rw[h]at hb;simp at hb
   · subst h
     simp only[ValC,Sh.ag,Bool.false_eq_true,if_false,List.cons.injEq,and_true]at h1
     rw[←h1];rfl
 | pair a b=>
   simp only[ValC,Sh.ag,if_true]at h1
   rw[h1];rfl
theorem contK_ok (S:St0 n B X w0 M0 M ω ρ tmps w){j:Nat}(hj:j<n){R:Type}{k:(s:Sh)→El s.ty→Option R}{r:R}(h:contK (ρ.get j) k=some r):
   ∃ s x pc bs,k s x=some r∧Place ω w j (ρ.get j).a (vl tmps j) pc∧EncO M (rows w) s pc x bs∧bs.Nodup∧(∀ b∈bs,ω b=some j)∧
     (∀ b∈bs,notBox (vl tmps j) b=true):=by
 unfold contK at h
 split at h
 · rename_i s x ha
   obtain⟨b,row,bss,k1,k2,k3,k4,k5⟩:=ref_ptr S hj ha
   rw[List.nodup_cons]at k4
   refine⟨s,x,row,bss,h,?_,k3,k4.2,fun i hi=>k5 i (by simp[hi]),fun i hi=>?_⟩
   · rw[ha];exact⟨b,k1,k5 b (by simp),k2⟩
   · rw[k1];exact notBox_ne (fun e=>k4.1 (e ▸ hi))
 · rename_i s x hnr ha
   have hr:=S.slots j hj
   rw[ha]at hr
   obtain⟨cs,bs,k1,k2,k3,k4⟩:=hr
   have hnr':∀ s',s≠.ref s':=by
     intro s' e
     subst e
     exact hnr s' x rfl HEq.rfl
   refine⟨s,x,cs,bs,h,?_,k2,k3,k4,noref_box' hnr' k1 k2⟩
   rw[ha]
   cases s with
   | ref s''=>exact(hnr' _ rfl).elim
   | _=>exact k1
 · cases h
theorem Place.uniq {a:A}{v:Value}{c1 c2:List Value}{k:Nat}(h1:Place ω w k a v c1)(h2:Place ω w k a v c2):c1=c2:=by
 cases a with
 | c s x=>
   have gen:ValC s.ag v c1→ValC s.ag v c2→c1=c2:=by
     intro g1 g2
     unfold ValC at g1 g2
     split at g1
     · rename_i hag
       rw[if_pos hag]at g2
       rw[g1]at g2
       simpa using g2
     · rename_i hag
       rw[if_neg hag]at g2
       rw[g1,g2]
   cases s with
   | ref s=>
     obtain⟨b,e1,_,e2⟩:=h1
     obtain⟨b',e3,_,e4⟩:=h2
     rw[e1]at e3;simp at e3;subst e3
     rw[e2]at e4;simpa using e4
   | _=>exact gen h1 h2
 | _=>exact h1.elim
theorem elem_ok (S:St0 n B X w0 M0 M ω ρ tmps w){j:Nat}(hj:j<n){R:Type}{off i eo:Nat}{et:Ty}{arr:Option Nat}{k:(s:Sh)→El s.ty→Option R}{r:R}
   (h:elemK (ρ.get j) off et i arr k=some r) {v:Value} (hp:ElpR ω w j (ρ.get j).a (vl tmps j) off et i eo arr v):
   ∃ e y b o cs bs,k e y=some r∧v=.pointer (some ⟨b,o+eo,none⟩)∧CellsAt (full w) b o cs∧EncO M (rows w) e cs y bs∧bs.Nodup∧
     (∀ i∈bs,ω i=some j∧notBox (vl tmps j) i=true)∧
     ((∃ u,e=.pure u)∨arr≠none∨∀ eo sz,eo+sz≤cs.length→ElC ω w j (ρ.get j).a (vl tmps j) off et i eo sz ((cs.drop eo).take sz)):=by
 unfold elemK at h
 cases arr with
 | none=>
   obtain⟨s,x,pc,bs,h1,h2,h3,h4,h5,h6⟩:=contK_ok S hj h
   obtain⟨s1,y1,g1,g0,g2⟩:=Sh.subK_ok s x off _ _ _ h1
   obtain⟨bs',e1,e2⟩:=g2 _ _ _ _ h3
   unfold ElpR at hp
   simp only[Option.isSome_none,Bool.false_eq_true,if_false]at hp
   obtain⟨pc',p1,a,len,cap,p2,p0,p3,p4⟩:=hp
   have:=Place.uniq p1 h2
   subst this
   have hhead:∀ hd,(pc'.drop off).take 1=[hd]→pc'[off]?=some hd:=by
     intro hd he
     have:=congrArg (fun l=>l[0]?) he
     simpa using this
   split at g1
   · rename_i e ys
     split at g1
     · rename_i hnr
       rcases e2 with⟨_,⟨a',k1,_⟩,k2⟩ | ⟨b,cap',row,bss,k1,k2,k3,k4,k5,k6,k7⟩
       · have:=hhead _ k1
         rw[p2]at this
         simp at this
         omega
       · have:=hhead _ k2
         rw[p2]at this
         simp at this
         obtain⟨rfl,rfl,rfl⟩:=this
         have hx:=getD_of_lt' ys i (dflt e.ty) p0
         obtain⟨l1,bb,l2,l3⟩:=GroupsO.get ys row bss i _ k7 hx
         have hety:e.ty=et:=by have:=g0;simpa using this
         have hsub:bb.Sublist bs:=by
           refine List.Sublist.trans ?_ e1
           rw[k1];exact l2.trans (List.sublist_cons_self _ _)
         refine⟨e,_,b,i*e.size,_,bb,g1,?_,?_,l3,h4.sublist hsub,fun q hq=>⟨h5 q (hsub.subset hq),h6 q (hsub.subset hq)⟩,.inr (.inr fun eo' sz hs=>?_)⟩
         · rw[p4,←hety,←Sh.size_ty e hnr];simp
         · exact cellsAt_sub (rows_full k5) _ _
         · have hes:e.size=et.size:=by rw[Sh.size_ty e hnr,hety]
           refine⟨pc',_,_,_,row,p1,p2,p0,h5 _ (e1.subset (by rw[k1];simp)),k5,?_⟩
           rw[List.length_take,List.length_drop]at hs
           rw[hes,List.drop_take,List.take_take,List.drop_drop,Nat.min_eq_left (by omega)]
     · cases g1
   · rename_i e ys
     obtain⟨e3,a',cap',k1,k2,k3,k4⟩:=e2
     have:=hhead _ k1
     rw[p2]at this
     simp at this
     obtain⟨rfl,rfl,rfl⟩:=this
     obtain⟨k5,k6⟩:=k4
     have hx:=getD_of_lt' ys i (dflt e) p0
     obtain⟨cs,l1,l2,l3⟩:=SliceAt.get ys _ i _ k6 hx
     have hety:e=et:=by have:=g0;simpa using this
     subst hety
     exact⟨.pure e,_,a.block,a.off+i*e.size,cs,[],g1,p4,l2.mono (M_full S),⟨rfl,l3⟩,List.nodup_nil,by simp,.inl ⟨_,rfl⟩⟩
   · cases g1
 | some m=>
   simp only at h
   split at h
   · rename_i s x ha
     obtain⟨s1,y1,g1,g0,g2⟩:=Sh.subK_ok s x off _ _ _ h
     obtain⟨b,row,bss,k1,k2,k3,k4,k5⟩:=ref_ptr S hj ha
     obtain⟨bs',e1,e2⟩:=g2 _ _ _ _ k3
     unfold ElpR at hp
     simp only[Option.isSome_some,if_true]at hp
     obtain⟨p1,b',p2,p3⟩:=hp
     have him:=p1 m rfl
     rw[k1]at p2
     simp only[Value.pointer.injEq,Option.some.injEq,Addr.mk.injEq,and_true]at p2
     subst p2
     split at g1
     · rename_i m' e ys
       obtain⟨e3,e4,e5⟩:=e2
       have hety:m'=m∧e=et:=by have:=g0;simpa using this
       obtain⟨rfl,rfl⟩:=hety
       have hx:=getD_of_lt' ys i (dflt e) (by omega)
       have hg:=Groups.get ys _ i _ e5 hx
       refine⟨.pure e,_,b,off+i*e.size,_,[],g1,p3,?_,⟨rfl,hg⟩,List.nodup_nil,by simp,.inl ⟨_,rfl⟩⟩
       have hc:=cellsAt_sub (rows_full k2) off (Sh.size (.pure (.arr m' e)))
       have hlen:=Enc.length _ _ _ hg
       intro q c hq
       have:=hc (i*e.size+q) c (by
         rw[List.getElem?_take]at hq
         split at hq
         · rw[List.getElem?_drop]at hq;exact hq
         · cases hq)
       rwa [←Nat.add_assoc]at this
     · cases g1
   · cases h
theorem cells_part {M:Mem}{b o:Nat}{cs:List Value}(h:CellsAt M b o cs)(off len:Nat):CellsAt M b (o+off) ((cs.drop off).take len):=by
 intro i c hc
 rw[List.getElem?_take]at hc
 split at hc
 · rw[List.getElem?_drop]at hc
   have:=h (off+i) c hc
   rwa [←Nat.add_assoc]at this
 · cases hc
theorem Sh.pos:∀ s:Sh,s.free=false→s.noref=true→0<s.size
 | .pure _,h,_=>by simp[Sh.free]at h
 | .nil _,h,_=>by simp[Sh.free]at h
 | .own _,_,_=>by simp[Sh.size]
 | .ref _,_,h=>by simp[Sh.noref]at h
 | .hole _,_,h=>by simp[Sh.noref]at h
 | .pair a b,h,hn=>by
   simp only[Sh.noref,Bool.and_eq_true]at hn
   simp only[Sh.size]
   cases ha:a.free with
   | false=>have:=Sh.pos a ha hn.1;omega
   | true=>
     have hb:b.free=false:=by simpa [Sh.free,ha] using h
     have:=Sh.pos b hb hn.2;omega
theorem giveB_nr {d j g ver:Nat}{b:Bx}{s:Sh}{y:El s.ty}{r:List Wr×List Prop}(hf:s.free=false)(h:giveB d j g ver b s y=some r):s.noref=true:=by
 unfold giveB at h
 rw[if_neg (by simp[hf])]at h
 split at h
 · assumption
 · cases h
theorem valC_fun {ag:Bool}{v:Value}{c1 c2:List Value}(h1:ValC ag v c1)(h2:ValC ag v c2):c1=c2:=by
 unfold ValC at *
 cases ag with
 | true=>
   simp only[if_true]at h1 h2
   rw[h1]at h2
   simp only[Value.agg.injEq]at h2
   have:=congrArg Array.toList h2
   simpa using this
 | false=>
   simp only[Bool.false_eq_true,if_false]at h1 h2
   rw[h1,h2]
theorem giveB_size {d j g ver:Nat}{b:Bx}{s:Sh}{y:El s.ty}{r:List Wr×List Prop}(h:giveB d j g ver b s y=some r):s.size=s.ty.size:=by
 unfold giveB at h
 split at h
 · rename_i hf;exact free_size hf
 · split at h
   · rename_i hn;exact Sh.size_ty s hn
   · cases h
theorem giveB_ag {d j g ver:Nat}{b:Bx}{s:Sh}{y:El s.ty}{r:List Wr×List Prop}(h:giveB d j g ver b s y=some r):s.ag=s.ty.ag:=by
 unfold giveB at h
 split at h
 · rename_i hf;exact free_solid_ag hf
 · split at h
   · rename_i hn;exact Sh.ag_ty s hn
   · cases h
theorem exLoad_elp (S:St0 n B X w0 M0 M ω ρ tmps w){t:TypeId}{T:Ty}{d:Nat}(hd:d<n){q:Opd}{ws:List Wr}{cs:List Prop}(hTy:TyR P t T)
   {k g ver off i eo:Nat} {et:Ty} {arr:Option Nat} (ha:q.a=.elp k g ver off et i eo arr)
   (h:(if q.tgt.g=g∧q.tgt.ver=ver then elemK q.tgt off et i arr fun e y=>e.subK y eo T fun s z=>giveB d k q.tgt.g q.tgt.ver (elB arr off et i eo) s z else none)=some (ws,cs))
   {v:Value} (hq:OpdR n M ω w ρ (vl tmps) q v):Res n B X w0 M0 ρ tmps d ws ((Instr.loadAt t v).run P w):=by
 split at h
 · rename_i hg
   have hr:=hq.rel (by rw[ha];intro _ _ _ _ _ e;cases e)
   have ht:=hq.tgt k (by rw[ha];rfl)
   rw[ht]at h hg
   rw[ha]at hr
   obtain⟨r1,r2⟩:=hr
   have hp:=r2 hg
   obtain⟨e,y,b,o,cs',bs,g1,g2,g3,g4,g5,g6,g7⟩:=elem_ok S r1.1 h hp
   have key:∃ s' z bs',giveB d k (ρ.get k).g (ρ.get k).ver (elB arr off et i eo) s' z=some (ws,cs)∧s'.ty=T∧bs'.Sublist bs∧EncO M (rows w) s' ((cs'.drop eo).take s'.size) z bs'∧(s'.free=false→¬∃ u,e=.pure u):=by
     by_cases he:∃ u,e=.pure u
     · obtain⟨u,rfl⟩:=he
       obtain⟨z,k1,k2⟩:=El.subK_ok u y eo T _ _ g1
       exact⟨.pure T,z,[],k1,rfl,List.nil_sublist _,⟨rfl,k2 M cs' g4.2⟩,fun h=>by simp[Sh.free]at h⟩
     · obtain⟨s',z,h3,h0,h4⟩:=Sh.subK_ok e y eo T _ _ g1
       obtain⟨bs',e1,e2⟩:=h4 _ _ _ _ g4
       exact⟨s',z,bs',h3,h0,e1,e2,fun _=>he⟩
   obtain⟨s',z,bs',h3,h0,e1,e2,hnp⟩:=key
   have hl:=EncO.length _ _ _ _ e2
   have hsz:s'.size=T.size:=by rw[giveB_size h3,h0]
   have hag:s'.ag=T.ag:=by rw[giveB_ag h3,h0]
   have hv:=mkVal_ok (ag:=T.ag) (cs:=(cs'.drop eo).take s'.size) (fun hg=>by rw[hl,hsz];exact Ty.size_sc T hg)
   obtain⟨M',ω',hS⟩:=give2B_ok S hd r1.1 e2 (g5.sublist e1) (fun b hb=>g6 b (e1.subset hb)) (fun hf off' et' i' eo' hb=>by
     rcases g7 with g7 | g7 | g7
     · exact(hnp hf g7).elim
     · cases arr with
       | none=>exact(g7 rfl).elim
       | some m=>cases hb
     · cases arr with
       | some m=>cases hb
       | none=>
         have hb':Bx.el off et i eo=.el off' et' i' eo':=hb
         cases hb'
         have hsz':s'.size=s'.ty.size:=by rw[hsz,h0]
         rw[←hsz']
         refine g7 eo s'.size ?_
         rw[List.length_take,List.length_drop]at hl
         have:=Sh.pos s' hf (giveB_nr hf h3)
         omega) (by cases arr<;>simp[elB]) h3 (by rw[hag];exact hv)
   refine⟨_,w,M',ω',?_,hS⟩
   subst g2
   simp only[Instr.loadAt,Instr.sureAddr,Sem.run_bind,Sem.run_pure,Result.andThen_ok]
   exact run_loadVar hTy (by rw[hl,hsz]) (cells_part g3 eo _) hv
 · cases h
theorem exLoad_ok (hC:CtxOk P C)(S:St0 n B X w0 M0 M ω ρ tmps w){t:TypeId}{d:Nat}(hd:d<n){q:Opd}{ws:List Wr}{cs:List Prop}
   (h:exLoad C t d q=some (ws,cs)) {v:Value} (hq:OpdR n M ω w ρ (vl tmps) q v):Res n B X w0 M0 ρ tmps d ws ((Instr.loadAt t v).run P w):=by
 unfold exLoad at h
 split at h
 · rename_i T hT
   have hTy:=hC.ty t T hT
   split at h
   · rename_i u x off ha
     have hr:=hq.rel (by rw[ha];intro _ _ _ _ _ e;cases e)
     rw[ha]at hr
     obtain⟨b,o,cs',h1,h2,h3⟩:=hr
     obtain⟨y,h4,h5⟩:=El.subK_ok u x off T _ _ h
     simp only[out1,Option.some.injEq,Prod.mk.injEq]at h4
     obtain⟨rfl,rfl⟩:=h4
     have h6:=h5 M cs' h3
     have hl:=Enc.length _ _ _ h6
     have hv:=mkVal_ok (ag:=T.ag) (cs:=(cs'.drop off).take T.size) (fun hg=>by rw[hl];exact Ty.size_sc T hg)
     have hc:CellsAt (full w) b (o+off) ((cs'.drop off).take T.size):=by
       intro i c hc
       rw[List.getElem?_take]at hc
       split at hc
       · rw[List.getElem?_drop]at hc
         have:=(h2.mono (M_full S)) (off+i) c hc
         rwa [←Nat.add_assoc]at this
       · cases hc
     refine⟨_,w,_,_,?_,put_pure S hd hv h6⟩
     subst h1
     simp only[Instr.loadAt,Instr.sureAddr,Sem.run_bind,Sem.run_pure,Result.andThen_ok]
     exact run_loadVar hTy hl hc hv
   · rename_i k g ver off et i eo arr ha
     exact exLoad_elp S hd hTy ha h hq
   · rename_i k g ag off ha
     have hrr:=hq.rel (by rw[ha];intro _ _ _ _ _ e;cases e)
     have htg:=hq.tgt k (by rw[ha];rfl)
     rw[ha]at hrr
     obtain⟨⟨hkn,_⟩,b,cs',q1,q2,q3⟩:=hrr
     split at h
     · rename_i hc
       rw[htg]at hc h
       split at h
       · rename_i s x hA
         split at h
         · rename_i hh
           obtain⟨hag,hnr⟩:=hh
           have hs:=S.slots k hkn
           rw[hA]at hs
           obtain⟨pc,bs,k1,k2,k3,k4⟩:=(show Owns M ω w k s x (vl tmps k) by cases s<;>exact hs)
           have hpl:Place ω w k (ρ.get k).a (vl tmps k) pc:=by
             rw[hA];cases s<;>first | exact k1 | (simp[Sh.noref]at hnr)
           have hpc:cs'=pc:=by
             have:=q3 hc
             rw[hag]at this
             exact valC_fun this k1
           subst hpc
           obtain⟨s',y,h3,h0,h4⟩:=Sh.subK_ok s x off T _ _ h
           obtain⟨bs',g1,g2⟩:=h4 _ _ _ _ k2
           have hl:=EncO.length _ _ _ _ g2
           have hbx:∀ i∈bs',ω i=some k∧notBox (vl tmps k) i=true:=fun i hi=>
             ⟨k4 i (g1.subset hi),noref_box' (fun s'' e=>by rw[e]at hnr;simp[Sh.noref]at hnr) k1 k2 i (g1.subset hi)⟩
           have hsz:s'.size=T.size:=by
             unfold give at h3
             split at h3
             · rename_i hf;rw[free_size hf,h0]
             · split at h3
               · rename_i hn;rw[Sh.size_ty s' hn,h0]
               · cases h3
           have hv:=mkVal_ok (ag:=T.ag) (cs:=(cs'.drop off).take s'.size) (fun hg=>by rw[hl,hsz];exact Ty.size_sc T hg)
           have hS:∃ M' ω',St0 n B X w0 M0 M' ω' (ρ.puts ws) (tmps.setIfInBounds d (mkVal T.ag ((cs'.drop off).take s'.size))) w:=by
             unfold give at h3
             split at h3
             · rename_i hf
               simp only[out1,Option.some.injEq,Prod.mk.injEq]at h3
               obtain⟨rfl,rfl⟩:=h3
               have:=EncO.free _ _ _ _ hf g2
               subst this
               exact⟨_,_,put_c S hd (by rw[free_solid_ag hf,h0];exact hv) g2 List.nodup_nil (by simp)⟩
             · split at h3
               · rename_i hn
                 simp only[out1,Option.some.injEq,Prod.mk.injEq]at h3
                 obtain⟨rfl,rfl⟩:=h3
                 refine⟨_,_,put_ref S hd (t:=0) (by intros;intro e;cases e) (by intros;intro e;cases e) (by intros;intro e;cases e) ⟨⟨hkn,Nat.le_refl _,fun _=>Nat.le_refl _⟩,fun _=>?_⟩⟩
                 refine⟨(cs'.drop off).take s'.size,by rw[h0];exact hv,EncO.toEnc (M_heapOf _ _ _ _ _) s' _ y bs' hn (fun i hi row' hrow=>heapOf_rows S hrow (hbx i hi).1 (hbx i hi).2) g2,fun off' ho=>?_,fun _ _ _ _ e=>by(cases e),trivial⟩
                 simp only[Option.some.injEq]at ho
                 subst ho
                 exact⟨cs',hpl,by simp only[Bx.isT,if_true];rw[Sh.size_ty s' hn]⟩
               · cases h3
           obtain⟨M',ω',hS⟩:=hS
           refine⟨_,w,M',ω',?_,hS⟩
           subst q1
           simp only[Instr.loadAt,Instr.sureAddr,Sem.run_bind,Sem.run_pure,Result.andThen_ok]
           have hcc:=cells_part (q2.mono (M_full S)) off s'.size
           rw[Nat.zero_add]at hcc
           exact run_loadVar hTy (by rw[hl,hsz]) hcc hv
         · cases h
       · cases h
     · cases h
   · rename_i k g ver u x org bx ha
     have hr:=hq.rel (by rw[ha];intro _ _ _ _ _ e;cases e)
     have htg:=hq.tgt k (by rw[ha];rfl)
     rw[ha]at hr
     obtain⟨b0,v0,cs',q1,q2,q3,q4,h1,h0,h2⟩:=hr
     split at h
     · rename_i hc
       obtain⟨c1,c2,c3⟩:=hc
       rw[htg]at c1 c2
       subst c3
       simp only[out1,Option.some.injEq,Prod.mk.injEq]at h
       obtain⟨rfl,rfl⟩:=h
       obtain⟨cs2,k1,k2,_⟩:=h2 ⟨c1,c2⟩
       have:=valC_fun q4 k1
       subst this
       have hl:=Enc.length _ _ _ k2
       refine⟨v0,w,_,_,?_,put_ref S hd (t:=0) (by intros;intro e;cases e) (by intros;intro e;cases e) (by intros;intro e;cases e) ⟨h1,h2⟩⟩
       subst q1
       simp only[Instr.loadAt,Instr.sureAddr,Sem.run_bind,Sem.run_pure,Result.andThen_ok]
       exact run_loadVar hTy hl (rows_full q3) q4
     · cases h
   · rename_i hne1 hne2
     obtain⟨j,g,off,e,h1,h2⟩:=ptrK_ok S h
     obtain⟨hj,rfl,hro,hp⟩:=h2 v hq
     split at h1
     · rename_i hg
       obtain⟨b,hb,hvv⟩:=hp hg
       split at h1
       · rename_i s x ha
         obtain⟨s',y,h3,h0,h4⟩:=Sh.subK_ok s x off T _ _ h1
         obtain⟨b',row,bss,k1,k2,k3,k4,k5⟩:=ref_ptr S hj ha
         rw[hb]at k1
         simp only[Value.pointer.injEq,Option.some.injEq,Addr.mk.injEq,and_true]at k1
         subst k1
         obtain⟨bs',g1,g2⟩:=h4 _ _ _ _ k3
         have hl:=EncO.length _ _ _ _ g2
         have hsz:s'.size=T.size:=by
           unfold give at h3
           split at h3
           · rename_i hf;rw[free_size hf,h0]
           · split at h3
             · rename_i hn;rw[Sh.size_ty s' hn,h0]
             · cases h3
         have hv:=mkVal_ok (ag:=T.ag) (cs:=(row.drop off).take s'.size) (fun hg=>by rw[hl,hsz];exact Ty.size_sc T hg)
         have hg':g=(ρ.get j).g:=hg.symm
         subst hg'
         obtain⟨M',ω',hS⟩:=give_ok S hd hj ha h4 h3 hb k2 (v:=mkVal T.ag ((row.drop off).take s'.size)) (fun _=>by rw[h0];exact hv) (fun hf=>by rw[free_solid_ag hf,h0];exact hv)
         refine⟨_,w,M',ω',?_,hS⟩
         subst hvv
         simp only[Instr.loadAt,Instr.sureAddr,Sem.run_bind,Sem.run_pure,Result.andThen_ok]
         exact run_loadVar hTy (by rw[hl,hsz]) (cellsAt_sub (rows_full k2) off _) hv
       · cases h1
     · cases h1
 · cases h
end
end Fw
namespace Fw
open Go
theorem mkPair_ok (a:Sh)(x:El a.ty)(b:Sh)(y:El b.ty):∃ (s:Sh) (z:El s.ty),(∀ (R:Type) (k:(s:Sh)→El s.ty→R),mkPair a x b y k=k s z)∧
   s.ty=.pair a.ty b.ty∧s.ag=true∧s.noref=(a.noref&&b.noref)∧s.free=(a.free&&b.free)∧s.size=a.size+b.size∧
   ∀ M Rw v1 v2 b1 b2,EncO M Rw a v1 x b1→EncO M Rw b v2 y b2→EncO M Rw s (v1++v2) z (b1++b2):=by
 have gen:∀ (a:Sh) (x:El a.ty) (b:Sh) (y:El b.ty),∃ (z:El (Sh.pair a b).ty),z=(x,y)∧∀ M Rw v1 v2 b1 b2,EncO M Rw a v1 x b1→EncO M Rw b v2 y b2→EncO M Rw (.pair a b) (v1++v2) z (b1++b2):=by
   intro a x b y
   exact⟨(x,y),rfl,fun M Rw v1 v2 b1 b2 h1 h2=>⟨v1,v2,b1,b2,rfl,rfl,h1,h2⟩⟩
 cases a with
 | pure ta=>
   cases b with
   | pure tb=>
     refine⟨.pure (.pair ta tb),(x,y),fun _ _=>rfl,rfl,rfl,rfl,rfl,rfl,fun M Rw v1 v2 b1 b2 ⟨h1,h2⟩ ⟨h3,h4⟩=>⟨by rw[h1,h3];rfl,v1,v2,rfl,h2,h4⟩⟩
   | _=>obtain⟨z,rfl,hz⟩:=gen _ x _ y;exact⟨_,_,fun _ _=>rfl,rfl,rfl,rfl,rfl,rfl,hz⟩
 | _=>obtain⟨z,rfl,hz⟩:=gen _ x _ y;exact⟨_,_,fun _ _=>rfl,rfl,rfl,rfl,rfl,rfl,hz⟩
theorem zc_enc (M:Mem):∀ (T:Ty) (vs rest:List Value),zc T vs=some rest→∃ v1,vs=v1++rest∧Enc M T v1 (dflt T)
 | .int k,vs,rest,h=>by
   unfold zc at h
   split at h<;>try cases h
   all_goals (rename_i heq;cases heq)
   · rename_i k' m r
     split at h
     · rename_i hc;obtain⟨rfl,rfl⟩:=hc;cases h
       exact⟨[_],rfl,rfl,by cases k<;>decide,by cases k<;>decide⟩
     · cases h
 | .bool,vs,rest,h=>by
   unfold zc at h
   split at h<;>try cases h
   all_goals (rename_i heq;cases heq)
   · split at h
     · rename_i hc;cases h;exact⟨[_],rfl,by rw[hc];rfl⟩
     · cases h
 | .str,vs,rest,h=>by
   unfold zc at h
   split at h<;>try cases h
   all_goals (rename_i heq;cases heq)
   · rename_i s r
     split at h
     · rename_i hc;cases h
       refine⟨[_],rfl,?_,Nat.zero_le _⟩
       have:s=⟨#[]⟩:=by cases s;simp at hc;simp[hc]
       rw[this];rfl
     · cases h
 | .slice e,vs,rest,h=>by
   unfold zc at h
   split at h<;>try cases h
   all_goals (rename_i heq;cases heq)
   · exact⟨[_],rfl,none,0,rfl,Nat.le_refl _,by simp,rfl⟩
 | .pair a b,vs,rest,h=>by
   simp only[zc]at h
   split at h
   · rename_i r hr
     obtain⟨v1,h1,h2⟩:=zc_enc M a vs r hr
     obtain⟨v2,h3,h4⟩:=zc_enc M b r rest h
     exact⟨v1++v2,by rw[h1,h3,List.append_assoc],v1,v2,rfl,h2,h4⟩
   · cases h
 | .arr n e,vs,rest,h=>by
   have key:∀ (m:Nat) (vs rest:List Value),repN (zc e) m vs=some rest→∃ v1,vs=v1++rest∧Groups (Enc M e) e.size v1 (List.replicate m (dflt e)):=by
     intro m
     induction m with
     | zero=>intro vs rest h;simp[repN]at h;exact⟨[],by simp[h],rfl⟩
     | succ m ih=>
       intro vs rest h
       simp only[repN]at h
       split at h
       · rename_i r hr
         obtain⟨v1,h1,h2⟩:=zc_enc M e vs r hr
         obtain⟨v2,h3,h4⟩:=ih r rest h
         exact⟨v1++v2,by rw[h1,h3,List.append_assoc],v1,v2,rfl,Enc.length _ _ _ h2,h2,h4⟩
       · cases h
   simp only[zc]at h
   obtain⟨v1,h1,h2⟩:=key n vs rest h
   exact⟨v1,h1,by simp[dflt],h2⟩
theorem zeroK_ok:∀ (T:Ty),∃ (s:Sh) (x:El s.ty),(∀ (R:Type) (k:(s:Sh)→El s.ty→R),zeroK T k=k s x)∧s.ty=T∧s.free=true∧s.noref=true∧s.ag=T.ag∧
   ∀ M Rw vs rest,zc T vs=some rest→∃ v1,vs=v1++rest∧EncO M Rw s v1 x []
 | .int k=>⟨.pure (.int k),dflt (.int k),fun _ _=>rfl,rfl,rfl,rfl,rfl,fun M Rw vs rest h=>by obtain⟨v1,h1,h2⟩:=zc_enc M _ vs rest h;exact⟨v1,h1,rfl,h2⟩⟩
 | .bool=>⟨.pure .bool,dflt .bool,fun _ _=>rfl,rfl,rfl,rfl,rfl,fun M Rw vs rest h=>by obtain⟨v1,h1,h2⟩:=zc_enc M _ vs rest h;exact⟨v1,h1,rfl,h2⟩⟩
 | .str=>⟨.pure .str,dflt .str,fun _ _=>rfl,rfl,rfl,rfl,rfl,fun M Rw vs rest h=>by obtain⟨v1,h1,h2⟩:=zc_enc M _ vs rest h;exact⟨v1,h1,rfl,h2⟩⟩
 | .arr m e=>⟨.pure (.arr m e),dflt (.arr m e),fun _ _=>rfl,rfl,rfl,rfl,rfl,fun M Rw vs rest h=>by obtain⟨v1,h1,h2⟩:=zc_enc M _ vs rest h;exact⟨v1,h1,rfl,h2⟩⟩
 | .slice e=>⟨.nil e,[],fun _ _=>rfl,rfl,rfl,rfl,rfl,fun M Rw vs rest h=>by
     unfold zc at h
     split at h<;>try cases h
     all_goals (rename_i heq;cases heq)
     exact⟨[_],rfl,rfl,⟨none,rfl,by simp⟩,rfl⟩⟩
 | .pair a b=>by
   obtain⟨s,x,h1,h2,h3,h4,_,h5⟩:=zeroK_ok a
   obtain⟨s',x',k1,k2,k3,k4,_,k5⟩:=zeroK_ok b
   obtain⟨s2,z,g1,g2,g3,g4,g5,_,g6⟩:=mkPair_ok s x s' x'
   refine⟨s2,z,fun R k=>by simp only[zeroK,h1,k1,g1],by rw[g2,h2,k2],by rw[g5,h3,k3];rfl,by rw[g4,h4,k4];rfl,by rw[g3];rfl,fun M Rw vs rest h=>?_⟩
   simp only[zc]at h
   split at h
   · rename_i r hr
     obtain⟨v1,e1,e2⟩:=h5 M Rw vs r hr
     obtain⟨v2,e3,e4⟩:=k5 M Rw r rest h
     exact⟨v1++v2,by rw[e1,e3,List.append_assoc],g6 M Rw v1 v2 [] [] e2 e4⟩
   · cases h
theorem zOk_cells {T:Ty}{z:Value}(h:zOk T z=true):∃ cs,ValC T.ag z cs∧zc T cs=some []∧z.cells.toList=cs:=by
 cases z
 case agg cs=>
   simp only[zOk,Bool.and_eq_true]at h
   obtain⟨h1,h2⟩:=h
   split at h2
   · rename_i hz;exact⟨cs.toList,by unfold ValC;rw[if_pos h1],hz,rfl⟩
   · cases h2
 all_goals
   simp only[zOk,Bool.and_eq_true,Bool.not_eq_true']at h
   obtain⟨h1,h2⟩:=h
   split at h2
   · rename_i hz
     exact⟨[_],by unfold ValC;rw[if_neg (by simp[h1])],hz,rfl⟩
   · cases h2
theorem EncO.plain {M:Mem}{R:RowFn}:∀ (s:Sh) (vs:List Value) (x:El s.ty) (bs:List Nat),s.noref=true→EncO M R s vs x bs→Plain vs
 | .pure t,vs,x,bs,_,⟨_,h⟩=>Enc.plain t vs x h
 | .nil _,_,_,_,_,⟨_,⟨a,h,_⟩,_⟩=>by rw[h];intro c hc;simp at hc;subst hc;rfl
 | .hole _,_,_,_,h,_=>by simp[Sh.noref]at h
 | .ref _,_,_,_,h,_=>by simp[Sh.noref]at h
 | .own e,vs,xs,bs,_,h=>by
   rcases h with⟨_,⟨a,h,_⟩,_⟩ | ⟨b,cap,row,bss,h1,h2,_⟩
   · rw[h];intro c hc;simp at hc;subst hc;rfl
   · rw[h2];intro c hc;simp at hc;subst hc;rfl
 | .pair a b,vs,x,bs,hn,⟨v1,v2,b1,b2,h1,h2,h3,h4⟩=>by
   simp[Sh.noref]at hn
   subst h1;intro c hc
   rcases List.mem_append.1 hc with hc | hc
   · exact EncO.plain a _ _ _ hn.1 h3 c hc
   · exact EncO.plain b _ _ _ hn.2 h4 c hc
section
variable {n B:Nat} {X:List Nat} {w0:World} {M0 M:Mem} {ω:Own} {ρ:Env} {tmps:Array Value} {w:World} {P:Program} {C:Ctx}
theorem St0.bnd (S:St0 n B X w0 M0 M ω ρ tmps w)(hB:B≤w0.heap.size):B≤w.heap.size:=Nat.le_trans hB S.fr.size
theorem run_newVar (t:TypeId)(v:Value):(newVar t v).run P w=.ok ⟨w.heap.size,0,none⟩ (w.alloc (.cells v.cells t)):=by
 simp[newVar,newRow]
theorem box_ok (S:St0 n B X w0 M0 M ω ρ tmps w)(hB:B≤w0.heap.size){d:Nat}(hd:d<n){v:Value}{s:Sh}{x:El s.ty}{cs:List Value}{bs:List Nat}
   (hv:v.cells.toList=cs) (he:EncO M (rows w) s cs x bs) (hn:bs.Nodup) (hb:∀ b∈bs,∃ L,n≤L∧ω b=some L) (t:TypeId):
   ∃ ω',St0 n B X w0 M0 M ω' (ρ.puts [w1 d (.c (.ref s) x)]) (tmps.setIfInBounds d (.pointer (some ⟨w.heap.size,0,none⟩))) (w.alloc (.cells v.cells t)):=by
 have S2:=alloc_ok S (S.bnd hB) v.cells t n
 have hlt:∀ b∈bs,b<w.heap.size:=fun b hi=>by obtain⟨row,hr⟩:=EncO.rows s cs x bs he b hi;exact rows_lt hr
 refine⟨_,put_c S2 hd (s:=.ref s) (x:=x) (cs:=[.pointer (some ⟨w.heap.size,0,none⟩)]) (bs:=w.heap.size::bs) rfl ⟨_,cs,bs,rfl,rfl,?_,EncO.alloc he⟩ ?_ ?_⟩
 · rw[rows_alloc,hv]
 · rw[List.nodup_cons]
   exact⟨fun h=>by have:=hlt _ h;omega,hn⟩
 · intro b hi
   rcases List.mem_cons.1 hi with rfl | hi
   · exact⟨n,Nat.le_refl _,by simp⟩
   · obtain⟨L,h1,h2⟩:=hb b hi
     have:=hlt b hi
     exact⟨L,h1,(if_neg (by omega)).trans h2⟩
theorem allocM_ok (S:St0 n B X w0 M0 M ω ρ tmps w)(hB:B≤w.heap.size)(c:Array Value)(e:TypeId):
   ∃ M',M.le M'∧CellsAt M' w.heap.size 0 c.toList∧St0 n B X w0 M0 M' ω ρ tmps (w.alloc (.cells c e)):=by
 have hnone:∀ o,M w.heap.size o=none:=fun o=>by
   cases hm:M w.heap.size o with
   | none=>rfl
   | some v=>have:=World.block_lt_of_cell? _ _ (S.mem _ _ _ hm);simp at this
 have hM:M.le (fun b o=>if b=w.heap.size then c.toList[o]? else M b o):=fun b o v hm=>by
   show (if b=w.heap.size then c.toList[o]? else M b o)=some v
   rw[if_neg (fun e=>by rw[e,hnone]at hm;cases hm)];exact hm
 refine⟨fun b o=>if b=w.heap.size then c.toList[o]? else M b o,hM,fun j cc hj=>by simp only[if_true,Nat.zero_add];exact hj,?_⟩
 have hold:∀ b,b<w.heap.size→(w.alloc (.cells c e)).heap[b]?=w.heap[b]?:=fun b hb=>heap_alloc_old hb
 refine S.step [] S.size (Fr.alloc w _ hB) hM (fun b o hb _=>if_neg (by omega)) ?_ ?_ (fun _ _=>rfl) (by simp) ?_ (by simp)
 · intro b o v hm
   by_cases hb:b=w.heap.size
   · subst hb
     have hm:c.toList[o]?=some v:=by simpa using hm
     have hr:=rows_full (rows_alloc (w:=w) (c:=c) (e:=e))
     have:=hr o v hm
     rw[Nat.zero_add]at this
     exact this
   · have hm:M b o=some v:=by simpa [hb] using hm
     have h:=S.mem b o v hm
     have hlt:=World.block_lt_of_cell? _ _ h
     rw[cell_of_block (hold b hlt)];exact h
 · intro b k hk
   obtain⟨h1,h2,h3⟩:=S.dis b k hk
   exact⟨h1,by simp;omega,fun o=>by show (if b=w.heap.size then c.toList[o]? else M b o)=none;rw[if_neg (by omega)];exact h3 o⟩
 · intro t _ _ b hb
   obtain⟨_,h2,_⟩:=S.dis b t hb
   exact⟨hb,hold b h2⟩
theorem alOf_inv {C:Ctx}{T:Ty}{a:Opd}{j g:Nat}{ag:Bool}(h:alOf C T a=some (j,g,ag)):∃ s x,a.slot=some j∧a.ent.a=.c s x∧s.noref=true∧g=a.ent.g∧ag=s.ag:=by
 unfold alOf at h
 split at h
 · cases h
 · split at h
   · rename_i j' s x h1 h2
     split at h
     · rename_i hc
       simp only[Option.some.injEq,Prod.mk.injEq]at h
       obtain⟨rfl,rfl,rfl⟩:=h
       exact⟨s,x,h1,h2,hc.2.2.2,rfl,rfl⟩
     · cases h
   · cases h
theorem exBox_ok (S:St0 n B X w0 M0 M ω ρ tmps w)(hB:B≤w0.heap.size){t:TypeId}{d:Nat}(hd:d<n){q:Opd}{ws:List Wr}{cs:List Prop}
   (h:exBox C t d q=some (ws,cs)) {v:Value} (hq:OpdR n M ω w ρ (vl tmps) q v):Res n B X w0 M0 ρ tmps d ws ((Instr.box t v).run P w):=by
 unfold exBox at h
 split at h
 · rename_i T hT
   split at h
   · rename_i j g ag hal
     obtain⟨s,x,e1,e2,e3,rfl,rfl⟩:=alOf_inv hal
     obtain⟨g1,g2,_⟩:=hq.slot j e1
     rw[g2]at e2
     have hjn:j<n:=by
       rcases Nat.lt_or_ge j n with h' | h'
       · exact h'
       · rw[S.high j h']at e2;cases e2
     have hs:=S.slots j hjn
     rw[e2]at hs
     obtain⟨pc,bs,k1,k2,k3,k4⟩:=(show Owns M ω w j s x (vl tmps j) by cases s<;>exact hs)
     have hc:=ValC.cells k1 (EncO.plain s pc x bs e3 k2)
     simp only[out1,Option.some.injEq,Prod.mk.injEq]at h
     obtain⟨rfl,rfl⟩:=h
     obtain⟨M',hM,hcell,S1⟩:=allocM_ok S (S.bnd hB) v.cells t
     rw[←g1]at hc
     rw[hc]at hcell
     refine⟨.pointer (some ⟨w.heap.size,0,none⟩),w.alloc (.cells v.cells t),M',_,by simp only[Instr.box,Sem.run_bind,run_newVar,Result.andThen_ok,Sem.run_pure],
       put_ref S1 hd (t:=0) (by intros;intro e;cases e) (by intros;intro e;cases e) (by intros;intro e;cases e) ⟨⟨hjn,by rw[g2];exact Nat.le_refl _⟩,_,pc,rfl,hcell,fun _=>k1⟩⟩
   obtain⟨s,x,ws',h1,M',ω',S1,m1,⟨cs',bs,k1,k2,k3,k4⟩⟩:=tk_ok S n h hq
   split at h1
   · split at h1
     · rename_i hs hn
       simp only[Option.some.injEq,Prod.mk.injEq]at h1
       obtain⟨rfl,rfl⟩:=h1
       have hc:=ValC.cells k1 (EncO.plain s cs' x bs hn k2)
       obtain⟨ω2,S2⟩:=box_ok S1 hB hd hc k2 k3 (fun b hb=>⟨n,Nat.le_refl _,k4 b hb⟩) t
       refine⟨.pointer (some ⟨w.heap.size,0,none⟩),w.alloc (.cells v.cells t),M',ω2,by simp only[Instr.box,Sem.run_bind,run_newVar,Result.andThen_ok,Sem.run_pure],?_⟩
       rw[Env.puts_append];exact S2
     · cases h1
   · cases h1
 · cases h
theorem exAlloc_ok (hC:CtxOk P C)(S:St0 n B X w0 M0 M ω ρ tmps w)(hB:B≤w0.heap.size){t:TypeId}{d:Nat}(hd:d<n){ws:List Wr}{cs:List Prop}
   (h:exAlloc C t d=some (ws,cs)):Res n B X w0 M0 ρ tmps d ws ((Instr.alloc t true (.tuple #[])).run P w):=by
 unfold exAlloc at h
 split at h
 · rename_i T hT
   obtain⟨i,h1,h2,h3,z,h4,h5⟩:=(hC.ty t T hT).info
   obtain⟨s,x,k1,k2,k3,k4,k5,k6⟩:=zeroK_ok T
   rw[k1]at h
   simp only[out1,Option.some.injEq,Prod.mk.injEq]at h
   obtain⟨rfl,rfl⟩:=h
   obtain⟨cs',g1,g2,g3⟩:=zOk_cells h5
   obtain⟨v1,e1,e2⟩:=k6 M (rows w) cs' [] g2
   rw[List.append_nil]at e1
   subst e1
   obtain⟨ω2,S2⟩:=box_ok S hB hd g3 e2 List.nodup_nil (by simp) t
   refine⟨_,_,M,ω2,?_,S2⟩
   have hz:(zeroValue t).run P w=.ok z w:=by simp[zeroValue,typeInfo,h1,h4]
   simp only[Instr.alloc,Sem.run_bind,hz,run_newVar,Result.andThen_ok,Sem.run_pure]
 · cases h
theorem exPick_ok (S:St0 n B X w0 M0 M ω ρ tmps w){gd:Gd}(hg:GuardOk ρ (vl tmps) gd){d:Nat}(hd:d<n){c a b:Operand}{ws:List Wr}{cs:List Prop}
   (h:exPick d (opd ρ gd c) (fun s g ver=>(opd ρ (some (s,g,ver,true)) a,opd ρ (some (s,g,ver,false)) b))=some (ws,cs)) (df:List Deferred):
   Res n B X w0 M0 ρ tmps d ws ((do pure (if ←asBool (Act.eval ⟨tmps,df⟩ c)then Act.eval ⟨tmps,df⟩ a else Act.eval ⟨tmps,df⟩ b):Sem Value).run P w):=by
 unfold exPick at h
 obtain⟨cb,h1,h2⟩:=rd_bool S h
 have hc:=h2 _ (opd_rel S hg c df)
 split at h1
 · rename_i s hs
   obtain⟨x,h3,h4⟩:=rd_bool S h1
   obtain⟨y,h5,h6⟩:=rd_bool S h3
   simp only[out1,Option.some.injEq,Prod.mk.injEq]at h5
   obtain⟨rfl,rfl⟩:=h5
   have hcs:∃ t,c=.tmp t∧s=t:=by
     cases c<;>simp[opd]at hs
     exact⟨_,rfl,hs.symm⟩
   obtain⟨t,rfl,rfl⟩:=hcs
   have hval:vl tmps s=.bool cb:=hc
   cases cb with
   | true=>
     have hv:=h4 _ (opd_rel S (gd:=some (s,_,_,true)) (by rintro _ _ _ _ ⟨⟩;exact⟨⟨rfl,rfl⟩,hval⟩) a df)
     exact⟨_,w,_,_,by rw[hc,hv];rfl,put_pure S hd (t:=.bool) rfl rfl⟩
   | false=>
     have hv:=h6 _ (opd_rel S (gd:=some (s,_,_,false)) (by rintro _ _ _ _ ⟨⟩;exact⟨⟨rfl,rfl⟩,hval⟩) b df)
     exact⟨_,w,_,_,by rw[hc,hv];rfl,put_pure S hd (t:=.bool) rfl rfl⟩
 · cases h1
end
end Fw
namespace Fw
open Go
theorem inR_wrap (k:IntKind)(n:Int):inR k (k.wrap n):=by
 cases k<;>simp only[inR,IntKind.wrap,IntKind.min,IntKind.max,IntKind.signed,IntKind.bits]<;>simp<;>(try split)<;>omega
theorem inR_tmod {k:IntKind}{x y:Int}(hx:inR k x):inR k (x.tmod y):=by
 have h0:0≤k.max∧k.min≤0:=by cases k<;>decide
 have h1:(x.tmod y).natAbs≤x.natAbs:=by rw[Int.natAbs_tmod];exact Nat.mod_le _ _
 have h2:0≤x→0≤x.tmod y:=fun h=>Int.tmod_nonneg _ h
 have h3:x≤0→x.tmod y≤0:=fun h=>by
   have e:x.tmod y=-((-x).tmod y):=by rw[Int.neg_tmod,Int.neg_neg]
   have:=Int.tmod_nonneg y (show 0≤-x by omega)
   omega
 unfold inR at *;omega
section
variable {n B:Nat} {X:List Nat} {w0:World} {M0 M:Mem} {ω:Own} {ρ:Env} {tmps:Array Value} {w:World} {P:Program} {C:Ctx}
theorem put_int (S:St0 n B X w0 M0 M ω ρ tmps w){d:Nat}(hd:d<n){k:IntKind}{x:Int}(hx:inR k x):
   St0 n B X w0 M0 M (settle n d ω) (ρ.puts [w1 d (.c (.pure (.int k)) x)]) (tmps.setIfInBounds d (.int k x)) w:=
 put_pure S hd (t:=.int k) (cs:=[.int k x]) rfl ⟨rfl,hx⟩
theorem put_bool (S:St0 n B X w0 M0 M ω ρ tmps w){d:Nat}(hd:d<n){x:Bool}:
   St0 n B X w0 M0 M (settle n d ω) (ρ.puts [w1 d (.c (.pure .bool) x)]) (tmps.setIfInBounds d (.bool x)) w:=
 put_pure S hd (t:=.bool) (cs:=[.bool x]) rfl rfl
theorem put_str (S:St0 n B X w0 M0 M ω ρ tmps w){d:Nat}(hd:d<n){x:List UInt8}(hx:x.length≤bigLen){s:ByteArray}(hs:s=⟨x.toArray⟩):
   St0 n B X w0 M0 M (settle n d ω) (ρ.puts [w1 d (.c (.pure .str) x)]) (tmps.setIfInBounds d (.string s)) w:=
 put_pure S hd (t:=.str) (cs:=[.string s]) rfl ⟨by rw[hs],hx⟩
theorem exMovePtr_ok (S:St0 n B X w0 M0 M ω ρ tmps w){d:Nat}(hd:d<n){q:Opd}{o:Nat}{ws:List Wr}{cs:List Prop}
   (h:exMovePtr d q o=some (ws,cs)) {v:Value} (hq:OpdR n M ω w ρ (vl tmps) q v):
   ∃ b p,v=.pointer (some ⟨b,p,none⟩)∧∃ M' ω',St0 n B X w0 M0 M' ω' (ρ.puts ws) (tmps.setIfInBounds d (.pointer (some ⟨b,p+o,none⟩))) w:=by
 unfold exMovePtr at h
 split at h
 · rename_i u x off ha
   have hr:=hq.rel (by rw[ha];intro _ _ _ _ _ e;cases e)
   rw[ha]at hr
   obtain⟨b,p,cs',h1,h2,h3⟩:=hr
   simp only[out1,Option.some.injEq,Prod.mk.injEq]at h
   obtain⟨rfl,rfl⟩:=h
   exact⟨b,p+off,h1,_,_,put_ref S hd (t:=0) (by intros;intro e;cases e) (by intros;intro e;cases e) (by intros;intro e;cases e) ⟨b,p,cs',by rw[Nat.add_assoc],h2,h3⟩⟩
 · rename_i k g ag off ha
   have hr:=hq.rel (by rw[ha];intro _ _ _ _ _ e;cases e)
   rw[ha]at hr
   obtain⟨h1,b,cs',h2,h3,h4⟩:=hr
   simp only[out1,Option.some.injEq,Prod.mk.injEq]at h
   obtain⟨rfl,rfl⟩:=h
   exact⟨b,off,h2,_,_,put_ref S hd (t:=0) (by intros;intro e;cases e) (by intros;intro e;cases e) (by intros;intro e;cases e) ⟨h1,b,cs',rfl,h3,h4⟩⟩
 · rename_i k g ver off et i eo arr ha
   have hr:=hq.rel (by rw[ha];intro _ _ _ _ _ e;cases e)
   have htg:=hq.tgt k (by rw[ha];rfl)
   rw[ha]at hr
   obtain⟨h1,h2⟩:=hr
   split at h
   · rename_i hc
     rw[htg]at hc
     simp only[out1,Option.some.injEq,Prod.mk.injEq]at h
     obtain⟨rfl,rfl⟩:=h
     have he:=h2 hc
     unfold ElpR at he
     cases arr with
     | none=>
       simp only[Option.isSome_none,Bool.false_eq_true,if_false]at he
       obtain⟨pc,k1,a,len,cap,k2,k0,k3,k4⟩:=he
       refine⟨a.block,_,k4,_,_,put_ref S hd (t:=0) (by intros;intro e;cases e) (by intros;intro e;cases e) (by intros;intro e;cases e) ⟨h1,fun _=>?_⟩⟩
       unfold ElpR
       simp only[Option.isSome_none,Bool.false_eq_true,if_false]
       exact⟨pc,k1,a,len,cap,k2,k0,k3,by simp only[Nat.add_assoc]⟩
     | some m=>
       simp only[Option.isSome_some,if_true]at he
       obtain⟨k0,b,k1,k2⟩:=he
       refine⟨b,_,k2,_,_,put_ref S hd (t:=0) (by intros;intro e;cases e) (by intros;intro e;cases e) (by intros;intro e;cases e) ⟨h1,fun _=>?_⟩⟩
       unfold ElpR
       simp only[Option.isSome_some,if_true]
       exact⟨k0,b,k1,by simp only[Nat.add_assoc]⟩
   · cases h
 · obtain⟨j,g,off,e,h1,h2⟩:=ptrK_ok S h
   obtain⟨hj,rfl,hro,hp⟩:=h2 v hq
   split at h1
   · rename_i hg
     simp only[out1,Option.some.injEq,Prod.mk.injEq]at h1
     obtain⟨rfl,rfl⟩:=h1
     obtain⟨b,hb,hv⟩:=hp hg
     exact⟨b,off,hv,_,_,put_ref S hd (t:=0) (by intros;intro e;cases e) (by intros;intro e;cases e) (by intros;intro e;cases e) ⟨hro,fun _=>⟨b,hb,rfl⟩⟩⟩
   · cases h1
theorem run_fieldAt (hC:CtxOk P C){t:TypeId}{l:List (Nat×Ty)}(hl:look C.flds t=some l){f o:Nat}{T:Ty}(hf:l[f]?=some (o,T))(b p:Nat):
   (Instr.fieldAt t (.pointer (some ⟨b,p,none⟩)) f).run P w=.ok (.pointer (some ⟨b,p+o,none⟩)) w:=by
 obtain⟨fs,h1,h2⟩:=hC.flds t l hl
 obtain⟨fd,h3,h4,h5,h6⟩:=h2 f o T hf
 simp only[Instr.fieldAt,Sem.run_bind,run_underlying' h1,Result.andThen_ok,h3,Instr.sureAddr,Sem.run_pure,fieldPlace,run_sizeOf h5,if_neg h6,addr_add,h4]
theorem exFieldAddr_ok (hC:CtxOk P C)(S:St0 n B X w0 M0 M ω ρ tmps w){t:TypeId}{d f:Nat}(hd:d<n){q:Opd}{ws:List Wr}{cs:List Prop}
   (h:exFieldAddr C t d q f=some (ws,cs)) {v:Value} (hq:OpdR n M ω w ρ (vl tmps) q v):Res n B X w0 M0 ρ tmps d ws ((Instr.fieldAt t v f).run P w):=by
 unfold exFieldAddr at h
 split at h
 · rename_i l hl
   split at h
   · rename_i o T hf
     obtain⟨b,p,hv,M',ω',hS⟩:=exMovePtr_ok S hd h hq
     subst hv
     exact⟨_,w,M',ω',run_fieldAt hC hl hf b p,hS⟩
   · cases h
 · cases h
theorem exUn_ok (S:St0 n B X w0 M0 M ω ρ tmps w){d:Nat}(hd:d<n){op:UnOp}{T:Ty}{q:Opd}{ws:List Wr}{cs:List Prop}
   (h:exUn op d T q=some (ws,cs)) {v:Value} (hq:OpdR n M ω w ρ (vl tmps) q v):Res n B X w0 M0 ρ tmps d ws ((Op.unary op v).run P w):=by
 unfold exUn at h
 split at h
 · obtain⟨x,h1,h2⟩:=rd_bool S h
   simp only[out1,Option.some.injEq,Prod.mk.injEq]at h1
   obtain⟨rfl,rfl⟩:=h1
   rw[h2 v hq]
   exact⟨_,w,_,_,rfl,put_bool S hd⟩
 · obtain⟨x,h1,h2⟩:=rd_int S h
   simp only[out1,Option.some.injEq,Prod.mk.injEq]at h1
   obtain⟨rfl,rfl⟩:=h1
   rw[(h2 v hq).1]
   exact⟨_,w,_,_,rfl,put_int S hd (inR_wrap _ _)⟩
 · cases h
theorem run_eqGuard_int (op:BinOp)(t:TypeId)(x y:Operand)(k k':IntKind)(a b:Int):(eqGuard op t x y (.int k a) (.int k' b)).run P w=.ok () w:=by
 unfold eqGuard;cases op<;>rfl
theorem run_eqGuard_str (op:BinOp)(t:TypeId)(x y:Operand)(a b:ByteArray):(eqGuard op t x y (.string a) (.string b)).run P w=.ok () w:=by
 unfold eqGuard;cases op<;>rfl
theorem run_eqGuard_bool (op:BinOp)(t:TypeId)(x y:Operand)(a b:Bool):(eqGuard op t x y (.bool a) (.bool b)).run P w=.ok () w:=by
 unfold eqGuard;cases op<;>rfl
theorem inR_fdiv {k:IntKind}{x:Int}(hx:inR k x)(m:Nat):inR k (x.fdiv (2 ^ m)):=by
 have h0:0≤k.max∧k.min≤0:=by cases k<;>decide
 have hp:(0:Int)<2 ^ m:=Int.pow_pos (by decide)
 rw[Int.fdiv_eq_ediv_of_nonneg _ (Int.le_of_lt hp)]
 unfold inR at *
 rcases Int.lt_or_le x 0 with hn | hp'
 · have h1:x≤x / 2 ^ m:=by
     have:=Int.mul_ediv_add_emod x (2 ^ m)
     have h2:=Int.emod_nonneg x (Int.ne_of_gt hp)
     have h3:x / 2 ^ m<0:=Int.ediv_neg_of_neg_of_pos hn hp
     have h4:x≤x / 2 ^ m:=by
       rw[Int.le_ediv_iff_mul_le hp]
       have:x*2 ^ m≤x*1:=Int.mul_le_mul_of_nonpos_left (by omega) (by omega)
       omega
     exact h4
   have h3:x / 2 ^ m<0:=Int.ediv_neg_of_neg_of_pos hn hp
   omega
 · have h1:x / 2 ^ m≤x:=Int.ediv_le_self _ hp'
   have h2:0≤x / 2 ^ m:=Int.ediv_nonneg hp' (Int.le_of_lt hp)
   omega
theorem binInt_ok (S:St0 n B X w0 M0 M ω ρ tmps w){d:Nat}(hd:d<n){op:BinOp}{k:IntKind}{x y:Int}{r:A}{cs:List Prop}
   (h:binInt op k x y=some (r,cs)) (hcs:∀ p∈cs,p) (hx:inR k x) (t:TypeId):
   Res n B X w0 M0 ρ tmps d [w1 d r] ((binOp op t (.int k x) (.int k y)).run P w):=by
 cases op<;>simp only[binInt,Option.some.injEq,Prod.mk.injEq,reduceCtorEq]at h
 all_goals obtain⟨rfl,rfl⟩:=h
 case add=>exact⟨_,w,_,_,by simp[binOp,Op.intArith],put_int S hd (inR_wrap _ _)⟩
 case sub=>exact⟨_,w,_,_,by simp[binOp,Op.intArith],put_int S hd (inR_wrap _ _)⟩
 case mul=>exact⟨_,w,_,_,by simp[binOp,Op.intArith],put_int S hd (inR_wrap _ _)⟩
 case quo=>
   have hy0:y≠0:=hcs _ (by simp)
   exact⟨_,w,_,_,by simp[binOp,Op.intDiv,hy0],put_int S hd (inR_wrap _ _)⟩
 case rem=>
   have hy0:y≠0:=hcs _ (by simp)
   exact⟨_,w,_,_,by simp[binOp,Op.intDiv,hy0],put_int S hd (inR_tmod hx)⟩
 case and=>exact⟨_,w,_,_,by simp[binOp,Op.intBits],put_int S hd (inR_wrap _ _)⟩
 case or=>exact⟨_,w,_,_,by simp[binOp,Op.intBits],put_int S hd (inR_wrap _ _)⟩
 case xor=>exact⟨_,w,_,_,by simp[binOp,Op.intBits],put_int S hd (inR_wrap _ _)⟩
 case eql=>exact⟨_,w,_,_,by simp[binOp,Op.intCmp],put_bool S hd⟩
 case neq=>exact⟨_,w,_,_,by simp[binOp,Op.intCmp],put_bool S hd⟩
 case lss=>exact⟨_,w,_,_,by simp[binOp,Op.intCmp],put_bool S hd⟩
 case leq=>exact⟨_,w,_,_,by simp[binOp,Op.intCmp],put_bool S hd⟩
 case gtr=>exact⟨_,w,_,_,by simp[binOp,Op.intCmp],put_bool S hd⟩
 case geq=>exact⟨_,w,_,_,by simp[binOp,Op.intCmp],put_bool S hd⟩
theorem shiftInt_ok (S:St0 n B X w0 M0 M ω ρ tmps w){d:Nat}(hd:d<n){op:BinOp}{k k2:IntKind}{x y:Int}{r:A}{cs:List Prop}
   (h:shiftInt op k x y=some (r,cs)) (hcs:∀ p∈cs,p) (hx:inR k x) (t:TypeId):
   Res n B X w0 M0 ρ tmps d [w1 d r] ((binOp op t (.int k x) (.int k2 y)).run P w):=by
 cases op<;>simp only[shiftInt,Option.some.injEq,Prod.mk.injEq,reduceCtorEq]at h
 all_goals
   obtain⟨rfl,rfl⟩:=h
   have hy0:0≤y:=hcs _ (by simp)
   have hlt:¬y<0:=by omega
 case shl=>exact⟨_,w,_,_,by simp only[binOp,Op.shift,if_neg hlt];rfl,put_int S hd (inR_wrap _ _)⟩
 case shr=>exact⟨_,w,_,_,by simp only[binOp,Op.shift,if_neg hlt];rfl,put_int S hd (inR_fdiv hx _)⟩
end
end Fw
namespace Fw
open Go
theorem str_toList (x:List UInt8):(ByteArray.mk x.toArray).toList=x:=by
 have h:∀ (b:ByteArray) (i:Nat) (r:List UInt8),ByteArray.toList.loop b i r=r.reverse++b.data.toList.drop i:=by
   intro b i r
   fun_induction ByteArray.toList.loop b i r with
   | case1 i r h ih=>
     rw[ih]
     have hi:i<b.data.toList.length:=by simpa using h
     rw[List.drop_eq_getElem_cons hi]
     have:b.get! i=b.data.toList[i]:=by
       have h':i<b.data.size:=by simpa using hi
       simp only[ByteArray.get!,getElem!_pos b.data i h'];rfl
     simp[this]
   | case2 i r h=>
     have:b.data.toList.length≤i:=by simp at h;simpa using h
     rw[List.drop_eq_nil_of_le this];simp
 unfold ByteArray.toList
 rw[h];simp
section
variable {n B:Nat} {X:List Nat} {w0:World} {M0 M:Mem} {ω:Own} {ρ:Env} {tmps:Array Value} {w:World} {P:Program} {C:Ctx}
theorem binStr_ok (S:St0 n B X w0 M0 M ω ρ tmps w){d:Nat}(hd:d<n){op:BinOp}{x y:List UInt8}{r:A}{cs:List Prop}
   (h:binStr op x y=some (r,cs)) (hcs:∀ p∈cs,p) (t:TypeId):
   Res n B X w0 M0 ρ tmps d [w1 d r] ((binOp op t (.string ⟨x.toArray⟩) (.string ⟨y.toArray⟩)).run P w):=by
 cases op<;>simp only[binStr,Option.some.injEq,Prod.mk.injEq,reduceCtorEq]at h
 all_goals obtain⟨rfl,rfl⟩:=h
 case add=>
   have hl:x.length+y.length≤bigLen:=hcs _ (by simp)
   refine⟨.string (⟨x.toArray⟩++⟨y.toArray⟩),w,_,_,?_,put_str S hd (x:=x++y) (by simpa using hl) ?_⟩
   · have e1:(ByteArray.mk x.toArray).size=x.length:=by simp[ByteArray.size]
     have e2:(ByteArray.mk y.toArray).size=y.length:=by simp[ByteArray.size]
     have hm:¬(((ByteArray.mk x.toArray).size+(ByteArray.mk y.toArray).size:Nat):Int)>IntKind.i64.max:=by
       rw[e1,e2]
       have:IntKind.i64.max=9223372036854775807:=by decide
       rw[this];unfold bigLen at hl;omega
     simp only[binOp,Op.stringOp,if_neg hm,Sem.run_pure]
   · apply ByteArray.ext;simp
 case eql=>exact⟨_,w,_,_,by simp[binOp,Op.stringOp],put_bool S hd⟩
 case neq=>exact⟨.bool (x != y),w,_,_,by simp only[binOp,Op.stringOp,str_toList];rfl,put_bool S hd⟩
theorem str_toListEq (x y:List UInt8):((ByteArray.mk x.toArray).toList==(ByteArray.mk y.toArray).toList)=(x==y):=by
 rw[ByteArray.toList_eq,ByteArray.toList_eq]
theorem run_part {t:TypeId}{T:Ty}(hT:TyR P t T){pre cs post:List Value}{v:Value}(hl:cs.length=T.size)(hv:ValC T.ag v cs):
   (part t (pre++cs++post).toArray pre.length).run P w=.ok v w:=by
 unfold part
 rw[Sem.run_bind,run_isAgg hT,Result.andThen_ok]
 unfold ValC at hv
 cases hag:T.ag with
 | true=>
   rw[hag]at hv
   simp only[if_true]at hv ⊢
   subst hv
   rw[Sem.run_bind,run_sizeOf hT,Result.andThen_ok,←hl]
   simp
 | false=>
   rw[hag]at hv
   simp only[Bool.false_eq_true,if_false]at hv ⊢
   subst hv
   simp
theorem run_eqFields {M1 M2:Mem}{d:Nat}{go:TypeId→Ty→Bool}(hgo:∀ t T,go t T=true→TyR P t T∧∀ (x y:El T) (v1 v2:Value) (c1 c2:List Value),ValC T.ag v1 c1→Enc M1 T c1 x→ValC T.ag v2 c2→Enc M2 T c2 y→
   (Op.equalIn d t v1 v2).run P w=.ok (El.eq T x y) w):∀ (fs:List Go.Field) (T:Ty) (pre1 pre2 c1 c2:List Value) (x y:El T),fldEqB go fs pre1.length T=true→pre1.length=pre2.length→Enc M1 T c1 x→Enc M2 T c2 y→
   (Op.eqFields d (pre1++c1).toArray (pre2++c2).toArray fs).run P w=.ok (El.eq T x y) w
 | [],T,_,_,_,_,_,_,h,_,_,_=>by simp[fldEqB]at h
 | [f],T,pre1,pre2,c1,c2,x,y,h,hp,h1,h2=>by
   simp only[fldEqB,Bool.and_eq_true,beq_iff_eq,bne_iff_ne]at h
   obtain⟨⟨e1,e2⟩,e3⟩:=h
   obtain⟨hT,hq⟩:=hgo _ _ e3
   have l1:=Enc.length _ _ _ h1
   have l2:=Enc.length _ _ _ h2
   have v1:=mkVal_ok (ag:=T.ag) (cs:=c1) (fun hg=>by rw[l1];exact Ty.size_sc T hg)
   have v2:=mkVal_ok (ag:=T.ag) (cs:=c2) (fun hg=>by rw[l2];exact Ty.size_sc T hg)
   have p1:=run_part (P:=P) (w:=w) hT (pre:=pre1) (post:=[]) l1 v1
   have p2:=run_part (P:=P) (w:=w) hT (pre:=pre2) (post:=[]) l2 v2
   rw[List.append_nil]at p1 p2
   have q:=hq x y _ _ c1 c2 v1 h1 v2 h2
   simp only[Op.eqFields,if_pos e2,Sem.run_bind,e1,p1,Result.andThen_ok,hp ▸ p2,q]
   cases El.eq T x y<;>rfl
 | f::f'::r,T,pre1,pre2,c1,c2,x,y,h,hp,h1,h2=>by
   cases T with
   | pair A B=>
     simp only[fldEqB,Bool.and_eq_true,beq_iff_eq,bne_iff_ne]at h
     obtain⟨⟨⟨e1,e2⟩,e3⟩,e4⟩:=h
     obtain⟨hT,hq⟩:=hgo _ _ e3
     obtain⟨a1,b1,rfl,g1,g2⟩:=h1
     obtain⟨a2,b2,rfl,k1,k2⟩:=h2
     have l1:=Enc.length _ _ _ g1
     have l2:=Enc.length _ _ _ k1
     have v1:=mkVal_ok (ag:=A.ag) (cs:=a1) (fun hg=>by rw[l1];exact Ty.size_sc A hg)
     have v2:=mkVal_ok (ag:=A.ag) (cs:=a2) (fun hg=>by rw[l2];exact Ty.size_sc A hg)
     have p1:=run_part (P:=P) (w:=w) hT (pre:=pre1) (post:=b1) l1 v1
     have p2:=run_part (P:=P) (w:=w) hT (pre:=pre2) (post:=b2) l2 v2
     have q:=hq x.1 y.1 _ _ a1 a2 v1 g1 v2 k1
     have ih:=run_eqFields hgo (f'::r) B (pre1++a1) (pre2++a2) b1 b2 x.2 y.2 (by rw[List.length_append,l1];exact e4) (by simp[hp,l1,l2]) g2 k2
     rw[List.append_assoc]at p1 p2
     rw[List.append_assoc,List.append_assoc]at ih
     rw[Op.eqFields,if_pos e2]
     simp only[Sem.run_bind,e1,p1,Result.andThen_ok,hp ▸ p2,q]
     show _=Result.ok (El.eq A x.1 y.1&&El.eq B x.2 y.2) w
     cases El.eq A x.1 y.1
     · rfl
     · simpa using ih
   | _=>simp[fldEqB]at h
theorem run_equalIn {M1 M2:Mem}:∀ (m:Nat) (t:TypeId) (T:Ty),eqB P m t T=true→∀ (d:Nat),m≤d→∀ (x y:El T) (v1 v2:Value) (c1 c2:List Value),ValC T.ag v1 c1→Enc M1 T c1 x→ValC T.ag v2 c2→Enc M2 T c2 y→
   (Op.equalIn d t v1 v2).run P w=.ok (El.eq T x y) w
 | 0,_,_,h,_,_,_,_,_,_,_,_,_,_,_,_=>by simp[eqB]at h
 | m+1,t,T,h,0,hd,_,_,_,_,_,_,_,_,_,_=>by omega
 | m+1,t,T,h,d+1,hd,x,y,v1,v2,c1,c2,hv1,h1,hv2,h2=>by
   simp only[eqB,Bool.and_eq_true,beq_iff_eq]at h
   obtain⟨_,h⟩:=h
   cases hu:P.underlying t with
   | none=>rw[hu]at h;cases T<;>cases h
   | some dsc=>
     rw[hu]at h
     cases T with
     | int k=>
       cases dsc with
       | int k'=>
         have e1:c1=[v1]:=hv1
         have e2:c2=[v2]:=hv2
         subst e1;subst e2
         obtain⟨f1,_⟩:=h1
         obtain⟨f2,_⟩:=h2
         simp only[List.cons.injEq,and_true]at f1 f2
         subst f1;subst f2
         rw[run_equalIn_int w d t k _ x y hu];rfl
       | _=>cases h
     | bool=>
       cases dsc with
       | bool=>
         have e1:c1=[v1]:=hv1
         have e2:c2=[v2]:=hv2
         subst e1;subst e2
         have f1:[v1]=[Value.bool x]:=h1
         have f2:[v2]=[Value.bool y]:=h2
         simp only[List.cons.injEq,and_true]at f1 f2
         subst f1;subst f2
         rw[run_equalIn_bool w d t x y hu];rfl
       | _=>cases h
     | str=>
       cases dsc with
       | string=>
         have e1:c1=[v1]:=hv1
         have e2:c2=[v2]:=hv2
         subst e1;subst e2
         obtain⟨f1,_⟩:=h1
         obtain⟨f2,_⟩:=h2
         simp only[List.cons.injEq,and_true]at f1 f2
         subst f1;subst f2
         rw[run_equalIn_string w d t _ _ hu,str_toListEq];rfl
       | _=>cases h
     | slice e=>cases dsc<;>cases h
     | arr m e=>cases dsc<;>cases h
     | pair a b=>
       cases dsc with
       | struct fs=>
         simp only[Bool.and_eq_true,Bool.not_eq_true']at h
         have hf:P.fieldsOf t=fs:=by unfold Program.fieldsOf;rw[hu]
         have e1:v1=.agg c1.toArray:=hv1
         have e2:v2=.agg c2.toArray:=hv2
         subst e1;subst e2
         rw[run_equalIn_agg w d t _ _ (by rw[hf];exact hu) h.1,hf]
         exact run_eqFields (fun t T ht=>⟨⟨12,by
           cases m with
           | zero=>simp[eqB]at ht
           | succ m=>simp only[eqB,Bool.and_eq_true,beq_iff_eq]at ht;exact ht.1⟩,fun x y v1 v2 c1 c2 g1 g2 g3 g4=>run_equalIn m t T ht d (by omega) x y v1 v2 c1 c2 g1 g2 g3 g4⟩) fs.toList (.pair a b) [] [] c1 c2 x y h.2 rfl h1 h2
       | _=>cases h
theorem exBin_ok (hC:CtxOk P C)(S:St0 n B X w0 M0 M ω ρ tmps w){op:BinOp}{t u:TypeId}{d:Nat}(hd:d<n){q1 q2:Opd}{ws:List Wr}{cs:List Prop}
   (h:exBin C op t u d q1 q2=some (ws,cs)) (hcs:∀ p∈cs,p) {v1 v2:Value} (hq1:OpdR n M ω w ρ (vl tmps) q1 v1) (hq2:OpdR n M ω w ρ (vl tmps) q2 v2) (a b:Operand):
   Res n B X w0 M0 ρ tmps d ws ((do eqGuard op t a b v1 v2;binOp op t v1 v2:Sem Value).run P w):=by
 unfold exBin at h
 split at h
 · rename_i k hk
   have shift:∀ (k2:IntKind),(rd (.int k) q1 fun x=>rd (.int k2) q2 fun y=>match shiftInt op k x y with | some (r,cs)=>some ([w1 d r],cs) | none=>none)=some (ws,cs)→
       Res n B X w0 M0 ρ tmps d ws ((do eqGuard op t a b v1 v2;binOp op t v1 v2:Sem Value).run P w):=by
     intro k2 h
     obtain⟨x,h1,h2⟩:=rd_int S h
     obtain⟨y,h3,h4⟩:=rd_int S h1
     obtain⟨e1,r1⟩:=h2 v1 hq1
     obtain⟨e2,r2⟩:=h4 v2 hq2
     subst e1;subst e2
     split at h3
     · rename_i r cs' hr
       simp only[Option.some.injEq,Prod.mk.injEq]at h3
       obtain⟨rfl,rfl⟩:=h3
       simp only[Sem.run_bind,run_eqGuard_int,Result.andThen_ok]
       exact shiftInt_ok S hd hr hcs r1 t
     · cases h3
   have arith:(rd (.int k) q1 fun x=>rd (.int k) q2 fun y=>match binInt op k x y with | some (r,cs)=>some ([w1 d r],cs) | none=>none)=some (ws,cs)→
       Res n B X w0 M0 ρ tmps d ws ((do eqGuard op t a b v1 v2;binOp op t v1 v2:Sem Value).run P w):=by
     intro h
     obtain⟨x,h1,h2⟩:=rd_int S h
     obtain⟨y,h3,h4⟩:=rd_int S h1
     obtain⟨e1,r1⟩:=h2 v1 hq1
     obtain⟨e2,r2⟩:=h4 v2 hq2
     subst e1;subst e2
     split at h3
     · rename_i r cs' hr
       simp only[Option.some.injEq,Prod.mk.injEq]at h3
       obtain⟨rfl,rfl⟩:=h3
       simp only[Sem.run_bind,run_eqGuard_int,Result.andThen_ok]
       exact binInt_ok S hd hr hcs r1 t
     · cases h3
   split at h
   · split at h
     · exact shift _ h
     · cases h
   · split at h
     · exact shift _ h
     · cases h
   · exact arith h
 · obtain⟨x,h1,h2⟩:=rd_str S h
   obtain⟨y,h3,h4⟩:=rd_str S h1
   obtain⟨e1,r1⟩:=h2 v1 hq1
   obtain⟨e2,r2⟩:=h4 v2 hq2
   subst e1;subst e2
   split at h3
   · rename_i r cs' hr
     simp only[Option.some.injEq,Prod.mk.injEq]at h3
     obtain⟨rfl,rfl⟩:=h3
     simp only[Sem.run_bind,run_eqGuard_str,Result.andThen_ok]
     exact binStr_ok S hd hr hcs t
   · cases h3
 · rename_i hT
   have hu:P.underlying t=some .bool:=(hC.ty t _ hT).under
   obtain⟨x,h1,h2⟩:=rd_bool S h
   obtain⟨y,h3,h4⟩:=rd_bool S h1
   have e1:=h2 v1 hq1
   have e2:=h4 v2 hq2
   subst e1;subst e2
   have heq:(Op.equal t (.bool x) (.bool y)).run P w=.ok (x==y) w:=by
     unfold Op.equal Op.maxDepth Op.equalIn
     simp only[Sem.run_bind,run_underlying' hu,Result.andThen_ok,Sem.run_pure]
   split at h3
   · simp only[out1,Option.some.injEq,Prod.mk.injEq]at h3
     obtain⟨rfl,rfl⟩:=h3
     exact⟨.bool (x==y),w,_,_,by simp only[Sem.run_bind,run_eqGuard_bool,Result.andThen_ok,binOp,heq,Sem.run_pure],put_bool S hd⟩
   · simp only[out1,Option.some.injEq,Prod.mk.injEq]at h3
     obtain⟨rfl,rfl⟩:=h3
     exact⟨.bool (x != y),w,_,_,by simp only[Sem.run_bind,run_eqGuard_bool,Result.andThen_ok,binOp,heq,Sem.run_pure];rfl,put_bool S hd⟩
   · cases h3
 · rename_i T1 T2 hT
   split at h
   · rename_i heqs
     obtain⟨hE,hG⟩:=hC.eq t _ heqs hT
     obtain⟨x,h1,h2⟩:=rd_ok S h
     obtain⟨y,h3,h4⟩:=rd_ok S h1
     obtain⟨c1,e1,e2⟩:=h2 v1 hq1
     obtain⟨c2,e3,e4⟩:=h4 v2 hq2
     have f1:v1=.agg c1.toArray:=e1
     have f2:v2=.agg c2.toArray:=e3
     have heq:=run_equalIn (P:=P) (w:=w) 8 t (.pair T1 T2) hE 10000 (by decide) x y v1 v2 c1 c2 e1 e2 e3 e4
     subst f1;subst f2
     split at h3
     · simp only[out1,Option.some.injEq,Prod.mk.injEq]at h3
       obtain⟨rfl,rfl⟩:=h3
       exact⟨.bool (El.eq (.pair T1 T2) x y),w,_,_,by rw[Sem.run_bind,run_eqGuard_agg w _ _ _ _ _ _ hG,Result.andThen_ok,run_eql_struct,heq];rfl,put_bool S hd⟩
     · simp only[out1,Option.some.injEq,Prod.mk.injEq]at h3
       obtain⟨rfl,rfl⟩:=h3
       exact⟨.bool (!(El.eq (.pair T1 T2) x y)),w,_,_,by rw[Sem.run_bind,run_eqGuard_agg w _ _ _ _ _ _ hG,Result.andThen_ok,run_neq_struct,heq];rfl,put_bool S hd⟩
     · cases h3
   · cases h
 · cases h
theorem getD_of_lt {α:Type}(xs:List α)(i:Nat)(d:α)(h:i<xs.length):xs[i]?=some (xs.getD i d):=by
 rw[List.getElem?_eq_getElem h,List.getD_eq_getElem?_getD,List.getElem?_eq_getElem h];rfl
theorem exIndex_ok (hC:CtxOk P C)(S:St0 n B X w0 M0 M ω ρ tmps w){t:TypeId}{d:Nat}(hd:d<n){q1 q2:Opd}{ws:List Wr}{cs:List Prop}
   (h:exIndex C t d q1 q2=some (ws,cs)) (hcs:∀ p∈cs,p) {v1 v2:Value} (hq1:OpdR n M ω w ρ (vl tmps) q1 v1) (hq2:OpdR n M ω w ρ (vl tmps) q2 v2):
   Res n B X w0 M0 ρ tmps d ws ((Instr.index t v1 v2).run P w):=by
 unfold exIndex at h
 obtain⟨idx,h1,h2⟩:=rd_int S h
 obtain⟨ev,ri⟩:=h2 v2 hq2
 subst ev
 split at h1
 · rename_i m e hT
   have hTy:=hC.ty t _ hT
   split at h1
   · rename_i hf
     obtain⟨xs,h3,h4⟩:=rd_ok S h1
     obtain⟨c1,e1,g1⟩:=h4 v1 hq1
     simp only[Option.some.injEq,Prod.mk.injEq]at h3
     obtain⟨rfl,rfl⟩:=h3
     have hr:inRange idx m:=hcs _ (by simp)
     obtain⟨te,hu,hTe⟩:=hTy.under
     have ev1:v1=.agg c1.toArray:=e1
     subst ev1
     obtain⟨hl,hg⟩:=g1
     have hx:=getD_of_lt xs idx.toNat (dflt e) (by unfold inRange at hr;omega)
     have hen:=Groups.get xs c1 idx.toNat _ hg hx
     have hsz:e.size=1:=Ty.size_sc e hf.2
     have hlen:=Enc.length _ _ _ hen
     rw[hsz]at hen hlen
     obtain⟨c,hc⟩:∃ c,(c1.drop (idx.toNat*1)).take 1=[c]:=by
       match (c1.drop (idx.toNat*1)).take 1,hlen with
       | [c],_=>exact⟨c,rfl⟩
     rw[hc]at hen
     have hci:c1[idx.toNat]?=some c:=by
       have:(c1.drop (idx.toNat*1))[0]?=some c:=by
         have:=congrArg (fun l=>l[0]?) hc
         simpa using this
       simpa using this
     refine⟨c,w,_,_,?_,put_pure S hd (t:=e) (cs:=[c]) (by unfold ValC;rw[hf.2];simp) (Enc.flat e _ _ hf.1 hen)⟩
     have hpart:(part te c1.toArray idx.toNat).run P w=.ok c w:=by
       simp only[part,Sem.run_bind,run_isAgg hTe,hf.2,Result.andThen_ok,Bool.false_eq_true,if_false]
       have:c1.toArray[idx.toNat]?=some c:=by simpa using hci
       rw[this];rfl
     unfold inRange at hr
     simp only[Instr.index,asIntOf,Sem.run_bind,Sem.run_pure,Result.andThen_ok,run_underlying' hu,if_pos hr,run_sizeOf hTe,hsz,Nat.mul_one,hpart]
   · cases h1
 · rename_i hT
   have hTy:=hC.ty t _ hT
   have hu:P.underlying t=some .string:=hTy.under
   obtain⟨xs,h3,h4⟩:=rd_str S h1
   obtain⟨e1,g1⟩:=h4 v1 hq1
   subst e1
   simp only[Option.some.injEq,Prod.mk.injEq]at h3
   obtain⟨rfl,rfl⟩:=h3
   have hr:inRange idx xs.length:=hcs _ (by simp)
   have hx:=getD_of_lt xs idx.toNat 0 (by unfold inRange at hr;omega)
   refine⟨.int .u8 ((xs.getD idx.toNat 0).toNat:Int),w,_,_,?_,put_int S hd ?_⟩
   · unfold inRange at hr
     have hg:(ByteArray.mk xs.toArray)[idx.toNat]?=some (xs.getD idx.toNat 0):=by
       rw[←hx]
       have hlt:idx.toNat<xs.length:=by omega
       rw[List.getElem?_eq_getElem hlt]
       have hb:idx.toNat<(ByteArray.mk xs.toArray).size:=by simpa [ByteArray.size] using hlt
       rw[getElem?_pos (ByteArray.mk xs.toArray) idx.toNat hb]
       rfl
     simp only[Instr.index,asIntOf,Sem.run_bind,Sem.run_pure,Result.andThen_ok,run_underlying' hu,if_pos hr.1,hg]
   · have:=(xs.getD idx.toNat 0).toNat_lt
     constructor
     · show (0:Int)≤_;omega
     · show _≤(255:Int);omega
 · cases h1
theorem exLen_ok (hC:CtxOk P C)(S:St0 n B X w0 M0 M ω ρ tmps w){t:TypeId}{d:Nat}(hd:d<n){q:Opd}{ws:List Wr}{cs:List Prop}
   (h:exLen C t d q=some (ws,cs)) {v:Value} (hq:OpdR n M ω w ρ (vl tmps) q v) (u:TypeId):Res n B X w0 M0 ρ tmps d ws ((Builtin.len_ #[t] u #[v]).run P w):=by
 have hin:∀ m:Nat,m≤bigLen→inR .i64 (m:Int):=by
   intro m hm;unfold bigLen at hm
   constructor
   · show (-9223372036854775808:Int)≤_;omega
   · show _≤(9223372036854775807:Int);omega
 unfold exLen at h
 split at h
 · rename_i e hT
   obtain⟨te,hu,hTe⟩:=(hC.ty t _ hT).under
   obtain⟨xs,h1,h2⟩:=rd_ok S h
   obtain⟨c1,e1,a,cap,g1,g2,g3,g4⟩:=h2 v hq
   simp only[out1,Option.some.injEq,Prod.mk.injEq]at h1
   obtain⟨rfl,rfl⟩:=h1
   have ev:c1=[v]:=e1
   rw[ev]at g1
   have:=(List.cons.inj g1).1
   subst this
   exact⟨_,w,_,_,by simp[Builtin.len_,run_underlying' hu,goInt],put_int S hd (hin _ (Nat.le_trans g2 g3))⟩
 · rename_i hT
   have hu:P.underlying t=some .string:=(hC.ty t _ hT).under
   obtain⟨xs,h3,h4⟩:=rd_str S h
   obtain⟨e1,g1⟩:=h4 v hq
   subst e1
   simp only[out1,Option.some.injEq,Prod.mk.injEq]at h3
   obtain⟨rfl,rfl⟩:=h3
   exact⟨.int .i64 (xs.length:Int),w,_,_,by
     have hz:(ByteArray.mk xs.toArray).size=xs.length:=by simp[ByteArray.size]
     simp[Builtin.len_,run_underlying' hu,goInt,hz],put_int S hd (hin _ g1)⟩
 · cases h
theorem exMinMax_ok (S:St0 n B X w0 M0 M ω ρ tmps w){mx:Bool}{d:Nat}(hd:d<n){q1 q2:Opd}{ws:List Wr}{cs:List Prop}
   (h:exMinMax mx d q1 q2=some (ws,cs)) {v1 v2:Value} (hq1:OpdR n M ω w ρ (vl tmps) q1 v1) (hq2:OpdR n M ω w ρ (vl tmps) q2 v2) (ts:Array TypeId) (u:TypeId):
   Res n B X w0 M0 ρ tmps d ws (((if mx=true then Builtin.max_ ts u #[v1,v2]else Builtin.min_ ts u #[v1,v2]):Sem Value).run P w):=by
 unfold exMinMax at h
 obtain⟨x,h1,h2⟩:=rd_int S h
 obtain⟨y,h3,h4⟩:=rd_int S h1
 obtain⟨e1,r1⟩:=h2 v1 hq1
 obtain⟨e2,r2⟩:=h4 v2 hq2
 subst e1;subst e2
 simp only[out1,Option.some.injEq,Prod.mk.injEq]at h3
 obtain⟨rfl,rfl⟩:=h3
 cases mx with
 | true=>
   refine⟨.int .i64 (max x y),w,_,_,?_,put_int S hd (x:=max x y) ?_⟩
   · simp only[if_true,Builtin.max_,Builtin.max2,List.foldlM,Sem.run_bind,Sem.run_pure,Result.andThen_ok]
     congr 2
     split<;>omega
   · unfold inR at *;omega
 | false=>
   refine⟨.int .i64 (min x y),w,_,_,?_,put_int S hd (x:=min x y) ?_⟩
   · simp only[Bool.false_eq_true,if_false,Builtin.min_,Builtin.min2,List.foldlM,Sem.run_bind,Sem.run_pure,Result.andThen_ok]
     congr 2
     split<;>omega
   · unfold inR at *;omega
end
end Fw
namespace Fw
open Go
structure After (w:World) (M:Mem) (w':World) (M':Mem):Prop where
 le:M.le M'
 mem:∀ b o v,M' b o=some v→w'.cell? ⟨b,o,none⟩=some v
 old:∀ b o,b<w.heap.size→M' b o=M b o
structure Meets (P:Program) (f:Nat) (F:Fun):Prop where
 fn : ∃ fn, P.funcs[f]? = some fn ∧ (fn.name == "runtime.NumGoroutine") = false ∧ fn.body.isNone = false
 call:∀ (w:World) (M:Mem) (vs:List Value) (xs:Vals F.args),(∀ b o v,M b o=some v→w.cell? ⟨b,o,none⟩=some v)→ArgsR M F.args vs xs→F.pre xs→
   Calls P f vs.toArray w fun e w'=>∃ v M' bs,e=.returned v∧Fr w.heap.size [] w w'∧After w M w' M'∧ResR M' (rows w') F.res v (F.run xs) bs∧bs.Nodup∧
     ∀ b∈bs,w.heap.size≤b∧∀ o,M' b o=none
section
variable {n B:Nat} {X:List Nat} {w0:World} {M0 M:Mem} {ω:Own} {ρ:Env} {tmps:Array Value} {w:World} {P:Program} {C:Ctx}
def OpdsR (n:Nat)(M:Mem)(ω:Own)(w:World)(ρ:Env)(vals:Vl):List Opd→List Value→Prop
 | [],[]=>True
 | q::qs,v::vs=>OpdR n M ω w ρ vals q v∧OpdsR n M ω w ρ vals qs vs
 | _,_=>False
theorem argsK_ok (S:St0 n B X w0 M0 M ω ρ tmps w){R:Type}{r:R}:∀ (ts:List Ty) (qs:List Opd) (vs:List Value) (k:Vals ts→Option R),argsK ts qs k=some r→
   OpdsR n M ω w ρ (vl tmps) qs vs→∃ xs,k xs=some r∧ArgsR (full w) ts vs xs
 | [],[],[],k,h,_=>⟨(),h,trivial⟩
 | t::ts,q::qs,v::vs,k,h,⟨hq,hqs⟩=>by
   simp only[argsK]at h
   obtain⟨x,h1,h2⟩:=rd_ok S h
   obtain⟨xs,h3,h4⟩:=argsK_ok S ts qs vs _ h1 hqs
   exact⟨(x,xs),h3,h2 v hq,h4⟩
 | [],_::_,_,k,h,_=>by simp[argsK]at h
 | _::_,[],_,k,h,_=>by simp[argsK]at h
 | [],[],_::_,_,_,hq=>hq.elim
 | _::_,_::_,[],_,_,hq=>hq.elim
theorem call_step (S:St0 n B X w0 M0 M ω ρ tmps w)(hB:B≤w0.heap.size){w':World}{M':Mem}{bs:List Nat}(hfr:Fr w.heap.size [] w w')(hM:M.le M')
   (hmem:∀ b o v,M' b o=some v→w'.cell? ⟨b,o,none⟩=some v) (hold:∀ b o,b<w.heap.size→M' b o=M b o)
   (hbs:∀ b∈bs,w.heap.size≤b∧b<w'.heap.size∧∀ o,M' b o=none) (L:Nat):
   St0 n B X w0 M0 M' (fun b=>if b∈bs then some L else ω b) ρ tmps w':=by
 refine S.step [] S.size ⟨hfr.os,hfr.tape,hfr.output,hfr.size,fun k hk hx=>hfr.block k (Nat.lt_of_lt_of_le hk (S.bnd hB)) (by simp)⟩ hM (fun b o hb _=>hold b o (Nat.lt_of_lt_of_le hb (S.bnd hB))) hmem ?_ (fun _ _=>rfl) (by simp) ?_ (by simp)
 · intro b k hk
   split at hk
   · rename_i hb
     obtain⟨h1,h2,h3⟩:=hbs b hb
     exact⟨.inl (Nat.le_trans (S.bnd hB) h1),h2,h3⟩
   · obtain⟨h1,h2,h3⟩:=S.dis b k hk
     exact⟨h1,Nat.lt_of_lt_of_le h2 hfr.size,fun o=>by rw[hold b o h2];exact h3 o⟩
 · intro t _ _ b hb
   obtain⟨_,h2,_⟩:=S.dis b t hb
   refine⟨?_,hfr.block b h2 (by simp)⟩
   rw[if_neg (fun h=>by have:=(hbs b h).1;omega)];exact hb
theorem TupR.closed {M M':Mem}{R:RowFn}:∀ (ss:List Sh) (x:Vals (ss.map Sh.ty)) (vs:List Value) (bs:List Nat),ss.all Sh.closed=true→TupR M R (resK ss x) vs bs→TupR M' R (resK ss x) vs bs
 | [],_,[],_,_,h=>h
 | [],_,_::_,_,_,h=>h
 | s::ss,x,v::vs,bs,hc,⟨cs,b1,b2,h1,h2,h3,h4⟩=>by
   simp at hc
   exact⟨cs,b1,b2,h1,EncO.closed s cs x.1 b1 hc.1 h2,h3,TupR.closed ss x.2 vs b2 (by simpa using hc.2) h4⟩
 | _::_,_,[],_,_,h=>h
theorem ResR.closed {M M':Mem}{R:RowFn}(ss:List Sh)(v:Value)(x:Vals (ss.map Sh.ty))(bs:List Nat)(hc:ss.all Sh.closed=true)(h:ResR M R ss v x bs):ResR M' R ss v x bs:=by
 match ss,x,h with
 | [s],x,⟨cs,h1,h2⟩=>exact⟨cs,h1,EncO.closed s cs x.1 bs (by simpa using hc) h2⟩
 | [],x,⟨vs,h1,h2⟩=>exact⟨vs,h1,TupR.closed [] x vs bs hc h2⟩
 | s::s'::ss,x,⟨vs,h1,h2⟩=>exact⟨vs,h1,TupR.closed (s::s'::ss) x vs bs hc h2⟩
theorem TupR.rows {M:Mem}{R:RowFn}:∀ (l:List (Option SV)) (vs:List Value) (bs:List Nat),TupR M R l vs bs→∀ b∈bs,∃ row,R b=some row
 | [],[],bs,h,b,hb=>by rw[show bs=[]from h]at hb;simp at hb
 | some q::l,v::vs,bs,⟨cs,b1,b2,h1,h2,h3,h4⟩,b,hb=>by
   rw[h3]at hb
   rcases List.mem_append.1 hb with hb | hb
   · exact EncO.rows q.s cs q.x b1 h2 b hb
   · exact TupR.rows l vs b2 h4 b hb
 | none::l,_::vs,bs,h,b,hb=>TupR.rows (l:=l) (vs:=vs) (bs:=bs) h b hb
 | [],_::_,_,h,_,_=>h.elim
 | some _::_,[],_,h,_,_=>h.elim
 | none::_,[],_,h,_,_=>h.elim
theorem ResR.rows {M:Mem}{R:RowFn}(ss:List Sh)(v:Value)(x:Vals (ss.map Sh.ty))(bs:List Nat)(h:ResR M R ss v x bs):∀ b∈bs,∃ row,R b=some row:=by
 match ss,x,h with
 | [s],x,⟨cs,h1,h2⟩=>exact EncO.rows s cs x.1 bs h2
 | [],x,⟨vs,h1,h2⟩=>exact TupR.rows _ vs bs h2
 | s::s'::ss,x,⟨vs,h1,h2⟩=>exact TupR.rows _ vs bs h2
theorem put_res (S:St0 n B X w0 M0 M ω ρ tmps w){d:Nat}(hd:d<n){v:Value}{ss:List Sh}{x:Vals (ss.map Sh.ty)}{bs:List Nat}
   (h:ResR M (rows w) ss v x bs) (hn:bs.Nodup) (hb:∀ b∈bs,∃ L,n≤L∧ω b=some L):
   St0 n B X w0 M0 M (settle n d ω) (ρ.puts [w1 d (resA ss x)]) (tmps.setIfInBounds d v) w:=by
 have hbs:∀ b∈bs,settle n d ω b=some d:=fun b hi=>let ⟨_,h1,h2⟩:=hb b hi;settle_lim h2 h1
 match ss,x,h with
 | [s],x,⟨cs,h1,h2⟩=>exact put_ok S hd fun _=>⟨cs,bs,h1,h2,hn,hbs⟩
 | [],x,⟨vs,h1,h2⟩=>exact put_ok S hd fun _=>⟨vs,bs,h1,h2,hn,hbs⟩
 | s::s'::ss,x,⟨vs,h1,h2⟩=>exact put_ok S hd fun _=>⟨vs,bs,h1,h2,hn,hbs⟩
theorem exCall_ok (S:St0 n B X w0 M0 M ω ρ tmps w)(hB:B≤w0.heap.size)(hF:∀ f F,C.fn f=some F→Meets P f F){f d:Nat}(hd:d<n){qs:List Opd}{ws:List Wr}{cs:List Prop}
   (h:exCall C f d qs=some (ws,cs)) (hcs:∀ p∈cs,p) {vs:List Value} (hqs:OpdsR n M ω w ρ (vl tmps) qs vs)
   (hio:exCallM C f d qs=some (ws,cs)→Calls P f vs.toArray w fun e w'=>∃ v M' ω',e=.returned v∧St0 n B X w0 M0 M' ω' (ρ.puts ws) (tmps.setIfInBounds d v) w')
   (hio2:exCallS C f d qs=some (ws,cs)→Calls P f vs.toArray w fun e w'=>∃ v M' ω',e=.returned v∧St0 n B X w0 M0 M' ω' (ρ.puts ws) (tmps.setIfInBounds d v) w'):
   Calls P f vs.toArray w fun e w'=>∃ v M' ω',e=.returned v∧St0 n B X w0 M0 M' ω' (ρ.puts ws) (tmps.setIfInBounds d v) w':=by
 unfold exCall at h
 split at h
 · rename_i F hf
   have hm:=hF f F hf
   split at h
   · rename_i hcl
     obtain⟨xs,h1,h2⟩:=argsK_ok S F.args qs vs _ h hqs
     simp only[Option.some.injEq,Prod.mk.injEq]at h1
     obtain⟨rfl,rfl⟩:=h1
     refine(hm.call w (full w) vs xs (fun _ _ _ h=>h) h2 (hcs _ (by simp))).mono ?_
     rintro e w' ⟨v,M',bs,rfl,hfr,haf,hr,hn,hbs⟩
     have hr':=ResR.closed (M':=M) F.res v _ bs hcl hr
     have S2:=call_step S hB (M':=M) (bs:=bs) hfr (Mem.le_refl _) (fun b o v' hv=>by
         have hc:=S.mem b o v' hv
         rw[cell_of_block (hfr.block b (World.block_lt_of_cell? _ _ hc) (by simp))];exact hc) (fun _ _ _=>rfl)
       (fun b hb=>⟨(hbs b hb).1,by obtain⟨row,hrow⟩:=ResR.rows F.res v _ bs hr b hb;exact rows_lt hrow,fun o=>by
         cases hm:M b o with
         | none=>rfl
         | some u=>have:=World.block_lt_of_cell? _ _ (S.mem b o u hm);have h3:=(hbs b hb).1;simp at this;omega⟩) n
     exact⟨v,M,_,rfl,put_res S2 hd hr' hn (fun b hb=>⟨n,Nat.le_refl _,by simp[hb]⟩)⟩
   · exact hio2 h
 · exact hio h
end
end Fw
namespace Fw
open Go
def ov (z:List Value)(o:Nat)(p:List Value):List Value:=z.take o++p++z.drop (o+p.length)
theorem ov_get {z p:List Value}{o:Nat}(h:o+p.length≤z.length)(i:Nat):(ov z o p)[i]?=if o≤i∧i<o+p.length then p[i-o]? else z[i]?:=by
 unfold ov
 rw[List.append_assoc]
 rcases Nat.lt_or_ge i o with hi | hi
 · rw[List.getElem?_append_left (by simp;omega),List.getElem?_take,if_pos hi,if_neg (by omega)]
 · rw[List.getElem?_append_right (by simp;omega)]
   rw[List.length_take,Nat.min_eq_left (by omega)]
   rcases Nat.lt_or_ge i (o+p.length)with h2 | h2
   · rw[List.getElem?_append_left (by omega),if_pos ⟨hi,h2⟩]
   · rw[List.getElem?_append_right (by omega),if_neg (by omega),List.getElem?_drop]
     congr 1;omega
theorem foldl_set (o:Nat):∀ (p:List Value) (k:Nat) (z:Array Value),o+k+p.length≤z.size→
   ((p.zipIdx k).foldl (fun cs (c,j)=>cs.setIfInBounds (o+j) c) z).toList=ov z.toList (o+k) p
 | [],k,z,_=>by simp[ov]
 | c::p,k,z,h=>by
   simp only[List.zipIdx_cons,List.foldl_cons]
   simp only[List.length_cons]at h
   rw[foldl_set o p (k+1) _ (by simp;omega)]
   apply List.ext_getElem?
   intro i
   rw[ov_get (by simp;omega),ov_get (by simp;omega)]
   simp only[Array.toList_setIfInBounds,List.length_cons]
   by_cases h1:i=o+k
   · subst h1
     rw[if_neg (by omega),if_pos (by omega),List.getElem?_set_self (by simp;omega)]
     simp
   · by_cases h2:o+(k+1)≤i∧i<o+(k+1)+p.length
     · rw[if_pos h2,if_pos (by omega),show i-(o+k)=(i-(o+(k+1)))+1 by omega,List.getElem?_cons_succ]
     · rw[if_neg h2,if_neg (by omega),List.getElem?_set_ne (by omega)]
theorem ov_length {z p:List Value}{o:Nat}(h:o+p.length≤z.length):(ov z o p).length=z.length:=by
 unfold ov;simp;omega
theorem ov_at {z p:List Value}{o:Nat}(h:o+p.length≤z.length):((ov z o p).drop o).take p.length=p:=by
 unfold ov
 rw[List.append_assoc,List.drop_append,List.drop_eq_nil_of_le (by simp;omega)]
 simp[Nat.min_eq_left (show o≤z.length by omega)]
theorem ov_other {z p:List Value}{o o' s:Nat}(h:o+p.length≤z.length)(hd:o+p.length≤o'∨o'+s≤o):((ov z o p).drop o').take s=(z.drop o').take s:=by
 apply List.ext_getElem?
 intro i
 simp only[List.getElem?_take,List.getElem?_drop]
 split
 · rename_i hi
   unfold ov
   rcases hd with hd | hd
   · rw[List.getElem?_append_right (by simp;omega),List.getElem?_drop]
     congr 1;simp;omega
   · rw[List.getElem?_append_left (by simp;omega),List.getElem?_append_left (by simp;omega),List.getElem?_take,if_pos (by omega)]
 · rfl
theorem fill_ok (place:Nat→Option (Nat×Nat))(N:Nat)
   (hdisj:∀ i j oi si oj sj,place i=some (oi,si)→place j=some (oj,sj)→i<N→j<N→i≠j→oi+si≤oj∨oj+sj≤oi):
   ∀ (ps:List (Nat×Value)) (z:Array Value),(∀ q∈ps,q.1<N∧∃ o,place q.1=some (o,q.2.cells.size)∧o+q.2.cells.size≤z.size)→(ps.map Prod.fst).Nodup→
   ∃ cells,Instr.fill place z ps=some cells∧cells.size=z.size∧∀ i o s,i<N→place i=some (o,s)→
     (cells.toList.drop o).take s=match look ps i with | some v=>v.cells.toList | none=>(z.toList.drop o).take s
 | [],z,_,_=>⟨z,rfl,rfl,fun i o s _ _=>rfl⟩
 | (i,v)::ps,z,h,hn=>by
   obtain⟨hiN,o,h1,h2⟩:=h (i,v) (by simp)
   simp only[List.map_cons,List.nodup_cons]at hn
   have hz:=foldl_set o v.cells.toList 0 z (by simpa using h2)
   rw[Nat.add_zero]at hz
   have hsz:(v.cells.zipIdx.foldl (fun cs (c,j)=>cs.setIfInBounds (o+j) c) z).toList=ov z.toList o v.cells.toList:=by
     rw[←hz,←Array.foldl_toList];simp
   have hlen:=congrArg List.length hsz
   rw[ov_length (by simpa using h2)]at hlen
   simp only[Array.length_toList]at hlen
   obtain⟨cells,k1,k2,k3⟩:=fill_ok place N hdisj ps (v.cells.zipIdx.foldl (fun cs (c,j)=>cs.setIfInBounds (o+j) c) z)
     (fun q hq=>by obtain⟨g0,o',g1,g2⟩:=h q (by simp[hq]);exact⟨g0,o',g1,by rw[hlen];exact g2⟩) hn.2
   refine⟨cells,?_,by rw[k2,hlen],fun j oj sj hj hp=>?_⟩
   · unfold Instr.fill
     rw[h1]
     simp only
     rw[if_neg (by simp;omega)]
     exact k1
   · rw[k3 j oj sj hj hp,hsz]
     by_cases hij:i=j
     · subst hij
       rw[h1]at hp
       simp only[Option.some.injEq,Prod.mk.injEq]at hp
       obtain⟨rfl,rfl⟩:=hp
       have:look ps i=none:=by
         have hnone:∀ (ps:List (Nat×Value)),i∉ps.map Prod.fst→look ps i=none:=by
           intro ps
           induction ps with
           | nil=>intro _;rfl
           | cons q r ih=>
             intro hni
             simp only[List.map_cons,List.mem_cons,not_or]at hni
             obtain⟨q1,q2⟩:=q
             simp only[look]
             rw[if_neg (fun e=>hni.1 e.symm)]
             exact ih hni.2
         exact hnone ps hn.1
       rw[this]
       simp only[look,if_true]
       have:=ov_at (z:=z.toList) (p:=v.cells.toList) (o:=o) (by simpa using h2)
       simpa using this
     · have hl:look ((i,v)::ps) j=look ps j:=by simp[look,hij]
       rw[hl]
       cases look ps j with
       | some v'=>rfl
       | none=>
         simp only
         rw[ov_other (by simpa using h2) (by simpa using hdisj i j o _ oj sj h1 hp hiN hj hij)]
theorem nodupB_ok:∀ (l:List Nat),nodupB l=true→l.Nodup
 | [],_=>List.nodup_nil
 | a::r,h=>by
   simp only[nodupB,Bool.and_eq_true,Bool.not_eq_true']at h
   rw[List.nodup_cons]
   exact⟨by have:=h.1;simpa using this,nodupB_ok r h.2⟩
theorem keysB_ok {α:Type}{n:Nat}{ps:List (Nat×α)}(h:keysB n ps=true):(ps.map Prod.fst).Nodup∧∀ q∈ps,q.1<n:=by
 unfold keysB at h
 simp only[Bool.and_eq_true]at h
 refine⟨nodupB_ok _ h.1,fun q hq=>?_⟩
 have:=List.all_eq_true.1 h.2 q.1 (List.mem_map_of_mem hq)
 simpa using this
theorem look_map {α β:Type}(f:α→β):∀ (ps:List (Nat×α)) (i:Nat),look (ps.map fun q=>(q.1,f q.2)) i=(look ps i).map f
 | [],_=>rfl
 | (k,a)::r,i=>by simp only[List.map_cons,look];split<;>simp[look_map f r i]
end Fw
