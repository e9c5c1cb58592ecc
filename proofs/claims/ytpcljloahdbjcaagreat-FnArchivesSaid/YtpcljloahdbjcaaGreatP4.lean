/- Plain laws of what is drawn and bent: numbers, stamps, pieces, renewals, strands, evidence. Conditions: none. -/
import Derived.Test.YtpcljloahdbjcaaGreatP3
set_option linter.unusedVariables false
namespace Fw
open Go
set_option linter.unusedSimpArgs false
noncomputable def rawD (c:Cur):Int×Cur:=
 cond (onceF c 6).1 (intF (onceF c 6).2 [-1,0,10000,10001,9223372036854775807,-9223372036854775808]) (belowF (onceF c 6).2 40)
noncomputable def numD (c:Cur):Int×Cur:=intF c [1,2,11,12,13,21,31,32,33,34,0,50]
theorem rawD_ok {c:Cur}(h:curOk c):curOk (rawD c).2:=by
 unfold rawD
 cases (onceF c 6).1 with
 | true=>exact int_ok (once_ok h)
 | false=>exact below_ok (once_ok h)
theorem numD_ok {c:Cur}(h:curOk c):curOk (numD c).2:=int_ok h
noncomputable def bs1 (c:Cur):Int×Cur:=belowF (stampD c).2 9
noncomputable def bentRaw (c:Cur):Stamp×Cur:=
 cond ((bs1 c).1==0) (((belowF (bs1 c).2 6).1,(stampD c).1.2),(belowF (bs1 c).2 6).2)
   (cond ((bs1 c).1==1) (((stampD c).1.1,(intF (bs1 c).2 [-1,3]).1,(stampD c).1.2.2),(intF (bs1 c).2 [-1,3]).2)
     (cond ((bs1 c).1==2) (((stampD c).1.1,(stampD c).1.2.1,(rawD (bs1 c).2).1,(stampD c).1.2.2.2),(rawD (bs1 c).2).2)
       (cond ((bs1 c).1==3) (((stampD c).1.1,(stampD c).1.2.1,(stampD c).1.2.2.1,IntKind.i64.wrap ((stampD c).1.2.2.2.1+1),(stampD c).1.2.2.2.2),(bs1 c).2)
         (cond ((bs1 c).1==4) (((stampD c).1.1,(stampD c).1.2.1,(stampD c).1.2.2.1,(stampD c).1.2.2.2.1,IntKind.i64.wrap ((stampD c).1.2.2.2.2+1)),(bs1 c).2)
           ((stampD c).1,(bs1 c).2)))))
theorem bentEx:∃ f:Cur→Stamp×Cur,∀ c,f c=bentRaw c:=⟨bentRaw,fun _=>rfl⟩
noncomputable def bentD (c:Cur):Stamp×Cur:=Classical.choose bentEx c
theorem bent_eq (c:Cur):bentD c=bentRaw c:=Classical.choose_spec bentEx c
theorem bs1_ok {c:Cur}(h:curOk c):curOk (bs1 c).2:=below_ok (stampD_ok h)
theorem bentD_ok {c:Cur}(h:curOk c):curOk (bentD c).2:=by
 have h1:=bs1_ok h
 rw[bent_eq]
 unfold bentRaw
 cases (bs1 c).1==0 with
 | true=>exact below_ok h1
 | false=>cases (bs1 c).1==1 with
   | true=>exact int_ok h1
   | false=>cases (bs1 c).1==2 with
     | true=>exact rawD_ok h1
     | false=>cases (bs1 c).1==3 with
       | true=>exact h1
       | false=>cases (bs1 c).1==4<;>exact h1
noncomputable def bq1 (c:Cur):Int×Cur:=belowF (pieceD c).2 8
noncomputable def pieceRaw (c:Cur):Piece×Cur:=
 cond ((bq1 c).1==0) (((numD (bq1 c).2).1,(pieceD c).1.2),(numD (bq1 c).2).2)
   (cond ((bq1 c).1==1) (((pieceD c).1.1,(pieceD c).1.2.1++[5],(pieceD c).1.2.2),(bq1 c).2)
     (cond ((bq1 c).1==2) (((pieceD c).1.1,(pieceD c).1.2.1,IntKind.i64.wrap ((pieceD c).1.2.2+1)),(bq1 c).2)
       (cond ((bq1 c).1==3) (((pieceD c).1.1,List.set (pieceD c).1.2.1 0 (intF (bq1 c).2 [100,101,103,105,106,-1]).1,(pieceD c).1.2.2),(intF (bq1 c).2 [100,101,103,105,106,-1]).2)
         (cond ((bq1 c).1==4) (((pieceD c).1.1,List.set (pieceD c).1.2.1 1 (IntKind.i64.wrap (List.getD (pieceD c).1.2.1 1 (dflt TI)+1)),(pieceD c).1.2.2),(bq1 c).2)
           ((pieceD c).1,(bq1 c).2)))))
theorem pieceEx:∃ f:Cur→Piece×Cur,∀ c,f c=pieceRaw c:=⟨pieceRaw,fun _=>rfl⟩
noncomputable def pieceB (c:Cur):Piece×Cur:=Classical.choose pieceEx c
theorem pieceB_eq (c:Cur):pieceB c=pieceRaw c:=Classical.choose_spec pieceEx c
theorem bq1_ok {c:Cur}(h:curOk c):curOk (bq1 c).2:=below_ok (pieceD_ok h)
theorem pieceB_ok {c:Cur}(h:curOk c):curOk (pieceB c).2:=by
 have h1:=bq1_ok h
 rw[pieceB_eq]
 unfold pieceRaw
 cases (bq1 c).1==0 with
 | true=>exact numD_ok h1
 | false=>cases (bq1 c).1==1 with
   | true=>exact h1
   | false=>cases (bq1 c).1==2 with
     | true=>exact h1
     | false=>cases (bq1 c).1==3 with
       | true=>exact int_ok h1
       | false=>cases (bq1 c).1==4<;>exact h1
theorem pieceD_ints (c:Cur):5≤List.length (pieceD c).1.2.1∧List.length (pieceD c).1.2.1≤9:=by
 unfold pieceD
 cases (belowF c 5).1==0 with
 | true=>exact⟨by show 5≤7;decide,by show 7≤9;decide⟩
 | false=>cases (belowF c 5).1==1 with
   | true=>exact⟨by show 5≤5;decide,by show 5≤9;decide⟩
   | false=>cases (belowF c 5).1==2 with
     | true=>exact⟨by show 5≤5;decide,by show 5≤9;decide⟩
     | false=>cases (belowF c 5).1==3 with
       | true=>exact⟨by show 5≤9;decide,by show 9≤9;decide⟩
       | false=>exact⟨by show 5≤6;decide,by show 6≤9;decide⟩
theorem pdIdx (c:Cur)(j:Nat)(hj:j<5):inRange (j:Int) (List.length (pieceD c).1.2.1):=by
 have:=(pieceD_ints c).1
 exact⟨by omega,by omega⟩
theorem pcSmN {k m:Int}{l:List Int}(h:l.length≤64):Sm 64 TPiece (k,l,m):=⟨trivial,⟨h,fun _ _=>trivial⟩,trivial⟩
theorem pieceB_sm (c:Cur):Sm 64 TPiece (pieceB c).1:=by
 have h:=(pieceD_ints c).2
 rw[pieceB_eq]
 unfold pieceRaw
 cases (bq1 c).1==0 with
 | true=>exact pcSmN (k:=(numD (bq1 c).2).1) (l:=(pieceD c).1.2.1) (m:=(pieceD c).1.2.2) (by omega)
 | false=>cases (bq1 c).1==1 with
   | true=>exact pcSmN (k:=(pieceD c).1.1) (l:=(pieceD c).1.2.1++[5]) (m:=(pieceD c).1.2.2) (by rw[List.length_append];show _+1≤64;omega)
   | false=>cases (bq1 c).1==2 with
     | true=>exact pcSmN (k:=(pieceD c).1.1) (l:=(pieceD c).1.2.1) (by omega)
     | false=>cases (bq1 c).1==3 with
       | true=>exact pcSmN (k:=(pieceD c).1.1) (l:=List.set (pieceD c).1.2.1 0 _) (m:=(pieceD c).1.2.2) (by rw[List.length_set];omega)
       | false=>cases (bq1 c).1==4 with
         | true=>exact pcSmN (k:=(pieceD c).1.1) (l:=List.set (pieceD c).1.2.1 1 _) (m:=(pieceD c).1.2.2) (by rw[List.length_set];omega)
         | false=>exact pcSmN (k:=(pieceD c).1.1) (l:=(pieceD c).1.2.1) (m:=(pieceD c).1.2.2) (by omega)
noncomputable def br1 (c:Cur):Int×Cur:=belowF c 10
def stTime (l:List Stamp)(t:Int):List Stamp:=List.set l 0 (((List.getD l 0 (dflt TStamp)).1,(List.getD l 0 (dflt TStamp)).2.1,t,(List.getD l 0 (dflt TStamp)).2.2.2):Stamp)
noncomputable def renRaw (c:Cur)(r:Renewal):Renewal×Cur:=
 cond ((br1 c).1==0) ((r.1,r.2.1,IntKind.i64.wrap (r.2.2.1+1),r.2.2.2),(br1 c).2)
   (cond ((br1 c).1==1) ((r.1,(belowF (br1 c).2 6).1,r.2.2),(belowF (br1 c).2 6).2)
     (cond ((br1 c).1==2) (((intF (br1 c).2 [-1,0,3]).1,r.2),(intF (br1 c).2 [-1,0,3]).2)
       (cond ((br1 c).1==3) ((r.1,r.2.1,r.2.2.1,r.2.2.2.1++[((1:Int),false)],r.2.2.2.2),(br1 c).2)
         (cond ((br1 c).1==4) ((r.1,r.2.1,r.2.2.1,r.2.2.2.1,r.2.2.2.2++[(bentD (br1 c).2).1]),(bentD (br1 c).2).2)
           (cond ((br1 c).1==5) (cond (decide ((List.length r.2.2.2.2:Int)>0)) ((r.1,r.2.1,r.2.2.1,r.2.2.2.1,stTime r.2.2.2.2 (rawD (br1 c).2).1),(rawD (br1 c).2).2) (r,(br1 c).2))
             (r,(br1 c).2))))))
theorem renBEx:∃ f:Cur→Renewal→Renewal×Cur,∀ c r,f c r=renRaw c r:=⟨renRaw,fun _ _=>rfl⟩
noncomputable def renB (c:Cur)(r:Renewal):Renewal×Cur:=Classical.choose renBEx c r
theorem renB_eq (c:Cur)(r:Renewal):renB c r=renRaw c r:=Classical.choose_spec renBEx c r
theorem br1_ok {c:Cur}(h:curOk c):curOk (br1 c).2:=below_ok h
theorem renB_ok {c:Cur}{r:Renewal}(h:curOk c):curOk (renB c r).2:=by
 have h1:=br1_ok h
 rw[renB_eq]
 unfold renRaw
 cases (br1 c).1==0 with
 | true=>exact h1
 | false=>cases (br1 c).1==1 with
   | true=>exact below_ok h1
   | false=>cases (br1 c).1==2 with
     | true=>exact int_ok h1
     | false=>cases (br1 c).1==3 with
       | true=>exact h1
       | false=>cases (br1 c).1==4 with
         | true=>exact bentD_ok h1
         | false=>cases (br1 c).1==5 with
           | true=>cases decide ((List.length r.2.2.2.2:Int)>0)with
             | true=>exact rawD_ok h1
             | false=>exact h1
           | false=>exact h1
theorem sm_set {t:Ty}{n:Nat}{l:List (El t)}{i:Nat}{x:El t}(h:Sm n (.slice t) l)(hx:Sm n t x):Sm n (.slice t) (List.set l i x):=by
 refine⟨by show (List.set l i x).length≤n;rw[List.length_set];exact h.1,fun y hy=>?_⟩
 rcases List.mem_or_eq_of_mem_set hy with hy | rfl
 · exact h.2 y hy
 · exact hx
theorem sm_app {t:Ty}{n:Nat}{l:List (El t)}{x:El t}(h:Sm n (.slice t) l)(hn:List.length l+1≤n)(hx:Sm n t x):Sm n (.slice t) (l++[x]):=by
 refine⟨by show (l++[x]).length≤n;rw[List.length_append];exact hn,fun y hy=>?_⟩
 rcases List.mem_append.1 hy with hy | hy
 · exact h.2 y hy
 · rw[List.mem_singleton.1 hy];exact hx
theorem stampSm (n:Nat)(s:Stamp):Sm n TStamp s:=⟨trivial,trivial,trivial,trivial,trivial⟩
theorem renB_sm {c:Cur}{r:Renewal}(h:Sm 64 TRen r):Sm 128 TRen (renB c r).1:=by
 have h2:=sm_up (show 64≤128 by decide) _ _ h
 obtain⟨_,_,_,hp,hs⟩:=h2
 have lp:List.length r.2.2.2.1≤64:=h.2.2.2.1.1
 have ls:List.length r.2.2.2.2≤64:=h.2.2.2.2.1
 rw[renB_eq]
 unfold renRaw
 cases (br1 c).1==0 with
 | true=>exact⟨trivial,trivial,trivial,hp,hs⟩
 | false=>cases (br1 c).1==1 with
   | true=>exact⟨trivial,trivial,trivial,hp,hs⟩
   | false=>cases (br1 c).1==2 with
     | true=>exact⟨trivial,trivial,trivial,hp,hs⟩
     | false=>cases (br1 c).1==3 with
       | true=>exact⟨trivial,trivial,trivial,sm_app (t:=.pair TI .bool) hp (by omega) ⟨trivial,trivial⟩,hs⟩
       | false=>cases (br1 c).1==4 with
         | true=>exact⟨trivial,trivial,trivial,hp,sm_app (t:=TStamp) hs (by omega) (stampSm _ _)⟩
         | false=>cases (br1 c).1==5 with
           | true=>cases decide ((List.length r.2.2.2.2:Int)>0)with
             | true=>exact⟨trivial,trivial,trivial,hp,sm_set (t:=TStamp) hs (stampSm _ _)⟩
             | false=>exact⟨trivial,trivial,trivial,hp,hs⟩
           | false=>exact⟨trivial,trivial,trivial,hp,hs⟩
end Fw
namespace Fw
open Go
set_option linter.unusedSimpArgs false
theorem pd0 (c:Cur):inRange 0 (List.length (pieceD c).1.2.1):=pdIdx c 0 (by decide)
theorem pd1 (c:Cur):inRange 1 (List.length (pieceD c).1.2.1):=pdIdx c 1 (by decide)
theorem pdApp (c:Cur):List.length (pieceD c).1.2.1+1≤maxApp:=by
 have:=(pieceD_ints c).2
 unfold maxApp;omega
theorem app64 {α:Type}{l:List α}(h:l.length≤64):l.length+1≤maxApp:=by unfold maxApp;omega
theorem loElim {b:Bool}(h:b=true)(g:(!b)=true):False:=by rw[h]at g;cases g
noncomputable def an1 (c:Cur):Int×Cur:=belowF (strandD c).2 8
noncomputable def an2 (c:Cur):Int×Cur:=belowF (an1 c).2 (List.length (strandD c).1.1.2:Int)
noncomputable def anyRaw (c:Cur):(Strand×Doc×Sig)×Cur:=
 cond ((an1 c).1==0) ((((strandD c).1.1.1++[(pieceB (an1 c).2).1],(strandD c).1.1.2),(strandD c).1.2),(pieceB (an1 c).2).2)
   (cond ((an1 c).1==1) ((((strandD c).1.1.1++[List.getD (strandD c).1.1.1 0 (dflt TPiece)],(strandD c).1.1.2),(strandD c).1.2),(an1 c).2)
     (cond ((an1 c).1==2) (cond (decide ((List.length (strandD c).1.1.2:Int)>0))
         ((((strandD c).1.1.1,List.set (strandD c).1.1.2 (an2 c).1.toNat (renB (an2 c).2 (List.getD (strandD c).1.1.2 (an2 c).1.toNat (dflt TRen))).1),(strandD c).1.2),(renB (an2 c).2 (List.getD (strandD c).1.1.2 (an2 c).1.toNat (dflt TRen))).2)
         ((strandD c).1,(an1 c).2))
       (cond ((an1 c).1==3) (cond (decide ((List.length (strandD c).1.1.2:Int)>0))
           ((((strandD c).1.1.1,subL (strandD c).1.1.2 1 (List.length (strandD c).1.1.2:Int)),(strandD c).1.2),(an1 c).2)
           ((strandD c).1,(an1 c).2))
         ((strandD c).1,(an1 c).2))))
theorem anyEx:∃ f:Cur→(Strand×Doc×Sig)×Cur,∀ c,f c=anyRaw c:=⟨anyRaw,fun _=>rfl⟩
noncomputable def anyD (c:Cur):(Strand×Doc×Sig)×Cur:=Classical.choose anyEx c
theorem anyD_eq (c:Cur):anyD c=anyRaw c:=Classical.choose_spec anyEx c
theorem an1_ok {c:Cur}(h:curOk c):curOk (an1 c).2:=below_ok (strandD_ok h)
theorem anIdx (c:Cur)(h:(List.length (strandD c).1.1.2:Int)>0):inRange (an2 c).1 (List.length (strandD c).1.1.2):=below_lt h
theorem anTail {n:Nat}(h:(n:Int)>0):(0:Int)≤1∧(1:Int)≤n∧(n:Int)≤n:=⟨by decide,by omega,Int.le_refl _⟩
theorem anApp (c:Cur):List.length (strandD c).1.1.1+1≤maxApp:=by
 have:=(okR_len (okR_strand c)).2
 unfold maxApp;omega
theorem anPiece (c:Cur):Sm big20 TPiece (List.getD (strandD c).1.1.1 0 (dflt TPiece)):=(tiny_big (strandD_tiny c)).1.2 _ (getD_mem (strandD_pos c) _)
theorem anRen {c:Cur}{i:Int}(h:inRange i (List.length (strandD c).1.1.2)):Sm 64 TRen (List.getD (strandD c).1.1.2 i.toNat (dflt TRen)):=(strandD_tiny c).1.2.2 _ (getD_mem h _)
def anP (r:(Strand×Doc×Sig)×Cur):Prop:=curOk r.2∧Sm 128 TStrand r.1.1
theorem anyD_P {c:Cur}(h:curOk c):anP (anyD c):=by
 have h0:=(strandD_tiny c).1
 have hs:Sm 128 TStrand (strandD c).1.1:=sm_up (by decide) _ _ h0
 have hl:=okR_len (okR_strand c)
 have h1:=an1_ok h
 rw[anyD_eq]
 unfold anyRaw
 cases (an1 c).1==0 with
 | true=>exact⟨pieceB_ok h1,sm_app (t:=TPiece) hs.1 (by omega) (sm_up (show 64≤128 by decide) _ _ (pieceB_sm _)),hs.2⟩
 | false=>cases (an1 c).1==1 with
   | true=>exact⟨h1,sm_app (t:=TPiece) hs.1 (by omega) (hs.1.2 _ (getD_mem (strandD_pos c) _)),hs.2⟩
   | false=>cases (an1 c).1==2 with
     | true=>cases hd:decide ((List.length (strandD c).1.1.2:Int)>0)with
       | true=>
         have hr:=anIdx c (of_decide_eq_true hd)
         exact⟨renB_ok (below_ok h1),hs.1,sm_set (t:=TRen) hs.2 (renB_sm (anRen hr))⟩
       | false=>exact⟨h1,hs⟩
     | false=>cases (an1 c).1==3 with
       | true=>cases hd:decide ((List.length (strandD c).1.1.2:Int)>0)with
         | true=>
           refine⟨h1,hs.1,?_,fun y hy=>hs.2.2 y ?_⟩
           · show (subL (strandD c).1.1.2 1 _).length≤128
             have:=hs.2.1
             unfold subL
             rw[List.length_drop,List.length_take]
             have this:List.length (strandD c).1.1.2≤128:=this
             omega
           · have hy:y∈subL (strandD c).1.1.2 1 (List.length (strandD c).1.1.2:Int):=hy
             unfold subL at hy
             exact List.mem_of_mem_take (List.mem_of_mem_drop hy)
         | false=>exact⟨h1,hs⟩
       | false=>exact⟨h1,hs⟩
section
variable {c:Cur} (h:curOk c)
include h
end
end Fw
namespace Fw
open Go
section
variable {e:Evidence} {acc acc2:List Stamp} {i k:Int}
end
end Fw
namespace Fw
open Go
set_option linter.unusedSimpArgs false
section
variable {ks:List Key} {l:List Authority} {a b:Stamp}
end
section
variable {st:List Stamp} {ks:List Key} {l:List Authority} {z:Stamp×Stamp}
end
end Fw
namespace Fw
open Go
end Fw
namespace Fw
open Go
set_option linter.unusedSimpArgs false
section
variable {f:Frame} {e:Evidence} {d:Doc} {x:Sig} {us:List Piece} {c:Cert}
end
end Fw
namespace Fw
open Go
set_option linter.unusedSimpArgs false
noncomputable def ka1 (c:Cur):Int×Cur:=belowF c (List.length keysT:Int)
noncomputable def ka2 (c:Cur):Int×Cur:=belowF (ka1 c).2 9
noncomputable def kaK (c:Cur):Key:=List.getD keysT (ka1 c).1.toNat (dflt TKey)
noncomputable def keysRaw (c:Cur):List Key×Cur:=
 cond ((ka2 c).1==0) (List.set keysT (ka1 c).1.toNat ((intF (ka2 c).2 [0,1,50,99,100]).1,(kaK c).2),(intF (ka2 c).2 [0,1,50,99,100]).2)
   (cond ((ka2 c).1==1) (List.set keysT (ka1 c).1.toNat ((kaK c).1,(intF (ka2 c).2 [-1,5,100]).1,(kaK c).2.2),(intF (ka2 c).2 [-1,5,100]).2)
     (cond ((ka2 c).1==2) (List.set keysT (ka1 c).1.toNat ((kaK c).1,(kaK c).2.1,(kaK c).2.2.1,(kaK c).2.2.2.1,(intF (ka2 c).2 [0,777]).1),(intF (ka2 c).2 [0,777]).2)
       (cond ((ka2 c).1==3) (List.set keysT (ka1 c).1.toNat ((kaK c).1,(kaK c).2.1,(kaK c).2.2.1,(rawD (ka2 c).2).1,(kaK c).2.2.2.2),(rawD (ka2 c).2).2)
         (cond ((ka2 c).1==4) (List.set keysT (ka1 c).1.toNat ((kaK c).1,(kaK c).2.1,(intF (ka2 c).2 [-1,0,99,100]).1,(kaK c).2.2.2),(intF (ka2 c).2 [-1,0,99,100]).2)
           (keysT,(ka2 c).2)))))
theorem keysEx:∃ f:Cur→List Key×Cur,∀ c,f c=keysRaw c:=⟨keysRaw,fun _=>rfl⟩
noncomputable def keysA (c:Cur):List Key×Cur:=Classical.choose keysEx c
theorem keysA_eq (c:Cur):keysA c=keysRaw c:=Classical.choose_spec keysEx c
theorem ka2_ok {c:Cur}(h:curOk c):curOk (ka2 c).2:=below_ok (below_ok h)
theorem kaIdx (c:Cur):inRange (ka1 c).1 (List.length keysT):=int_range (by decide)
theorem keysA_ok {c:Cur}(h:curOk c):curOk (keysA c).2:=by
 have h1:=ka2_ok h
 rw[keysA_eq]
 unfold keysRaw
 cases (ka2 c).1==0 with
 | true=>exact int_ok h1
 | false=>cases (ka2 c).1==1 with
   | true=>exact int_ok h1
   | false=>cases (ka2 c).1==2 with
     | true=>exact int_ok h1
     | false=>cases (ka2 c).1==3 with
       | true=>exact rawD_ok h1
       | false=>cases (ka2 c).1==4 with
         | true=>exact int_ok h1
         | false=>exact h1
noncomputable def aa1 (c:Cur):Int×Cur:=belowF c 4
noncomputable def aa2 (c:Cur):Int×Cur:=belowF (aa1 c).2 8
noncomputable def aaA (c:Cur):Authority:=List.getD authsT (aa1 c).1.toNat (dflt TAuth)
noncomputable def authsRaw (c:Cur):List Authority×Cur:=
 cond ((aa2 c).1==0) (List.set authsT (aa1 c).1.toNat ((intF (aa2 c).2 [-1,2,99,100]).1,(aaA c).2),(intF (aa2 c).2 [-1,2,99,100]).2)
   (cond ((aa2 c).1==1) (List.set authsT (aa1 c).1.toNat ((aaA c).1,(numD (aa2 c).2).1,(aaA c).2.2),(numD (aa2 c).2).2)
     (cond ((aa2 c).1==2) (List.set authsT (aa1 c).1.toNat ((aaA c).1,(aaA c).2.1,(intF (aa2 c).2 [-1,100,101,9223372036854775807]).1),(intF (aa2 c).2 [-1,100,101,9223372036854775807]).2)
       (authsT,(aa2 c).2)))
theorem authsEx:∃ f:Cur→List Authority×Cur,∀ c,f c=authsRaw c:=⟨authsRaw,fun _=>rfl⟩
noncomputable def authsA (c:Cur):List Authority×Cur:=Classical.choose authsEx c
theorem authsA_eq (c:Cur):authsA c=authsRaw c:=Classical.choose_spec authsEx c
theorem aa2_ok {c:Cur}(h:curOk c):curOk (aa2 c).2:=below_ok (below_ok h)
theorem aaIdx (c:Cur):inRange (aa1 c).1 (List.length authsT):=int_range (n:=4) (by decide)
theorem authsA_ok {c:Cur}(h:curOk c):curOk (authsA c).2:=by
 have h1:=aa2_ok h
 rw[authsA_eq]
 unfold authsRaw
 cases (aa2 c).1==0 with
 | true=>exact int_ok h1
 | false=>cases (aa2 c).1==1 with
   | true=>exact numD_ok h1
   | false=>cases (aa2 c).1==2 with
     | true=>exact int_ok h1
     | false=>exact h1
noncomputable def ma1 (c:Cur):Int×Cur:=belowF c 4
noncomputable def ma2 (c:Cur):Int×Cur:=belowF (ma1 c).2 9
noncomputable def maM (c:Cur):Method:=List.getD methsT (ma1 c).1.toNat (dflt TMethod)
noncomputable def methsRaw (c:Cur):List Method×Cur:=
 cond ((ma2 c).1==0) (List.set methsT (ma1 c).1.toNat ((intF (ma2 c).2 [-1,0,1,99,100]).1,(maM c).2),(intF (ma2 c).2 [-1,0,1,99,100]).2)
   (cond ((ma2 c).1==1) (List.set methsT (ma1 c).1.toNat ((maM c).1,(rawD (ma2 c).2).1,(maM c).2.2),(rawD (ma2 c).2).2)
     (cond ((ma2 c).1==2) (List.set methsT (ma1 c).1.toNat ((maM c).1,(maM c).2.1,(intF (ma2 c).2 [0,1,45,10001,10002]).1,(maM c).2.2.2),(intF (ma2 c).2 [0,1,45,10001,10002]).2)
       (cond ((ma2 c).1==3) (List.set methsT (ma1 c).1.toNat ((maM c).1,(maM c).2.1,(maM c).2.2.1,(intF (ma2 c).2 [0,1,45,10001,10002]).1),(intF (ma2 c).2 [0,1,45,10001,10002]).2)
         (cond ((ma2 c).1==4) (subL methsT 0 (ma1 c).1,(ma2 c).2)
           (methsT,(ma2 c).2)))))
theorem methsEx:∃ f:Cur→List Method×Cur,∀ c,f c=methsRaw c:=⟨methsRaw,fun _=>rfl⟩
noncomputable def methsA (c:Cur):List Method×Cur:=Classical.choose methsEx c
theorem methsA_eq (c:Cur):methsA c=methsRaw c:=Classical.choose_spec methsEx c
theorem ma2_ok {c:Cur}(h:curOk c):curOk (ma2 c).2:=below_ok (below_ok h)
theorem maIdx (c:Cur):inRange (ma1 c).1 (List.length methsT):=int_range (n:=4) (by decide)
theorem maCut (c:Cur):(0:Int)≤0∧(0:Int)≤(ma1 c).1∧(ma1 c).1≤(List.length methsT:Int):=by
 have:=maIdx c
 exact⟨Int.le_refl _,this.1,Int.le_of_lt this.2⟩
theorem methsA_ok {c:Cur}(h:curOk c):curOk (methsA c).2:=by
 have h1:=ma2_ok h
 rw[methsA_eq]
 unfold methsRaw
 cases (ma2 c).1==0 with
 | true=>exact int_ok h1
 | false=>cases (ma2 c).1==1 with
   | true=>exact rawD_ok h1
   | false=>cases (ma2 c).1==2 with
     | true=>exact int_ok h1
     | false=>cases (ma2 c).1==3 with
       | true=>exact int_ok h1
       | false=>cases (ma2 c).1==4 with
         | true=>exact h1
         | false=>exact h1
noncomputable def fa1 (c:Cur):Int×Cur:=belowF (frameD c).2 10
noncomputable def frameRaw (c:Cur):Frame×Cur:=
 cond ((fa1 c).1==0) (((keysA (fa1 c).2).1,(frameD c).1.2),(keysA (fa1 c).2).2)
   (cond ((fa1 c).1==1) (((frameD c).1.1,(authsA (fa1 c).2).1,(frameD c).1.2.2),(authsA (fa1 c).2).2)
     (cond ((fa1 c).1==2) (((frameD c).1.1,(frameD c).1.2.1,(methsA (fa1 c).2).1,(frameD c).1.2.2.2),(methsA (fa1 c).2).2)
       (cond ((fa1 c).1==3) (((frameD c).1.1,(frameD c).1.2.1,(frameD c).1.2.2.1,(intF (fa1 c).2 [-1,2,6,7]).1,(frameD c).1.2.2.2.2),(intF (fa1 c).2 [-1,2,6,7]).2)
         (cond ((fa1 c).1==4) (((frameD c).1.1,(frameD c).1.2.1,(frameD c).1.2.2.1,(frameD c).1.2.2.2.1,(rawD (fa1 c).2).1),(rawD (fa1 c).2).2)
           ((frameD c).1,(fa1 c).2)))))
theorem frameEx:∃ f:Cur→Frame×Cur,∀ c,f c=frameRaw c:=⟨frameRaw,fun _=>rfl⟩
noncomputable def frameA (c:Cur):Frame×Cur:=Classical.choose frameEx c
theorem frameA_eq (c:Cur):frameA c=frameRaw c:=Classical.choose_spec frameEx c
theorem fa1_ok {c:Cur}(h:curOk c):curOk (fa1 c).2:=below_ok (frameD_ok h)
theorem frameA_ok {c:Cur}(h:curOk c):curOk (frameA c).2:=by
 have h1:=fa1_ok h
 rw[frameA_eq]
 unfold frameRaw
 cases (fa1 c).1==0 with
 | true=>exact keysA_ok h1
 | false=>cases (fa1 c).1==1 with
   | true=>exact authsA_ok h1
   | false=>cases (fa1 c).1==2 with
     | true=>exact methsA_ok h1
     | false=>cases (fa1 c).1==3 with
       | true=>exact int_ok h1
       | false=>cases (fa1 c).1==4 with
         | true=>exact rawD_ok h1
         | false=>exact h1
end Fw
namespace Fw
open Go
theorem itemAt_get {a:Archive}{k:Nat}(h:k<a.2.length):itemAt a k=a.2[k]:=by
 unfold itemAt
 rw[List.getD_eq_getElem?_getD,List.getElem?_eq_getElem h];rfl
def idLt (x y:Item):Prop:=x.1<y.1
theorem good_lt {a:Archive}(h:∀ k,k<List.length a.2→goodP a k):∀ (k:Nat),k<a.2.length→∀ j,j<k→(itemAt a j).1<(itemAt a k).1
 | 0,_,j,hj=>by omega
 | k+1,hk,j,hj=>by
   have h1:=(h (k+1) hk).2 (by omega)
   rw[Nat.add_sub_cancel]at h1
   by_cases e:j=k
   · rw[e];exact h1
   · have:=good_lt h k (by omega) j (by omega)
     omega
theorem arch_mk {a:Archive}:archF a=true↔(∀ x∈a.2,itemF x=true)∧a.2.Pairwise idLt∧inRangeF a.1 0 99=true∧(List.length a.2:Int)≤8:=by
 unfold archF
 rw[boolC_iff]
 constructor
 · rintro⟨h1,h2,h3⟩
   refine⟨fun x hx=>?_,List.pairwise_iff_getElem.2 fun i j hi hj hij=>?_,h2,h3⟩
   · obtain⟨k,hk,rfl⟩:=List.getElem_of_mem hx
     have:=(h1 k hk).1
     rwa [itemAt_get hk]at this
   · have:=good_lt h1 j hj i hij
     rw[itemAt_get hi,itemAt_get hj]at this
     exact this
 · rintro⟨h1,h2,h3,h4⟩
   refine⟨fun k hk=>⟨?_,fun h0=>?_⟩,h3,h4⟩
   · rw[itemAt_get hk];exact h1 _ (List.getElem_mem _)
   · rw[itemAt_get hk,itemAt_get (show k-1<a.2.length by have:k<a.2.length:=hk;omega)]
     exact List.pairwise_iff_getElem.1 h2 (k-1) k (by have:k<a.2.length:=hk;omega) hk (by omega)
theorem itAt_neg {a:Archive}{n:Int}(h:∀ y∈a.2,y.1≠n):itAt a n<0:=by
 unfold itAt findI
 split
 · rename_i k hk
   obtain⟨h1,h2,_⟩:=List.findIdx?_eq_some_iff_getElem.1 hk
   exfalso
   have:a.2[k].1=n:=by simpa using h2
   exact h _ (List.getElem_mem _) this
 · decide
theorem itGet_ok {a:Archive}{n:Int}(h:¬itAt a n<0):itGet a n∈a.2∧(itGet a n).1=n:=by
 cases hk:a.2.findIdx? (fun(x:Item)=>x.1==n)with
 | none=>
   exfalso
   apply h
   unfold itAt findI
   rw[hk];decide
 | some k=>
   have e:itAt a n=(k:Int):=by unfold itAt findI;rw[hk]
   obtain⟨h1,h2,_⟩:=List.findIdx?_eq_some_iff_getElem.1 hk
   unfold itGet
   rw[e]
   have e2:((k:Int)).toNat=k:=by omega
   rw[e2,List.getD_eq_getElem?_getD,List.getElem?_eq_getElem h1]
   exact⟨List.getElem_mem _,by simpa using h2⟩
theorem add_ok {a y:Archive}{x:Item}(h:addItemF a x=(y,true)):archF y=true∧y=(a.1,insI x a.2):=by
 unfold addItemF at h
 split at h
 · rename_i hc
   have e:(a.1,insI x a.2)=y:=congrArg Prod.fst h
   subst e
   exact⟨hc.2,rfl⟩
 · have:=congrArg Prod.snd h;cases this
theorem insP_self {α:Type}(p:α→Bool)(x:α)(l:List α):x∈insP p x l:=by unfold insP;simp
theorem insP_old {α:Type}(p:α→Bool)(x:α){l:List α}{y:α}(h:y∈l):y∈insP p x l:=by
 have e:=List.takeWhile_append_dropWhile (p:=p) (l:=l)
 rw[←e]at h
 unfold insP
 rcases List.mem_append.1 h with h | h
 · exact List.mem_append.2 (.inl h)
 · exact List.mem_append.2 (.inr (List.mem_cons_of_mem _ h))
theorem adds:∀ (l:List Item) (b y:Archive),l.foldl acStep (b,true)=(y,true)→
   y.2.length=b.2.length+l.length∧(l≠[]→archF y=true)∧(∀ z∈l,z∈y.2)∧(∀ z∈b.2,z∈y.2)
 | [],b,y,h=>by
   have e:b=y:=congrArg Prod.fst h
   subst e
   exact⟨rfl,fun h=>(h rfl).elim,fun z hz=>by simp at hz,fun z hz=>hz⟩
 | x::l,b,y,h=>by
   rw[List.foldl_cons]at h
   have e1:acStep (b,true) x=addItemF b x:=if_pos rfl
   rw[e1]at h
   cases hd:addItemF b x with
   | mk b' t=>
     rw[hd]at h
     cases t with
     | false=>
       rw[st_stuck ac_stuck]at h
       have:=congrArg Prod.snd h;cases this
     | true=>
       obtain⟨ha,rfl⟩:=add_ok hd
       obtain⟨k1,k2,k3,k4⟩:=adds l _ y h
       have hlen:(insI x b.2).length=b.2.length+1:=insP_len
       have k1:y.2.length=(insI x b.2).length+l.length:=k1
       refine⟨by rw[hlen]at k1;show y.2.length=b.2.length+(l.length+1);omega,fun _=>?_,fun z hz=>?_,fun z hz=>k4 z (insP_old _ _ hz)⟩
       · by_cases hl:l=[]
         · subst hl
           have e:((b.1,insI x b.2):Archive)=y:=congrArg Prod.fst h
           rw[←e];exact ha
         · exact k2 hl
       · rcases List.mem_cons.1 hz with rfl | hz
         · exact k4 _ (insP_self _ _ _)
         · exact k3 z hz
end Fw
namespace Fw
open Go
noncomputable def it1 (c:Cur):Int×Cur:=belowF (strandD c).2 9
noncomputable def it2 (c:Cur):Int×Cur:=intF (it1 c).2 [50,100,10000]
noncomputable def itemRaw (c:Cur):Item×Cur:=((IntKind.i64.wrap (1+(it1 c).1),(it2 c).1,(strandD c).1.2.1,(strandD c).1.2.2,(strandD c).1.1),(it2 c).2)
theorem itemEx:∃ f:Cur→Item×Cur,∀ c,f c=itemRaw c:=⟨itemRaw,fun _=>rfl⟩
noncomputable def itemD (c:Cur):Item×Cur:=Classical.choose itemEx c
theorem item_eq (c:Cur):itemD c=itemRaw c:=Classical.choose_spec itemEx c
theorem itemD_ok {c:Cur}(h:curOk c):curOk (itemD c).2:=by
 rw[item_eq];exact int_ok (below_ok (strandD_ok h))
theorem signed_doc (c:Cur):(signedD c).1.2.1=(docD c).1:=by
 rw[signed_eq]
 unfold signedRaw
 have key:∀ s,(sgT c s).1.2.1=(docD c).1:=by
   intro s
   unfold sgT
   cases (sg4 c).1<;>rfl
 cases (sg3 c).1<;>exact key _
theorem docD_sm {c:Cur}(h:curOk c):Sm big20 TDoc (docD c).1:=by
 have hd:=docD_doc h
 have h1:=boolC_iff.1 hd
 have h2:=(inR_iff.1 h1.2.1).2
 have h3:=h1.2.2.1
 refine⟨trivial,⟨?_,fun _ _=>trivial⟩,⟨?_,fun _ _=>trivial⟩⟩
 · show List.length (docD c).1.2.1≤big20
   unfold big20;omega
 · show List.length (docD c).1.2.2≤big20
   unfold big20;omega
theorem itemD_sm {c:Cur}(h:curOk c):Sm big20 TItem (itemD c).1:=by
 rw[item_eq]
 refine⟨trivial,trivial,?_,⟨trivial,trivial,trivial,trivial,trivial,trivial,trivial,trivial,trivial⟩,strandD_sm h⟩
 show Sm big20 TDoc (signedD c).1.2.1
 rw[signed_doc];exact docD_sm h
noncomputable def archS (z:Cur×Archive):Cur×Archive:=((itemD z.1).2,(addItemF z.2 (itemD z.1).1).1)
noncomputable def rc1 (c:Cur):Int×Cur:=belowF c 3
noncomputable def rc2 (c:Cur):Int×Cur:=belowF (rc1 c).2 4
noncomputable def archZ (c:Cur):Cur×Archive:=itF archS (rc2 c).1.toNat ((rc2 c).2,((rc1 c).1,[]))
theorem archEx:∃ f:Cur→Archive×Cur,∀ c,f c=((archZ c).2,(archZ c).1):=⟨fun c=>((archZ c).2,(archZ c).1),fun _=>rfl⟩
noncomputable def archD (c:Cur):Archive×Cur:=Classical.choose archEx c
theorem archD_eq (c:Cur):archD c=((archZ c).2,(archZ c).1):=Classical.choose_spec archEx c
def rcP (z:Cur×Archive)(_:Nat):Prop:=curOk z.1∧archF z.2=true∧Sm big20 TArch z.2
theorem addItem_sm {a:Archive}{x:Item}(ha:Sm big20 TArch a)(hx:Sm big20 TItem x):Sm big20 TArch (addItemF a x).1:=by
 unfold addItemF
 split
 · rename_i h
   have h1:=(arch_mk.1 h.2).2.2.2
   refine⟨trivial,⟨?_,fun y hy=>?_⟩⟩
   · show (insI x a.2).length≤big20
     have h1:(((insI x a.2).length:Nat):Int)≤8:=h1
     unfold big20;omega
   · rcases insP_mem hy with rfl | hy
     · exact hx
     · exact ha.2.2 y hy
 · exact ha
theorem addItem_arch {a:Archive}{x:Item}(ha:archF a=true):archF (addItemF a x).1=true:=by
 unfold addItemF
 split
 · rename_i h;exact h.2
 · exact ha
theorem archS_P (z:Cur×Archive)(k:Nat)(h:rcP z k):rcP (archS z) (k+1):=
 ⟨itemD_ok h.1,addItem_arch h.2.1,addItem_sm h.2.2 (itemD_sm h.1)⟩
theorem rc2_ok {c:Cur}(h:curOk c):curOk (rc2 c).2:=below_ok (below_ok h)
theorem rc2_n (c:Cur):0≤(rc2 c).1∧(rc2 c).1≤1000000:=belN (by decide) (by decide)
theorem rc0_P {c:Cur}(h:curOk c):rcP ((rc2 c).2,((rc1 c).1,[])) 0:=by
 refine⟨rc2_ok h,arch_mk.2 ⟨fun x hx=>by simp at hx,List.Pairwise.nil,inR_iff.2 ?_,by show ((0:Nat):Int)≤8;decide⟩,⟨trivial,⟨Nat.zero_le _,fun x hx=>by simp at hx⟩⟩⟩
 have:=below_lt (c:=c) (n:=3) (by decide)
 show 0≤(belowF c 3).1∧(belowF c 3).1≤99
 omega
theorem archZ_P {c:Cur}(h:curOk c):rcP (archZ c) (rc2 c).1.toNat:=dnAll rcP (rc0_P h) archS_P _
theorem archD_ok {c:Cur}(h:curOk c):curOk (archD c).2:=by rw[archD_eq];exact(archZ_P h).1
theorem archD_arch {c:Cur}(h:curOk c):archF (archD c).1=true:=by rw[archD_eq];exact(archZ_P h).2.1
theorem archD_sm {c:Cur}(h:curOk c):Sm big20 TArch (archD c).1:=by rw[archD_eq];exact(archZ_P h).2.2
theorem archD_leaf {c c2:Cur}{a:Archive}(hE:(c2,a)=itF archS (rc2 c).1.toNat ((rc2 c).2,((rc1 c).1,[]))):archD c=(a,c2):=by
 rw[archD_eq]
 unfold archZ
 rw[←hE]
end Fw
namespace Fw
open Go
section
variable {a b:Archive} {ids:List Int} {m:Int}
end
end Fw
namespace Fw
open Go
set_option linter.unusedSimpArgs false
theorem docD_sm64 {c:Cur}(h:curOk c):Sm 64 TDoc (docD c).1:=by
 have h1:=boolC_iff.1 (docD_doc h)
 have h2:=(inR_iff.1 h1.2.1).2
 have h3:=h1.2.2.1
 refine⟨trivial,⟨?_,fun _ _=>trivial⟩,⟨?_,fun _ _=>trivial⟩⟩
 · show List.length (docD c).1.2.1≤64
   omega
 · show List.length (docD c).1.2.2≤64
   omega
theorem docD_pos {c:Cur}(h:curOk c):inRange 0 (List.length (docD c).1.2.1)∧inRange 0 (List.length (docD c).1.2.2)∧List.length (docD c).1.2.1+1≤maxApp:=by
 have h1:=boolC_iff.1 (docD_doc h)
 have h2:=inR_iff.1 h1.2.1
 have h3:=h1.2.2.1
 refine⟨⟨Int.le_refl _,by omega⟩,⟨Int.le_refl _,by omega⟩,?_⟩
 unfold maxApp;omega
def longT:List UInt8:=[48,49,50,51,52,53,54,55,56,57,48,49,50,51,52,53,54,55,56,57,48,49,50,51,52,53,54,55,56,57,48,49,50,51,52,53,54,55,56,57,48]
noncomputable def dq1 (c:Cur):Int×Cur:=belowF (docD c).2 8
noncomputable def dq2 (c:Cur):Int×Cur:=belowF (dq1 c).2 2
noncomputable def docRaw (c:Cur):Doc×Cur:=
 cond ((dq1 c).1==0) (((intF (dq1 c).2 [-1,999,1000]).1,(docD c).1.2),(intF (dq1 c).2 [-1,999,1000]).2)
   (cond ((dq1 c).1==1) (((docD c).1.1,(docD c).1.2.1++[[120]],(docD c).1.2.2),(dq1 c).2)
     (cond ((dq1 c).1==2) (((docD c).1.1,(docD c).1.2.1,List.set (docD c).1.2.2 0 (intF (dq1 c).2 [0,-1,1]).1),(intF (dq1 c).2 [0,-1,1]).2)
       (cond ((dq1 c).1==3) (((docD c).1.1,List.set (docD c).1.2.1 0 (subL longT 0 (IntKind.i64.wrap (40+(dq2 c).1))),(docD c).1.2.2),(dq2 c).2)
         ((docD c).1,(dq1 c).2))))
theorem docBEx:∃ f:Cur→Doc×Cur,∀ c,f c=docRaw c:=⟨docRaw,fun _=>rfl⟩
noncomputable def docB (c:Cur):Doc×Cur:=Classical.choose docBEx c
theorem docB_eq (c:Cur):docB c=docRaw c:=Classical.choose_spec docBEx c
theorem dq1_ok {c:Cur}(h:curOk c):curOk (dq1 c).2:=below_ok (docD_ok h)
theorem dqCut (c:Cur):(0:Int)≤0∧(0:Int)≤IntKind.i64.wrap (40+(dq2 c).1)∧IntKind.i64.wrap (40+(dq2 c).1)≤(List.length longT:Int):=by
 have h:0≤(dq2 c).1∧(dq2 c).1<2:=below_lt (by decide)
 rw[w64 (by omega) (by omega)]
 refine⟨Int.le_refl _,by omega,?_⟩
 show 40+(dq2 c).1≤((41:Nat):Int)
 omega
theorem docB_P {c:Cur}(h:curOk c):curOk (docB c).2∧Sm 128 TDoc (docB c).1:=by
 have h0:=docD_sm64 h
 have hs:Sm 128 TDoc (docD c).1:=sm_up (by decide) _ _ h0
 have h1:=dq1_ok h
 rw[docB_eq]
 unfold docRaw
 cases (dq1 c).1==0 with
 | true=>exact⟨int_ok h1,trivial,hs.2⟩
 | false=>cases (dq1 c).1==1 with
   | true=>exact⟨h1,trivial,sm_app (t:=.str) hs.2.1 (by have:=h0.2.1.1;exact Nat.le_trans (Nat.succ_le_succ this) (by decide)) trivial,hs.2.2⟩
   | false=>cases (dq1 c).1==2 with
     | true=>exact⟨int_ok h1,trivial,hs.2.1,sm_set (t:=TI) hs.2.2 trivial⟩
     | false=>cases (dq1 c).1==3 with
       | true=>exact⟨below_ok h1,trivial,sm_set (t:=.str) hs.2.1 trivial,hs.2.2⟩
       | false=>exact⟨h1,hs⟩
theorem itemD_sm64 {c:Cur}(h:curOk c):Sm 64 TItem (itemD c).1:=by
 rw[item_eq]
 refine⟨trivial,trivial,?_,⟨trivial,trivial,trivial,trivial,trivial,trivial,trivial,trivial,trivial⟩,(strandD_tiny c).1⟩
 show Sm 64 TDoc (signedD c).1.2.1
 rw[signed_doc];exact docD_sm64 h
theorem renew_pieces {c:Cur}{s:Strand}{d:Doc}{m t:Int}:(renewD c s d m t).1.1=s.1:=by
 have k:∀ r,(addRenF s r).1.1=s.1:=fun r=>by
   unfold addRenF
   split<;>rfl
 rw[renew_eq]
 unfold renewRaw
 cases (longF s m).2 with
 | false=>rfl
 | true=>cases (onceF c 3).1<;>exact k _
theorem strand_pieces (c:Cur):(strandD c).1.1.1=(signedD c).1.1.1:=
 dnAll (fun z _=>z.2.1.1=(signedD c).1.1.1) (S:=drawS (signedD c).1.2.1) (s0:=((dr2 c).2,(signedD c).1.1,(dr1 c).1)) rfl (fun s k hs=>(renew_pieces).trans hs) (dr2 c).1.toNat
theorem add_head {s:Strand}{p:Piece}(h:0<List.length s.1):List.getD (addPieceF s p).1.1 0 (dflt TPiece)=List.getD s.1 0 (dflt TPiece):=by
 unfold addPieceF
 split
 · show List.getD (s.1++[p]) 0 _=_
   rw[List.getD_eq_getElem?_getD,List.getD_eq_getElem?_getD,List.getElem?_append_left h]
 · rfl
theorem signed_head (c:Cur):List.getD (signedD c).1.1.1 0 (dflt TPiece)=signPieceF (signedD c).1.2.2:=by
 rw[signed_eq]
 unfold signedRaw
 have key:∀ s:Strand,0<List.length s.1→List.getD s.1 0 (dflt TPiece)=signPieceF (sg1 c).1.1→List.getD (sgT c s).1.1.1 0 (dflt TPiece)=signPieceF (sgT c s).1.2.2:=by
   intro s h0 h1
   unfold sgT
   cases (sg4 c).1 with
   | true=>exact(add_head h0).trans h1
   | false=>exact h1
 have k0:0<List.length (sgS c).1:=by show 0<2;decide
 cases (sg3 c).1 with
 | true=>exact key _ k0 rfl
 | false=>exact key _ (sgAdd_pos _ _ k0) ((add_head k0).trans rfl)
theorem strand_sig (c:Cur):(strandD c).1.2.2=(signedD c).1.2.2:=rfl
theorem itemF_iff {x:Item}:itemF x=true↔(1≤x.1∧x.1≤999)∧isTimeF x.2.1=true∧docF x.2.2.1=true∧strandF x.2.2.2.2=true∧pieceAt x.2.2.2.2 0=signPieceF x.2.2.2.1:=by
 unfold itemF
 rw[pick2_and,pick2_and,pick2_and,pick2_and,Bool.and_eq_true,Bool.and_eq_true,Bool.and_eq_true,Bool.and_eq_true,inR_iff,eqC_iff,and_assoc,and_assoc,and_assoc]
theorem itemD_id (c:Cur):1≤(itemD c).1.1∧(itemD c).1.1≤9:=by
 rw[item_eq]
 have h:0≤(it1 c).1∧(it1 c).1<9:=below_lt (by decide)
 show 1≤IntKind.i64.wrap (1+(it1 c).1)∧IntKind.i64.wrap (1+(it1 c).1)≤9
 rw[w64 (by omega) (by omega)]
 omega
theorem itemD_item {c:Cur}(h:curOk c):itemF (itemD c).1=true:=by
 have hi:=itemD_id c
 refine itemF_iff.2 ⟨by omega,?_,?_,?_,?_⟩
 · rw[item_eq]
   have hm:(it2 c).1∈([50,100,10000]:List Int):=int_mem (by decide)
   have k:∀ x∈([50,100,10000]:List Int),isTimeF x=true:=by decide
   exact k _ hm
 · rw[item_eq]
   show docF (signedD c).1.2.1=true
   rw[signed_doc];exact docD_doc h
 · rw[item_eq];exact boolC_iff.2 (okR_strand c).1
 · rw[item_eq]
   show List.getD (strandD c).1.1.1 0 (dflt TPiece)=signPieceF (strandD c).1.2.2
   rw[strand_pieces,strand_sig];exact signed_head c
noncomputable def ib1 (c:Cur):Int×Cur:=belowF (itemD c).2 8
noncomputable def itemBRaw (c:Cur):Item×Cur:=
 cond ((ib1 c).1==0) (((intF (ib1 c).2 [0,999,1000]).1,(itemD c).1.2),(intF (ib1 c).2 [0,999,1000]).2)
   (cond ((ib1 c).1==1) (((itemD c).1.1,(rawD (ib1 c).2).1,(itemD c).1.2.2),(rawD (ib1 c).2).2)
     (cond ((ib1 c).1==2) (((itemD c).1.1,(itemD c).1.2.1,(docB (ib1 c).2).1,(itemD c).1.2.2.2),(docB (ib1 c).2).2)
       (cond ((ib1 c).1==3) (((itemD c).1.1,(itemD c).1.2.1,(itemD c).1.2.2.1,((itemD c).1.2.2.2.1.1,(itemD c).1.2.2.2.1.2.1,(itemD c).1.2.2.2.1.2.2.1,(itemD c).1.2.2.2.1.2.2.2.1,(itemD c).1.2.2.2.1.2.2.2.2.1,(itemD c).1.2.2.2.1.2.2.2.2.2.1,(itemD c).1.2.2.2.1.2.2.2.2.2.2.1,(itemD c).1.2.2.2.1.2.2.2.2.2.2.2.1,IntKind.i64.wrap ((itemD c).1.2.2.2.1.2.2.2.2.2.2.2.2+1)),(itemD c).1.2.2.2.2),(ib1 c).2)
         (cond ((ib1 c).1==4) (((itemD c).1.1,(itemD c).1.2.1,(itemD c).1.2.2.1,(itemD c).1.2.2.2.1,(anyD (ib1 c).2).1.1),(anyD (ib1 c).2).2)
           ((itemD c).1,(ib1 c).2)))))
theorem itemBEx:∃ f:Cur→Item×Cur,∀ c,f c=itemBRaw c:=⟨itemBRaw,fun _=>rfl⟩
noncomputable def itemB (c:Cur):Item×Cur:=Classical.choose itemBEx c
theorem itemB_eq (c:Cur):itemB c=itemBRaw c:=Classical.choose_spec itemBEx c
theorem ib1_ok {c:Cur}(h:curOk c):curOk (ib1 c).2:=below_ok (itemD_ok h)
theorem sigSm (n:Nat)(x:Sig):Sm n TSign x:=⟨trivial,trivial,trivial,trivial,trivial,trivial,trivial,trivial,trivial⟩
theorem itemB_P {c:Cur}(h:curOk c):curOk (itemB c).2∧Sm 128 TItem (itemB c).1:=by
 have hs:Sm 128 TItem (itemD c).1:=sm_up (by decide) _ _ (itemD_sm64 h)
 have h1:=ib1_ok h
 rw[itemB_eq]
 unfold itemBRaw
 cases (ib1 c).1==0 with
 | true=>exact⟨int_ok h1,trivial,hs.2⟩
 | false=>cases (ib1 c).1==1 with
   | true=>exact⟨rawD_ok h1,trivial,trivial,hs.2.2⟩
   | false=>cases (ib1 c).1==2 with
     | true=>exact⟨(docB_P h1).1,trivial,trivial,(docB_P h1).2,hs.2.2.2⟩
     | false=>cases (ib1 c).1==3 with
       | true=>exact⟨h1,trivial,trivial,hs.2.2.1,sigSm _ _,hs.2.2.2.2⟩
       | false=>cases (ib1 c).1==4 with
         | true=>exact⟨(anyD_P h1).1,trivial,trivial,hs.2.2.1,hs.2.2.2.1,(anyD_P h1).2⟩
         | false=>exact⟨h1,hs⟩
theorem item128_big {x:Item}(h:Sm 128 TItem x):Sm big20 TItem x:=sm_up (by decide) _ _ h
theorem item128_cells {x:Item}(h:Sm 128 TItem x):((cellsC TItem x:Nat):Int)≤2000000000:=by
 have h1:=cells_max 128 TItem _ h
 have h2:cellsMax 128 TItem≤2000000000:=by decide
 omega
def tinyI (x:Item):Prop:=Sm 64 TItem x∧x.1≤9
theorem archD_all {c:Cur}(h:curOk c):∀ x∈(archD c).1.2,tinyI x:=by
 rw[archD_eq]
 have:=dnAll (fun(z:Cur×Archive) _=>curOk z.1∧∀ x∈z.2.2,tinyI x) (S:=archS) (s0:=((rc2 c).2,((rc1 c).1,[]))) ⟨rc2_ok h,fun x hx=>by simp at hx⟩
   (fun z k hz=>⟨itemD_ok hz.1,fun x hx=>by
     have hx:x∈(addItemF z.2 (itemD z.1).1).1.2:=hx
     unfold addItemF at hx
     split at hx
     · rcases insP_mem hx with rfl | hx
       · exact⟨itemD_sm64 hz.1,(itemD_id z.1).2⟩
       · exact hz.2 x hx
     · exact hz.2 x hx⟩) (rc2 c).1.toNat
 exact this.2
end Fw
namespace Fw
open Go
set_option linter.unusedSimpArgs false
theorem tw_every {α:Type}{p:α→Bool}:∀ {l:List α},(∀ y∈l,p y=true)→l.takeWhile p=l
 | [],_=>rfl
 | a::r,h=>by rw[List.takeWhile_cons_of_pos (h a (by simp)),tw_every fun y hy=>h y (by simp[hy])]
theorem insI_end {x:Item}{l:List Item}(h:∀ y∈l,y.1<x.1):insI x l=l++[x]:=by
 have e1:l.takeWhile (fun y=>decide (y.1<x.1))=l:=tw_every fun y hy=>decide_eq_true (h y hy)
 have e2:l.dropWhile (fun y=>decide (y.1<x.1))=[]:=by
   have:=List.takeWhile_append_dropWhile (p:=fun(y:Item)=>decide (y.1<x.1)) (l:=l)
   rw[e1]at this
   exact List.append_cancel_left (this.trans (List.append_nil l).symm)
 unfold insI insP
 rw[e1,e2]
theorem add_end {a:Archive}{x:Item}(ha:archF a=true)(hx:itemF x=true)(h:∀ y∈a.2,y.1<x.1)(hl:List.length a.2<8):addItemF a x=((a.1,a.2++[x]),true):=by
 obtain⟨h1,h2,h3,h4⟩:=arch_mk.1 ha
 have e:=insI_end h
 have hn:itAt a x.1<0:=itAt_neg fun y hy e=>by have:=h y hy;omega
 have hA:archF (a.1,insI x a.2)=true:=by
   refine arch_mk.2 ⟨fun y hy=>?_,?_,h3,?_⟩
   · rcases insP_mem hy with rfl | hy
     · exact hx
     · exact h1 y hy
   · show (insI x a.2).Pairwise idLt
     rw[e]
     refine List.pairwise_append.2 ⟨h2,List.pairwise_singleton _ _,fun y hy z hz=>?_⟩
     rw[List.mem_singleton.1 hz]
     exact h y hy
   · show ((List.length (insI x a.2):Nat):Int)≤8
     rw[e,List.length_append]
     show ((List.length a.2+1:Nat):Int)≤8
     omega
 unfold addItemF
 rw[if_pos ⟨⟨ha,by omega⟩,hA⟩,e]
noncomputable def fillS (x:Item)(z:Archive×Int):Archive×Int:=((addItemF z.1 (IntKind.i64.wrap (100+z.2),x.2)).1,IntKind.i64.wrap (z.2+1))
noncomputable def fillA (x:Item)(a:Archive):Archive:=(itF (fillS x) (8-List.length a.2) (a,0)).1
def fqInv (x0:Item)(a0 a:Archive)(x:Item)(i:Int):Prop:=
 ∃ k:Nat,i=k∧itF (fillS x0) k (a0,0)=(a,i)∧List.length a.2=List.length a0.2+k∧List.length a.2≤8∧archF a=true∧(∀ y∈a.2,y.1<100+(k:Int))∧Sm big20 TArch a∧x.2=x0.2
section
variable {x0 x:Item} {a0 a a':Archive} {i:Int}
theorem fqStart (ha:archF a0=true)(h:∀ y∈a0.2,y.1≤9)(hs:Sm big20 TArch a0):fqInv x0 a0 a0 x0 0:=
 ⟨0,rfl,rfl,rfl,by have:=(arch_mk.1 ha).2.2.2;omega,ha,fun y hy=>by have:=h y hy;omega,hs,rfl⟩
theorem fqBig (h:fqInv x0 a0 a x i):Sm big20 TArch a:=by obtain⟨_,_,_,_,_,_,_,h7,_⟩:=h;exact h7
theorem fqItem (h:fqInv x0 a0 a x i){n:Int}(hx:Sm big20 TItem x0):Sm big20 TItem (n,x.2):=by
 obtain⟨_,_,_,_,_,_,_,_,h8⟩:=h
 rw[h8]
 exact⟨trivial,hx.2⟩
theorem fqStep (h:fqInv x0 a0 a x i)(hl:(List.length a.2:Int)<8)(hx:itemF x0=true)(hs:Sm big20 TItem x0)(e:a'=(addItemF a (IntKind.i64.wrap (100+i),x.2)).1):
   fqInv x0 a0 a' (IntKind.i64.wrap (100+i),x.2) (IntKind.i64.wrap (i+1))∧(8-(List.length a'.2:Int)).toNat<(8-(List.length a.2:Int)).toNat:=by
 obtain⟨k,h1,h2,h3,h4,h5,h6,h7,h8⟩:=h
 have hk:k≤8:=by omega
 have w1:IntKind.i64.wrap (100+i)=100+i:=w64 (by omega) (by omega)
 have w2:IntKind.i64.wrap (i+1)=i+1:=w64 (by omega) (by omega)
 have hI:itemF (100+i,x.2)=true:=by
   rw[h8]
   have:=itemF_iff.1 hx
   exact itemF_iff.2 ⟨⟨by show (1:Int)≤100+i;omega,by show 100+i≤999;omega⟩,this.2⟩
 have ea:=add_end h5 hI (fun y hy=>by have:=h6 y hy;show y.1<100+i;omega) (by omega)
 rw[w1]at e ⊢
 rw[ea]at e
 have e:a'=(a.1,a.2++[(100+i,x.2)]):=e
 have hlen:List.length a'.2=List.length a.2+1:=by rw[e];show List.length (a.2++[_])=_;rw[List.length_append];rfl
 have ha':archF a'=true:=by
   have:=addItem_arch (x:=(100+i,x.2)) h5
   rw[ea]at this
   rw[e];exact this
 refine⟨⟨k+1,by omega,?_,by omega,by omega,ha',fun y hy=>?_,?_,h8⟩,by omega⟩
 · show fillS x0 (itF (fillS x0) k (a0,0))=_
   rw[h2]
   unfold fillS
   show ((addItemF a (IntKind.i64.wrap (100+i),x0.2)).1,IntKind.i64.wrap (i+1))=_
   rw[w1,←h8,ea,e]
 · rw[e]at hy
   rcases List.mem_append.1 hy with hy | hy
   · have:=h6 y hy;omega
   · rw[List.mem_singleton.1 hy];show 100+i<100+((k+1:Nat):Int);omega
 · have:=addItem_sm (x:=(100+i,x.2)) h7 (by rw[h8];exact⟨trivial,hs.2⟩)
   rw[ea]at this
   rw[e];exact this
theorem fqEnd (h:fqInv x0 a0 a x i)(hl:¬(List.length a.2:Int)<8):a=fillA x0 a0:=by
 obtain⟨k,h1,h2,h3,h4,_⟩:=h
 have:8-List.length a0.2=k:=by omega
 unfold fillA
 rw[this,h2]
end
noncomputable def da0 (code:List Int):Archive×Cur:=archD (curNewF code)
noncomputable def da1 (code:List Int):Bool×Cur:=onceF (da0 code).2 10
noncomputable def da2 (code:List Int):Item×Cur:=itemD (da1 code).2
noncomputable def addC (code:List Int):Archive×Item:=cond (da1 code).1 (fillA (da2 code).1 (da0 code).1,(itemB (da2 code).2).1) ((da0 code).1,(itemB (da1 code).2).1)
noncomputable def jiC (code:List Int):Frame×Item:=((frameA (curNewF code)).1,(itemB (frameA (curNewF code)).2).1)
noncomputable def at1 (code:List Int):Int×Cur:=belowF (da0 code).2 11
noncomputable def atC (code:List Int):Archive×Int×Piece:=((da0 code).1,(at1 code).1,(pieceB (at1 code).2).1)
section
variable {code:List Int} (h:code.length≤bigLen)
include h
theorem da0_ok:curOk (da0 code).2:=archD_ok (newCur_ok h)
theorem da1_ok:curOk (da1 code).2:=once_ok (da0_ok h)
theorem da2_ok:curOk (da2 code).2:=itemD_ok (da1_ok h)
theorem da0_arch:archF (da0 code).1=true:=archD_arch (newCur_ok h)
theorem da0_sm:Sm big20 TArch (da0 code).1:=archD_sm (newCur_ok h)
theorem da0_start:fqInv (da2 code).1 (da0 code).1 (da0 code).1 (da2 code).1 0:=fqStart (da0_arch h) (fun y hy=>(archD_all (newCur_ok h) y hy).2) (da0_sm h)
theorem da2_sm:Sm big20 TItem (da2 code).1:=itemD_sm (da1_ok h)
theorem da2_item:itemF (da2 code).1=true:=itemD_item (da1_ok h)
theorem fill_P:∃ x i,fqInv (da2 code).1 (da0 code).1 (fillA (da2 code).1 (da0 code).1) x i:=by
 have key:∀ n:Nat,List.length (da0 code).1.2+n≤8→∃ x i,fqInv (da2 code).1 (da0 code).1 (itF (fillS (da2 code).1) n ((da0 code).1,0)).1 x i∧(itF (fillS (da2 code).1) n ((da0 code).1,0)).2=i:=by
   intro n
   induction n with
   | zero=>intro _;exact⟨_,_,da0_start h,rfl⟩
   | succ n ih=>
     intro hn
     obtain⟨x,i,h1,h2⟩:=ih (by omega)
     obtain⟨k,k1,k2,k3,k4,k5,k6,k7,k8⟩:=h1
     have hk:List.length (itF (fillS (da2 code).1) n ((da0 code).1,0)).1.2<8:=by
       by_cases hc:k=n
       · omega
       · exfalso
         have e:itF (fillS (da2 code).1) n ((da0 code).1,0)=((itF (fillS (da2 code).1) n ((da0 code).1,0)).1,i):=by rw[←h2]
         have e2:=k2.trans e.symm
         have a1:∀ m:Nat,m≤8→(itF (fillS (da2 code).1) m ((da0 code).1,0)).2=(m:Int):=by
           intro m
           induction m with
           | zero=>intro _;rfl
           | succ m ihm=>intro hm;show IntKind.i64.wrap ((itF (fillS (da2 code).1) m ((da0 code).1,0)).2+1)=_;rw[ihm (by omega),w64 (by omega) (by omega)];omega
         have b1:=a1 k (by omega)
         have b2:=a1 n (by omega)
         rw[e2]at b1
         omega
     have st:=fqStep ⟨k,k1,k2,k3,k4,k5,k6,k7,k8⟩ (by omega) (da2_item h) (da2_sm h) rfl
     have e3:(itF (fillS (da2 code).1) (n+1) ((da0 code).1,0)).1=(addItemF (itF (fillS (da2 code).1) n ((da0 code).1,0)).1 (IntKind.i64.wrap (100+i),x.2)).1:=by
       show (fillS (da2 code).1 (itF (fillS (da2 code).1) n ((da0 code).1,0))).1=_
       unfold fillS
       show (addItemF _ (IntKind.i64.wrap (100+(itF (fillS (da2 code).1) n ((da0 code).1,0)).2),(da2 code).1.2)).1=_
       rw[h2,←k8]
     have e4:(itF (fillS (da2 code).1) (n+1) ((da0 code).1,0)).2=IntKind.i64.wrap (i+1):=by
       show IntKind.i64.wrap ((itF (fillS (da2 code).1) n ((da0 code).1,0)).2+1)=_
       rw[h2]
     exact⟨(IntKind.i64.wrap (100+i),x.2),IntKind.i64.wrap (i+1),by rw[e3];exact st.1,e4⟩
 have h8:=(arch_mk.1 (da0_arch h)).2.2.2
 obtain⟨x,i,h1,_⟩:=key (8 - List.length (da0 code).1.2) (by omega)
 exact⟨x,i,h1⟩
theorem add_sm:Sm big20 TArch (addC code).1∧Sm big20 TItem (addC code).2:=by
 unfold addC
 cases (da1 code).1 with
 | true=>
   obtain⟨x,i,hf⟩:=fill_P h
   exact⟨fqBig hf,item128_big (itemB_P (da2_ok h)).2⟩
 | false=>exact⟨da0_sm h,item128_big (itemB_P (da1_ok h)).2⟩
theorem ji_sm:Sm big20 TItem (jiC code).2∧((cellsC TItem (jiC code).2:Nat):Int)≤2000000000:=
 have hq:=(itemB_P (frameA_ok (newCur_ok h))).2
 ⟨item128_big hq,item128_cells hq⟩
theorem at_sm:Sm big20 TArch (atC code).1∧Sm big20 TPiece (atC code).2.2∧archF (atC code).1=true:=⟨da0_sm h,sm_up (by decide) _ _ (pieceB_sm _),da0_arch h⟩
theorem at1_ok:curOk (at1 code).2:=below_ok (da0_ok h)
end
theorem find_ge {a:Archive}{x:Item}(h:x∈a.2):¬itAt a x.1<0:=by
 intro hn
 have:=findI_none (p:=fun(y:Item)=>y.1==x.1) (l:=a.2) (by unfold itAt at hn;omega) x h
 simp at this
theorem insP_len1 {α:Type}(p:α→Bool)(x:α)(l:List α):(insP p x l).length=l.length+1:=by
 have:=(ins_perm p x l).length_eq
 simpa using this
theorem arBad1 {a:Archive}{x:Item}(hl:List.length a.2≤big20)(h:pick2 (pick2 (addItemF a x).2 (pick2 (pick2 (pick2 (!(archF (addItemF a x).1)) true (decide (itAt (addItemF a x).1 x.1<0))) true
   ((List.length (addItemF a x).1.2:Int) != IntKind.i64.wrap ((List.length a.2:Int)+1))) true (!(itemF x))) false) true (pick2 (!(addItemF a x).2) (!(eqC a (addItemF a x).1)) false)=true):False:=by
 unfold big20 at hl
 cases hok:(addItemF a x).2 with
 | true=>
   have hq:addItemF a x=((addItemF a x).1,true):=by rw[←hok]
   obtain⟨h1,h2⟩:=add_ok hq
   have hm:x∈(addItemF a x).1.2:=by rw[h2];exact insP_self _ _ _
   have e1:decide (itAt (addItemF a x).1 x.1<0)=false:=decide_eq_false (find_ge hm)
   have e2:((List.length (addItemF a x).1.2:Int) != IntKind.i64.wrap ((List.length a.2:Int)+1))=false:=by
     rw[w64 (by omega) (by omega),h2]
     show (((List.length (insI x a.2):Nat):Int) != (List.length a.2:Int)+1)=false
     unfold insI
     rw[insP_len1]
     simp
   have e3:itemF x=true:=(arch_mk.1 h1).1 x hm
   rw[hok,h1,e1,e2,e3]at h
   cases h
 | false=>
   have e:(addItemF a x).1=a:=by
     unfold addItemF at hok ⊢
     split at hok
     · cases hok
     · rename_i hn;rw[if_neg hn]
   rw[hok,e,eqC_self]at h
   cases h
theorem arJudge {f:Frame}{y:Item}:El.eq TVerdict (judgeItemF f y) (judgeDocF f (itemEvF y) y.2.2.1 y.2.2.2.1)=true:=El.eq_self _ _ rfl
theorem ati_arch {a:Archive}{n:Int}{p:Piece}(ha:archF a=true)(h:(addToItemF a n p).2=true):archF (addToItemF a n p).1=true∧¬itAt (addToItemF a n p).1 n<0:=by
 by_cases hn:itAt a n<0
 · rw[ati0 hn]at h;cases h
 rw[ati1 hn]at h ⊢
 have h:(addPieceF (itGet a n).2.2.2.2 p).2=true:=h
 obtain⟨g1,g2⟩:=itGet_ok hn
 obtain⟨a1,a2,a3,a4⟩:=arch_mk.1 ha
 have hk:inRange (itAt a n) a.2.length:=findRange hn
 have hk2:(itAt a n).toNat<a.2.length:=by have:=hk.1;have:=hk.2;omega
 have eg:a.2[(itAt a n).toNat]=itGet a n:=by
   unfold itGet
   rw[List.getD_eq_getElem?_getD,List.getElem?_eq_getElem hk2];rfl
 have hi:=itemF_iff.1 (a1 _ g1)
 have hnew:itemF (setStrand (itGet a n) (addPieceF (itGet a n).2.2.2.2 p).1)=true:=by
   have hs:strandF (addPieceF (itGet a n).2.2.2.2 p).1=true∧0<List.length (itGet a n).2.2.2.2.1:=by
     have hl:=inR_iff.1 (boolC_iff.1 hi.2.2.2.1).1
     refine⟨?_,by omega⟩
     unfold addPieceF at h ⊢
     split
     · rename_i hc;exact hc
     · rename_i hc;rw[if_neg hc]at h;cases h
   refine itemF_iff.2 ⟨hi.1,hi.2.1,hi.2.2.1,hs.1,?_⟩
   show List.getD (addPieceF (itGet a n).2.2.2.2 p).1.1 0 (dflt TPiece)=_
   rw[add_head hs.2]
   exact hi.2.2.2.2
 have hids:(setStrand (itGet a n) (addPieceF (itGet a n).2.2.2.2 p).1).1=(a.2[(itAt a n).toNat]).1:=by rw[eg];rfl
 refine⟨arch_mk.2 ⟨fun y hy=>?_,?_,a3,?_⟩,?_⟩
 · rcases List.mem_or_eq_of_mem_set hy with hy | rfl
   · exact a1 y hy
   · exact hnew
 · show (a.2.set _ _).Pairwise idLt
   refine List.pairwise_iff_getElem.2 fun i j hi hj hij=>?_
   have hi2:i<a.2.length:=by simpa using hi
   have hj2:j<a.2.length:=by simpa using hj
   have base:=List.pairwise_iff_getElem.1 a2 i j hi2 hj2 hij
   have idAt:∀ q (hq:q<a.2.length),((a.2.set (itAt a n).toNat (setStrand (itGet a n) (addPieceF (itGet a n).2.2.2.2 p).1))[q]'(by simpa using hq)).1=(a.2[q]).1:=by
     intro q hq
     rw[List.getElem_set]
     split
     · rename_i e;subst e;exact hids
     · rfl
   show _<_
   rw[idAt i hi2,idAt j hj2]
   exact base
 · show ((List.length (a.2.set _ _):Nat):Int)≤8
   rw[List.length_set];exact a4
 · have hm:setStrand (itGet a n) (addPieceF (itGet a n).2.2.2.2 p).1∈a.2.set (itAt a n).toNat (setStrand (itGet a n) (addPieceF (itGet a n).2.2.2.2 p).1):=List.mem_set hk2 _
   have:=find_ge (a:=(a.1,a.2.set (itAt a n).toNat (setStrand (itGet a n) (addPieceF (itGet a n).2.2.2.2 p).1))) hm
   have e:(setStrand (itGet a n) (addPieceF (itGet a n).2.2.2.2 p).1).1=n:=g2
   rw[e]at this
   exact this
theorem arBad2 {f:Frame}{y:Item}{a:Archive}{n:Int}{p:Piece}(ha:archF a=true)(h:pick2 (!(El.eq TVerdict (judgeItemF f y) (judgeDocF f (itemEvF y) y.2.2.1 y.2.2.2.1))) true
   (pick2 (addToItemF a n p).2 (pick2 (!(archF (addToItemF a n p).1)) true (decide (itAt (addToItemF a n p).1 n<0))) false)=true):False:=by
 rw[arJudge]at h
 cases hok:(addToItemF a n p).2 with
 | true=>
   obtain⟨h1,h2⟩:=ati_arch ha hok
   rw[hok,h1,decide_eq_false h2]at h
   cases h
 | false=>rw[hok]at h;cases h
theorem arBad3 {a:Archive}{n:Int}{p:Piece}{i:Int}(h1:inRange i (List.length a.2))(h2:inRange i (List.length (addToItemF a n p).1.2))
   (h:pick2 ((List.getD a.2 i.toNat (dflt TItem)).1 != n) (!(eqC (List.getD a.2 i.toNat (dflt TItem)).2.2.2.2 (List.getD (addToItemF a n p).1.2 i.toNat (dflt TItem)).2.2.2.2)) false=true):False:=by
 have g:=andT h
 have gn:=bneT g.1
 by_cases hn:itAt a n<0
 · rw[ati0 hn,eqC_self]at g
   cases g.2
 · have hk:inRange (itAt a n) a.2.length:=findRange hn
   have hk2:(itAt a n).toNat<a.2.length:=by have:=hk.1;have:=hk.2;omega
   obtain⟨g1,g2⟩:=itGet_ok hn
   have hne:(itAt a n).toNat≠i.toNat:=by
     intro e
     apply gn
     unfold itGet at g2
     rw[←e];exact g2
   have e:List.getD (addToItemF a n p).1.2 i.toNat (dflt TItem)=List.getD a.2 i.toNat (dflt TItem):=by
     rw[ati1 hn]
     show List.getD (a.2.set _ _) i.toNat _=_
     rw[List.getD_eq_getElem?_getD,List.getElem?_set_ne hne,List.getD_eq_getElem?_getD]
   rw[e,eqC_self]at g
   cases g.2
end Fw
