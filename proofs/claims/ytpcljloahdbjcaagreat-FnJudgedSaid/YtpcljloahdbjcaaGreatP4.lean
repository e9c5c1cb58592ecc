/- Plain laws of what is drawn: strands that are renewed without fail; numbers, stamps, pieces and renewals that are bent. Conditions: none. -/
import Derived.Test.YtpcljloahdbjcaaGreatP3
namespace Fw
open Go
set_option linter.unusedSimpArgs false
def okR (s:Strand)(k:Nat):Prop:=strandP s∧(∀ r∈s.2,r.1=(List.length s.1:Int))∧List.length s.2≤k
theorem okR_len {s:Strand}{k:Nat}(h:okR s k):1≤List.length s.1∧List.length s.1≤12:=by
 have:=inR_iff.1 h.1.1
 omega
theorem okR_more {s:Strand}{k:Nat}{r:Renewal}(h:okR s k)(hk:k≤7)(hr:r.1=(List.length s.1:Int)):okR (s.1,s.2++[r]) (k+1):=by
 have hl:=okR_len h
 have hlen:List.length (s.2++[r])=List.length s.2+1:=by rw[List.length_append];rfl
 have hmem:∀ y∈s.2++[r],y.1=(List.length s.1:Int):=fun y hy=>by
   rcases List.mem_append.1 hy with hy | hy
   · exact h.2.1 y hy
   · rw[List.mem_singleton.1 hy];exact hr
 have hat:∀ j,j<List.length (s.2++[r])→(renAt (s.1,s.2++[r]) j).1=(List.length s.1:Int):=fun j hj=>by
   refine hmem _ ?_
   show List.getD (s.2++[r]) j (dflt TRen)∈s.2++[r]
   rw[List.getD_eq_getElem?_getD,List.getElem?_eq_getElem hj]
   exact List.getElem_mem _
 have h3:=h.2.2
 refine⟨⟨h.1.1,?_,h.1.2.2.1,fun j hj=>⟨?_,fun h0=>?_⟩⟩,hmem,?_⟩
 · show ((List.length (s.2++[r]):Nat):Int)≤8
   rw[hlen];omega
 · rw[hat j hj]
   refine inR_iff.2 ⟨?_,Int.le_refl _⟩
   omega
 · rw[hat j hj,hat (j-1) (by have hj:j<List.length (s.2++[r]):=hj;omega)]
   exact Int.le_refl _
 · show List.length (s.2++[r])≤k+1
   rw[hlen];omega
theorem okR_ren {s:Strand}{k:Nat}{r:Renewal}(h:okR s k)(hk:k≤7)(hr:r.1=(List.length s.1:Int)):addRenF s r=((s.1,s.2++[r]),true):=by
 unfold addRenF
 exact if_pos (boolC_iff.2 (okR_more h hk hr).1)
theorem okR_long {s:Strand}{k:Nat}{m:Int}(h:okR s k)(hk:k≤7):(longF s m).2=true:=by
 unfold longF
 rw[okR_ren h hk rfl]
theorem okR_renew {c:Cur}{s:Strand}{k:Nat}{d:Doc}{m t:Int}(h:okR s k)(hk:k≤7):okR (renewD c s d m t).1 (k+1):=by
 rw[renew_eq]
 unfold renewRaw
 rw[okR_long h hk]
 show okR (cond (onceF c 3).1 (renTail (onceF c 3).2 s d m t [1,3,4]) (renTail (onceF c 3).2 s d m t [1,2,3,4])).1 (k+1)
 cases (onceF c 3).1 with
 | true=>show okR (addRenF s _).1 (k+1);rw[okR_ren h hk rfl];exact okR_more h hk rfl
 | false=>show okR (addRenF s _).1 (k+1);rw[okR_ren h hk rfl];exact okR_more h hk rfl
theorem okR_piece {s:Strand}{p:Piece}(h:okR s 0):okR (addPieceF s p).1 0:=by
 unfold addPieceF
 split
 · rename_i h2
   have e:s.2=[]:=List.length_eq_zero_iff.1 (by have:=h.2.2;omega)
   exact⟨boolC_iff.1 h2,by show ∀ r∈s.2,_;rw[e];simp,by show List.length s.2≤0;exact h.2.2⟩
 · exact h
theorem okR_sgS (c:Cur):okR (sgS c) 0:=by
 refine⟨⟨inR_iff.2 ⟨by show (1:Int)≤((2:Nat):Int);decide,by show ((2:Nat):Int)≤12;decide⟩,by show ((0:Nat):Int)≤8;decide,fun k hk j hj=>?_,fun k hk=>absurd hk (Nat.not_lt_zero k)⟩,fun r hr=>by simp[sgS]at hr,Nat.le_refl 0⟩
 have hk:k<2:=hk
 have e1:k=1:=by omega
 have e2:j=0:=by omega
 subst e1;subst e2
 show signPieceF (sg1 c).1.1≠certPieceF (sgCert c)
 intro e
 have e3:hdP (signPieceF (sg1 c).1.1)=hdP (certPieceF (sgCert c)):=by rw[e]
 have e4:(104:Int)=101:=e3
 cases e4
theorem okR_sgT {c:Cur}{s:Strand}(h:okR s 0):okR (sgT c s).1.1 0:=by
 unfold sgT
 cases (sg4 c).1 with
 | true=>exact okR_piece h
 | false=>exact h
theorem okR_signed (c:Cur):okR (signedD c).1.1 0:=by
 rw[signed_eq]
 unfold signedRaw
 cases (sg3 c).1 with
 | true=>exact okR_sgT (okR_sgS c)
 | false=>exact okR_sgT (okR_piece (okR_sgS c))
def drQ (z:Cur×Strand×Int)(k:Nat):Prop:=curOk z.1∧tinyS z.2.1∧okR z.2.1 k
theorem drInv_P {c c2:Cur}{s:Strand}{t i:Int}(h:curOk c)(hI:dnInv (drawS (signedD c).1.2.1) ((dr2 c).2,(signedD c).1.1,(dr1 c).1) (dr2 c).1 (c2,s,t) i)(hl:i>0):
   curOk c2∧tinyS s∧∀ m,(longF s m).2=true:=by
 obtain⟨k,h1,h2,h3,h4⟩:=hI
 have hn:(dr2 c).1<4:=(below_lt (by decide)).2
 have key:∀ k:Nat,(k:Int)≤4→drQ (itF (drawS (signedD c).1.2.1) k ((dr2 c).2,(signedD c).1.1,(dr1 c).1)) k:=by
   intro k
   induction k with
   | zero=>intro _;exact⟨dr2_ok h,tiny_signed c,okR_signed c⟩
   | succ k ih=>
     intro hk
     have q:=ih (by omega)
     exact⟨int_ok (renew_P (below_ok q.1) (tiny_big q.2.1)).2,tiny_renew q.2.1,okR_renew q.2.2 (by omega)⟩
 have q:=key k (by omega)
 rw[←h1]at q
 exact⟨q.1,q.2.1,fun m=>okR_long q.2.2 (by omega)⟩
theorem strandD_tiny (c:Cur):tinyS (strandD c).1.1:=by
 show tinyS (drZ c).2.1
 have:=dnAll (fun z _=>tinyS z.2.1) (S:=drawS (signedD c).1.2.1) (s0:=((dr2 c).2,(signedD c).1.1,(dr1 c).1)) (tiny_signed c) (fun s k hs=>tiny_renew hs) (dr2 c).1.toNat
 exact this
theorem okR_strand (c:Cur):okR (strandD c).1.1 4:=by
 have hn:=below_lt (c:=(dr1 c).2) (n:=4) (by decide)
 have hn2:0≤(dr2 c).1∧(dr2 c).1<4:=hn
 have key:∀ k:Nat,k≤4→okR (itF (drawS (signedD c).1.2.1) k ((dr2 c).2,(signedD c).1.1,(dr1 c).1)).2.1 k:=by
   intro k
   induction k with
   | zero=>intro _;exact okR_signed c
   | succ k ih=>intro hk;exact okR_renew (ih (by omega)) (by omega)
 have q:=key (dr2 c).1.toNat (by omega)
 exact⟨q.1,q.2.1,by have:=q.2.2;show List.length (drZ c).2.1.2≤4;unfold drZ;omega⟩
theorem strandD_pos (c:Cur):inRange 0 (List.length (strandD c).1.1.1):=by
 have:=okR_len (okR_strand c)
 exact⟨Int.le_refl _,by omega⟩
end Fw
namespace Fw
open Go
set_option linter.unusedSimpArgs false
noncomputable def rawD (c:Cur):Int×Cur:=
 cond (onceF c 6).1 (intF (onceF c 6).2 [-1,0,10000,10001,9223372036854775807,-9223372036854775808]) (belowF (onceF c 6).2 40)
noncomputable def numD (c:Cur):Int×Cur:=intF c [1,2,11,12,13,21,31,32,33,34,0,50]
theorem rawD_ok {c:Cur}(h:curOk c):curOk (rawD c).2:=by
 unfold rawD
 cases (onceF c 6).1 with
 | true=>exact int_ok (once_ok h)
 | false=>exact below_ok (once_ok h)
theorem numD_ok {c:Cur}(h:curOk c):curOk (numD c).2:=int_ok h
noncomputable def bs1 (c:Cur):Int×Cur:=belowF (stampD c).2 9
noncomputable def bentRaw (c:Cur):Stamp×Cur:=
 cond ((bs1 c).1==0) (((belowF (bs1 c).2 6).1,(stampD c).1.2),(belowF (bs1 c).2 6).2)
   (cond ((bs1 c).1==1) (((stampD c).1.1,(intF (bs1 c).2 [-1,3]).1,(stampD c).1.2.2),(intF (bs1 c).2 [-1,3]).2)
     (cond ((bs1 c).1==2) (((stampD c).1.1,(stampD c).1.2.1,(rawD (bs1 c).2).1,(stampD c).1.2.2.2),(rawD (bs1 c).2).2)
       (cond ((bs1 c).1==3) (((stampD c).1.1,(stampD c).1.2.1,(stampD c).1.2.2.1,IntKind.i64.wrap ((stampD c).1.2.2.2.1+1),(stampD c).1.2.2.2.2),(bs1 c).2)
         (cond ((bs1 c).1==4) (((stampD c).1.1,(stampD c).1.2.1,(stampD c).1.2.2.1,(stampD c).1.2.2.2.1,IntKind.i64.wrap ((stampD c).1.2.2.2.2+1)),(bs1 c).2)
           ((stampD c).1,(bs1 c).2)))))
theorem bentEx:∃ f:Cur→Stamp×Cur,∀ c,f c=bentRaw c:=⟨bentRaw,fun _=>rfl⟩
noncomputable def bentD (c:Cur):Stamp×Cur:=Classical.choose bentEx c
theorem bent_eq (c:Cur):bentD c=bentRaw c:=Classical.choose_spec bentEx c
theorem bs1_ok {c:Cur}(h:curOk c):curOk (bs1 c).2:=below_ok (stampD_ok h)
theorem bentD_ok {c:Cur}(h:curOk c):curOk (bentD c).2:=by
 have h1:=bs1_ok h
 rw[bent_eq]
 unfold bentRaw
 cases (bs1 c).1==0 with
 | true=>exact below_ok h1
 | false=>cases (bs1 c).1==1 with
   | true=>exact int_ok h1
   | false=>cases (bs1 c).1==2 with
     | true=>exact rawD_ok h1
     | false=>cases (bs1 c).1==3 with
       | true=>exact h1
       | false=>cases (bs1 c).1==4<;>exact h1
noncomputable def bq1 (c:Cur):Int×Cur:=belowF (pieceD c).2 8
noncomputable def pieceRaw (c:Cur):Piece×Cur:=
 cond ((bq1 c).1==0) (((numD (bq1 c).2).1,(pieceD c).1.2),(numD (bq1 c).2).2)
   (cond ((bq1 c).1==1) (((pieceD c).1.1,(pieceD c).1.2.1++[5],(pieceD c).1.2.2),(bq1 c).2)
     (cond ((bq1 c).1==2) (((pieceD c).1.1,(pieceD c).1.2.1,IntKind.i64.wrap ((pieceD c).1.2.2+1)),(bq1 c).2)
       (cond ((bq1 c).1==3) (((pieceD c).1.1,List.set (pieceD c).1.2.1 0 (intF (bq1 c).2 [100,101,103,105,106,-1]).1,(pieceD c).1.2.2),(intF (bq1 c).2 [100,101,103,105,106,-1]).2)
         (cond ((bq1 c).1==4) (((pieceD c).1.1,List.set (pieceD c).1.2.1 1 (IntKind.i64.wrap (List.getD (pieceD c).1.2.1 1 (dflt TI)+1)),(pieceD c).1.2.2),(bq1 c).2)
           ((pieceD c).1,(bq1 c).2)))))
theorem pieceEx:∃ f:Cur→Piece×Cur,∀ c,f c=pieceRaw c:=⟨pieceRaw,fun _=>rfl⟩
noncomputable def pieceB (c:Cur):Piece×Cur:=Classical.choose pieceEx c
theorem pieceB_eq (c:Cur):pieceB c=pieceRaw c:=Classical.choose_spec pieceEx c
theorem bq1_ok {c:Cur}(h:curOk c):curOk (bq1 c).2:=below_ok (pieceD_ok h)
theorem pieceB_ok {c:Cur}(h:curOk c):curOk (pieceB c).2:=by
 have h1:=bq1_ok h
 rw[pieceB_eq]
 unfold pieceRaw
 cases (bq1 c).1==0 with
 | true=>exact numD_ok h1
 | false=>cases (bq1 c).1==1 with
   | true=>exact h1
   | false=>cases (bq1 c).1==2 with
     | true=>exact h1
     | false=>cases (bq1 c).1==3 with
       | true=>exact int_ok h1
       | false=>cases (bq1 c).1==4<;>exact h1
theorem pieceD_ints (c:Cur):5≤List.length (pieceD c).1.2.1∧List.length (pieceD c).1.2.1≤9:=by
 unfold pieceD
 cases (belowF c 5).1==0 with
 | true=>exact⟨by show 5≤7;decide,by show 7≤9;decide⟩
 | false=>cases (belowF c 5).1==1 with
   | true=>exact⟨by show 5≤5;decide,by show 5≤9;decide⟩
   | false=>cases (belowF c 5).1==2 with
     | true=>exact⟨by show 5≤5;decide,by show 5≤9;decide⟩
     | false=>cases (belowF c 5).1==3 with
       | true=>exact⟨by show 5≤9;decide,by show 9≤9;decide⟩
       | false=>exact⟨by show 5≤6;decide,by show 6≤9;decide⟩
theorem pdIdx (c:Cur)(j:Nat)(hj:j<5):inRange (j:Int) (List.length (pieceD c).1.2.1):=by
 have:=(pieceD_ints c).1
 exact⟨by omega,by omega⟩
theorem pcSmN {k m:Int}{l:List Int}(h:l.length≤64):Sm 64 TPiece (k,l,m):=⟨trivial,⟨h,fun _ _=>trivial⟩,trivial⟩
theorem pieceB_sm (c:Cur):Sm 64 TPiece (pieceB c).1:=by
 have h:=(pieceD_ints c).2
 rw[pieceB_eq]
 unfold pieceRaw
 cases (bq1 c).1==0 with
 | true=>exact pcSmN (k:=(numD (bq1 c).2).1) (l:=(pieceD c).1.2.1) (m:=(pieceD c).1.2.2) (by omega)
 | false=>cases (bq1 c).1==1 with
   | true=>exact pcSmN (k:=(pieceD c).1.1) (l:=(pieceD c).1.2.1++[5]) (m:=(pieceD c).1.2.2) (by rw[List.length_append];show _+1≤64;omega)
   | false=>cases (bq1 c).1==2 with
     | true=>exact pcSmN (k:=(pieceD c).1.1) (l:=(pieceD c).1.2.1) (by omega)
     | false=>cases (bq1 c).1==3 with
       | true=>exact pcSmN (k:=(pieceD c).1.1) (l:=List.set (pieceD c).1.2.1 0 _) (m:=(pieceD c).1.2.2) (by rw[List.length_set];omega)
       | false=>cases (bq1 c).1==4 with
         | true=>exact pcSmN (k:=(pieceD c).1.1) (l:=List.set (pieceD c).1.2.1 1 _) (m:=(pieceD c).1.2.2) (by rw[List.length_set];omega)
         | false=>exact pcSmN (k:=(pieceD c).1.1) (l:=(pieceD c).1.2.1) (m:=(pieceD c).1.2.2) (by omega)
noncomputable def br1 (c:Cur):Int×Cur:=belowF c 10
def stTime (l:List Stamp)(t:Int):List Stamp:=List.set l 0 (((List.getD l 0 (dflt TStamp)).1,(List.getD l 0 (dflt TStamp)).2.1,t,(List.getD l 0 (dflt TStamp)).2.2.2):Stamp)
noncomputable def renRaw (c:Cur)(r:Renewal):Renewal×Cur:=
 cond ((br1 c).1==0) ((r.1,r.2.1,IntKind.i64.wrap (r.2.2.1+1),r.2.2.2),(br1 c).2)
   (cond ((br1 c).1==1) ((r.1,(belowF (br1 c).2 6).1,r.2.2),(belowF (br1 c).2 6).2)
     (cond ((br1 c).1==2) (((intF (br1 c).2 [-1,0,3]).1,r.2),(intF (br1 c).2 [-1,0,3]).2)
       (cond ((br1 c).1==3) ((r.1,r.2.1,r.2.2.1,r.2.2.2.1++[((1:Int),false)],r.2.2.2.2),(br1 c).2)
         (cond ((br1 c).1==4) ((r.1,r.2.1,r.2.2.1,r.2.2.2.1,r.2.2.2.2++[(bentD (br1 c).2).1]),(bentD (br1 c).2).2)
           (cond ((br1 c).1==5) (cond (decide ((List.length r.2.2.2.2:Int)>0)) ((r.1,r.2.1,r.2.2.1,r.2.2.2.1,stTime r.2.2.2.2 (rawD (br1 c).2).1),(rawD (br1 c).2).2) (r,(br1 c).2))
             (r,(br1 c).2))))))
theorem renBEx:∃ f:Cur→Renewal→Renewal×Cur,∀ c r,f c r=renRaw c r:=⟨renRaw,fun _ _=>rfl⟩
noncomputable def renB (c:Cur)(r:Renewal):Renewal×Cur:=Classical.choose renBEx c r
theorem renB_eq (c:Cur)(r:Renewal):renB c r=renRaw c r:=Classical.choose_spec renBEx c r
theorem br1_ok {c:Cur}(h:curOk c):curOk (br1 c).2:=below_ok h
theorem renB_ok {c:Cur}{r:Renewal}(h:curOk c):curOk (renB c r).2:=by
 have h1:=br1_ok h
 rw[renB_eq]
 unfold renRaw
 cases (br1 c).1==0 with
 | true=>exact h1
 | false=>cases (br1 c).1==1 with
   | true=>exact below_ok h1
   | false=>cases (br1 c).1==2 with
     | true=>exact int_ok h1
     | false=>cases (br1 c).1==3 with
       | true=>exact h1
       | false=>cases (br1 c).1==4 with
         | true=>exact bentD_ok h1
         | false=>cases (br1 c).1==5 with
           | true=>cases decide ((List.length r.2.2.2.2:Int)>0)with
             | true=>exact rawD_ok h1
             | false=>exact h1
           | false=>exact h1
theorem sm_set {t:Ty}{n:Nat}{l:List (El t)}{i:Nat}{x:El t}(h:Sm n (.slice t) l)(hx:Sm n t x):Sm n (.slice t) (List.set l i x):=by
 refine⟨by show (List.set l i x).length≤n;rw[List.length_set];exact h.1,fun y hy=>?_⟩
 rcases List.mem_or_eq_of_mem_set hy with hy | rfl
 · exact h.2 y hy
 · exact hx
theorem sm_app {t:Ty}{n:Nat}{l:List (El t)}{x:El t}(h:Sm n (.slice t) l)(hn:List.length l+1≤n)(hx:Sm n t x):Sm n (.slice t) (l++[x]):=by
 refine⟨by show (l++[x]).length≤n;rw[List.length_append];exact hn,fun y hy=>?_⟩
 rcases List.mem_append.1 hy with hy | hy
 · exact h.2 y hy
 · rw[List.mem_singleton.1 hy];exact hx
theorem stampSm (n:Nat)(s:Stamp):Sm n TStamp s:=⟨trivial,trivial,trivial,trivial,trivial⟩
theorem renB_sm {c:Cur}{r:Renewal}(h:Sm 64 TRen r):Sm 128 TRen (renB c r).1:=by
 have h2:=sm_up (show 64≤128 by decide) _ _ h
 obtain⟨_,_,_,hp,hs⟩:=h2
 have lp:List.length r.2.2.2.1≤64:=h.2.2.2.1.1
 have ls:List.length r.2.2.2.2≤64:=h.2.2.2.2.1
 rw[renB_eq]
 unfold renRaw
 cases (br1 c).1==0 with
 | true=>exact⟨trivial,trivial,trivial,hp,hs⟩
 | false=>cases (br1 c).1==1 with
   | true=>exact⟨trivial,trivial,trivial,hp,hs⟩
   | false=>cases (br1 c).1==2 with
     | true=>exact⟨trivial,trivial,trivial,hp,hs⟩
     | false=>cases (br1 c).1==3 with
       | true=>exact⟨trivial,trivial,trivial,sm_app (t:=.pair TI .bool) hp (by omega) ⟨trivial,trivial⟩,hs⟩
       | false=>cases (br1 c).1==4 with
         | true=>exact⟨trivial,trivial,trivial,hp,sm_app (t:=TStamp) hs (by omega) (stampSm _ _)⟩
         | false=>cases (br1 c).1==5 with
           | true=>cases decide ((List.length r.2.2.2.2:Int)>0)with
             | true=>exact⟨trivial,trivial,trivial,hp,sm_set (t:=TStamp) hs (stampSm _ _)⟩
             | false=>exact⟨trivial,trivial,trivial,hp,hs⟩
           | false=>exact⟨trivial,trivial,trivial,hp,hs⟩
end Fw
namespace Fw
open Go
set_option linter.unusedSimpArgs false
theorem pd0 (c:Cur):inRange 0 (List.length (pieceD c).1.2.1):=pdIdx c 0 (by decide)
theorem pd1 (c:Cur):inRange 1 (List.length (pieceD c).1.2.1):=pdIdx c 1 (by decide)
theorem pdApp (c:Cur):List.length (pieceD c).1.2.1+1≤maxApp:=by
 have:=(pieceD_ints c).2
 unfold maxApp;omega
theorem app64 {α:Type}{l:List α}(h:l.length≤64):l.length+1≤maxApp:=by unfold maxApp;omega
theorem loElim {b:Bool}(h:b=true)(g:(!b)=true):False:=by rw[h]at g;cases g
noncomputable def an1 (c:Cur):Int×Cur:=belowF (strandD c).2 8
noncomputable def an2 (c:Cur):Int×Cur:=belowF (an1 c).2 (List.length (strandD c).1.1.2:Int)
noncomputable def anyRaw (c:Cur):(Strand×Doc×Sig)×Cur:=
 cond ((an1 c).1==0) ((((strandD c).1.1.1++[(pieceB (an1 c).2).1],(strandD c).1.1.2),(strandD c).1.2),(pieceB (an1 c).2).2)
   (cond ((an1 c).1==1) ((((strandD c).1.1.1++[List.getD (strandD c).1.1.1 0 (dflt TPiece)],(strandD c).1.1.2),(strandD c).1.2),(an1 c).2)
     (cond ((an1 c).1==2) (cond (decide ((List.length (strandD c).1.1.2:Int)>0))
         ((((strandD c).1.1.1,List.set (strandD c).1.1.2 (an2 c).1.toNat (renB (an2 c).2 (List.getD (strandD c).1.1.2 (an2 c).1.toNat (dflt TRen))).1),(strandD c).1.2),(renB (an2 c).2 (List.getD (strandD c).1.1.2 (an2 c).1.toNat (dflt TRen))).2)
         ((strandD c).1,(an1 c).2))
       (cond ((an1 c).1==3) (cond (decide ((List.length (strandD c).1.1.2:Int)>0))
           ((((strandD c).1.1.1,subL (strandD c).1.1.2 1 (List.length (strandD c).1.1.2:Int)),(strandD c).1.2),(an1 c).2)
           ((strandD c).1,(an1 c).2))
         ((strandD c).1,(an1 c).2))))
theorem anyEx:∃ f:Cur→(Strand×Doc×Sig)×Cur,∀ c,f c=anyRaw c:=⟨anyRaw,fun _=>rfl⟩
noncomputable def anyD (c:Cur):(Strand×Doc×Sig)×Cur:=Classical.choose anyEx c
theorem anyD_eq (c:Cur):anyD c=anyRaw c:=Classical.choose_spec anyEx c
theorem an1_ok {c:Cur}(h:curOk c):curOk (an1 c).2:=below_ok (strandD_ok h)
theorem anIdx (c:Cur)(h:(List.length (strandD c).1.1.2:Int)>0):inRange (an2 c).1 (List.length (strandD c).1.1.2):=below_lt h
theorem anTail {n:Nat}(h:(n:Int)>0):(0:Int)≤1∧(1:Int)≤n∧(n:Int)≤n:=⟨by decide,by omega,Int.le_refl _⟩
theorem anApp (c:Cur):List.length (strandD c).1.1.1+1≤maxApp:=by
 have:=(okR_len (okR_strand c)).2
 unfold maxApp;omega
theorem anPiece (c:Cur):Sm big20 TPiece (List.getD (strandD c).1.1.1 0 (dflt TPiece)):=(tiny_big (strandD_tiny c)).1.2 _ (getD_mem (strandD_pos c) _)
theorem anRen {c:Cur}{i:Int}(h:inRange i (List.length (strandD c).1.1.2)):Sm 64 TRen (List.getD (strandD c).1.1.2 i.toNat (dflt TRen)):=(strandD_tiny c).1.2.2 _ (getD_mem h _)
def anP (r:(Strand×Doc×Sig)×Cur):Prop:=curOk r.2∧Sm 128 TStrand r.1.1
theorem anyD_P {c:Cur}(h:curOk c):anP (anyD c):=by
 have h0:=(strandD_tiny c).1
 have hs:Sm 128 TStrand (strandD c).1.1:=sm_up (by decide) _ _ h0
 have hl:=okR_len (okR_strand c)
 have h1:=an1_ok h
 rw[anyD_eq]
 unfold anyRaw
 cases (an1 c).1==0 with
 | true=>exact⟨pieceB_ok h1,sm_app (t:=TPiece) hs.1 (by omega) (sm_up (show 64≤128 by decide) _ _ (pieceB_sm _)),hs.2⟩
 | false=>cases (an1 c).1==1 with
   | true=>exact⟨h1,sm_app (t:=TPiece) hs.1 (by omega) (hs.1.2 _ (getD_mem (strandD_pos c) _)),hs.2⟩
   | false=>cases (an1 c).1==2 with
     | true=>cases hd:decide ((List.length (strandD c).1.1.2:Int)>0)with
       | true=>
         have hr:=anIdx c (of_decide_eq_true hd)
         exact⟨renB_ok (below_ok h1),hs.1,sm_set (t:=TRen) hs.2 (renB_sm (anRen hr))⟩
       | false=>exact⟨h1,hs⟩
     | false=>cases (an1 c).1==3 with
       | true=>cases hd:decide ((List.length (strandD c).1.1.2:Int)>0)with
         | true=>
           refine⟨h1,hs.1,?_,fun y hy=>hs.2.2 y ?_⟩
           · show (subL (strandD c).1.1.2 1 _).length≤128
             have:=hs.2.1
             unfold subL
             rw[List.length_drop,List.length_take]
             have this:List.length (strandD c).1.1.2≤128:=this
             omega
           · have hy:y∈subL (strandD c).1.1.2 1 (List.length (strandD c).1.1.2:Int):=hy
             unfold subL at hy
             exact List.mem_of_mem_take (List.mem_of_mem_drop hy)
         | false=>exact⟨h1,hs⟩
       | false=>exact⟨h1,hs⟩
noncomputable def en1 (c:Cur):Int×Cur:=belowF (caseD c).2 8
noncomputable def evAnyRaw (c:Cur):(Evidence×Doc×Sig)×Cur:=
 cond ((en1 c).1==0) ((((caseD c).1.1.1++[(anyD (en1 c).2).1.1],(caseD c).1.1.2),(caseD c).1.2),(anyD (en1 c).2).2)
   (cond ((en1 c).1==1) ((((caseD c).1.1.1,(caseD c).1.1.2++[[(bentD (en1 c).2).1]]),(caseD c).1.2),(bentD (en1 c).2).2)
     (cond ((en1 c).1==2) (((List.set (caseD c).1.1.1 0 (addPieceF (List.getD (caseD c).1.1.1 0 (dflt TStrand)) (pieceB (en1 c).2).1).1,(caseD c).1.1.2),(caseD c).1.2),(pieceB (en1 c).2).2)
       ((caseD c).1,(en1 c).2)))
theorem evAnyEx:∃ f:Cur→(Evidence×Doc×Sig)×Cur,∀ c,f c=evAnyRaw c:=⟨evAnyRaw,fun _=>rfl⟩
noncomputable def evAnyD (c:Cur):(Evidence×Doc×Sig)×Cur:=Classical.choose evAnyEx c
theorem evAny_eq (c:Cur):evAnyD c=evAnyRaw c:=Classical.choose_spec evAnyEx c
theorem en1_ok {c:Cur}(h:curOk c):curOk (en1 c).2:=below_ok (caseD_P h).2.1
section
variable {c:Cur} (h:curOk c)
include h
theorem enApp1:List.length (caseD c).1.1.1+1≤maxApp:=by
 have:=(caseD_P h).2.2.2.1
 unfold maxApp;omega
theorem enApp2:List.length (caseD c).1.1.2+1≤maxApp:=by
 have:=(caseD_P h).2.2.2.2
 unfold maxApp;omega
theorem enIdx:inRange 0 (List.length (caseD c).1.1.1):=by
 have:=(caseD_P h).2.2.1
 exact⟨Int.le_refl _,by omega⟩
theorem enStr64:Sm 64 TStrand (List.getD (caseD c).1.1.1 0 (dflt TStrand)):=(caseD_P h).1.1.1.2 _ (getD_mem (enIdx h) _)
theorem enStr:Sm big20 TStrand (List.getD (caseD c).1.1.1 0 (dflt TStrand)):=sm_up (by decide) _ _ (enStr64 h)
end
def enP (r:(Evidence×Doc×Sig)×Cur):Prop:=curOk r.2∧Sm 128 TEv r.1.1
theorem addPiece128 {s:Strand}{p:Piece}(hs:Sm 128 TStrand s)(hp:Sm 128 TPiece p):Sm 128 TStrand (addPieceF s p).1:=by
 unfold addPieceF
 split
 · rename_i h
   have h1:=(boolC_iff.1 h).1
   have h2:=(inR_iff.1 h1).2
   refine⟨⟨?_,fun x hx=>?_⟩,hs.2⟩
   · show (s.1++[p]).length≤128
     have h2:(((s.1++[p]).length:Nat):Int)≤12:=h2
     omega
   · rcases List.mem_append.1 hx with hx | hx
     · exact hs.1.2 x hx
     · rw[List.mem_singleton.1 hx];exact hp
 · exact hs
theorem evAny_P {c:Cur}(h:curOk c):enP (evAnyD c):=by
 have hp:=caseD_P h
 have hs:Sm 128 TEv (caseD c).1.1:=sm_up (by decide) _ _ hp.1.1
 have h1:=en1_ok h
 rw[evAny_eq]
 unfold evAnyRaw
 cases (en1 c).1==0 with
 | true=>exact⟨(anyD_P h1).1,sm_app (t:=TStrand) hs.1 (by have:=hp.2.2.2.1;omega) (anyD_P h1).2,hs.2⟩
 | false=>cases (en1 c).1==1 with
   | true=>exact⟨bentD_ok h1,hs.1,sm_app (t:=.slice TStamp) hs.2 (by have:=hp.2.2.2.2;omega) ⟨by show 1≤128;decide,fun _ _=>stampSm _ _⟩⟩
   | false=>cases (en1 c).1==2 with
     | true=>exact⟨pieceB_ok h1,sm_set (t:=TStrand) hs.1 (addPiece128 (sm_up (by decide) _ _ (enStr64 h)) (sm_up (show 64≤128 by decide) _ _ (pieceB_sm _))),hs.2⟩
     | false=>exact⟨h1,hs⟩
end Fw
namespace Fw
open Go
section
variable {e:Evidence} {acc acc2:List Stamp} {i k:Int}
end
end Fw
namespace Fw
open Go
set_option linter.unusedSimpArgs false
section
variable {ks:List Key} {l:List Authority} {a b:Stamp}
end
section
variable {st:List Stamp} {ks:List Key} {l:List Authority} {z:Stamp×Stamp}
end
end Fw
namespace Fw
open Go
theorem evAny_big {c:Cur}(h:curOk c):Sm big20 TEv (evAnyD c).1.1:=sm_up (by decide) _ _ (evAny_P h).2
theorem evAny_cells {c:Cur}(h:curOk c):((cellsC TEv (evAnyD c).1.1:Nat):Int)≤2000000000:=by
 have h1:=cells_max 128 TEv _ (evAny_P h).2
 have h2:cellsMax 128 TEv≤2000000000:=by decide
 omega
end Fw
namespace Fw
open Go
set_option linter.unusedSimpArgs false
section
variable {f:Frame} {e:Evidence} {d:Doc} {x:Sig} {us:List Piece} {c:Cert}
theorem form_shape (own:Int):((formF f own x).1=0∧formF f own x=(0,0,(0,0))∧isFrameF f=true∧isSigF x=true∧¬own<0∧own=x.2.2.2.1∧¬keyI f.1 x.1<0∧checkSigF f.1 x=true)∨
   (((formF f own x).1=2∨(formF f own x).1=3)∧(formF f own x).2.1≠0):=by
 unfold formF
 split
 · exact .inr ⟨.inr rfl,by show (1:Int)≠0;decide⟩
 rename_i h1
 split
 · exact .inr ⟨.inl rfl,by show (1:Int)≠0;decide⟩
 rename_i h2
 split
 · exact .inr ⟨.inr rfl,by show (2:Int)≠0;decide⟩
 rename_i h3
 split
 · exact .inr ⟨.inl rfl,by show (2:Int)≠0;decide⟩
 rename_i h4
 split
 · exact .inr ⟨.inr rfl,by show (3:Int)≠0;decide⟩
 rename_i h5
 split
 · exact .inr ⟨.inl rfl,by show (4:Int)≠0;decide⟩
 rename_i h6
 exact .inl ⟨rfl,rfl,by simpa using h1,by simpa using h2,by simpa using h3,by simpa using h4,by simpa using h5,by simpa using h6⟩
theorem end_shape {s:Span}:(endF f us x c s=(1,0,s)∧coversF (goodSpansF c (statusesF us c)) s=true∧maySignF f.1 (mandatesF us) x.2.2.2.2.2.1 c.2.2.1 s=true)∨
   (((endF f us x c s).1=2∨(endF f us x c s).1=3)∧(endF f us x c s).2.1≠0):=by
 unfold endF
 split
 · exact .inr ⟨.inl rfl,by show (8:Int)≠0;decide⟩
 split
 · exact .inr ⟨.inr rfl,by show (7:Int)≠0;decide⟩
 rename_i h2
 split
 · exact .inr ⟨.inr rfl,by show (9:Int)≠0;decide⟩
 rename_i h3
 exact .inl ⟨rfl,by simpa using h2,by simpa using h3⟩
def validP (f:Frame)(e:Evidence)(d:Doc)(x:Sig):Prop:=
 isFrameF f=true∧docDigF x.2.2.1 d=x.2.2.2.1∧¬keyI f.1 x.1<0∧checkSigF f.1 x=true∧(certForF f.1 (usablePiecesF f e (allDigsF e d)) x).2=true∧
 evBoundF f e (allDigsF e d) (signPieceF x)<brkKeyF f x.1∧evBoundF f e (allDigsF e d) (signPieceF x)<breakF f.2.2.1 x.2.2.1∧
 judgeDocF f e d x=(1,0,(freshG f e (usablePiecesF f e (allDigsF e d)) x,evBoundF f e (allDigsF e d) (signPieceF x)))∧
 coversF (goodSpansF (certForF f.1 (usablePiecesF f e (allDigsF e d)) x).1 (statusesF (usablePiecesF f e (allDigsF e d)) (certForF f.1 (usablePiecesF f e (allDigsF e d)) x).1)) (freshG f e (usablePiecesF f e (allDigsF e d)) x,evBoundF f e (allDigsF e d) (signPieceF x))=true∧
 maySignF f.1 (mandatesF (usablePiecesF f e (allDigsF e d))) x.2.2.2.2.2.1 (certForF f.1 (usablePiecesF f e (allDigsF e d)) x).1.2.2.1 (freshG f e (usablePiecesF f e (allDigsF e d)) x,evBoundF f e (allDigsF e d) (signPieceF x))=true
theorem judge_shape:validP f e d x∨(((judgeDocF f e d x).1=2∨(judgeDocF f e d x).1=3)∧(judgeDocF f e d x).2.1≠0):=by
 rcases form_shape (f:=f) (x:=x) (docDigF x.2.2.1 d)with⟨h0,h1,h2,h3,h4,h5,h6,h7⟩ | h
 · have e1:judgeDocF f e d x=boundJ f e (allDigsF e d) x (evBoundF f e (allDigsF e d) (signPieceF x)):=(juB h1).symm
   unfold validP
   rw[e1]
   unfold boundJ
   split
   · exact .inr ⟨.inr rfl,by show (5:Int)≠0;decide⟩
   rename_i hb
   have hb1:=orF (Bool.eq_false_iff.2 hb)
   have g1:=of_decide_eq_false hb1.1
   have g2:=of_decide_eq_false hb1.2
   unfold certJ
   split
   · exact .inr ⟨.inr rfl,by show (6:Int)≠0;decide⟩
   rename_i hc
   have hc:(certForF f.1 (usablePiecesF f e (allDigsF e d)) x).2=true:=by simpa using hc
   split
   · exact .inr ⟨.inr rfl,by show (7:Int)≠0;decide⟩
   rcases end_shape (f:=f) (x:=x) (us:=usablePiecesF f e (allDigsF e d)) (c:=(certForF f.1 (usablePiecesF f e (allDigsF e d)) x).1) (s:=(freshG f e (usablePiecesF f e (allDigsF e d)) x,evBoundF f e (allDigsF e d) (signPieceF x)))with⟨k1,k2,k3⟩ | k
   · exact .inl ⟨h2,h5,h6,h7,hc,by omega,by omega,k1,k2,k3⟩
   · exact .inr k
 · have e1:judgeDocF f e d x=formF f (docDigF x.2.2.1 d) x:=by
     refine(juA ?_).symm
     rw[bne_iff_ne]
     rcases h.1 with h | h<;>rw[h]<;>decide
   rw[e1]
   exact .inr h
theorem judge_bad1 (h:pick2 (pick2 (decide ((judgeDocF f e d x).1<1)) true (decide ((judgeDocF f e d x).1>3))) true (((judgeDocF f e d x).1==1) != ((judgeDocF f e d x).2.1==0))=true):False:=by
 rcases judge_shape (f:=f) (e:=e) (d:=d) (x:=x)with hv | ⟨h1,h2⟩
 · have e1:=hv.2.2.2.2.2.2.2.1
   rw[e1]at h
   cases h
 · have e2:((judgeDocF f e d x).2.1==0)=false:=by simpa using h2
   rcases h1 with h1 | h1<;>rw[h1,e2]at h<;>cases h
theorem valid_of (h:((judgeDocF f e d x).1 != 1)=false):validP f e d x:=by
 rcases judge_shape (f:=f) (e:=e) (d:=d) (x:=x)with hv | ⟨h1,_⟩
 · exact hv
 · have:=bneI h
   omega
theorem cert_has {keys:List Key}{l:List Piece}{g:Sig}(hl:l.length≤2000000000)(h:(certForF keys l g).2=true):checkCertF keys (certForF keys l g).1=true∧(certForF keys l g).1.1=g.2.1∧(certForF keys l g).1.2.1=g.1:=by
 have h1:=(cert_ok hl).1 h
 rw[cert_val hl h]
 obtain⟨p,hp⟩:=List.length_eq_one_iff.1 h1
 rw[hp]
 have hm:p∈l.filter (cfTest keys g):=by rw[hp];simp
 have ht:=(List.mem_filter.1 hm).2
 unfold cfTest at ht
 have t1:=andT ht
 have t2:=andT t1.1
 have t3:=andT t2.1
 exact⟨t3.2,beqI2 t2.2,beqI2 t1.2⟩
theorem judge_bad2 (hv:validP f e d x)(h:pick2 (pick2 (pick2 (pick2 (pick2 (!(certForF f.1 (usablePiecesF f e (allDigsF e d)) x).2) true (decide (keyI f.1 x.1<0))) true (x.2.2.2.1 != docDigF x.2.2.1 d)) true (!(checkSigF f.1 x))) true
   (decide ((judgeDocF f e d x).2.2.2≥breakF f.2.2.1 (keyAt f.1 x.1).2.2.1))) true (decide ((judgeDocF f e d x).2.2.2≥breakF f.2.2.1 x.2.2.1))=true):False:=by
 obtain⟨v1,v2,v3,v4,v5,v6,v7,v8,_,_⟩:=hv
 rw[v8,v5,v2,v4,decide_eq_false v3,bk1 v3]at h
 have e1:(x.2.2.2.1 != x.2.2.2.1)=false:=by simp
 rw[e1,decide_eq_false (by show ¬evBoundF f e (allDigsF e d) (signPieceF x)≥_;omega),decide_eq_false (by show ¬evBoundF f e (allDigsF e d) (signPieceF x)≥_;omega)]at h
 cases h
theorem judge_fin (hl:(usablePiecesF f e (allDigsF e d)).length≤2000000000)(hv:validP f e d x):
   pick2 (pick2 (pick2 (pick2 ((certForF f.1 (usablePiecesF f e (allDigsF e d)) x).1.2.2.1==(keyAt f.1 x.1).2.1) (isInsideF (judgeDocF f e d x).2.2 (certSpanF (certForF f.1 (usablePiecesF f e (allDigsF e d)) x).1)) false)
     (decide ((judgeDocF f e d x).2.2.2≤goodUntilF (statusesF (usablePiecesF f e (allDigsF e d)) (certForF f.1 (usablePiecesF f e (allDigsF e d)) x).1) (certForF f.1 (usablePiecesF f e (allDigsF e d)) x).1.1)) false)
     (decide ((judgeDocF f e d x).2.2.1≥(keyAt f.1 x.1).2.2.2.1)) false)
     (maySignF f.1 (mandatesF (usablePiecesF f e (allDigsF e d))) x.2.2.2.2.2.1 (certForF f.1 (usablePiecesF f e (allDigsF e d)) x).1.2.2.1 (judgeDocF f e d x).2.2) false=true:=by
 obtain⟨v1,v2,v3,v4,v5,v6,v7,v8,v9,v10⟩:=hv
 obtain⟨c1,c2,c3⟩:=cert_has hl v5
 obtain⟨k1,k2,k3,k4,k5,k6,k7⟩:=good_iff.1 v9
 rw[v8]
 have e1:((certForF f.1 (usablePiecesF f e (allDigsF e d)) x).1.2.2.1==(keyAt f.1 x.1).2.1)=true:=by
   have h1:=beqI2 (andT c1).2
   rw[c3,←owner1 v3]at h1
   rw[beq_iff_eq];exact h1.symm
 have e2:isInsideF (freshG f e (usablePiecesF f e (allDigsF e d)) x,evBoundF f e (allDigsF e d) (signPieceF x)) (certSpanF (certForF f.1 (usablePiecesF f e (allDigsF e d)) x).1)=true:=
   inside_iff.2 ⟨k1,k2,k5,k6⟩
 have e3:bornF f x≤freshG f e (usablePiecesF f e (allDigsF e d)) x:=(fr_le.1 (Int.le_refl _)).1
 rw[←born1 (by omega)]at e3
 show pick2 (pick2 (pick2 (pick2 _ (isInsideF (freshG f e (usablePiecesF f e (allDigsF e d)) x,evBoundF f e (allDigsF e d) (signPieceF x)) _) false) (decide (evBoundF f e (allDigsF e d) (signPieceF x)≤_)) false) (decide (freshG f e (usablePiecesF f e (allDigsF e d)) x≥_)) false) (maySignF _ _ _ _ (freshG f e (usablePiecesF f e (allDigsF e d)) x,evBoundF f e (allDigsF e d) (signPieceF x))) false=true
 rw[e1,e2,decide_eq_true k7,decide_eq_true (show freshG f e (usablePiecesF f e (allDigsF e d)) x≥(keyAt f.1 x.1).2.2.2.1 from e3),v10]
 rfl
end
end Fw
namespace Fw
open Go
set_option linter.unusedSimpArgs false
noncomputable def ka1 (c:Cur):Int×Cur:=belowF c (List.length keysT:Int)
noncomputable def ka2 (c:Cur):Int×Cur:=belowF (ka1 c).2 9
noncomputable def kaK (c:Cur):Key:=List.getD keysT (ka1 c).1.toNat (dflt TKey)
noncomputable def keysRaw (c:Cur):List Key×Cur:=
 cond ((ka2 c).1==0) (List.set keysT (ka1 c).1.toNat ((intF (ka2 c).2 [0,1,50,99,100]).1,(kaK c).2),(intF (ka2 c).2 [0,1,50,99,100]).2)
   (cond ((ka2 c).1==1) (List.set keysT (ka1 c).1.toNat ((kaK c).1,(intF (ka2 c).2 [-1,5,100]).1,(kaK c).2.2),(intF (ka2 c).2 [-1,5,100]).2)
     (cond ((ka2 c).1==2) (List.set keysT (ka1 c).1.toNat ((kaK c).1,(kaK c).2.1,(kaK c).2.2.1,(kaK c).2.2.2.1,(intF (ka2 c).2 [0,777]).1),(intF (ka2 c).2 [0,777]).2)
       (cond ((ka2 c).1==3) (List.set keysT (ka1 c).1.toNat ((kaK c).1,(kaK c).2.1,(kaK c).2.2.1,(rawD (ka2 c).2).1,(kaK c).2.2.2.2),(rawD (ka2 c).2).2)
         (cond ((ka2 c).1==4) (List.set keysT (ka1 c).1.toNat ((kaK c).1,(kaK c).2.1,(intF (ka2 c).2 [-1,0,99,100]).1,(kaK c).2.2.2),(intF (ka2 c).2 [-1,0,99,100]).2)
           (keysT,(ka2 c).2)))))
theorem keysEx:∃ f:Cur→List Key×Cur,∀ c,f c=keysRaw c:=⟨keysRaw,fun _=>rfl⟩
noncomputable def keysA (c:Cur):List Key×Cur:=Classical.choose keysEx c
theorem keysA_eq (c:Cur):keysA c=keysRaw c:=Classical.choose_spec keysEx c
theorem ka2_ok {c:Cur}(h:curOk c):curOk (ka2 c).2:=below_ok (below_ok h)
theorem kaIdx (c:Cur):inRange (ka1 c).1 (List.length keysT):=int_range (by decide)
theorem keysA_ok {c:Cur}(h:curOk c):curOk (keysA c).2:=by
 have h1:=ka2_ok h
 rw[keysA_eq]
 unfold keysRaw
 cases (ka2 c).1==0 with
 | true=>exact int_ok h1
 | false=>cases (ka2 c).1==1 with
   | true=>exact int_ok h1
   | false=>cases (ka2 c).1==2 with
     | true=>exact int_ok h1
     | false=>cases (ka2 c).1==3 with
       | true=>exact rawD_ok h1
       | false=>cases (ka2 c).1==4 with
         | true=>exact int_ok h1
         | false=>exact h1
noncomputable def aa1 (c:Cur):Int×Cur:=belowF c 4
noncomputable def aa2 (c:Cur):Int×Cur:=belowF (aa1 c).2 8
noncomputable def aaA (c:Cur):Authority:=List.getD authsT (aa1 c).1.toNat (dflt TAuth)
noncomputable def authsRaw (c:Cur):List Authority×Cur:=
 cond ((aa2 c).1==0) (List.set authsT (aa1 c).1.toNat ((intF (aa2 c).2 [-1,2,99,100]).1,(aaA c).2),(intF (aa2 c).2 [-1,2,99,100]).2)
   (cond ((aa2 c).1==1) (List.set authsT (aa1 c).1.toNat ((aaA c).1,(numD (aa2 c).2).1,(aaA c).2.2),(numD (aa2 c).2).2)
     (cond ((aa2 c).1==2) (List.set authsT (aa1 c).1.toNat ((aaA c).1,(aaA c).2.1,(intF (aa2 c).2 [-1,100,101,9223372036854775807]).1),(intF (aa2 c).2 [-1,100,101,9223372036854775807]).2)
       (authsT,(aa2 c).2)))
theorem authsEx:∃ f:Cur→List Authority×Cur,∀ c,f c=authsRaw c:=⟨authsRaw,fun _=>rfl⟩
noncomputable def authsA (c:Cur):List Authority×Cur:=Classical.choose authsEx c
theorem authsA_eq (c:Cur):authsA c=authsRaw c:=Classical.choose_spec authsEx c
theorem aa2_ok {c:Cur}(h:curOk c):curOk (aa2 c).2:=below_ok (below_ok h)
theorem aaIdx (c:Cur):inRange (aa1 c).1 (List.length authsT):=int_range (n:=4) (by decide)
theorem authsA_ok {c:Cur}(h:curOk c):curOk (authsA c).2:=by
 have h1:=aa2_ok h
 rw[authsA_eq]
 unfold authsRaw
 cases (aa2 c).1==0 with
 | true=>exact int_ok h1
 | false=>cases (aa2 c).1==1 with
   | true=>exact numD_ok h1
   | false=>cases (aa2 c).1==2 with
     | true=>exact int_ok h1
     | false=>exact h1
noncomputable def ma1 (c:Cur):Int×Cur:=belowF c 4
noncomputable def ma2 (c:Cur):Int×Cur:=belowF (ma1 c).2 9
noncomputable def maM (c:Cur):Method:=List.getD methsT (ma1 c).1.toNat (dflt TMethod)
noncomputable def methsRaw (c:Cur):List Method×Cur:=
 cond ((ma2 c).1==0) (List.set methsT (ma1 c).1.toNat ((intF (ma2 c).2 [-1,0,1,99,100]).1,(maM c).2),(intF (ma2 c).2 [-1,0,1,99,100]).2)
   (cond ((ma2 c).1==1) (List.set methsT (ma1 c).1.toNat ((maM c).1,(rawD (ma2 c).2).1,(maM c).2.2),(rawD (ma2 c).2).2)
     (cond ((ma2 c).1==2) (List.set methsT (ma1 c).1.toNat ((maM c).1,(maM c).2.1,(intF (ma2 c).2 [0,1,45,10001,10002]).1,(maM c).2.2.2),(intF (ma2 c).2 [0,1,45,10001,10002]).2)
       (cond ((ma2 c).1==3) (List.set methsT (ma1 c).1.toNat ((maM c).1,(maM c).2.1,(maM c).2.2.1,(intF (ma2 c).2 [0,1,45,10001,10002]).1),(intF (ma2 c).2 [0,1,45,10001,10002]).2)
         (cond ((ma2 c).1==4) (subL methsT 0 (ma1 c).1,(ma2 c).2)
           (methsT,(ma2 c).2)))))
theorem methsEx:∃ f:Cur→List Method×Cur,∀ c,f c=methsRaw c:=⟨methsRaw,fun _=>rfl⟩
noncomputable def methsA (c:Cur):List Method×Cur:=Classical.choose methsEx c
theorem methsA_eq (c:Cur):methsA c=methsRaw c:=Classical.choose_spec methsEx c
theorem ma2_ok {c:Cur}(h:curOk c):curOk (ma2 c).2:=below_ok (below_ok h)
theorem maIdx (c:Cur):inRange (ma1 c).1 (List.length methsT):=int_range (n:=4) (by decide)
theorem maCut (c:Cur):(0:Int)≤0∧(0:Int)≤(ma1 c).1∧(ma1 c).1≤(List.length methsT:Int):=by
 have:=maIdx c
 exact⟨Int.le_refl _,this.1,Int.le_of_lt this.2⟩
theorem methsA_ok {c:Cur}(h:curOk c):curOk (methsA c).2:=by
 have h1:=ma2_ok h
 rw[methsA_eq]
 unfold methsRaw
 cases (ma2 c).1==0 with
 | true=>exact int_ok h1
 | false=>cases (ma2 c).1==1 with
   | true=>exact rawD_ok h1
   | false=>cases (ma2 c).1==2 with
     | true=>exact int_ok h1
     | false=>cases (ma2 c).1==3 with
       | true=>exact int_ok h1
       | false=>cases (ma2 c).1==4 with
         | true=>exact h1
         | false=>exact h1
noncomputable def fa1 (c:Cur):Int×Cur:=belowF (frameD c).2 10
noncomputable def frameRaw (c:Cur):Frame×Cur:=
 cond ((fa1 c).1==0) (((keysA (fa1 c).2).1,(frameD c).1.2),(keysA (fa1 c).2).2)
   (cond ((fa1 c).1==1) (((frameD c).1.1,(authsA (fa1 c).2).1,(frameD c).1.2.2),(authsA (fa1 c).2).2)
     (cond ((fa1 c).1==2) (((frameD c).1.1,(frameD c).1.2.1,(methsA (fa1 c).2).1,(frameD c).1.2.2.2),(methsA (fa1 c).2).2)
       (cond ((fa1 c).1==3) (((frameD c).1.1,(frameD c).1.2.1,(frameD c).1.2.2.1,(intF (fa1 c).2 [-1,2,6,7]).1,(frameD c).1.2.2.2.2),(intF (fa1 c).2 [-1,2,6,7]).2)
         (cond ((fa1 c).1==4) (((frameD c).1.1,(frameD c).1.2.1,(frameD c).1.2.2.1,(frameD c).1.2.2.2.1,(rawD (fa1 c).2).1),(rawD (fa1 c).2).2)
           ((frameD c).1,(fa1 c).2)))))
theorem frameEx:∃ f:Cur→Frame×Cur,∀ c,f c=frameRaw c:=⟨frameRaw,fun _=>rfl⟩
noncomputable def frameA (c:Cur):Frame×Cur:=Classical.choose frameEx c
theorem frameA_eq (c:Cur):frameA c=frameRaw c:=Classical.choose_spec frameEx c
theorem fa1_ok {c:Cur}(h:curOk c):curOk (fa1 c).2:=below_ok (frameD_ok h)
theorem frameA_ok {c:Cur}(h:curOk c):curOk (frameA c).2:=by
 have h1:=fa1_ok h
 rw[frameA_eq]
 unfold frameRaw
 cases (fa1 c).1==0 with
 | true=>exact keysA_ok h1
 | false=>cases (fa1 c).1==1 with
   | true=>exact authsA_ok h1
   | false=>cases (fa1 c).1==2 with
     | true=>exact methsA_ok h1
     | false=>cases (fa1 c).1==3 with
       | true=>exact int_ok h1
       | false=>cases (fa1 c).1==4 with
         | true=>exact rawD_ok h1
         | false=>exact h1
noncomputable def sb1 (c:Cur):Int×Cur:=belowF c 12
noncomputable def sigRaw (c:Cur)(x:Sig):Sig×Cur:=
 cond ((sb1 c).1==0) ((x.1,x.2.1,x.2.2.1,x.2.2.2.1,x.2.2.2.2.1,x.2.2.2.2.2.1,x.2.2.2.2.2.2.1,x.2.2.2.2.2.2.2.1,IntKind.i64.wrap (x.2.2.2.2.2.2.2.2+1)),(sb1 c).2)
   (cond ((sb1 c).1==1) ((x.1,IntKind.i64.wrap (1+(belowF (sb1 c).2 4).1),x.2.2),(belowF (sb1 c).2 4).2)
     (cond ((sb1 c).1==2) (((numD (sb1 c).2).1,x.2),(numD (sb1 c).2).2)
       (cond ((sb1 c).1==3) ((x.1,x.2.1,x.2.2.1,IntKind.i64.wrap (x.2.2.2.1+1),x.2.2.2.2),(sb1 c).2)
         (x,(sb1 c).2))))
theorem sigBEx:∃ f:Cur→Sig→Sig×Cur,∀ c x,f c x=sigRaw c x:=⟨sigRaw,fun _ _=>rfl⟩
noncomputable def sigB (c:Cur)(x:Sig):Sig×Cur:=Classical.choose sigBEx c x
theorem sigB_eq (c:Cur)(x:Sig):sigB c x=sigRaw c x:=Classical.choose_spec sigBEx c x
theorem sb1_ok {c:Cur}(h:curOk c):curOk (sb1 c).2:=below_ok h
noncomputable def jd0 (code:List Int):Frame×Cur:=frameA (curNewF code)
noncomputable def jd1 (code:List Int):(Evidence×Doc×Sig)×Cur:=evAnyD (jd0 code).2
noncomputable def judgeC (code:List Int):Frame×Evidence×Doc×Sig:=((jd0 code).1,(jd1 code).1.1,(jd1 code).1.2.1,(sigB (jd1 code).2 (jd1 code).1.2.2).1)
theorem jd_ok {code:List Int}(h:code.length≤bigLen):curOk (jd0 code).2∧curOk (jd1 code).2:=⟨frameA_ok (newCur_ok h),(evAny_P (frameA_ok (newCur_ok h))).1⟩
theorem jd_sm {code:List Int}(h:code.length≤bigLen):Sm big20 TEv (judgeC code).2.1∧((cellsC (.slice TStrand) (judgeC code).2.1.1:Nat):Int)≤2000000000:=
 ⟨evAny_big (jd_ok h).1,evdCells (evAny_cells (jd_ok h).1)⟩
end Fw
