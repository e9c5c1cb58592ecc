/- Plain laws of what is drawn: answers, mandates, stamps, signatures, pieces, strands with their renewals. Conditions: none. -/
import Derived.Test.YtajkcodhmabmnaaGreatP3
namespace Fw
open Go
theorem belN {c:Cur}{n:Int}(hn:0<n)(hs:n≤1000000):0≤(belowF c n).1∧(belowF c n).1≤1000000:=by
 have:=below_lt (c:=c) hn;omega
noncomputable def stampD (c:Cur):Stamp×Cur:=
 ((makeStampF keysT authsT (IntKind.i64.wrap (1+(belowF c 4).1),(belowF (belowF c 4).2 9).1,(belowF (belowF (belowF c 4).2 9).2 60).1,(belowF (belowF (belowF (belowF c 4).2 9).2 60).2 99).1,0)).1,
   (belowF (belowF (belowF (belowF c 4).2 9).2 60).2 99).2)
noncomputable def dst1 (c:Cur):Int×Cur:=belowF c 60
noncomputable def dst2 (c:Cur):Int×Cur:=belowF (dst1 c).2 3
noncomputable def dst3 (c:Cur):Int×Cur:=belowF (dst2 c).2 2
noncomputable def dst4 (c:Cur):Bool×Cur:=onceF (dst3 c).2 3
noncomputable def dst5 (c:Cur):Int×Cur:=belowF (dst4 c).2 (IntKind.i64.wrap ((dst1 c).1+2))
noncomputable def statD (c:Cur):Status×Cur:=
 cond (dst4 c).1 ((makeStatusF keysT (IntKind.i64.wrap (1+(dst2 c).1),(dst1 c).1,(dst5 c).1,IntKind.i64.wrap (1+(dst3 c).1),0)).1,(dst5 c).2)
   ((makeStatusF keysT (IntKind.i64.wrap (1+(dst2 c).1),(dst1 c).1,-1,IntKind.i64.wrap (1+(dst3 c).1),0)).1,(dst4 c).2)
noncomputable def mandD (c:Cur):Mandate×Cur:=
 ((makeMandF keysT (50,IntKind.i64.wrap (1+(belowF (belowF c 40).2 2).1),(belowF c 40).1,IntKind.i64.wrap ((belowF c 40).1+(belowF (belowF (belowF c 40).2 2).2 30).1),21,0)).1,(belowF (belowF (belowF c 40).2 2).2 30).2)
noncomputable def gn1 (c:Cur):Int×Cur:=belowF (docD c).2 3
noncomputable def gn2 (c:Cur):Int×Cur:=belowF (gn1 c).2 3
noncomputable def signD (c:Cur):(Sig×Doc)×Cur:=
 (((signDocF keysT (IntKind.i64.wrap (11+(gn1 c).1)) (IntKind.i64.wrap (1+(gn1 c).1)) (IntKind.i64.wrap (1+(gn1 c).1)) (docD c).1 (IntKind.i64.wrap (1+(gn2 c).1))).1,(docD c).1),(gn2 c).2)
theorem once_ok {c:Cur}{n:Int}(h:curOk c):curOk (onceF c n).2:=below_ok h
theorem stampD_ok {c:Cur}(h:curOk c):curOk (stampD c).2:=below_ok (below_ok (below_ok (below_ok h)))
theorem dst4_ok {c:Cur}(h:curOk c):curOk (dst4 c).2:=below_ok (below_ok (below_ok (below_ok h)))
theorem statD_ok {c:Cur}(h:curOk c):curOk (statD c).2:=by
 unfold statD
 cases (dst4 c).1 with
 | true=>exact below_ok (dst4_ok h)
 | false=>exact dst4_ok h
theorem mandD_ok {c:Cur}(h:curOk c):curOk (mandD c).2:=below_ok (below_ok (below_ok h))
theorem signD_ok {c:Cur}(h:curOk c):curOk (signD c).2:=below_ok (below_ok (docD_ok h))
theorem gn1_lt (c:Cur):0≤(gn1 c).1∧(gn1 c).1<3:=below_lt (by decide)
theorem docDig_range {m:Int}{d:Doc}(h:docF d=true):0≤docDigF m d∧docDigF m d≤1000000000000:=by
 unfold docDigF
 rw[if_pos h,digest_eq]
 have:=hash_range ([7,m]++([d.1]++(List.range d.2.1.length).flatMap (docG m d)))
 omega
theorem andTT {a b:Bool}(h1:a=true)(h2:b=true):pick2 a b false=true:=by subst h1;subst h2;rfl
theorem signDoc_ok {n k:Int}{d:Doc}(hd:docF d=true)(hn:0≤n∧n<3)(hk:0≤k∧k<3):
   (signDocF keysT (IntKind.i64.wrap (11+n)) (IntKind.i64.wrap (1+n)) (IntKind.i64.wrap (1+n)) d (IntKind.i64.wrap (1+k))).1.2.1=1+n:=by
 rw[w64 (x:=11+n) (by omega) (by omega),w64 (x:=1+n) (by omega) (by omega),w64 (x:=1+k) (by omega) (by omega)]
 have hg:=docDig_range (m:=1+n) hd
 have hs:isSigF (11+n,1+n,1+n,docDigF (1+n) d,1+k,0,0,0,0)=true:=by
   unfold isSigF
   refine andTT (andTT (andTT (andTT (andTT (andTT (andTT ?_ ?_) ?_) ?_) ?_) ?_) ?_) ?_<;>refine inR_iff.2 ⟨?_,?_⟩<;>first | exact hg.1 | exact hg.2 | (show (0:Int)≤_;decide) | (show (_:Int)≤_;simp only[];omega)
 have hf:¬keyI keysT (11+n)<0:=by
   have h3:n=0∨n=1∨n=2:=by omega
   rcases h3 with rfl | rfl | rfl<;>decide
 unfold signDocF signDigestF
 rw[cF (by rw[hs];exact decide_eq_false hf)]
theorem signD_serial {c:Cur}(h:curOk c):(signD c).1.1.2.1=1+(gn1 c).1:=
 signDoc_ok (docD_doc h) (gn1_lt c) (below_lt (by decide))
theorem signD_idx {c:Cur}(h:curOk c):inRange (IntKind.i64.wrap ((signD c).1.1.2.1-1)) (List.length certsT):=by
 rw[signD_serial h]
 have:=gn1_lt c
 rw[w64 (by omega) (by omega)]
 show inRange _ 3
 exact⟨by omega,by omega⟩
def certAt (n:Int):Cert:=certsT.getD n.toNat (dflt (.pair TI (.pair TI (.pair TI (.pair TI (.pair TI (.pair TI TI)))))))
noncomputable def pieceD (c:Cur):Piece×Cur:=
 cond ((belowF c 5).1==0) (certPieceF (certAt (belowF (belowF c 5).2 3).1),(belowF (belowF c 5).2 3).2)
   (cond ((belowF c 5).1==1) (statusPieceF (statD (belowF c 5).2).1,(statD (belowF c 5).2).2)
     (cond ((belowF c 5).1==2) (stampPieceF (stampKeyF authsT (stampD (belowF c 5).2).1) (stampD (belowF c 5).2).1,(stampD (belowF c 5).2).2)
       (cond ((belowF c 5).1==3) (signPieceF (signD (belowF c 5).2).1.1,(signD (belowF c 5).2).2)
         (mandPieceF (mandD (belowF c 5).2).1,(mandD (belowF c 5).2).2))))
theorem pieceD_ok {c:Cur}(h:curOk c):curOk (pieceD c).2:=by
 have hb:=below_ok (n:=5) h
 unfold pieceD
 cases (belowF c 5).1==0 with
 | true=>exact below_ok hb
 | false=>cases (belowF c 5).1==1 with
   | true=>exact statD_ok hb
   | false=>cases (belowF c 5).1==2 with
     | true=>exact stampD_ok hb
     | false=>cases (belowF c 5).1==3 with
       | true=>exact signD_ok hb
       | false=>exact mandD_ok hb
theorem pcSm {k m:Int}{l:List Int}(h:l.length≤9):Sm big20 TPiece (k,l,m):=⟨trivial,⟨Nat.le_trans h (by decide),fun _ _=>trivial⟩,trivial⟩
theorem signPiece_sm (x:Sig):Sm big20 TPiece (signPieceF x):=pcSm (Nat.le_of_ble_eq_true rfl)
theorem certPiece_sm (x:Cert):Sm big20 TPiece (certPieceF x):=pcSm (Nat.le_of_ble_eq_true rfl)
theorem statPiece_sm (x:Status):Sm big20 TPiece (statusPieceF x):=pcSm (Nat.le_of_ble_eq_true rfl)
theorem stampPiece_sm (k:Int)(x:Stamp):Sm big20 TPiece (stampPieceF k x):=pcSm (Nat.le_of_ble_eq_true rfl)
theorem mandPiece_sm (x:Mandate):Sm big20 TPiece (mandPieceF x):=pcSm (Nat.le_of_ble_eq_true rfl)
theorem pieceD_sm (c:Cur):Sm big20 TPiece (pieceD c).1:=by
 unfold pieceD
 cases (belowF c 5).1==0 with
 | true=>exact certPiece_sm _
 | false=>cases (belowF c 5).1==1 with
   | true=>exact statPiece_sm _
   | false=>cases (belowF c 5).1==2 with
     | true=>exact stampPiece_sm _ _
     | false=>cases (belowF c 5).1==3 with
       | true=>exact signPiece_sm _
       | false=>exact mandPiece_sm _
theorem addPiece_sm {s:Strand}{p:Piece}(hs:Sm big20 TStrand s)(hp:Sm big20 TPiece p):Sm big20 TStrand (addPieceF s p).1:=by
 unfold addPieceF
 split
 · rename_i h
   have h1:=(boolC_iff.1 h).1
   have h2:=(inR_iff.1 h1).2
   refine⟨⟨?_,fun x hx=>?_⟩,hs.2⟩
   · show (s.1++[p]).length≤big20
     have h2:(((s.1++[p]).length:Nat):Int)≤12:=h2
     unfold big20;omega
   · rcases List.mem_append.1 hx with hx | hx
     · exact hs.1.2 x hx
     · rw[List.mem_singleton.1 hx];exact hp
 · exact hs
theorem addRen_sm {s:Strand}{r:Renewal}(hs:Sm big20 TStrand s)(hr:Sm big20 TRen r):Sm big20 TStrand (addRenF s r).1:=by
 unfold addRenF
 split
 · rename_i h
   have h1:=(boolC_iff.1 h).2.1
   refine⟨hs.1,⟨?_,fun x hx=>?_⟩⟩
   · show (s.2++[r]).length≤big20
     have h1:(((s.2++[r]).length:Nat):Int)≤8:=h1
     unfold big20;omega
   · rcases List.mem_append.1 hx with hx | hx
     · exact hs.2.2 x hx
     · rw[List.mem_singleton.1 hx];exact hr
 · exact hs
noncomputable def sg1 (c:Cur):(Sig×Doc)×Cur:=signD c
noncomputable def sgCert (c:Cur):Cert:=certAt (IntKind.i64.wrap ((sg1 c).1.1.2.1-1))
noncomputable def sgS (c:Cur):Strand:=([signPieceF (sg1 c).1.1,certPieceF (sgCert c)],[])
noncomputable def sg2 (c:Cur):Int×Cur:=intF (sg1 c).2 [10,30,60,90]
noncomputable def sgA (c:Cur):Status:=(makeStatusF keysT ((sg1 c).1.1.2.1,(sg2 c).1,-1,(sgCert c).2.2.2.2.2.1,0)).1
noncomputable def sg3 (c:Cur):Bool×Cur:=onceF (sg2 c).2 4
noncomputable def sg4 (c:Cur):Bool×Cur:=onceF (sg3 c).2 4
noncomputable def sgT (c:Cur)(s:Strand):(Strand×Doc×Sig)×Cur:=
 cond (sg4 c).1 (((addPieceF s (pieceD (sg4 c).2).1).1,(sg1 c).1.2,(sg1 c).1.1),(pieceD (sg4 c).2).2) ((s,(sg1 c).1.2,(sg1 c).1.1),(sg4 c).2)
noncomputable def signedRaw (c:Cur):(Strand×Doc×Sig)×Cur:=cond (!(sg3 c).1) (sgT c (addPieceF (sgS c) (statusPieceF (sgA c))).1) (sgT c (sgS c))
theorem signedEx:∃ f:Cur→(Strand×Doc×Sig)×Cur,∀ c,f c=signedRaw c:=⟨signedRaw,fun _=>rfl⟩
noncomputable def signedD (c:Cur):(Strand×Doc×Sig)×Cur:=Classical.choose signedEx c
theorem signed_eq (c:Cur):signedD c=signedRaw c:=Classical.choose_spec signedEx c
theorem sg2_ok {c:Cur}(h:curOk c):curOk (sg2 c).2:=int_ok (signD_ok h)
theorem sg3_ok {c:Cur}(h:curOk c):curOk (sg3 c).2:=once_ok (sg2_ok h)
theorem sg4_ok {c:Cur}(h:curOk c):curOk (sg4 c).2:=once_ok (sg3_ok h)
theorem sgS_sm (c:Cur):Sm big20 TStrand (sgS c):=by
 refine⟨⟨Nat.le_of_ble_eq_true rfl,fun x hx=>?_⟩,⟨Nat.zero_le _,fun x hx=>by simp[sgS]at hx⟩⟩
 have hx:x∈[signPieceF (sg1 c).1.1,certPieceF (sgCert c)]:=hx
 rcases List.mem_cons.1 hx with rfl | hx
 · exact signPiece_sm _
 · rw[List.mem_singleton.1 hx];exact certPiece_sm _
theorem sgS2_sm (c:Cur):Sm big20 TStrand (addPieceF (sgS c) (statusPieceF (sgA c))).1:=addPiece_sm (sgS_sm c) (statPiece_sm _)
def sgP (x:(Strand×Doc×Sig)×Cur):Prop:=Sm big20 TStrand x.1.1∧curOk x.2
theorem sgT_P {c:Cur}{s:Strand}(h:curOk c)(hs:Sm big20 TStrand s):sgP (sgT c s):=by
 unfold sgT
 cases (sg4 c).1 with
 | true=>exact⟨addPiece_sm hs (pieceD_sm _),pieceD_ok (sg4_ok h)⟩
 | false=>exact⟨hs,sg4_ok h⟩
theorem signed_P {c:Cur}(h:curOk c):sgP (signedD c):=by
 rw[signed_eq]
 unfold signedRaw
 cases (sg3 c).1 with
 | true=>exact sgT_P h (sgS_sm c)
 | false=>exact sgT_P h (sgS2_sm c)
noncomputable def leafS (s:Cur×List Int):Cur×List Int:=((belowF s.1 99).2,s.2++[(belowF s.1 99).1])
noncomputable def leavesC (c:Cur)(most:Int):Cur×List Int:=itF leafS (belowF c most).1.toNat ((belowF c most).2,[])
noncomputable def leavesD (c:Cur)(most:Int):List Int×Cur:=((leavesC c most).2,(leavesC c most).1)
def leafP (s:Cur×List Int)(k:Nat):Prop:=curOk s.1∧s.2.length=k
theorem leafS_P (s:Cur×List Int)(k:Nat)(h:leafP s k):leafP (leafS s) (k+1):=
 ⟨below_ok h.1,by show (s.2++[_]).length=_;rw[List.length_append,h.2];rfl⟩
theorem leaves_P {c:Cur}{most:Int}(h:curOk c):leafP (leavesC c most) (belowF c most).1.toNat:=dnAll leafP ⟨below_ok h,rfl⟩ leafS_P _
theorem leaves_ok {c:Cur}{most:Int}(h:curOk c):curOk (leavesD c most).2:=(leaves_P h).1
theorem leaves_len {c:Cur}{most:Int}(h:curOk c)(hm:0<most∧most≤1000):(leavesD c most).1.length≤1000:=by
 have h1:(leavesC c most).2.length=_:=(leaves_P (most:=most) h).2
 have:=below_lt (c:=c) hm.1
 show (leavesC c most).2.length≤1000
 rw[h1];omega
theorem leaves_leaf {c c2:Cur}{acc:List Int}{most:Int}(hE:(c2,acc)=itF leafS (belowF c most).1.toNat ((belowF c most).2,[])):leavesD c most=(acc,c2):=by
 unfold leavesD leavesC
 rw[←hE]
def rmList (others:List Int)(leaf:Int):List Int:=([]++others)++[leaf]
noncomputable def rmBase (m leaf:Int)(others:List Int)(count:Int)(acc:List Stamp):Renewal:=
 (count,m,treeF m (rmList others leaf),pathF m (rmList others leaf) (IntKind.i64.wrap (((rmList others leaf).length:Int)-1)),acc)
noncomputable def rmG (keys:List Key)(l:List Authority)(m leaf:Int)(others:List Int)(seq t:Int)(id:Int):Stamp×Bool:=makeStampF keys l (id,seq,t,treeF m (rmList others leaf),0)
noncomputable def renMakeF (keys:List Key)(l:List Authority)(m leaf:Int)(others:List Int)(count:Int)(ids:List Int)(seq t:Int):Renewal:=
 rmBase m leaf others count (pickF (rmG keys l m leaf others seq t) ids)
theorem pathF_len16 (m:Int)(l:List Int)(i:Int):(pathF m l i).length≤16:=by
 unfold pathF
 split
 · rename_i h;exact pathL_len m 16 l i h.2.2
 · exact Nat.zero_le _
theorem renMake_sm {keys:List Key}{l:List Authority}{m leaf:Int}{others:List Int}{count:Int}{ids:List Int}{seq t:Int}(h:ids.length≤1000):Sm big20 TRen (renMakeF keys l m leaf others count ids seq t):=by
 refine⟨trivial,trivial,trivial,⟨Nat.le_trans (pathF_len16 _ _ _) (by decide),fun _ _=>⟨trivial,trivial⟩⟩,⟨?_,fun _ _=>⟨trivial,trivial,trivial,trivial,trivial⟩⟩⟩
 exact Nat.le_trans (pick_len _ _) (Nat.le_trans h (by decide))
def renQ (s:Strand)(m:Int):Renewal:=((s.1.length:Int),m,0,[],[])
theorem renQ_sm (s:Strand)(m:Int):Sm big20 TRen (renQ s m):=⟨trivial,trivial,trivial,⟨Nat.zero_le _,fun _ h=>by simp[renQ]at h⟩,⟨Nat.zero_le _,fun _ h=>by simp[renQ]at h⟩⟩
noncomputable def longF (s:Strand)(m:Int):Strand×Bool:=addRenF s (renQ s m)
noncomputable def leafR (s:Strand)(d:Doc)(m:Int):Int:=leafAtF (longF s m).1 (docDigsF (longF s m).1 d) (IntKind.i64.wrap (((longF s m).1.2.length:Int)-1))
noncomputable def renNew (c:Cur)(s:Strand)(d:Doc)(m t:Int)(ids:List Int):Renewal:=
 renMakeF keysT authsT m (leafR s d m) (leavesD c 4).1 (s.1.length:Int) ids (belowF (leavesD c 4).2 9).1 t
noncomputable def renTail (c:Cur)(s:Strand)(d:Doc)(m t:Int)(ids:List Int):Strand×Cur:=((addRenF s (renNew c s d m t ids)).1,(belowF (leavesD c 4).2 9).2)
noncomputable def renewRaw (c:Cur)(s:Strand)(d:Doc)(m t:Int):Strand×Cur:=
 cond (!(longF s m).2) (s,c) (cond (onceF c 3).1 (renTail (onceF c 3).2 s d m t [1,3,4]) (renTail (onceF c 3).2 s d m t [1,2,3,4]))
theorem renewEx:∃ f:Cur→Strand→Doc→Int→Int→Strand×Cur,∀ c s d m t,f c s d m t=renewRaw c s d m t:=⟨renewRaw,fun _ _ _ _ _=>rfl⟩
noncomputable def renewD (c:Cur)(s:Strand)(d:Doc)(m t:Int):Strand×Cur:=Classical.choose renewEx c s d m t
theorem renew_eq (c:Cur)(s:Strand)(d:Doc)(m t:Int):renewD c s d m t=renewRaw c s d m t:=Classical.choose_spec renewEx c s d m t
theorem long_sm {s:Strand}{m:Int}(h:Sm big20 TStrand s):Sm big20 TStrand (longF s m).1:=addRen_sm h (renQ_sm s m)
theorem long_len {s:Strand}{m:Int}(h:Sm big20 TStrand s):List.length (longF s m).1.2≤2000000:=Nat.le_trans (long_sm h).2.1 (by decide)
theorem renNew_sm {c:Cur}{s:Strand}{d:Doc}{m t:Int}{ids:List Int}(h:ids.length≤1000):Sm big20 TRen (renNew c s d m t ids):=renMake_sm h
def rnP (x:Strand×Cur):Prop:=Sm big20 TStrand x.1∧curOk x.2
theorem renTail_P {c:Cur}{s:Strand}{d:Doc}{m t:Int}{ids:List Int}(hc:curOk c)(hs:Sm big20 TStrand s)(hi:ids.length≤1000):rnP (renTail c s d m t ids):=
 ⟨addRen_sm hs (renNew_sm hi),below_ok (leaves_ok hc)⟩
theorem renew_P {c:Cur}{s:Strand}{d:Doc}{m t:Int}(hc:curOk c)(hs:Sm big20 TStrand s):rnP (renewD c s d m t):=by
 rw[renew_eq]
 unfold renewRaw
 cases (longF s m).2 with
 | false=>exact⟨hs,hc⟩
 | true=>cases (onceF c 3).1 with
   | true=>exact renTail_P (once_ok hc) hs (Nat.le_of_ble_eq_true rfl)
   | false=>exact renTail_P (once_ok hc) hs (Nat.le_of_ble_eq_true rfl)
noncomputable def drawS (d:Doc)(z:Cur×Strand×Int):Cur×Strand×Int:=
 ((intF (renewD (belowF z.1 4).2 z.2.1 d (IntKind.i64.wrap (1+(belowF z.1 4).1)) z.2.2).2 [10,20,40]).2,(renewD (belowF z.1 4).2 z.2.1 d (IntKind.i64.wrap (1+(belowF z.1 4).1)) z.2.2).1,
   IntKind.i64.wrap (z.2.2+(intF (renewD (belowF z.1 4).2 z.2.1 d (IntKind.i64.wrap (1+(belowF z.1 4).1)) z.2.2).2 [10,20,40]).1))
noncomputable def dr1 (c:Cur):Int×Cur:=intF (signedD c).2 [10,25,30]
noncomputable def dr2 (c:Cur):Int×Cur:=belowF (dr1 c).2 4
noncomputable def drZ (c:Cur):Cur×Strand×Int:=itF (drawS (signedD c).1.2.1) (dr2 c).1.toNat ((dr2 c).2,(signedD c).1.1,(dr1 c).1)
noncomputable def strandD (c:Cur):(Strand×Doc×Sig)×Cur:=(((drZ c).2.1,(signedD c).1.2.1,(signedD c).1.2.2),(drZ c).1)
def drP (z:Cur×Strand×Int)(_:Nat):Prop:=curOk z.1∧Sm big20 TStrand z.2.1
theorem drawS_P (d:Doc)(z:Cur×Strand×Int)(k:Nat)(h:drP z k):drP (drawS d z) (k+1):=
 have hr:=renew_P (c:=(belowF z.1 4).2) (d:=d) (m:=IntKind.i64.wrap (1+(belowF z.1 4).1)) (t:=z.2.2) (below_ok h.1) h.2
 ⟨int_ok hr.2,hr.1⟩
theorem dr2_ok {c:Cur}(h:curOk c):curOk (dr2 c).2:=below_ok (int_ok (signed_P h).2)
theorem dr2_n (c:Cur):0≤(dr2 c).1∧(dr2 c).1≤1000000:=belN (by decide) (by decide)
theorem drZ_P {c:Cur}(h:curOk c):drP (drZ c) (dr2 c).1.toNat:=dnAll drP ⟨dr2_ok h,(signed_P h).1⟩ (drawS_P _) _
theorem strandD_ok {c:Cur}(h:curOk c):curOk (strandD c).2:=(drZ_P h).1
theorem strandD_sm {c:Cur}(h:curOk c):Sm big20 TStrand (strandD c).1.1:=(drZ_P h).2
theorem strandD_leaf {c c2:Cur}{s:Strand}{t:Int}(hE:(c2,s,t)=itF (drawS (signedD c).1.2.1) (dr2 c).1.toNat ((dr2 c).2,(signedD c).1.1,(dr1 c).1)):
   strandD c=((s,(signedD c).1.2.1,(signedD c).1.2.2),c2):=by
 unfold strandD drZ
 rw[←hE]
theorem certIdx (c:Cur):inRange (belowF c 3).1 (List.length certsT):=int_range (n:=3) (by decide)
theorem rmApp {others:List Int}(h:others.length≤1000):0+others.length≤maxApp∧([]++others).length+1≤maxApp:=by
 unfold maxApp;simp only[List.nil_append];omega
end Fw
namespace Fw
open Go
def Sh.frzIn:Sh→Sh
 | .own e=>.own (.pure e.ty)
 | .pair a b=>.pair a.frzIn b.frzIn
 | s=>s
theorem Sh.frzIn_ty:∀ s:Sh,s.frzIn.ty=s.ty
 | .own _=>rfl
 | .pair a b=>by show Ty.pair _ _=Ty.pair _ _;rw[Sh.frzIn_ty a,Sh.frzIn_ty b]
 | .pure _=>rfl
 | .nil _=>rfl
 | .ref _=>rfl
 | .hole _=>rfl
theorem GroupsO.pures {α:Type}{p q:List Value→α→List Nat→Prop}{sz:Nat}:∀ (xs:List α) (vs:List Value) (bs:List Nat),
   (∀ x∈xs,∀ cs b,(∀ i∈b,i∈bs)→p cs x b→q cs x [])→GroupsO p sz vs xs bs→GroupsO q sz vs xs []
 | [],_,_,_,_=>rfl
 | x::xs,vs,bs,h,⟨v1,v2,b1,b2,h1,h2,h3,h4,h5⟩=>
   ⟨v1,v2,[],[],h1,h2,rfl,h x (by simp) v1 b1 (fun i hi=>by rw[h3];simp[hi]) h4,
     GroupsO.pures xs v2 b2 (fun y hy cs b hb=>h y (by simp[hy]) cs b (fun i hi=>by rw[h3];simp[hb i hi])) h5⟩
theorem frzIn_enc {M:Mem}{R:RowFn}:∀ (s:Sh) (x:El s.ty) (y:El s.frzIn.ty) (cs:List Value) (bs:List Nat),s.noref=true→HEq x y→EncO M R s cs x bs→
   ∃ b1 b2,bs.Perm (b1++b2)∧∀ M',M.le M'→(∀ b∈b2,∀ row,R b=some row→CellsAt M' b 0 row)→EncO M' R s.frzIn cs y b1
 | .pure t,x,y,cs,bs,_,he,h=>by
   cases he
   exact⟨bs,[],by simp,fun M' hM _=>EncO.mono hM (.pure t) cs x bs (fun _ _=>rfl) h⟩
 | .nil t,x,y,cs,bs,_,he,h=>by
   cases he
   exact⟨bs,[],by simp,fun M' hM _=>EncO.mono hM (.nil t) cs x bs (fun _ _=>rfl) h⟩
 | .hole t,x,y,cs,bs,hn,_,_=>by simp[Sh.noref]at hn
 | .ref s,x,y,cs,bs,hn,_,_=>by simp[Sh.noref]at hn
 | .own e,xs,ys,cs,bs,hn,he,h=>by
   cases he
   have hn:e.noref=true:=hn
   rcases h with h | ⟨b,cap,row,bss,h1,h2,h3,h4,h5,h6,h7⟩
   · exact⟨[],[],by rw[h.1];simp,fun M' _ _=>.inl ⟨rfl,h.2⟩⟩
   · refine⟨[b],bss,by rw[h1];simp,fun M' hM hc=>.inr ⟨b,cap,row,[],rfl,h2,h3,h4,h5,?_,?_⟩⟩
     · show row.length=cap*e.ty.size
       rw[←Sh.size_ty e hn];exact h6
     · show GroupsO (EncO M' R (.pure e.ty)) e.ty.size row xs []
       rw[←Sh.size_ty e hn]
       exact GroupsO.pures xs row bss (fun x _ cs b' hb' hp=>⟨rfl,EncO.toEnc hM e cs x b' hn (fun i hi=>hc i (hb' i hi)) hp⟩) h7
 | .pair a b,x,y,cs,bs,hn,he,⟨v1,v2,c1,c2,h1,h2,h3,h4⟩=>by
   simp only[Sh.noref,Bool.and_eq_true]at hn
   obtain⟨e1,e2⟩:=heq_pair (Sh.frzIn_ty a).symm (Sh.frzIn_ty b).symm he
   obtain⟨p1,p2,hp,kp⟩:=frzIn_enc a x.1 y.1 v1 c1 hn.1 e1 h3
   obtain⟨q1,q2,hq,kq⟩:=frzIn_enc b x.2 y.2 v2 c2 hn.2 e2 h4
   refine⟨p1++q1,p2++q2,?_,fun M' hM hc=>⟨v1,v2,p1,q1,h1,rfl,kp M' hM (fun i hi=>hc i (by simp[hi])),kq M' hM (fun i hi=>hc i (by simp[hi]))⟩⟩
   rw[h2]
   refine(hp.append hq).trans ?_
   rw[List.append_assoc,List.append_assoc]
   refine List.Perm.append_left p1 ?_
   rw[←List.append_assoc,←List.append_assoc]
   exact List.Perm.append_right q2 List.perm_append_comm
end Fw
namespace Fw
open Go
section
variable {n B:Nat} {X:List Nat} {w0:World} {M0 M:Mem} {ω:Own} {ρ:Env} {tmps:Array Value} {w:World}
theorem part_ok (S:St0 n B X w0 M0 M ω ρ tmps w){j:Nat}(hj:j<n)(b2:List Nat)(hb2:∀ b∈b2,ω b=some j){s':Sh}{y:El s'.ty}
   (hnew:M.le (partM M w b2)→(∀ b∈b2,∀ row,rows w b=some row→CellsAt (partM M w b2) b 0 row)→Owns (partM M w b2) (partω ω b2) w j s' y (tmps.getD j undef)):
   St0 n B X w0 M0 (partM M w b2) (partω ω b2) (ρ.puts [⟨j,true,.c s' y⟩]) tmps w:=by
 have hM:M.le (partM M w b2):=fun b o v hm=>by unfold partM;rw[hm]
 have hcell:∀ b∈b2,∀ row,rows w b=some row→CellsAt (partM M w b2) b 0 row:=by
   intro b hb row hrow i c hc
   unfold partM
   rw[(S.dis b j (hb2 b hb)).2.2 (0+i)]
   simp only[hb,if_true]
   exact rows_full hrow i c hc
 have hget:(ρ.puts [⟨j,true,.c s' y⟩]).get j=⟨(ρ.get j).g,(ρ.get j).ver+1,.c s' y⟩:=by
   show (ρ.put ⟨j,true,.c s' y⟩).get j=_
   rw[Env.get_put];simp
 refine S.step [⟨j,true,.c s' y⟩] S.size (Fr.refl _ _ _) hM ?_ ?_ ?_ (fun _ _=>rfl) (by intro x hx;simp at hx;subst hx;exact hj) ?_ ?_
 · intro b o hb hx
   unfold partM
   cases hm:M b o with
   | some u=>rfl
   | none=>
     simp only
     rw[if_neg]
     intro h1
     rcases (S.dis b j (hb2 b h1)).1 with h2 | h2
     · omega
     · exact hx h2
 · intro b o v hm
   unfold partM at hm
   cases he:M b o with
   | some u=>rw[he]at hm;simp only[Option.some.injEq]at hm;subst hm;exact S.mem b o u he
   | none=>
     rw[he]at hm
     simp only at hm
     split at hm
     · exact hm
     · cases hm
 · intro b k hk
   unfold partω at hk
   split at hk
   · cases hk
   · rename_i hne
     obtain⟨h1,h2,h3⟩:=S.dis b k hk
     refine⟨h1,h2,fun o=>?_⟩
     unfold partM
     rw[h3 o]
     simp only[if_neg hne]
 · intro t _ hne b hb
   have:t≠j:=fun e=>hne _ (List.mem_singleton.2 rfl) e.symm
   refine⟨?_,rfl⟩
   unfold partω
   rw[if_neg (fun h1=>this (by have:=hb2 b h1;rw[hb]at this;simpa using this))]
   exact hb
 · intro t ⟨x,hx,hxt⟩ _
   simp at hx;subst hx
   have:t=j:=hxt.symm
   subst this
   rw[hget]
   exact hnew hM hcell
end
section
variable {G:Cfg} {ρ:Env} {K:Exit→Env→Prop}
theorem perm_facts {bs b1 b2:List Nat}(hp:bs.Perm (b1++b2))(hn:bs.Nodup):b1.Nodup∧(∀ b∈b1,b∈bs∧b∉b2)∧∀ b∈b2,b∈bs:=by
 have h1:=hp.nodup_iff.1 hn
 rw[List.nodup_append]at h1
 refine⟨h1.1,fun b hb=>⟨hp.mem_iff.2 (List.mem_append.2 (.inl hb)),fun h2=>h1.2.2 b hb b h2 rfl⟩,fun b hb=>hp.mem_iff.2 (List.mem_append.2 (.inr hb))⟩
theorem Vc.frzIR {c:Code}(j:Nat){s:Sh}{x:El s.ty}(h:(ρ.get j).a=.c (.ref s) x)(hn:s.noref=true)(y:El s.frzIn.ty)(hy:HEq x y)
   (hK:Vc G c (ρ.puts [⟨j,true,.c (.ref s.frzIn) y⟩]) K):Vc G c ρ K:=by
 intro a w hd ⟨⟨M,ω,S⟩,hpn⟩
 have hj:j<G.C.n:=by
   rcases Nat.lt_or_ge j G.C.n with h' | h'
   · exact h'
   · rw[S.high j h']at h;cases h
 have hr:=S.slots j hj
 rw[h]at hr
 obtain⟨cs,bs,h1,⟨b,row,bss,g1,g2,g3,g4⟩,h3,h4⟩:=(show Owns M ω w j (.ref s) x _ from hr)
 subst g1
 obtain⟨b1,b2,hp,hk⟩:=frzIn_enc s x y row bss hn hy g4
 have h3':=List.nodup_cons.1 h3
 obtain⟨p1,p2,p3⟩:=perm_facts hp h3'.2
 refine hK a w hd ⟨⟨_,_,part_ok S hj b2 (fun b hb=>h4 b (by simp[p3 b hb])) fun hM hc=>?_⟩,hpn⟩
 have hb0:b∉b2:=fun hb=>h3'.1 (p3 b hb)
 refine⟨cs,b::b1,h1,⟨b,row,b1,rfl,g2,g3,hk _ hM hc⟩,List.nodup_cons.2 ⟨fun hb=>h3'.1 (p2 b hb).1,p1⟩,fun b' hb'=>?_⟩
 unfold partω
 rcases List.mem_cons.1 hb' with rfl | hb'
 · rw[if_neg hb0];exact h4 b' (by simp)
 · rw[if_neg (p2 b' hb').2];exact h4 b' (by simp[(p2 b' hb').1])
end
end Fw
namespace Fw
open Go
set_option linter.unusedSimpArgs false
theorem sm_up {n m:Nat}(h:n≤m):∀ (t:Ty) (x:El t),Sm n t x→Sm m t x
 | .int _,_,_=>trivial
 | .bool,_,_=>trivial
 | .str,_,_=>trivial
 | .arr _ _,_,_=>trivial
 | .slice e,_,g=>⟨Nat.le_trans g.1 h,fun y hy=>sm_up h e y (g.2 y hy)⟩
 | .pair a b,x,g=>⟨sm_up h a x.1 g.1,sm_up h b x.2 g.2⟩
def cellsMax (n:Nat):Ty→Nat
 | .slice e=>n*cellsMax n e
 | .pair a b=>cellsMax n a+cellsMax n b
 | .arr _ _=>0
 | _=>1
theorem cellsL_max {α:Type}(c:α→Nat)(m:Nat):∀ l:List α,(∀ x∈l,c x≤m)→cellsL c l≤l.length*m
 | [],_=>Nat.zero_le _
 | x::r,h=>by
   have h1:=h x (by simp)
   have h2:=cellsL_max c m r fun y hy=>h y (by simp[hy])
   show c x+cellsL c r≤(r.length+1)*m
   rw[Nat.add_mul,Nat.one_mul];omega
theorem cells_max (n:Nat):∀ (t:Ty) (x:El t),Sm n t x→cellsC t x≤cellsMax n t
 | .int _,_,_=>Nat.le_refl _
 | .bool,_,_=>Nat.le_refl _
 | .str,_,_=>Nat.le_refl _
 | .arr _ _,_,_=>Nat.le_refl _
 | .slice e,x,g=>Nat.le_trans (cellsL_max (cellsC e) (cellsMax n e) x fun y hy=>cells_max n e y (g.2 y hy)) (Nat.mul_le_mul_right _ g.1)
 | .pair a b,x,g=>Nat.add_le_add (cells_max n a x.1 g.1) (cells_max n b x.2 g.2)
def stOk (p:Piece):Prop:=(pieceStatF p).1.2.1≤9999∧(pieceStatF p).1.2.2.1≤9999
theorem stOk_no {p:Piece}(h:hdP p≠102):stOk p:=by
 have e:pieceStatF p=((0,0,0,0,0),false):=by
   refine ps0 ?_
   have hk:(kindF p != 102)=true:=by
     refine bne_iff_ne.2 ?_
     unfold kindF
     split
     · decide
     · exact h
   unfold psBad
   rw[hk];rfl
 unfold stOk
 rw[e]
 exact⟨by decide,by decide⟩
theorem stOk_st {x:Status}(h1:x.2.1≤9999)(h2:x.2.2.1≤9999):stOk (statusPieceF x):=by
 unfold stOk pieceStatF
 split
 · exact⟨by decide,by decide⟩
 · exact⟨h1,h2⟩
def tinyP (p:Piece):Prop:=Sm 64 TPiece p∧stOk p
def tinyS (s:Strand):Prop:=Sm 64 TStrand s∧∀ p∈s.1,stOk p
theorem pcSm64 {k m:Int}{l:List Int}(h:l.length≤9):Sm 64 TPiece (k,l,m):=⟨trivial,⟨Nat.le_trans h (by decide),fun _ _=>trivial⟩,trivial⟩
theorem tiny_sign (x:Sig):tinyP (signPieceF x):=⟨pcSm64 (Nat.le_of_ble_eq_true rfl),stOk_no (by show (104:Int)≠102;decide)⟩
theorem tiny_cert (x:Cert):tinyP (certPieceF x):=⟨pcSm64 (Nat.le_of_ble_eq_true rfl),stOk_no (by show (101:Int)≠102;decide)⟩
theorem tiny_stamp (k:Int)(x:Stamp):tinyP (stampPieceF k x):=⟨pcSm64 (Nat.le_of_ble_eq_true rfl),stOk_no (by show (103:Int)≠102;decide)⟩
theorem tiny_mand (x:Mandate):tinyP (mandPieceF x):=⟨pcSm64 (Nat.le_of_ble_eq_true rfl),stOk_no (by show (105:Int)≠102;decide)⟩
theorem tiny_stat {x:Status}(h1:x.2.1≤9999)(h2:x.2.2.1≤9999):tinyP (statusPieceF x):=⟨pcSm64 (Nat.le_of_ble_eq_true rfl),stOk_st h1 h2⟩
theorem tiny_make {keys:List Key}{x:Status}(h1:x.2.1≤9999)(h2:x.2.2.1≤9999):tinyP (statusPieceF (makeStatusF keys x).1):=by
 unfold makeStatusF
 cases pick2 (!(isStatusF x)) true (decide (keyI keys x.2.2.2.1<0))with
 | true=>exact tiny_stat (x:=(0,0,0,0,0)) (show (0:Int)≤9999 by decide) (show (0:Int)≤9999 by decide)
 | false=>exact tiny_stat (x:=(x.1,x.2.1,x.2.2.1,x.2.2.2.1,markWithF (keyAt keys x.2.2.2.1) (statusIntsF x))) h1 h2
theorem tiny_statD (c:Cur):tinyP (statusPieceF (statD c).1):=by
 have h1:=below_lt (c:=c) (n:=60) (by decide)
 have h2:0≤(dst1 c).1∧(dst1 c).1<60:=h1
 unfold statD
 cases (dst4 c).1 with
 | true=>
   have h3:0≤(dst5 c).1∧(dst5 c).1<IntKind.i64.wrap ((dst1 c).1+2):=below_lt (by rw[w64 (by omega) (by omega)];omega)
   rw[w64 (by omega) (by omega)]at h3
   exact tiny_make (by show (dst1 c).1≤9999;omega) (by show (dst5 c).1≤9999;omega)
 | false=>exact tiny_make (by show (dst1 c).1≤9999;omega) (by show (-1:Int)≤9999;decide)
theorem tiny_pieceD (c:Cur):tinyP (pieceD c).1:=by
 unfold pieceD
 cases (belowF c 5).1==0 with
 | true=>exact tiny_cert _
 | false=>cases (belowF c 5).1==1 with
   | true=>exact tiny_statD _
   | false=>cases (belowF c 5).1==2 with
     | true=>exact tiny_stamp _ _
     | false=>cases (belowF c 5).1==3 with
       | true=>exact tiny_sign _
       | false=>exact tiny_mand _
theorem tiny_add {s:Strand}{p:Piece}(hs:tinyS s)(hp:tinyP p):tinyS (addPieceF s p).1:=by
 unfold addPieceF
 split
 · rename_i h
   have h1:=(boolC_iff.1 h).1
   have h2:=(inR_iff.1 h1).2
   refine⟨⟨⟨?_,fun x hx=>?_⟩,hs.1.2⟩,fun x hx=>?_⟩
   · show (s.1++[p]).length≤64
     have h2:(((s.1++[p]).length:Nat):Int)≤12:=h2
     omega
   · rcases List.mem_append.1 hx with hx | hx
     · exact hs.1.1.2 x hx
     · rw[List.mem_singleton.1 hx];exact hp.1
   · rcases List.mem_append.1 hx with hx | hx
     · exact hs.2 x hx
     · rw[List.mem_singleton.1 hx];exact hp.2
 · exact hs
theorem tiny_ren {s:Strand}{r:Renewal}(hs:tinyS s)(hr:Sm 64 TRen r):tinyS (addRenF s r).1:=by
 unfold addRenF
 split
 · rename_i h
   have h1:=(boolC_iff.1 h).2.1
   refine⟨⟨hs.1.1,⟨?_,fun x hx=>?_⟩⟩,hs.2⟩
   · show (s.2++[r]).length≤64
     have h1:(((s.2++[r]).length:Nat):Int)≤8:=h1
     omega
   · rcases List.mem_append.1 hx with hx | hx
     · exact hs.1.2.2 x hx
     · rw[List.mem_singleton.1 hx];exact hr
 · exact hs
theorem ren64 {keys:List Key}{l:List Authority}{m leaf:Int}{others:List Int}{count:Int}{ids:List Int}{seq t:Int}(h:ids.length≤4):Sm 64 TRen (renMakeF keys l m leaf others count ids seq t):=by
 refine⟨trivial,trivial,trivial,⟨Nat.le_trans (pathF_len16 _ _ _) (by decide),fun _ _=>⟨trivial,trivial⟩⟩,⟨?_,fun _ _=>⟨trivial,trivial,trivial,trivial,trivial⟩⟩⟩
 exact Nat.le_trans (pick_len _ _) (Nat.le_trans h (by decide))
theorem tiny_renew {c:Cur}{s:Strand}{d:Doc}{m t:Int}(hs:tinyS s):tinyS (renewD c s d m t).1:=by
 rw[renew_eq]
 unfold renewRaw
 cases (longF s m).2 with
 | false=>exact hs
 | true=>cases (onceF c 3).1 with
   | true=>exact tiny_ren hs (ren64 (Nat.le_of_ble_eq_true rfl))
   | false=>exact tiny_ren hs (ren64 (Nat.le_of_ble_eq_true rfl))
theorem tiny_sgS (c:Cur):tinyS (sgS c):=by
 have k:∀ x∈(sgS c).1,tinyP x:=fun x hx=>by
   have hx:x∈[signPieceF (sg1 c).1.1,certPieceF (sgCert c)]:=hx
   rcases List.mem_cons.1 hx with rfl | hx
   · exact tiny_sign _
   · rw[List.mem_singleton.1 hx];exact tiny_cert _
 exact⟨⟨⟨Nat.le_of_ble_eq_true rfl,fun x hx=>(k x hx).1⟩,⟨Nat.zero_le _,fun x hx=>by simp[sgS]at hx⟩⟩,fun x hx=>(k x hx).2⟩
theorem tiny_sgA (c:Cur):tinyP (statusPieceF (sgA c)):=by
 have h:(sg2 c).1∈([10,30,60,90]:List Int):=int_mem (by decide)
 have k:∀ x∈([10,30,60,90]:List Int),x≤9999:=by decide
 exact tiny_make (by show (sg2 c).1≤9999;exact k _ h) (by show (-1:Int)≤9999;decide)
theorem tiny_sgT {c:Cur}{s:Strand}(h:tinyS s):tinyS (sgT c s).1.1:=by
 unfold sgT
 cases (sg4 c).1 with
 | true=>exact tiny_add h (tiny_pieceD _)
 | false=>exact h
theorem tiny_signed (c:Cur):tinyS (signedD c).1.1:=by
 rw[signed_eq]
 unfold signedRaw
 cases (sg3 c).1 with
 | true=>exact tiny_sgT (tiny_sgS c)
 | false=>exact tiny_sgT (tiny_add (tiny_sgS c) (tiny_sgA c))
theorem tiny_big {s:Strand}(h:tinyS s):Sm big20 TStrand s:=sm_up (by decide) _ _ h.1
end Fw
namespace Fw
open Go
set_option linter.unusedSimpArgs false
def methsT:List Method:=[(1,0,40,50),(2,20,80,70),(3,40,120,200),(4,60,10001,10001)]
noncomputable def fm1 (c:Cur):Int×Cur:=belowF c 2
noncomputable def fm2 (c:Cur):Int×Cur:=intF (fm1 c).2 [20,45,60,75,100,150,300]
noncomputable def frameD (c:Cur):Frame×Cur:=((keysT,authsT,methsT,(fm1 c).1,(fm2 c).1),(fm2 c).2)
theorem frameD_ok {c:Cur}(h:curOk c):curOk (frameD c).2:=int_ok (below_ok h)
section
variable {t id:Int} {acc:List Stamp}
end
section
variable {fr:List Stamp} {s0 s s':Strand} {i:Int}
end
end Fw
namespace Fw
open Go
end Fw
namespace Fw
open Go
theorem renOk {c:Cur}{s:Strand}{d:Doc}{m t:Int}(hc:curOk c)(hs:tinyS s):curOk (renewD c s d m t).2:=(renew_P hc (tiny_big hs)).2
end Fw
namespace Fw
open Go
set_option linter.unusedSimpArgs false
section
variable {f:Frame} {a b e:Evidence} {d:Doc} {x:Sig} {p:Piece}
section
variable {less more:List Piece} {k i:Int}
end
end
end Fw
namespace Fw
open Go
section
variable {code:List Int} (h:code.length≤bigLen)
include h
end
end Fw
namespace Fw
open Go
abbrev TVerdict:Ty:=.pair TI (.pair TI (.pair TI TI))
end Fw
namespace Fw
open Go
set_option linter.unusedSimpArgs false
def okR (s:Strand)(k:Nat):Prop:=strandP s∧(∀ r∈s.2,r.1=(List.length s.1:Int))∧List.length s.2≤k
theorem okR_len {s:Strand}{k:Nat}(h:okR s k):1≤List.length s.1∧List.length s.1≤12:=by
 have:=inR_iff.1 h.1.1
 omega
theorem okR_more {s:Strand}{k:Nat}{r:Renewal}(h:okR s k)(hk:k≤7)(hr:r.1=(List.length s.1:Int)):okR (s.1,s.2++[r]) (k+1):=by
 have hl:=okR_len h
 have hlen:List.length (s.2++[r])=List.length s.2+1:=by rw[List.length_append];rfl
 have hmem:∀ y∈s.2++[r],y.1=(List.length s.1:Int):=fun y hy=>by
   rcases List.mem_append.1 hy with hy | hy
   · exact h.2.1 y hy
   · rw[List.mem_singleton.1 hy];exact hr
 have hat:∀ j,j<List.length (s.2++[r])→(renAt (s.1,s.2++[r]) j).1=(List.length s.1:Int):=fun j hj=>by
   refine hmem _ ?_
   show List.getD (s.2++[r]) j (dflt TRen)∈s.2++[r]
   rw[List.getD_eq_getElem?_getD,List.getElem?_eq_getElem hj]
   exact List.getElem_mem _
 have h3:=h.2.2
 refine⟨⟨h.1.1,?_,h.1.2.2.1,fun j hj=>⟨?_,fun h0=>?_⟩⟩,hmem,?_⟩
 · show ((List.length (s.2++[r]):Nat):Int)≤8
   rw[hlen];omega
 · rw[hat j hj]
   refine inR_iff.2 ⟨?_,Int.le_refl _⟩
   omega
 · rw[hat j hj,hat (j-1) (by have hj:j<List.length (s.2++[r]):=hj;omega)]
   exact Int.le_refl _
 · show List.length (s.2++[r])≤k+1
   rw[hlen];omega
theorem okR_ren {s:Strand}{k:Nat}{r:Renewal}(h:okR s k)(hk:k≤7)(hr:r.1=(List.length s.1:Int)):addRenF s r=((s.1,s.2++[r]),true):=by
 unfold addRenF
 exact if_pos (boolC_iff.2 (okR_more h hk hr).1)
theorem okR_long {s:Strand}{k:Nat}{m:Int}(h:okR s k)(hk:k≤7):(longF s m).2=true:=by
 unfold longF
 rw[okR_ren h hk rfl]
theorem okR_renew {c:Cur}{s:Strand}{k:Nat}{d:Doc}{m t:Int}(h:okR s k)(hk:k≤7):okR (renewD c s d m t).1 (k+1):=by
 rw[renew_eq]
 unfold renewRaw
 rw[okR_long h hk]
 show okR (cond (onceF c 3).1 (renTail (onceF c 3).2 s d m t [1,3,4]) (renTail (onceF c 3).2 s d m t [1,2,3,4])).1 (k+1)
 cases (onceF c 3).1 with
 | true=>show okR (addRenF s _).1 (k+1);rw[okR_ren h hk rfl];exact okR_more h hk rfl
 | false=>show okR (addRenF s _).1 (k+1);rw[okR_ren h hk rfl];exact okR_more h hk rfl
theorem okR_piece {s:Strand}{p:Piece}(h:okR s 0):okR (addPieceF s p).1 0:=by
 unfold addPieceF
 split
 · rename_i h2
   have e:s.2=[]:=List.length_eq_zero_iff.1 (by have:=h.2.2;omega)
   exact⟨boolC_iff.1 h2,by show ∀ r∈s.2,_;rw[e];simp,by show List.length s.2≤0;exact h.2.2⟩
 · exact h
theorem okR_sgS (c:Cur):okR (sgS c) 0:=by
 refine⟨⟨inR_iff.2 ⟨by show (1:Int)≤((2:Nat):Int);decide,by show ((2:Nat):Int)≤12;decide⟩,by show ((0:Nat):Int)≤8;decide,fun k hk j hj=>?_,fun k hk=>absurd hk (Nat.not_lt_zero k)⟩,fun r hr=>by simp[sgS]at hr,Nat.le_refl 0⟩
 have hk:k<2:=hk
 have e1:k=1:=by omega
 have e2:j=0:=by omega
 subst e1;subst e2
 show signPieceF (sg1 c).1.1≠certPieceF (sgCert c)
 intro e
 have e3:hdP (signPieceF (sg1 c).1.1)=hdP (certPieceF (sgCert c)):=by rw[e]
 have e4:(104:Int)=101:=e3
 cases e4
theorem okR_sgT {c:Cur}{s:Strand}(h:okR s 0):okR (sgT c s).1.1 0:=by
 unfold sgT
 cases (sg4 c).1 with
 | true=>exact okR_piece h
 | false=>exact h
theorem okR_signed (c:Cur):okR (signedD c).1.1 0:=by
 rw[signed_eq]
 unfold signedRaw
 cases (sg3 c).1 with
 | true=>exact okR_sgT (okR_sgS c)
 | false=>exact okR_sgT (okR_piece (okR_sgS c))
def drQ (z:Cur×Strand×Int)(k:Nat):Prop:=curOk z.1∧tinyS z.2.1∧okR z.2.1 k
theorem drInv_P {c c2:Cur}{s:Strand}{t i:Int}(h:curOk c)(hI:dnInv (drawS (signedD c).1.2.1) ((dr2 c).2,(signedD c).1.1,(dr1 c).1) (dr2 c).1 (c2,s,t) i)(hl:i>0):
   curOk c2∧tinyS s∧∀ m,(longF s m).2=true:=by
 obtain⟨k,h1,h2,h3,h4⟩:=hI
 have hn:(dr2 c).1<4:=(below_lt (by decide)).2
 have key:∀ k:Nat,(k:Int)≤4→drQ (itF (drawS (signedD c).1.2.1) k ((dr2 c).2,(signedD c).1.1,(dr1 c).1)) k:=by
   intro k
   induction k with
   | zero=>intro _;exact⟨dr2_ok h,tiny_signed c,okR_signed c⟩
   | succ k ih=>
     intro hk
     have q:=ih (by omega)
     exact⟨int_ok (renew_P (below_ok q.1) (tiny_big q.2.1)).2,tiny_renew q.2.1,okR_renew q.2.2 (by omega)⟩
 have q:=key k (by omega)
 rw[←h1]at q
 exact⟨q.1,q.2.1,fun m=>okR_long q.2.2 (by omega)⟩
theorem strandD_tiny (c:Cur):tinyS (strandD c).1.1:=by
 show tinyS (drZ c).2.1
 have:=dnAll (fun z _=>tinyS z.2.1) (S:=drawS (signedD c).1.2.1) (s0:=((dr2 c).2,(signedD c).1.1,(dr1 c).1)) (tiny_signed c) (fun s k hs=>tiny_renew hs) (dr2 c).1.toNat
 exact this
theorem okR_strand (c:Cur):okR (strandD c).1.1 4:=by
 have hn:=below_lt (c:=(dr1 c).2) (n:=4) (by decide)
 have hn2:0≤(dr2 c).1∧(dr2 c).1<4:=hn
 have key:∀ k:Nat,k≤4→okR (itF (drawS (signedD c).1.2.1) k ((dr2 c).2,(signedD c).1.1,(dr1 c).1)).2.1 k:=by
   intro k
   induction k with
   | zero=>intro _;exact okR_signed c
   | succ k ih=>intro hk;exact okR_renew (ih (by omega)) (by omega)
 have q:=key (dr2 c).1.toNat (by omega)
 exact⟨q.1,q.2.1,by have:=q.2.2;show List.length (drZ c).2.1.2≤4;unfold drZ;omega⟩
theorem strandD_pos (c:Cur):inRange 0 (List.length (strandD c).1.1.1):=by
 have:=okR_len (okR_strand c)
 exact⟨Int.le_refl _,by omega⟩
end Fw
namespace Fw
open Go
set_option linter.unusedSimpArgs false
noncomputable def rawD (c:Cur):Int×Cur:=
 cond (onceF c 6).1 (intF (onceF c 6).2 [-1,0,10000,10001,9223372036854775807,-9223372036854775808]) (belowF (onceF c 6).2 40)
noncomputable def numD (c:Cur):Int×Cur:=intF c [1,2,11,12,13,21,31,32,33,34,0,50]
theorem rawD_ok {c:Cur}(h:curOk c):curOk (rawD c).2:=by
 unfold rawD
 cases (onceF c 6).1 with
 | true=>exact int_ok (once_ok h)
 | false=>exact below_ok (once_ok h)
theorem numD_ok {c:Cur}(h:curOk c):curOk (numD c).2:=int_ok h
noncomputable def bs1 (c:Cur):Int×Cur:=belowF (stampD c).2 9
noncomputable def bentRaw (c:Cur):Stamp×Cur:=
 cond ((bs1 c).1==0) (((belowF (bs1 c).2 6).1,(stampD c).1.2),(belowF (bs1 c).2 6).2)
   (cond ((bs1 c).1==1) (((stampD c).1.1,(intF (bs1 c).2 [-1,3]).1,(stampD c).1.2.2),(intF (bs1 c).2 [-1,3]).2)
     (cond ((bs1 c).1==2) (((stampD c).1.1,(stampD c).1.2.1,(rawD (bs1 c).2).1,(stampD c).1.2.2.2),(rawD (bs1 c).2).2)
       (cond ((bs1 c).1==3) (((stampD c).1.1,(stampD c).1.2.1,(stampD c).1.2.2.1,IntKind.i64.wrap ((stampD c).1.2.2.2.1+1),(stampD c).1.2.2.2.2),(bs1 c).2)
         (cond ((bs1 c).1==4) (((stampD c).1.1,(stampD c).1.2.1,(stampD c).1.2.2.1,(stampD c).1.2.2.2.1,IntKind.i64.wrap ((stampD c).1.2.2.2.2+1)),(bs1 c).2)
           ((stampD c).1,(bs1 c).2)))))
theorem bentEx:∃ f:Cur→Stamp×Cur,∀ c,f c=bentRaw c:=⟨bentRaw,fun _=>rfl⟩
noncomputable def bentD (c:Cur):Stamp×Cur:=Classical.choose bentEx c
theorem bent_eq (c:Cur):bentD c=bentRaw c:=Classical.choose_spec bentEx c
theorem bs1_ok {c:Cur}(h:curOk c):curOk (bs1 c).2:=below_ok (stampD_ok h)
theorem bentD_ok {c:Cur}(h:curOk c):curOk (bentD c).2:=by
 have h1:=bs1_ok h
 rw[bent_eq]
 unfold bentRaw
 cases (bs1 c).1==0 with
 | true=>exact below_ok h1
 | false=>cases (bs1 c).1==1 with
   | true=>exact int_ok h1
   | false=>cases (bs1 c).1==2 with
     | true=>exact rawD_ok h1
     | false=>cases (bs1 c).1==3 with
       | true=>exact h1
       | false=>cases (bs1 c).1==4<;>exact h1
noncomputable def bq1 (c:Cur):Int×Cur:=belowF (pieceD c).2 8
noncomputable def pieceRaw (c:Cur):Piece×Cur:=
 cond ((bq1 c).1==0) (((numD (bq1 c).2).1,(pieceD c).1.2),(numD (bq1 c).2).2)
   (cond ((bq1 c).1==1) (((pieceD c).1.1,(pieceD c).1.2.1++[5],(pieceD c).1.2.2),(bq1 c).2)
     (cond ((bq1 c).1==2) (((pieceD c).1.1,(pieceD c).1.2.1,IntKind.i64.wrap ((pieceD c).1.2.2+1)),(bq1 c).2)
       (cond ((bq1 c).1==3) (((pieceD c).1.1,List.set (pieceD c).1.2.1 0 (intF (bq1 c).2 [100,101,103,105,106,-1]).1,(pieceD c).1.2.2),(intF (bq1 c).2 [100,101,103,105,106,-1]).2)
         (cond ((bq1 c).1==4) (((pieceD c).1.1,List.set (pieceD c).1.2.1 1 (IntKind.i64.wrap (List.getD (pieceD c).1.2.1 1 (dflt TI)+1)),(pieceD c).1.2.2),(bq1 c).2)
           ((pieceD c).1,(bq1 c).2)))))
theorem pieceEx:∃ f:Cur→Piece×Cur,∀ c,f c=pieceRaw c:=⟨pieceRaw,fun _=>rfl⟩
noncomputable def pieceB (c:Cur):Piece×Cur:=Classical.choose pieceEx c
theorem pieceB_eq (c:Cur):pieceB c=pieceRaw c:=Classical.choose_spec pieceEx c
theorem bq1_ok {c:Cur}(h:curOk c):curOk (bq1 c).2:=below_ok (pieceD_ok h)
theorem pieceB_ok {c:Cur}(h:curOk c):curOk (pieceB c).2:=by
 have h1:=bq1_ok h
 rw[pieceB_eq]
 unfold pieceRaw
 cases (bq1 c).1==0 with
 | true=>exact numD_ok h1
 | false=>cases (bq1 c).1==1 with
   | true=>exact h1
   | false=>cases (bq1 c).1==2 with
     | true=>exact h1
     | false=>cases (bq1 c).1==3 with
       | true=>exact int_ok h1
       | false=>cases (bq1 c).1==4<;>exact h1
theorem pieceD_ints (c:Cur):5≤List.length (pieceD c).1.2.1∧List.length (pieceD c).1.2.1≤9:=by
 unfold pieceD
 cases (belowF c 5).1==0 with
 | true=>exact⟨by show 5≤7;decide,by show 7≤9;decide⟩
 | false=>cases (belowF c 5).1==1 with
   | true=>exact⟨by show 5≤5;decide,by show 5≤9;decide⟩
   | false=>cases (belowF c 5).1==2 with
     | true=>exact⟨by show 5≤5;decide,by show 5≤9;decide⟩
     | false=>cases (belowF c 5).1==3 with
       | true=>exact⟨by show 5≤9;decide,by show 9≤9;decide⟩
       | false=>exact⟨by show 5≤6;decide,by show 6≤9;decide⟩
theorem pdIdx (c:Cur)(j:Nat)(hj:j<5):inRange (j:Int) (List.length (pieceD c).1.2.1):=by
 have:=(pieceD_ints c).1
 exact⟨by omega,by omega⟩
theorem pcSmN {k m:Int}{l:List Int}(h:l.length≤64):Sm 64 TPiece (k,l,m):=⟨trivial,⟨h,fun _ _=>trivial⟩,trivial⟩
theorem pieceB_sm (c:Cur):Sm 64 TPiece (pieceB c).1:=by
 have h:=(pieceD_ints c).2
 rw[pieceB_eq]
 unfold pieceRaw
 cases (bq1 c).1==0 with
 | true=>exact pcSmN (k:=(numD (bq1 c).2).1) (l:=(pieceD c).1.2.1) (m:=(pieceD c).1.2.2) (by omega)
 | false=>cases (bq1 c).1==1 with
   | true=>exact pcSmN (k:=(pieceD c).1.1) (l:=(pieceD c).1.2.1++[5]) (m:=(pieceD c).1.2.2) (by rw[List.length_append];show _+1≤64;omega)
   | false=>cases (bq1 c).1==2 with
     | true=>exact pcSmN (k:=(pieceD c).1.1) (l:=(pieceD c).1.2.1) (by omega)
     | false=>cases (bq1 c).1==3 with
       | true=>exact pcSmN (k:=(pieceD c).1.1) (l:=List.set (pieceD c).1.2.1 0 _) (m:=(pieceD c).1.2.2) (by rw[List.length_set];omega)
       | false=>cases (bq1 c).1==4 with
         | true=>exact pcSmN (k:=(pieceD c).1.1) (l:=List.set (pieceD c).1.2.1 1 _) (m:=(pieceD c).1.2.2) (by rw[List.length_set];omega)
         | false=>exact pcSmN (k:=(pieceD c).1.1) (l:=(pieceD c).1.2.1) (m:=(pieceD c).1.2.2) (by omega)
noncomputable def br1 (c:Cur):Int×Cur:=belowF c 10
def stTime (l:List Stamp)(t:Int):List Stamp:=List.set l 0 (((List.getD l 0 (dflt TStamp)).1,(List.getD l 0 (dflt TStamp)).2.1,t,(List.getD l 0 (dflt TStamp)).2.2.2):Stamp)
noncomputable def renRaw (c:Cur)(r:Renewal):Renewal×Cur:=
 cond ((br1 c).1==0) ((r.1,r.2.1,IntKind.i64.wrap (r.2.2.1+1),r.2.2.2),(br1 c).2)
   (cond ((br1 c).1==1) ((r.1,(belowF (br1 c).2 6).1,r.2.2),(belowF (br1 c).2 6).2)
     (cond ((br1 c).1==2) (((intF (br1 c).2 [-1,0,3]).1,r.2),(intF (br1 c).2 [-1,0,3]).2)
       (cond ((br1 c).1==3) ((r.1,r.2.1,r.2.2.1,r.2.2.2.1++[((1:Int),false)],r.2.2.2.2),(br1 c).2)
         (cond ((br1 c).1==4) ((r.1,r.2.1,r.2.2.1,r.2.2.2.1,r.2.2.2.2++[(bentD (br1 c).2).1]),(bentD (br1 c).2).2)
           (cond ((br1 c).1==5) (cond (decide ((List.length r.2.2.2.2:Int)>0)) ((r.1,r.2.1,r.2.2.1,r.2.2.2.1,stTime r.2.2.2.2 (rawD (br1 c).2).1),(rawD (br1 c).2).2) (r,(br1 c).2))
             (r,(br1 c).2))))))
theorem renBEx:∃ f:Cur→Renewal→Renewal×Cur,∀ c r,f c r=renRaw c r:=⟨renRaw,fun _ _=>rfl⟩
noncomputable def renB (c:Cur)(r:Renewal):Renewal×Cur:=Classical.choose renBEx c r
theorem renB_eq (c:Cur)(r:Renewal):renB c r=renRaw c r:=Classical.choose_spec renBEx c r
theorem br1_ok {c:Cur}(h:curOk c):curOk (br1 c).2:=below_ok h
theorem renB_ok {c:Cur}{r:Renewal}(h:curOk c):curOk (renB c r).2:=by
 have h1:=br1_ok h
 rw[renB_eq]
 unfold renRaw
 cases (br1 c).1==0 with
 | true=>exact h1
 | false=>cases (br1 c).1==1 with
   | true=>exact below_ok h1
   | false=>cases (br1 c).1==2 with
     | true=>exact int_ok h1
     | false=>cases (br1 c).1==3 with
       | true=>exact h1
       | false=>cases (br1 c).1==4 with
         | true=>exact bentD_ok h1
         | false=>cases (br1 c).1==5 with
           | true=>cases decide ((List.length r.2.2.2.2:Int)>0)with
             | true=>exact rawD_ok h1
             | false=>exact h1
           | false=>exact h1
theorem sm_set {t:Ty}{n:Nat}{l:List (El t)}{i:Nat}{x:El t}(h:Sm n (.slice t) l)(hx:Sm n t x):Sm n (.slice t) (List.set l i x):=by
 refine⟨by show (List.set l i x).length≤n;rw[List.length_set];exact h.1,fun y hy=>?_⟩
 rcases List.mem_or_eq_of_mem_set hy with hy | rfl
 · exact h.2 y hy
 · exact hx
theorem sm_app {t:Ty}{n:Nat}{l:List (El t)}{x:El t}(h:Sm n (.slice t) l)(hn:List.length l+1≤n)(hx:Sm n t x):Sm n (.slice t) (l++[x]):=by
 refine⟨by show (l++[x]).length≤n;rw[List.length_append];exact hn,fun y hy=>?_⟩
 rcases List.mem_append.1 hy with hy | hy
 · exact h.2 y hy
 · rw[List.mem_singleton.1 hy];exact hx
theorem stampSm (n:Nat)(s:Stamp):Sm n TStamp s:=⟨trivial,trivial,trivial,trivial,trivial⟩
theorem renB_sm {c:Cur}{r:Renewal}(h:Sm 64 TRen r):Sm 128 TRen (renB c r).1:=by
 have h2:=sm_up (show 64≤128 by decide) _ _ h
 obtain⟨_,_,_,hp,hs⟩:=h2
 have lp:List.length r.2.2.2.1≤64:=h.2.2.2.1.1
 have ls:List.length r.2.2.2.2≤64:=h.2.2.2.2.1
 rw[renB_eq]
 unfold renRaw
 cases (br1 c).1==0 with
 | true=>exact⟨trivial,trivial,trivial,hp,hs⟩
 | false=>cases (br1 c).1==1 with
   | true=>exact⟨trivial,trivial,trivial,hp,hs⟩
   | false=>cases (br1 c).1==2 with
     | true=>exact⟨trivial,trivial,trivial,hp,hs⟩
     | false=>cases (br1 c).1==3 with
       | true=>exact⟨trivial,trivial,trivial,sm_app (t:=.pair TI .bool) hp (by omega) ⟨trivial,trivial⟩,hs⟩
       | false=>cases (br1 c).1==4 with
         | true=>exact⟨trivial,trivial,trivial,hp,sm_app (t:=TStamp) hs (by omega) (stampSm _ _)⟩
         | false=>cases (br1 c).1==5 with
           | true=>cases decide ((List.length r.2.2.2.2:Int)>0)with
             | true=>exact⟨trivial,trivial,trivial,hp,sm_set (t:=TStamp) hs (stampSm _ _)⟩
             | false=>exact⟨trivial,trivial,trivial,hp,hs⟩
           | false=>exact⟨trivial,trivial,trivial,hp,hs⟩
end Fw
namespace Fw
open Go
set_option linter.unusedSimpArgs false
theorem pd0 (c:Cur):inRange 0 (List.length (pieceD c).1.2.1):=pdIdx c 0 (by decide)
theorem pd1 (c:Cur):inRange 1 (List.length (pieceD c).1.2.1):=pdIdx c 1 (by decide)
theorem pdApp (c:Cur):List.length (pieceD c).1.2.1+1≤maxApp:=by
 have:=(pieceD_ints c).2
 unfold maxApp;omega
theorem app64 {α:Type}{l:List α}(h:l.length≤64):l.length+1≤maxApp:=by unfold maxApp;omega
theorem loElim {b:Bool}(h:b=true)(g:(!b)=true):False:=by rw[h]at g;cases g
noncomputable def an1 (c:Cur):Int×Cur:=belowF (strandD c).2 8
noncomputable def an2 (c:Cur):Int×Cur:=belowF (an1 c).2 (List.length (strandD c).1.1.2:Int)
noncomputable def anyRaw (c:Cur):(Strand×Doc×Sig)×Cur:=
 cond ((an1 c).1==0) ((((strandD c).1.1.1++[(pieceB (an1 c).2).1],(strandD c).1.1.2),(strandD c).1.2),(pieceB (an1 c).2).2)
   (cond ((an1 c).1==1) ((((strandD c).1.1.1++[List.getD (strandD c).1.1.1 0 (dflt TPiece)],(strandD c).1.1.2),(strandD c).1.2),(an1 c).2)
     (cond ((an1 c).1==2) (cond (decide ((List.length (strandD c).1.1.2:Int)>0))
         ((((strandD c).1.1.1,List.set (strandD c).1.1.2 (an2 c).1.toNat (renB (an2 c).2 (List.getD (strandD c).1.1.2 (an2 c).1.toNat (dflt TRen))).1),(strandD c).1.2),(renB (an2 c).2 (List.getD (strandD c).1.1.2 (an2 c).1.toNat (dflt TRen))).2)
         ((strandD c).1,(an1 c).2))
       (cond ((an1 c).1==3) (cond (decide ((List.length (strandD c).1.1.2:Int)>0))
           ((((strandD c).1.1.1,subL (strandD c).1.1.2 1 (List.length (strandD c).1.1.2:Int)),(strandD c).1.2),(an1 c).2)
           ((strandD c).1,(an1 c).2))
         ((strandD c).1,(an1 c).2))))
theorem anyEx:∃ f:Cur→(Strand×Doc×Sig)×Cur,∀ c,f c=anyRaw c:=⟨anyRaw,fun _=>rfl⟩
noncomputable def anyD (c:Cur):(Strand×Doc×Sig)×Cur:=Classical.choose anyEx c
theorem anyD_eq (c:Cur):anyD c=anyRaw c:=Classical.choose_spec anyEx c
theorem an1_ok {c:Cur}(h:curOk c):curOk (an1 c).2:=below_ok (strandD_ok h)
theorem anIdx (c:Cur)(h:(List.length (strandD c).1.1.2:Int)>0):inRange (an2 c).1 (List.length (strandD c).1.1.2):=below_lt h
theorem anTail {n:Nat}(h:(n:Int)>0):(0:Int)≤1∧(1:Int)≤n∧(n:Int)≤n:=⟨by decide,by omega,Int.le_refl _⟩
theorem anApp (c:Cur):List.length (strandD c).1.1.1+1≤maxApp:=by
 have:=(okR_len (okR_strand c)).2
 unfold maxApp;omega
theorem anPiece (c:Cur):Sm big20 TPiece (List.getD (strandD c).1.1.1 0 (dflt TPiece)):=(tiny_big (strandD_tiny c)).1.2 _ (getD_mem (strandD_pos c) _)
theorem anRen {c:Cur}{i:Int}(h:inRange i (List.length (strandD c).1.1.2)):Sm 64 TRen (List.getD (strandD c).1.1.2 i.toNat (dflt TRen)):=(strandD_tiny c).1.2.2 _ (getD_mem h _)
def anP (r:(Strand×Doc×Sig)×Cur):Prop:=curOk r.2∧Sm 128 TStrand r.1.1
theorem anyD_P {c:Cur}(h:curOk c):anP (anyD c):=by
 have h0:=(strandD_tiny c).1
 have hs:Sm 128 TStrand (strandD c).1.1:=sm_up (by decide) _ _ h0
 have hl:=okR_len (okR_strand c)
 have h1:=an1_ok h
 rw[anyD_eq]
 unfold anyRaw
 cases (an1 c).1==0 with
 | true=>exact⟨pieceB_ok h1,sm_app (t:=TPiece) hs.1 (by omega) (sm_up (show 64≤128 by decide) _ _ (pieceB_sm _)),hs.2⟩
 | false=>cases (an1 c).1==1 with
   | true=>exact⟨h1,sm_app (t:=TPiece) hs.1 (by omega) (hs.1.2 _ (getD_mem (strandD_pos c) _)),hs.2⟩
   | false=>cases (an1 c).1==2 with
     | true=>cases hd:decide ((List.length (strandD c).1.1.2:Int)>0)with
       | true=>
         have hr:=anIdx c (of_decide_eq_true hd)
         exact⟨renB_ok (below_ok h1),hs.1,sm_set (t:=TRen) hs.2 (renB_sm (anRen hr))⟩
       | false=>exact⟨h1,hs⟩
     | false=>cases (an1 c).1==3 with
       | true=>cases hd:decide ((List.length (strandD c).1.1.2:Int)>0)with
         | true=>
           refine⟨h1,hs.1,?_,fun y hy=>hs.2.2 y ?_⟩
           · show (subL (strandD c).1.1.2 1 _).length≤128
             have:=hs.2.1
             unfold subL
             rw[List.length_drop,List.length_take]
             have this:List.length (strandD c).1.1.2≤128:=this
             omega
           · have hy:y∈subL (strandD c).1.1.2 1 (List.length (strandD c).1.1.2:Int):=hy
             unfold subL at hy
             exact List.mem_of_mem_take (List.mem_of_mem_drop hy)
         | false=>exact⟨h1,hs⟩
       | false=>exact⟨h1,hs⟩
section
variable {c:Cur} (h:curOk c)
include h
end
end Fw
namespace Fw
open Go
section
variable {e:Evidence} {acc acc2:List Stamp} {i k:Int}
end
end Fw
namespace Fw
open Go
set_option linter.unusedSimpArgs false
section
variable {ks:List Key} {l:List Authority} {a b:Stamp}
end
section
variable {st:List Stamp} {ks:List Key} {l:List Authority} {z:Stamp×Stamp}
end
end Fw
namespace Fw
open Go
end Fw
namespace Fw
open Go
set_option linter.unusedSimpArgs false
section
variable {f:Frame} {e:Evidence} {d:Doc} {x:Sig} {us:List Piece} {c:Cert}
end
end Fw
namespace Fw
open Go
set_option linter.unusedSimpArgs false
noncomputable def ka1 (c:Cur):Int×Cur:=belowF c (List.length keysT:Int)
noncomputable def ka2 (c:Cur):Int×Cur:=belowF (ka1 c).2 9
noncomputable def kaK (c:Cur):Key:=List.getD keysT (ka1 c).1.toNat (dflt TKey)
noncomputable def keysRaw (c:Cur):List Key×Cur:=
 cond ((ka2 c).1==0) (List.set keysT (ka1 c).1.toNat ((intF (ka2 c).2 [0,1,50,99,100]).1,(kaK c).2),(intF (ka2 c).2 [0,1,50,99,100]).2)
   (cond ((ka2 c).1==1) (List.set keysT (ka1 c).1.toNat ((kaK c).1,(intF (ka2 c).2 [-1,5,100]).1,(kaK c).2.2),(intF (ka2 c).2 [-1,5,100]).2)
     (cond ((ka2 c).1==2) (List.set keysT (ka1 c).1.toNat ((kaK c).1,(kaK c).2.1,(kaK c).2.2.1,(kaK c).2.2.2.1,(intF (ka2 c).2 [0,777]).1),(intF (ka2 c).2 [0,777]).2)
       (cond ((ka2 c).1==3) (List.set keysT (ka1 c).1.toNat ((kaK c).1,(kaK c).2.1,(kaK c).2.2.1,(rawD (ka2 c).2).1,(kaK c).2.2.2.2),(rawD (ka2 c).2).2)
         (cond ((ka2 c).1==4) (List.set keysT (ka1 c).1.toNat ((kaK c).1,(kaK c).2.1,(intF (ka2 c).2 [-1,0,99,100]).1,(kaK c).2.2.2),(intF (ka2 c).2 [-1,0,99,100]).2)
           (keysT,(ka2 c).2)))))
theorem keysEx:∃ f:Cur→List Key×Cur,∀ c,f c=keysRaw c:=⟨keysRaw,fun _=>rfl⟩
noncomputable def keysA (c:Cur):List Key×Cur:=Classical.choose keysEx c
theorem keysA_eq (c:Cur):keysA c=keysRaw c:=Classical.choose_spec keysEx c
theorem ka2_ok {c:Cur}(h:curOk c):curOk (ka2 c).2:=below_ok (below_ok h)
theorem kaIdx (c:Cur):inRange (ka1 c).1 (List.length keysT):=int_range (by decide)
theorem keysA_ok {c:Cur}(h:curOk c):curOk (keysA c).2:=by
 have h1:=ka2_ok h
 rw[keysA_eq]
 unfold keysRaw
 cases (ka2 c).1==0 with
 | true=>exact int_ok h1
 | false=>cases (ka2 c).1==1 with
   | true=>exact int_ok h1
   | false=>cases (ka2 c).1==2 with
     | true=>exact int_ok h1
     | false=>cases (ka2 c).1==3 with
       | true=>exact rawD_ok h1
       | false=>cases (ka2 c).1==4 with
         | true=>exact int_ok h1
         | false=>exact h1
noncomputable def aa1 (c:Cur):Int×Cur:=belowF c 4
noncomputable def aa2 (c:Cur):Int×Cur:=belowF (aa1 c).2 8
noncomputable def aaA (c:Cur):Authority:=List.getD authsT (aa1 c).1.toNat (dflt TAuth)
noncomputable def authsRaw (c:Cur):List Authority×Cur:=
 cond ((aa2 c).1==0) (List.set authsT (aa1 c).1.toNat ((intF (aa2 c).2 [-1,2,99,100]).1,(aaA c).2),(intF (aa2 c).2 [-1,2,99,100]).2)
   (cond ((aa2 c).1==1) (List.set authsT (aa1 c).1.toNat ((aaA c).1,(numD (aa2 c).2).1,(aaA c).2.2),(numD (aa2 c).2).2)
     (cond ((aa2 c).1==2) (List.set authsT (aa1 c).1.toNat ((aaA c).1,(aaA c).2.1,(intF (aa2 c).2 [-1,100,101,9223372036854775807]).1),(intF (aa2 c).2 [-1,100,101,9223372036854775807]).2)
       (authsT,(aa2 c).2)))
theorem authsEx:∃ f:Cur→List Authority×Cur,∀ c,f c=authsRaw c:=⟨authsRaw,fun _=>rfl⟩
noncomputable def authsA (c:Cur):List Authority×Cur:=Classical.choose authsEx c
theorem authsA_eq (c:Cur):authsA c=authsRaw c:=Classical.choose_spec authsEx c
theorem aa2_ok {c:Cur}(h:curOk c):curOk (aa2 c).2:=below_ok (below_ok h)
theorem aaIdx (c:Cur):inRange (aa1 c).1 (List.length authsT):=int_range (n:=4) (by decide)
theorem authsA_ok {c:Cur}(h:curOk c):curOk (authsA c).2:=by
 have h1:=aa2_ok h
 rw[authsA_eq]
 unfold authsRaw
 cases (aa2 c).1==0 with
 | true=>exact int_ok h1
 | false=>cases (aa2 c).1==1 with
   | true=>exact numD_ok h1
   | false=>cases (aa2 c).1==2 with
     | true=>exact int_ok h1
     | false=>exact h1
noncomputable def ma1 (c:Cur):Int×Cur:=belowF c 4
noncomputable def ma2 (c:Cur):Int×Cur:=belowF (ma1 c).2 9
noncomputable def maM (c:Cur):Method:=List.getD methsT (ma1 c).1.toNat (dflt TMethod)
noncomputable def methsRaw (c:Cur):List Method×Cur:=
 cond ((ma2 c).1==0) (List.set methsT (ma1 c).1.toNat ((intF (ma2 c).2 [-1,0,1,99,100]).1,(maM c).2),(intF (ma2 c).2 [-1,0,1,99,100]).2)
   (cond ((ma2 c).1==1) (List.set methsT (ma1 c).1.toNat ((maM c).1,(rawD (ma2 c).2).1,(maM c).2.2),(rawD (ma2 c).2).2)
     (cond ((ma2 c).1==2) (List.set methsT (ma1 c).1.toNat ((maM c).1,(maM c).2.1,(intF (ma2 c).2 [0,1,45,10001,10002]).1,(maM c).2.2.2),(intF (ma2 c).2 [0,1,45,10001,10002]).2)
       (cond ((ma2 c).1==3) (List.set methsT (ma1 c).1.toNat ((maM c).1,(maM c).2.1,(maM c).2.2.1,(intF (ma2 c).2 [0,1,45,10001,10002]).1),(intF (ma2 c).2 [0,1,45,10001,10002]).2)
         (cond ((ma2 c).1==4) (subL methsT 0 (ma1 c).1,(ma2 c).2)
           (methsT,(ma2 c).2)))))
theorem methsEx:∃ f:Cur→List Method×Cur,∀ c,f c=methsRaw c:=⟨methsRaw,fun _=>rfl⟩
noncomputable def methsA (c:Cur):List Method×Cur:=Classical.choose methsEx c
theorem methsA_eq (c:Cur):methsA c=methsRaw c:=Classical.choose_spec methsEx c
theorem ma2_ok {c:Cur}(h:curOk c):curOk (ma2 c).2:=below_ok (below_ok h)
theorem maIdx (c:Cur):inRange (ma1 c).1 (List.length methsT):=int_range (n:=4) (by decide)
theorem maCut (c:Cur):(0:Int)≤0∧(0:Int)≤(ma1 c).1∧(ma1 c).1≤(List.length methsT:Int):=by
 have:=maIdx c
 exact⟨Int.le_refl _,this.1,Int.le_of_lt this.2⟩
theorem methsA_ok {c:Cur}(h:curOk c):curOk (methsA c).2:=by
 have h1:=ma2_ok h
 rw[methsA_eq]
 unfold methsRaw
 cases (ma2 c).1==0 with
 | true=>exact int_ok h1
 | false=>cases (ma2 c).1==1 with
   | true=>exact rawD_ok h1
   | false=>cases (ma2 c).1==2 with
     | true=>exact int_ok h1
     | false=>cases (ma2 c).1==3 with
       | true=>exact int_ok h1
       | false=>cases (ma2 c).1==4 with
         | true=>exact h1
         | false=>exact h1
noncomputable def fa1 (c:Cur):Int×Cur:=belowF (frameD c).2 10
noncomputable def frameRaw (c:Cur):Frame×Cur:=
 cond ((fa1 c).1==0) (((keysA (fa1 c).2).1,(frameD c).1.2),(keysA (fa1 c).2).2)
   (cond ((fa1 c).1==1) (((frameD c).1.1,(authsA (fa1 c).2).1,(frameD c).1.2.2),(authsA (fa1 c).2).2)
     (cond ((fa1 c).1==2) (((frameD c).1.1,(frameD c).1.2.1,(methsA (fa1 c).2).1,(frameD c).1.2.2.2),(methsA (fa1 c).2).2)
       (cond ((fa1 c).1==3) (((frameD c).1.1,(frameD c).1.2.1,(frameD c).1.2.2.1,(intF (fa1 c).2 [-1,2,6,7]).1,(frameD c).1.2.2.2.2),(intF (fa1 c).2 [-1,2,6,7]).2)
         (cond ((fa1 c).1==4) (((frameD c).1.1,(frameD c).1.2.1,(frameD c).1.2.2.1,(frameD c).1.2.2.2.1,(rawD (fa1 c).2).1),(rawD (fa1 c).2).2)
           ((frameD c).1,(fa1 c).2)))))
theorem frameEx:∃ f:Cur→Frame×Cur,∀ c,f c=frameRaw c:=⟨frameRaw,fun _=>rfl⟩
noncomputable def frameA (c:Cur):Frame×Cur:=Classical.choose frameEx c
theorem frameA_eq (c:Cur):frameA c=frameRaw c:=Classical.choose_spec frameEx c
theorem fa1_ok {c:Cur}(h:curOk c):curOk (fa1 c).2:=below_ok (frameD_ok h)
theorem frameA_ok {c:Cur}(h:curOk c):curOk (frameA c).2:=by
 have h1:=fa1_ok h
 rw[frameA_eq]
 unfold frameRaw
 cases (fa1 c).1==0 with
 | true=>exact keysA_ok h1
 | false=>cases (fa1 c).1==1 with
   | true=>exact authsA_ok h1
   | false=>cases (fa1 c).1==2 with
     | true=>exact methsA_ok h1
     | false=>cases (fa1 c).1==3 with
       | true=>exact int_ok h1
       | false=>cases (fa1 c).1==4 with
         | true=>exact rawD_ok h1
         | false=>exact h1
end Fw
namespace Fw
open Go
theorem itemAt_get {a:Archive}{k:Nat}(h:k<a.2.length):itemAt a k=a.2[k]:=by
 unfold itemAt
 rw[List.getD_eq_getElem?_getD,List.getElem?_eq_getElem h];rfl
def idLt (x y:Item):Prop:=x.1<y.1
theorem good_lt {a:Archive}(h:∀ k,k<List.length a.2→goodP a k):∀ (k:Nat),k<a.2.length→∀ j,j<k→(itemAt a j).1<(itemAt a k).1
 | 0,_,j,hj=>by omega
 | k+1,hk,j,hj=>by
   have h1:=(h (k+1) hk).2 (by omega)
   rw[Nat.add_sub_cancel]at h1
   by_cases e:j=k
   · rw[e];exact h1
   · have:=good_lt h k (by omega) j (by omega)
     omega
theorem arch_mk {a:Archive}:archF a=true↔(∀ x∈a.2,itemF x=true)∧a.2.Pairwise idLt∧inRangeF a.1 0 99=true∧(List.length a.2:Int)≤8:=by
 unfold archF
 rw[boolC_iff]
 constructor
 · rintro⟨h1,h2,h3⟩
   refine⟨fun x hx=>?_,List.pairwise_iff_getElem.2 fun i j hi hj hij=>?_,h2,h3⟩
   · obtain⟨k,hk,rfl⟩:=List.getElem_of_mem hx
     have:=(h1 k hk).1
     rwa [itemAt_get hk]at this
   · have:=good_lt h1 j hj i hij
     rw[itemAt_get hi,itemAt_get hj]at this
     exact this
 · rintro⟨h1,h2,h3,h4⟩
   refine⟨fun k hk=>⟨?_,fun h0=>?_⟩,h3,h4⟩
   · rw[itemAt_get hk];exact h1 _ (List.getElem_mem _)
   · rw[itemAt_get hk,itemAt_get (show k-1<a.2.length by have:k<a.2.length:=hk;omega)]
     exact List.pairwise_iff_getElem.1 h2 (k-1) k (by have:k<a.2.length:=hk;omega) hk (by omega)
theorem pw_uniq:∀ {l:List Item},l.Pairwise idLt→∀ x∈l,∀ y∈l,x.1=y.1→x=y
 | [],_,x,hx,_,_,_=>by simp at hx
 | z::l,h,x,hx,y,hy,e=>by
   obtain⟨h1,h2⟩:=List.pairwise_cons.1 h
   rcases List.mem_cons.1 hx with ex | hx'
   · rcases List.mem_cons.1 hy with ey | hy'
     · rw[ex,ey]
     · have h3:z.1<y.1:=h1 y hy'
       rw[ex]at e;omega
   · rcases List.mem_cons.1 hy with ey | hy'
     · have h3:z.1<x.1:=h1 x hx'
       rw[ey]at e;omega
     · exact pw_uniq h2 x hx' y hy' e
theorem pw_del:∀ (l:List Item) (k:Nat) (hk:k<l.length),l.Pairwise idLt→∀ y∈l.take k++l.drop (k+1),y.1≠l[k].1
 | x::l,0,_,h,y,hy=>by
   have hy:y∈l:=by simpa using hy
   have:x.1<y.1:=(List.pairwise_cons.1 h).1 y hy
   show y.1≠x.1
   omega
 | x::l,k+1,hk,h,y,hy=>by
   have hk':k<l.length:=by simpa using hk
   obtain⟨h1,h2⟩:=List.pairwise_cons.1 h
   show y.1≠l[k].1
   have hy:y=x∨y∈l.take k++l.drop (k+1):=by
     have hy:y∈x::(l.take k++l.drop (k+1)):=hy
     exact List.mem_cons.1 hy
   rcases hy with rfl | hy
   · have:y.1<l[k].1:=h1 _ (List.getElem_mem _)
     omega
   · exact pw_del l k hk' h2 y hy
theorem arch_sub {a x:Archive}(h:archF a=true)(hs:x.2.Sublist a.2)(h1:x.1=a.1):archF x=true:=by
 obtain⟨k1,k2,k3,k4⟩:=arch_mk.1 h
 have:=hs.length_le
 exact arch_mk.2 ⟨fun y hy=>k1 y (hs.subset hy),k2.sublist hs,by rw[h1];exact k3,by omega⟩
theorem itAt_neg {a:Archive}{n:Int}(h:∀ y∈a.2,y.1≠n):itAt a n<0:=by
 unfold itAt findI
 split
 · rename_i k hk
   obtain⟨h1,h2,_⟩:=List.findIdx?_eq_some_iff_getElem.1 hk
   exfalso
   have:a.2[k].1=n:=by simpa using h2
   exact h _ (List.getElem_mem _) this
 · decide
theorem itGet_ok {a:Archive}{n:Int}(h:¬itAt a n<0):itGet a n∈a.2∧(itGet a n).1=n:=by
 cases hk:a.2.findIdx? (fun(x:Item)=>x.1==n)with
 | none=>
   exfalso
   apply h
   unfold itAt findI
   rw[hk];decide
 | some k=>
   have e:itAt a n=(k:Int):=by unfold itAt findI;rw[hk]
   obtain⟨h1,h2,_⟩:=List.findIdx?_eq_some_iff_getElem.1 hk
   unfold itGet
   rw[e]
   have e2:((k:Int)).toNat=k:=by omega
   rw[e2,List.getD_eq_getElem?_getD,List.getElem?_eq_getElem h1]
   exact⟨List.getElem_mem _,by simpa using h2⟩
theorem add_ok {a y:Archive}{x:Item}(h:addItemF a x=(y,true)):archF y=true∧y=(a.1,insI x a.2):=by
 unfold addItemF at h
 split at h
 · rename_i hc
   have e:(a.1,insI x a.2)=y:=congrArg Prod.fst h
   subst e
   exact⟨hc.2,rfl⟩
 · have:=congrArg Prod.snd h;cases this
theorem insP_self {α:Type}(p:α→Bool)(x:α)(l:List α):x∈insP p x l:=by unfold insP;simp
theorem insP_old {α:Type}(p:α→Bool)(x:α){l:List α}{y:α}(h:y∈l):y∈insP p x l:=by
 have e:=List.takeWhile_append_dropWhile (p:=p) (l:=l)
 rw[←e]at h
 unfold insP
 rcases List.mem_append.1 h with h | h
 · exact List.mem_append.2 (.inl h)
 · exact List.mem_append.2 (.inr (List.mem_cons_of_mem _ h))
theorem adds:∀ (l:List Item) (b y:Archive),l.foldl acStep (b,true)=(y,true)→
   y.2.length=b.2.length+l.length∧(l≠[]→archF y=true)∧(∀ z∈l,z∈y.2)∧(∀ z∈b.2,z∈y.2)
 | [],b,y,h=>by
   have e:b=y:=congrArg Prod.fst h
   subst e
   exact⟨rfl,fun h=>(h rfl).elim,fun z hz=>by simp at hz,fun z hz=>hz⟩
 | x::l,b,y,h=>by
   rw[List.foldl_cons]at h
   have e1:acStep (b,true) x=addItemF b x:=if_pos rfl
   rw[e1]at h
   cases hd:addItemF b x with
   | mk b' t=>
     rw[hd]at h
     cases t with
     | false=>
       rw[st_stuck ac_stuck]at h
       have:=congrArg Prod.snd h;cases this
     | true=>
       obtain⟨ha,rfl⟩:=add_ok hd
       obtain⟨k1,k2,k3,k4⟩:=adds l _ y h
       have hlen:(insI x b.2).length=b.2.length+1:=insP_len
       have k1:y.2.length=(insI x b.2).length+l.length:=k1
       refine⟨by rw[hlen]at k1;show y.2.length=b.2.length+(l.length+1);omega,fun _=>?_,fun z hz=>?_,fun z hz=>k4 z (insP_old _ _ hz)⟩
       · by_cases hl:l=[]
         · subst hl
           have e:((b.1,insI x b.2):Archive)=y:=congrArg Prod.fst h
           rw[←e];exact ha
         · exact k2 hl
       · rcases List.mem_cons.1 hz with rfl | hz
         · exact k4 _ (insP_self _ _ _)
         · exact k3 z hz
end Fw
namespace Fw
open Go
noncomputable def it1 (c:Cur):Int×Cur:=belowF (strandD c).2 9
noncomputable def it2 (c:Cur):Int×Cur:=intF (it1 c).2 [50,100,10000]
noncomputable def itemRaw (c:Cur):Item×Cur:=((IntKind.i64.wrap (1+(it1 c).1),(it2 c).1,(strandD c).1.2.1,(strandD c).1.2.2,(strandD c).1.1),(it2 c).2)
theorem itemEx:∃ f:Cur→Item×Cur,∀ c,f c=itemRaw c:=⟨itemRaw,fun _=>rfl⟩
noncomputable def itemD (c:Cur):Item×Cur:=Classical.choose itemEx c
theorem item_eq (c:Cur):itemD c=itemRaw c:=Classical.choose_spec itemEx c
theorem itemD_ok {c:Cur}(h:curOk c):curOk (itemD c).2:=by
 rw[item_eq];exact int_ok (below_ok (strandD_ok h))
theorem signed_doc (c:Cur):(signedD c).1.2.1=(docD c).1:=by
 rw[signed_eq]
 unfold signedRaw
 have key:∀ s,(sgT c s).1.2.1=(docD c).1:=by
   intro s
   unfold sgT
   cases (sg4 c).1<;>rfl
 cases (sg3 c).1<;>exact key _
theorem docD_sm {c:Cur}(h:curOk c):Sm big20 TDoc (docD c).1:=by
 have hd:=docD_doc h
 have h1:=boolC_iff.1 hd
 have h2:=(inR_iff.1 h1.2.1).2
 have h3:=h1.2.2.1
 refine⟨trivial,⟨?_,fun _ _=>trivial⟩,⟨?_,fun _ _=>trivial⟩⟩
 · show List.length (docD c).1.2.1≤big20
   unfold big20;omega
 · show List.length (docD c).1.2.2≤big20
   unfold big20;omega
theorem itemD_sm {c:Cur}(h:curOk c):Sm big20 TItem (itemD c).1:=by
 rw[item_eq]
 refine⟨trivial,trivial,?_,⟨trivial,trivial,trivial,trivial,trivial,trivial,trivial,trivial,trivial⟩,strandD_sm h⟩
 show Sm big20 TDoc (signedD c).1.2.1
 rw[signed_doc];exact docD_sm h
noncomputable def archS (z:Cur×Archive):Cur×Archive:=((itemD z.1).2,(addItemF z.2 (itemD z.1).1).1)
noncomputable def rc1 (c:Cur):Int×Cur:=belowF c 3
noncomputable def rc2 (c:Cur):Int×Cur:=belowF (rc1 c).2 4
noncomputable def archZ (c:Cur):Cur×Archive:=itF archS (rc2 c).1.toNat ((rc2 c).2,((rc1 c).1,[]))
theorem archEx:∃ f:Cur→Archive×Cur,∀ c,f c=((archZ c).2,(archZ c).1):=⟨fun c=>((archZ c).2,(archZ c).1),fun _=>rfl⟩
noncomputable def archD (c:Cur):Archive×Cur:=Classical.choose archEx c
theorem archD_eq (c:Cur):archD c=((archZ c).2,(archZ c).1):=Classical.choose_spec archEx c
def rcP (z:Cur×Archive)(_:Nat):Prop:=curOk z.1∧archF z.2=true∧Sm big20 TArch z.2
theorem addItem_sm {a:Archive}{x:Item}(ha:Sm big20 TArch a)(hx:Sm big20 TItem x):Sm big20 TArch (addItemF a x).1:=by
 unfold addItemF
 split
 · rename_i h
   have h1:=(arch_mk.1 h.2).2.2.2
   refine⟨trivial,⟨?_,fun y hy=>?_⟩⟩
   · show (insI x a.2).length≤big20
     have h1:(((insI x a.2).length:Nat):Int)≤8:=h1
     unfold big20;omega
   · rcases insP_mem hy with rfl | hy
     · exact hx
     · exact ha.2.2 y hy
 · exact ha
theorem addItem_arch {a:Archive}{x:Item}(ha:archF a=true):archF (addItemF a x).1=true:=by
 unfold addItemF
 split
 · rename_i h;exact h.2
 · exact ha
theorem archS_P (z:Cur×Archive)(k:Nat)(h:rcP z k):rcP (archS z) (k+1):=
 ⟨itemD_ok h.1,addItem_arch h.2.1,addItem_sm h.2.2 (itemD_sm h.1)⟩
theorem rc2_ok {c:Cur}(h:curOk c):curOk (rc2 c).2:=below_ok (below_ok h)
theorem rc2_n (c:Cur):0≤(rc2 c).1∧(rc2 c).1≤1000000:=belN (by decide) (by decide)
theorem rc0_P {c:Cur}(h:curOk c):rcP ((rc2 c).2,((rc1 c).1,[])) 0:=by
 refine⟨rc2_ok h,arch_mk.2 ⟨fun x hx=>by simp at hx,List.Pairwise.nil,inR_iff.2 ?_,by show ((0:Nat):Int)≤8;decide⟩,⟨trivial,⟨Nat.zero_le _,fun x hx=>by simp at hx⟩⟩⟩
 have:=below_lt (c:=c) (n:=3) (by decide)
 show 0≤(belowF c 3).1∧(belowF c 3).1≤99
 omega
theorem archZ_P {c:Cur}(h:curOk c):rcP (archZ c) (rc2 c).1.toNat:=dnAll rcP (rc0_P h) archS_P _
theorem archD_ok {c:Cur}(h:curOk c):curOk (archD c).2:=by rw[archD_eq];exact(archZ_P h).1
theorem archD_arch {c:Cur}(h:curOk c):archF (archD c).1=true:=by rw[archD_eq];exact(archZ_P h).2.1
theorem archD_sm {c:Cur}(h:curOk c):Sm big20 TArch (archD c).1:=by rw[archD_eq];exact(archZ_P h).2.2
theorem archD_leaf {c c2:Cur}{a:Archive}(hE:(c2,a)=itF archS (rc2 c).1.toNat ((rc2 c).2,((rc1 c).1,[]))):archD c=(a,c2):=by
 rw[archD_eq]
 unfold archZ
 rw[←hE]
end Fw
namespace Fw
open Go
section
variable {a b:Archive} {ids:List Int} {m:Int}
end
end Fw
namespace Fw
open Go
set_option linter.unusedSimpArgs false
theorem docD_sm64 {c:Cur}(h:curOk c):Sm 64 TDoc (docD c).1:=by
 have h1:=boolC_iff.1 (docD_doc h)
 have h2:=(inR_iff.1 h1.2.1).2
 have h3:=h1.2.2.1
 refine⟨trivial,⟨?_,fun _ _=>trivial⟩,⟨?_,fun _ _=>trivial⟩⟩
 · show List.length (docD c).1.2.1≤64
   omega
 · show List.length (docD c).1.2.2≤64
   omega
theorem docD_pos {c:Cur}(h:curOk c):inRange 0 (List.length (docD c).1.2.1)∧inRange 0 (List.length (docD c).1.2.2)∧List.length (docD c).1.2.1+1≤maxApp:=by
 have h1:=boolC_iff.1 (docD_doc h)
 have h2:=inR_iff.1 h1.2.1
 have h3:=h1.2.2.1
 refine⟨⟨Int.le_refl _,by omega⟩,⟨Int.le_refl _,by omega⟩,?_⟩
 unfold maxApp;omega
def longT:List UInt8:=[48,49,50,51,52,53,54,55,56,57,48,49,50,51,52,53,54,55,56,57,48,49,50,51,52,53,54,55,56,57,48,49,50,51,52,53,54,55,56,57,48]
noncomputable def dq1 (c:Cur):Int×Cur:=belowF (docD c).2 8
noncomputable def dq2 (c:Cur):Int×Cur:=belowF (dq1 c).2 2
noncomputable def docRaw (c:Cur):Doc×Cur:=
 cond ((dq1 c).1==0) (((intF (dq1 c).2 [-1,999,1000]).1,(docD c).1.2),(intF (dq1 c).2 [-1,999,1000]).2)
   (cond ((dq1 c).1==1) (((docD c).1.1,(docD c).1.2.1++[[120]],(docD c).1.2.2),(dq1 c).2)
     (cond ((dq1 c).1==2) (((docD c).1.1,(docD c).1.2.1,List.set (docD c).1.2.2 0 (intF (dq1 c).2 [0,-1,1]).1),(intF (dq1 c).2 [0,-1,1]).2)
       (cond ((dq1 c).1==3) (((docD c).1.1,List.set (docD c).1.2.1 0 (subL longT 0 (IntKind.i64.wrap (40+(dq2 c).1))),(docD c).1.2.2),(dq2 c).2)
         ((docD c).1,(dq1 c).2))))
theorem docBEx:∃ f:Cur→Doc×Cur,∀ c,f c=docRaw c:=⟨docRaw,fun _=>rfl⟩
noncomputable def docB (c:Cur):Doc×Cur:=Classical.choose docBEx c
theorem docB_eq (c:Cur):docB c=docRaw c:=Classical.choose_spec docBEx c
theorem dq1_ok {c:Cur}(h:curOk c):curOk (dq1 c).2:=below_ok (docD_ok h)
theorem dqCut (c:Cur):(0:Int)≤0∧(0:Int)≤IntKind.i64.wrap (40+(dq2 c).1)∧IntKind.i64.wrap (40+(dq2 c).1)≤(List.length longT:Int):=by
 have h:0≤(dq2 c).1∧(dq2 c).1<2:=below_lt (by decide)
 rw[w64 (by omega) (by omega)]
 refine⟨Int.le_refl _,by omega,?_⟩
 show 40+(dq2 c).1≤((41:Nat):Int)
 omega
theorem docB_P {c:Cur}(h:curOk c):curOk (docB c).2∧Sm 128 TDoc (docB c).1:=by
 have h0:=docD_sm64 h
 have hs:Sm 128 TDoc (docD c).1:=sm_up (by decide) _ _ h0
 have h1:=dq1_ok h
 rw[docB_eq]
 unfold docRaw
 cases (dq1 c).1==0 with
 | true=>exact⟨int_ok h1,trivial,hs.2⟩
 | false=>cases (dq1 c).1==1 with
   | true=>exact⟨h1,trivial,sm_app (t:=.str) hs.2.1 (by have:=h0.2.1.1;exact Nat.le_trans (Nat.succ_le_succ this) (by decide)) trivial,hs.2.2⟩
   | false=>cases (dq1 c).1==2 with
     | true=>exact⟨int_ok h1,trivial,hs.2.1,sm_set (t:=TI) hs.2.2 trivial⟩
     | false=>cases (dq1 c).1==3 with
       | true=>exact⟨below_ok h1,trivial,sm_set (t:=.str) hs.2.1 trivial,hs.2.2⟩
       | false=>exact⟨h1,hs⟩
theorem itemD_sm64 {c:Cur}(h:curOk c):Sm 64 TItem (itemD c).1:=by
 rw[item_eq]
 refine⟨trivial,trivial,?_,⟨trivial,trivial,trivial,trivial,trivial,trivial,trivial,trivial,trivial⟩,(strandD_tiny c).1⟩
 show Sm 64 TDoc (signedD c).1.2.1
 rw[signed_doc];exact docD_sm64 h
theorem itemD_id (c:Cur):1≤(itemD c).1.1∧(itemD c).1.1≤9:=by
 rw[item_eq]
 have h:0≤(it1 c).1∧(it1 c).1<9:=below_lt (by decide)
 show 1≤IntKind.i64.wrap (1+(it1 c).1)∧IntKind.i64.wrap (1+(it1 c).1)≤9
 rw[w64 (by omega) (by omega)]
 omega
noncomputable def ib1 (c:Cur):Int×Cur:=belowF (itemD c).2 8
noncomputable def itemBRaw (c:Cur):Item×Cur:=
 cond ((ib1 c).1==0) (((intF (ib1 c).2 [0,999,1000]).1,(itemD c).1.2),(intF (ib1 c).2 [0,999,1000]).2)
   (cond ((ib1 c).1==1) (((itemD c).1.1,(rawD (ib1 c).2).1,(itemD c).1.2.2),(rawD (ib1 c).2).2)
     (cond ((ib1 c).1==2) (((itemD c).1.1,(itemD c).1.2.1,(docB (ib1 c).2).1,(itemD c).1.2.2.2),(docB (ib1 c).2).2)
       (cond ((ib1 c).1==3) (((itemD c).1.1,(itemD c).1.2.1,(itemD c).1.2.2.1,((itemD c).1.2.2.2.1.1,(itemD c).1.2.2.2.1.2.1,(itemD c).1.2.2.2.1.2.2.1,(itemD c).1.2.2.2.1.2.2.2.1,(itemD c).1.2.2.2.1.2.2.2.2.1,(itemD c).1.2.2.2.1.2.2.2.2.2.1,(itemD c).1.2.2.2.1.2.2.2.2.2.2.1,(itemD c).1.2.2.2.1.2.2.2.2.2.2.2.1,IntKind.i64.wrap ((itemD c).1.2.2.2.1.2.2.2.2.2.2.2.2+1)),(itemD c).1.2.2.2.2),(ib1 c).2)
         (cond ((ib1 c).1==4) (((itemD c).1.1,(itemD c).1.2.1,(itemD c).1.2.2.1,(itemD c).1.2.2.2.1,(anyD (ib1 c).2).1.1),(anyD (ib1 c).2).2)
           ((itemD c).1,(ib1 c).2)))))
theorem itemBEx:∃ f:Cur→Item×Cur,∀ c,f c=itemBRaw c:=⟨itemBRaw,fun _=>rfl⟩
noncomputable def itemB (c:Cur):Item×Cur:=Classical.choose itemBEx c
theorem itemB_eq (c:Cur):itemB c=itemBRaw c:=Classical.choose_spec itemBEx c
theorem ib1_ok {c:Cur}(h:curOk c):curOk (ib1 c).2:=below_ok (itemD_ok h)
theorem sigSm (n:Nat)(x:Sig):Sm n TSign x:=⟨trivial,trivial,trivial,trivial,trivial,trivial,trivial,trivial,trivial⟩
theorem itemB_P {c:Cur}(h:curOk c):curOk (itemB c).2∧Sm 128 TItem (itemB c).1:=by
 have hs:Sm 128 TItem (itemD c).1:=sm_up (by decide) _ _ (itemD_sm64 h)
 have h1:=ib1_ok h
 rw[itemB_eq]
 unfold itemBRaw
 cases (ib1 c).1==0 with
 | true=>exact⟨int_ok h1,trivial,hs.2⟩
 | false=>cases (ib1 c).1==1 with
   | true=>exact⟨rawD_ok h1,trivial,trivial,hs.2.2⟩
   | false=>cases (ib1 c).1==2 with
     | true=>exact⟨(docB_P h1).1,trivial,trivial,(docB_P h1).2,hs.2.2.2⟩
     | false=>cases (ib1 c).1==3 with
       | true=>exact⟨h1,trivial,trivial,hs.2.2.1,sigSm _ _,hs.2.2.2.2⟩
       | false=>cases (ib1 c).1==4 with
         | true=>exact⟨(anyD_P h1).1,trivial,trivial,hs.2.2.1,hs.2.2.2.1,(anyD_P h1).2⟩
         | false=>exact⟨h1,hs⟩
theorem item128_big {x:Item}(h:Sm 128 TItem x):Sm big20 TItem x:=sm_up (by decide) _ _ h
theorem item128_cells {x:Item}(h:Sm 128 TItem x):((cellsC TItem x:Nat):Int)≤2000000000:=by
 have h1:=cells_max 128 TItem _ h
 have h2:cellsMax 128 TItem≤2000000000:=by decide
 omega
def tinyI (x:Item):Prop:=Sm 64 TItem x∧x.1≤9
theorem archD_all {c:Cur}(h:curOk c):∀ x∈(archD c).1.2,tinyI x:=by
 rw[archD_eq]
 have:=dnAll (fun(z:Cur×Archive) _=>curOk z.1∧∀ x∈z.2.2,tinyI x) (S:=archS) (s0:=((rc2 c).2,((rc1 c).1,[]))) ⟨rc2_ok h,fun x hx=>by simp at hx⟩
   (fun z k hz=>⟨itemD_ok hz.1,fun x hx=>by
     have hx:x∈(addItemF z.2 (itemD z.1).1).1.2:=hx
     unfold addItemF at hx
     split at hx
     · rcases insP_mem hx with rfl | hx
       · exact⟨itemD_sm64 hz.1,(itemD_id z.1).2⟩
       · exact hz.2 x hx
     · exact hz.2 x hx⟩) (rc2 c).1.toNat
 exact this.2
end Fw
namespace Fw
open Go
set_option linter.unusedSimpArgs false
section
variable {x0 x:Item} {a0 a a':Archive} {i:Int}
end
noncomputable def da0 (code:List Int):Archive×Cur:=archD (curNewF code)
noncomputable def jiC (code:List Int):Frame×Item:=((frameA (curNewF code)).1,(itemB (frameA (curNewF code)).2).1)
noncomputable def at1 (code:List Int):Int×Cur:=belowF (da0 code).2 11
section
variable {code:List Int} (h:code.length≤bigLen)
include h
theorem da0_ok:curOk (da0 code).2:=archD_ok (newCur_ok h)
theorem da0_arch:archF (da0 code).1=true:=archD_arch (newCur_ok h)
theorem da0_sm:Sm big20 TArch (da0 code).1:=archD_sm (newCur_ok h)
theorem ji_sm:Sm big20 TItem (jiC code).2∧((cellsC TItem (jiC code).2:Nat):Int)≤2000000000:=
 have hq:=(itemB_P (frameA_ok (newCur_ok h))).2
 ⟨item128_big hq,item128_cells hq⟩
end
theorem find_ge {a:Archive}{x:Item}(h:x∈a.2):¬itAt a x.1<0:=by
 intro hn
 have:=findI_none (p:=fun(y:Item)=>y.1==x.1) (l:=a.2) (by unfold itAt at hn;omega) x h
 simp at this
end Fw
namespace Fw
open Go
set_option linter.unusedSimpArgs false
theorem getD_mapR {α:Type}{f:Nat→α}{n k:Nat}{d:α}(h:k<n):((List.range n).map f).getD k d=f k:=by
 rw[List.getD_eq_getElem?_getD,List.getElem?_map,List.getElem?_range h];rfl
theorem doc_mk {t:Int}{P:List (List UInt8)}{L:List Int}(h1:inRangeF t 0 999=true)(h2:1≤P.length∧P.length≤6)(h3:L.length=P.length)(h4:∀ p∈P,p.length≤40)(h5:∀ s∈L,inRangeF s 1 1000000000000=true):docF (t,P,L)=true:=by
 refine boolC_iff.2 ⟨h1,inR_iff.2 ⟨?_,?_⟩,h3,fun k hk=>?_,fun k hk=>?_⟩
 · show (1:Int)≤(P.length:Int);omega
 · show (P.length:Int)≤6;omega
 · have hk:k<P.length:=hk
   have hm:List.getD P k (dflt .str)∈P:=by rw[List.getD_eq_getElem?_getD,List.getElem?_eq_getElem hk];exact List.getElem_mem _
   have:=h4 _ hm
   show ((List.getD P k (dflt .str)).length:Int)≤40
   omega
 · have hk:k<L.length:=hk
   have hm:List.getD L k (dflt TI)∈L:=by rw[List.getD_eq_getElem?_getD,List.getElem?_eq_getElem hk];exact List.getElem_mem _
   exact h5 _ hm
section
variable {methods hide:List Int} {d:Doc} {m:Int}
noncomputable def rdR (methods:List Int)(d:Doc)(hide:List Int):Red:=rdAt methods d hide d.2.1.length
theorem rr_len:List.length (rdR methods d hide).2.2.1=d.2.1.length:=by unfold rdR rdAt;show ((List.range _).map _).length=_;rw[List.length_map,List.length_range]
theorem rr_s {k:Nat}(h:k<d.2.1.length):rdS (rdR methods d hide) k=!(rdHid hide k):=getD_mapR h
theorem rr_p {k:Nat}(h:k<d.2.1.length):rdPt (rdR methods d hide) k=rdPart d hide k:=getD_mapR h
theorem rr_l {k:Nat}(h:k<d.2.1.length):rdSl (rdR methods d hide) k=rdSalt d hide k:=getD_mapR h
theorem rr_d {k:Nat}(h:k<d.2.1.length):rdDg (rdR methods d hide) k=rdDig methods d hide k:=getD_mapR h
theorem rr_row {k:Nat}(h:k<d.2.1.length):rowP (rdR methods d hide) k:=by
 unfold rowP
 rw[rr_s h,rr_d h,rr_p h,rr_l h]
 cases hh:rdHid hide k with
 | true=>
   rw[if_neg (by decide)]
   unfold rdDig rdPart rdSalt
   rw[if_pos hh,if_pos hh,if_pos hh]
   refine⟨?_,rfl,rfl⟩
   show ((pickF (pdG _ _) methods).length:Int)=(methods.length:Int)
   rw[show pdG (d.2.1.getD k (dflt .str)) (d.2.2.getD k (dflt TI))=(fun x=>(partF x (d.2.1.getD k (dflt .str)) (d.2.2.getD k (dflt TI)),true))from rfl,pick_true,List.length_map]
 | false=>
   rw[if_pos (by decide)]
   unfold rdDig
   rw[if_neg (by rw[hh];decide)]
   rfl
theorem rr_bad0 (hd:docF d=true):rdBad0 (rdR methods d hide)=false:=by
 have h1:=boolC_iff.1 hd
 have h2:inRangeF (List.length d.2.1:Int) 1 6=true:=h1.2.1
 have e:∀ {α:Type} (f:Nat→α),((List.range d.2.1.length).map f).length=d.2.1.length:=fun f=>by rw[List.length_map,List.length_range]
 unfold rdBad0 rdR rdAt
 show pick2 (pick2 (pick2 (!(inRangeF (((List.range d.2.1.length).map _).length:Int) 1 6)) true ((((List.range d.2.1.length).map _).length:Int) != (((List.range d.2.1.length).map _).length:Int))) true ((((List.range d.2.1.length).map _).length:Int) != (((List.range d.2.1.length).map _).length:Int))) true
   ((((List.range d.2.1.length).map _).length:Int) != (((List.range d.2.1.length).map _).length:Int))=false
 rw[e,e,e,e,h2]
 simp[pick2]
theorem rr_end (hd:docF d=true):rdEndC (rdR methods d hide) (shDoc (rdR methods d hide) d.2.1.length)=true:=by
 have h1:=boolC_iff.1 hd
 have hn:=inR_iff.1 h1.2.1
 unfold rdEndC
 rw[pick2_or,Bool.or_eq_true]
 by_cases hz:(shP (rdR methods d hide) d.2.1.length).length=0
 · refine .inr (yesAnd ?_ h1.1)
   show (((shP (rdR methods d hide) d.2.1.length).length:Int)==0)=true
   rw[beq_iff_eq];omega
 · refine .inl (doc_mk (t:=d.1) (P:=shP (rdR methods d hide) d.2.1.length) (L:=shL (rdR methods d hide) d.2.1.length) h1.1 ?_ ?_ ?_ ?_)
   · have:=shP_len (rdR methods d hide) d.2.1.length
     omega
   · unfold shP shL
     rw[List.length_map,List.length_map]
   · intro p hp
     obtain⟨k,hk,rfl⟩:=List.mem_map.1 hp
     have hk1:=List.mem_range.1 (List.mem_filter.1 hk).1
     rw[rr_p hk1]
     unfold rdPart
     split
     · exact Nat.zero_le _
     · have:=h1.2.2.2.1 k hk1
       omega
   · intro s hs
     obtain⟨k,hk,rfl⟩:=List.mem_map.1 hs
     have hk1:=List.mem_range.1 (List.mem_filter.1 hk).1
     have hk2:=(List.mem_filter.1 hk).2
     rw[rr_s hk1]at hk2
     rw[rr_l hk1]
     unfold rdSalt
     rw[if_neg (by intro e;rw[e]at hk2;cases hk2)]
     exact h1.2.2.2.2 k (by have:=h1.2.2.1;omega)
theorem rr_red (hd:docF d=true):isRedF (rdR methods d hide)=true:=by
 refine boolC_iff.2 ⟨rr_bad0 hd,fun k hk=>rr_row (by rwa [rr_len]at hk),?_⟩
 rw[rr_len];exact rr_end hd
theorem tw_ne:∀ {l:List Int},m∈l→(l.takeWhile (fun x=>x != m)).length<l.length∧∀ g:Int→Int,(l.map g).getD (l.takeWhile (fun x=>x != m)).length (dflt TI)=g m
 | a::r,h=>by
   by_cases ha:a=m
   · subst ha
     rw[List.takeWhile_cons_of_neg (by simp)]
     exact⟨by simp,fun g=>rfl⟩
   · have h2:m∈r:=(List.mem_cons.1 h).resolve_left (fun e=>ha e.symm)
     obtain⟨h3,h4⟩:=tw_ne h2
     rw[List.takeWhile_cons_of_pos (by simpa using ha)]
     refine⟨by simp only[List.length_cons];omega,fun g=>?_⟩
     show List.getD (g a::r.map g) (List.length (a::r.takeWhile _)) _=g m
     rw[List.length_cons]
     exact h4 g
theorem red_dig (hd:docF d=true)(hm:m∈methods):redDigF m (rdR methods d hide)=docDigF m d:=by
 obtain⟨t1,t2⟩:=tw_ne hm
 have hidx:redIdx m (rdR methods d hide)<methods.length:=t1
 unfold redDigF docDigF
 rw[if_pos (boolC_iff.2 ⟨rr_red hd,fun e=>by
   have e:redIdx m (rdR methods d hide)=methods.length:=e
   omega⟩),if_pos hd,rr_len]
 congr 2
 have e1:(List.range d.2.1.length).flatMap (docG m d)=(List.range d.2.1.length).map (fun k=>partF m (d.2.1.getD k (dflt .str)) (d.2.2.getD k (dflt TI))):=by
   unfold docG
   generalize List.range d.2.1.length=l
   induction l with
   | nil=>rfl
   | cons a r ih=>rw[List.flatMap_cons,ih,List.map_cons];rfl
 rw[e1]
 refine List.map_congr_left fun k hk=>?_
 have hk:=List.mem_range.1 hk
 unfold rgAt
 rw[rr_s hk,rr_p hk,rr_l hk,rr_d hk]
 cases hh:rdHid hide k with
 | true=>
   rw[if_neg (by decide)]
   unfold rdDig
   rw[if_pos hh,show pdG (d.2.1.getD k (dflt .str)) (d.2.2.getD k (dflt TI))=(fun x=>(partF x (d.2.1.getD k (dflt .str)) (d.2.2.getD k (dflt TI)),true))from rfl,pick_true]
   exact t2 (fun x=>partF x (d.2.1.getD k (dflt .str)) (d.2.2.getD k (dflt TI)))
 | false=>
   rw[if_pos (by decide)]
   unfold rdPart rdSalt
   rw[if_neg (by rw[hh];decide),if_neg (by rw[hh];decide)]
end
theorem insF_mem {l:List Int}{x y:Int}:y∈insF l x↔y=x∨y∈l:=by
 unfold insF
 split
 · rename_i h
   refine⟨.inr,fun g=>g.elim (fun e=>?_) id⟩
   rw[e,←h.2,List.getD_eq_getElem?_getD,List.getElem?_eq_getElem h.1]
   exact List.getElem_mem _
 · unfold insPut
   rw[List.mem_append,List.mem_append,List.mem_singleton]
   conv=>rhs;rw[←List.take_append_drop (insK l x) l,List.mem_append]
   constructor
   · rintro((g | g) | g)
     · exact .inr (.inl g)
     · exact .inl g
     · exact .inr (.inr g)
   · rintro(g | g | g)
     · exact .inl (.inr g)
     · exact .inl (.inl g)
     · exact .inr g
theorem methods_mem {x:Item}{y:Int}:y∈methodsF x↔y=x.2.2.2.1.2.2.1∨∃ r∈x.2.2.2.2.2,r.2.1=y:=by
 unfold methodsF
 have key:∀ (rs:List Renewal) (l:List Int),y∈rs.foldl (fun l (r:Renewal)=>insF l r.2.1) l↔y∈l∨∃ r∈rs,r.2.1=y:=by
   intro rs
   induction rs with
   | nil=>intro l;simp
   | cons a r ih=>
     intro l
     rw[List.foldl_cons,ih,insF_mem]
     constructor
     · rintro((g | g) | ⟨q,g1,g2⟩)
       · exact .inr ⟨a,by simp,g.symm⟩
       · exact .inl g
       · exact .inr ⟨q,by simp[g1],g2⟩
     · rintro(g | ⟨q,g1,g2⟩)
       · exact .inl (.inr g)
       · rcases List.mem_cons.1 g1 with rfl | g1
         · exact .inl (.inl g2.symm)
         · exact .inr ⟨q,g1,g2⟩
 rw[key,List.mem_singleton]
theorem hidden_same {f:Frame}{x:Item}{hide:List Int}(h:(redItemF x hide).2=true):judgeHidF f x (redItemF x hide).1=judgeItemF f x:=by
 unfold redItemF redF at h ⊢
 split at h
 · rename_i hd
   rw[if_pos hd]
   show judgeRedF f (itemEvF x) (rdR (methodsF x) x.2.2.1 hide) x.2.2.2.1=judgeDocF f (itemEvF x) x.2.2.1 x.2.2.2.1
   unfold judgeRedF judgeDocF
   have e1:redDigF x.2.2.2.1.2.2.1 (rdR (methodsF x) x.2.2.1 hide)=docDigF x.2.2.2.1.2.2.1 x.2.2.1:=red_dig hd (methods_mem.2 (.inl rfl))
   have e2:allRedF (itemEvF x) (rdR (methodsF x) x.2.2.1 hide)=allDigsF (itemEvF x) x.2.2.1:=by
     show [redDigsF x.2.2.2.2 _]=[docDigsF x.2.2.2.2 _]
     congr 1
     unfold redDigsF
     rw[show rdgF (rdR (methodsF x) x.2.2.1 hide)=(fun(c:Renewal)=>(redDigF c.2.1 (rdR (methodsF x) x.2.2.1 hide),true))from rfl,pick_true]
     refine Eq.trans (List.map_congr_left fun c hc=>?_) (pick_true (fun(c:Renewal)=>docDigF c.2.1 x.2.2.1) x.2.2.2.2.2).symm
     exact red_dig hd (methods_mem.2 (.inr ⟨c,hc,rfl⟩))
   rw[e1,e2]
 · cases h
theorem forget_val (a:Archive)(now:Int):(forgetF a now).1=(a.1,a.2.filter (fun x=>decide (x.2.1≥now)))∧(forgetF a now).2=(a.2.length:Int)-((a.2.filter (fun x=>decide (x.2.1≥now))).length:Int):=by
 have key:∀ l:List Item,pickF (fgF now) l=l.filter (fun x=>decide (x.2.1≥now)):=by
   intro l
   have q:=congrFun (List.filterMap_eq_filter (p:=fun(x:Item)=>decide (x.2.1≥now))) l
   rw[←q]
   rfl
 unfold forgetF
 rw[key]
 exact⟨rfl,rfl⟩
section
variable {a:Archive} {now:Int} {f:Frame} {i:Int}
theorem fg_sub:(forgetF a now).1.2.Sublist a.2:=by rw[(forget_val a now).1];exact List.filter_sublist
theorem fgBad1 (hl:List.length a.2≤big20)(h:pick2 (IntKind.i64.wrap ((List.length (forgetF a now).1.2:Int)+(forgetF a now).2) != (List.length a.2:Int)) true (pick2 (archF a) (!(archF (forgetF a now).1)) false)=true):False:=by
 obtain⟨e1,e2⟩:=forget_val a now
 unfold big20 at hl
 have hs:=fg_sub (a:=a) (now:=now)
 have e3:IntKind.i64.wrap ((List.length (forgetF a now).1.2:Int)+(forgetF a now).2)=(List.length a.2:Int):=by
   have q:(List.length (forgetF a now).1.2:Int)+(forgetF a now).2=(List.length a.2:Int):=by
     rw[e2,e1]
     show ((List.filter _ a.2).length:Int)+((a.2.length:Int)-((List.filter _ a.2).length:Int))=_
     omega
   rw[q,w64 (by omega) (by omega)]
 rw[e3]at h
 have e4:((List.length a.2:Int) != (List.length a.2:Int))=false:=by simp
 rw[e4]at h
 cases ha:archF a with
 | false=>rw[ha]at h;cases h
 | true=>
   rw[ha,arch_sub ha hs (by rw[e1])]at h
   cases h
theorem fgAt (ha:archF a=true)(hi:inRange i (List.length (forgetF a now).1.2)):¬itAt a (List.getD (forgetF a now).1.2 i.toNat (dflt TItem)).1<0∧
   List.getD a.2 (itAt a (List.getD (forgetF a now).1.2 i.toNat (dflt TItem)).1).toNat (dflt TItem)=List.getD (forgetF a now).1.2 i.toNat (dflt TItem)∧List.getD (forgetF a now).1.2 i.toNat (dflt TItem)∈a.2∧now≤(List.getD (forgetF a now).1.2 i.toNat (dflt TItem)).2.1:=by
 have hm:=getD_mem hi (dflt TItem)
 have hma:=fg_sub.subset hm
 have h1:=find_ge hma
 obtain⟨g1,g2⟩:=itGet_ok h1
 refine⟨h1,pw_uniq (arch_mk.1 ha).2.1 _ g1 _ hma g2,hma,?_⟩
 rw[(forget_val a now).1]at hm
 have:=(List.mem_filter.1 hm).2
 have:=of_decide_eq_true this
 rw[(forget_val a now).1]
 exact this
theorem fgBad2 (ha:archF a=true)(hi:inRange i (List.length (forgetF a now).1.2))(h:pick2 (pick2 (decide (itAt a (List.getD (forgetF a now).1.2 i.toNat (dflt TItem)).1<0)) true (decide ((List.getD (forgetF a now).1.2 i.toNat (dflt TItem)).2.1<now))) true
   (!(El.eq TVerdict (judgeItemF f (List.getD a.2 (itAt a (List.getD (forgetF a now).1.2 i.toNat (dflt TItem)).1).toNat (dflt TItem))) (judgeItemF f (List.getD (forgetF a now).1.2 i.toNat (dflt TItem)))))=true):False:=by
 obtain⟨h1,h2,_,h4⟩:=fgAt (now:=now) ha hi
 rw[h2,El.eq_self TVerdict _ rfl,decide_eq_false h1,decide_eq_false (by omega)]at h
 cases h
theorem fgBad3 {y:Item}{hide:List Int}(h:pick2 (redItemF y hide).2 (!(El.eq TVerdict (judgeHidF f y (redItemF y hide).1) (judgeItemF f y))) false=true):False:=by
 have g:=andT h
 rw[hidden_same g.1,El.eq_self TVerdict _ rfl]at g
 cases g.2
theorem keep_max:∀ (l:List Item) (n b:Int),l.foldl (fun(n:Int) (s:Item)=>max n s.2.1) n≤b↔n≤b∧∀ x∈l,x.2.1≤b
 | [],n,b=>by simp
 | x::r,n,b=>by
   rw[List.foldl_cons,keep_max r]
   constructor
   · rintro⟨h1,h2⟩
     refine⟨by omega,fun y hy=>?_⟩
     rcases List.mem_cons.1 hy with rfl | hy
     · omega
     · exact h2 y hy
   · rintro⟨h1,h2⟩
     have:=h2 x (by simp)
     exact⟨by omega,fun y hy=>h2 y (by simp[hy])⟩
theorem fgFin {c:Archive}{id:Int}(hc:archF c=true)(hl:List.length c.2≤big20):
   pick2 (pick2 ((dropItemF c id).2==decide (itAt c id≥0)) (pick2 (!(dropItemF c id).2) true (pick2 (IntKind.i64.wrap ((List.length (dropItemF c id).1.2:Int)+1)==(List.length c.2:Int)) (decide (itAt (dropItemF c id).1 id<0)) false)) false)
     (decide (List.foldl (fun(n:Int) (s:Item)=>max n s.2.1) (-1) (forgetF a now).1.2≤List.foldl (fun(n:Int) (s:Item)=>max n s.2.1) (-1) a.2)) false=true:=by
 have hk:List.foldl (fun(n:Int) (s:Item)=>max n s.2.1) (-1) (forgetF a now).1.2≤List.foldl (fun(n:Int) (s:Item)=>max n s.2.1) (-1) a.2:=by
   have h2:=(keep_max a.2 (-1) _).1 (Int.le_refl _)
   exact(keep_max _ _ _).2 ⟨h2.1,fun x hx=>h2.2 x (fg_sub.subset hx)⟩
 rw[decide_eq_true hk]
 unfold big20 at hl
 by_cases hn:itAt c id<0
 · rw[di0 hn,decide_eq_false (by omega)];rfl
 · rw[di1 hn,decide_eq_true (by omega)]
   have hr:inRange (itAt c id) c.2.length:=findRange hn
   have hk2:(itAt c id).toNat<c.2.length:=by have:=hr.1;have:=hr.2;omega
   have e1:(IntKind.i64.wrap ((List.length (c.2.take (itAt c id).toNat++c.2.drop ((itAt c id).toNat+1)):Int)+1)==(List.length c.2:Int))=true:=by
     rw[List.length_append,List.length_take,List.length_drop,w64 (by omega) (by omega),beq_iff_eq]
     omega
   have e2:itAt (c.1,c.2.take (itAt c id).toNat++c.2.drop ((itAt c id).toNat+1)) id<0:=by
     refine itAt_neg fun y hy e=>?_
     have:=pw_del c.2 (itAt c id).toNat hk2 (arch_mk.1 hc).2.1 y hy
     apply this
     obtain⟨g1,g2⟩:=itGet_ok hn
     have eg:c.2[(itAt c id).toNat]=itGet c id:=by
       unfold itGet
       rw[List.getD_eq_getElem?_getD,List.getElem?_eq_getElem hk2];rfl
     rw[eg,g2];exact e
   show pick2 (pick2 (true==true) (pick2 (!true) true (pick2 (IntKind.i64.wrap ((List.length (c.2.take (itAt c id).toNat++c.2.drop ((itAt c id).toNat+1)):Int)+1)==(List.length c.2:Int)) (decide (itAt (c.1,c.2.take (itAt c id).toNat++c.2.drop ((itAt c id).toNat+1)) id<0)) false)) false) true false=true
   rw[e1,decide_eq_true e2];rfl
end
noncomputable def fp1 (code:List Int):Int×Cur:=intF (da0 code).2 [0,50,51,101,10001]
noncomputable def fpC (code:List Int):Archive×Int:=((da0 code).1,(fp1 code).1)
noncomputable def diC (code:List Int):Archive×Int:=((da0 code).1,(at1 code).1)
noncomputable def ri0 (code:List Int):Item×Cur:=itemB (curNewF code)
noncomputable def ri1 (code:List Int):Int×Cur:=belowF (ri0 code).2 4
noncomputable def riS (z:Cur×List Int):Cur×List Int:=((belowF z.1 4).2,z.2++[IntKind.i64.wrap ((belowF z.1 4).1-1)])
noncomputable def riC (code:List Int):Item×List Int:=((ri0 code).1,(itF riS (ri1 code).1.toNat ((ri1 code).2,[])).2)
def riP (z:Cur×List Int)(k:Nat):Prop:=curOk z.1∧z.2.length=k
theorem riS_P (z:Cur×List Int)(k:Nat)(h:riP z k):riP (riS z) (k+1):=
 ⟨below_ok h.1,by show (z.2++[_]).length=_;rw[List.length_append,h.2];rfl⟩
theorem ri1_n (code:List Int):0≤(ri1 code).1∧(ri1 code).1≤1000000:=belN (by decide) (by decide)
section
variable {code:List Int} (h:code.length≤bigLen)
include h
theorem ri0_ok:curOk (ri0 code).2:=(itemB_P (newCur_ok h)).1
theorem ri1_ok:curOk (ri1 code).2:=below_ok (ri0_ok h)
theorem riInv_P {c2:Cur}{l:List Int}{i:Int}(hI:dnInv riS ((ri1 code).2,[]) (ri1 code).1 (c2,l) i):curOk c2∧l.length+1≤maxApp:=by
 have hq:=dnP riP ⟨ri1_ok h,rfl⟩ riS_P hI
 obtain⟨k,hk,h1,h2⟩:=hq
 exact⟨h1,dnApp h2 hk (ri1_n code).2⟩
theorem fg_item {i:Int}{now:Int}(hi:inRange i (List.length (forgetF (da0 code).1 now).1.2)):Sm big20 TItem (List.getD (forgetF (da0 code).1 now).1.2 i.toNat (dflt TItem))∧((cellsC TItem (List.getD (forgetF (da0 code).1 now).1.2 i.toNat (dflt TItem)):Nat):Int)≤2000000000:=by
 have hm:=(fgAt (now:=now) (da0_arch h) hi).2.2.1
 have hs:Sm 128 TItem (List.getD (forgetF (da0 code).1 now).1.2 i.toNat (dflt TItem)):=sm_up (by decide) _ _ (archD_all (newCur_ok h) _ hm).1
 exact⟨item128_big hs,item128_cells hs⟩
end
theorem riC_leaf {code:List Int}{c2:Cur}{l:List Int}(hE:(c2,l)=itF riS (ri1 code).1.toNat ((ri1 code).2,[])):l=(riC code).2:=by
 show l=(itF riS (ri1 code).1.toNat ((ri1 code).2,[])).2
 rw[←hE]
end Fw
