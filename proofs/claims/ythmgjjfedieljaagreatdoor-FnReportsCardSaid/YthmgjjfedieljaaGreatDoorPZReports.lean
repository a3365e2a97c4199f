/-
  Plain laws. Nothing here is a claim.
-/
import Derived.Test.YthmgjjfedieljaaGreatDoorPYReports
namespace Go.Proofs.YthmgjjfedieljaaGreatDoor
set_option linter.defProp false
open Go.RowKit
set_option linter.unusedVariables false
set_option linter.unusedSimpArgs false
set_option maxRecDepth 100000
def ae6{g:aL}{m:lK}{l:Int}(C:cy g=true)(D:aJ m.order 0 2=true)(E:0<=l)(hl:l<dW g):TM g m l=some (wm g m l,true)/\cZ g (wm g m l)=true:=by
 have I:=n6 g;have F:aJ l 0 (W6 (dW g-1))=true:=by rw[aR];exact bq.2 ⟨E,by omega⟩
 refine ae5 C D E hl _ ?_;unfold TM;rw[yF,aq,C,bR,au,Uk,aq,D,bR,au,T4,aq,eN,aq,F,bR,au,qS,aq]
def at6{g:aL}{m:lK}{l:Int}(E:cy g=true)(C:aJ m.order 0 2=true)(D:0<=l)(hl:l<dW g):Mb g m l=some (wm g m l,true):=by
 have I:=n6 g;have F:aJ l 0 (W6 (dW g-1))=true:=by rw[aR];exact bq.2 ⟨D,by omega⟩
 refine(ae5 E C D hl _ ?_).1;unfold Mb;rw[show CR m=some (aJ m.order 0 2)from Uk m,aq,C,bR,au,A9,aq,dK,aq,F,bR,au,mO,aq]
def gf(c:ak)(l:Int):aG:=
 let a:=wm (dS c.config.av c.spare) c.config.mapping l
 ⟨a.az,c.spare.map.getD (a.az*(c.config.av.rows-c.spare.bC)+a.row).toNat 0,a.bL⟩
def Jc{g:aL}{s:dc}(h:jo g s=true):dS g s=⟨g.bX,g.aB,g.rows-s.bC,g.aK⟩/\cy g=true/\cy (dS g s)=true/\aQ (dS g s)=aQ g/\0 <= s.bC/\s.bC <= 2/\2 <= g.rows-s.bC/\g.rows <= 16:=by
 have D:=h;simp[jo,aH]at h;have⟨C,E,F,I,L⟩:=NI h.1;have T:=fE C;have e:dS g s=⟨g.bX,g.aB,g.rows-s.bC,g.aK⟩:=by
  unfold dS;rw[D,aj,aR]
 have O:cy (dS g s)=true:=by
  rw[e];unfold cy;simp[aH,bq];omega
 refine⟨e,C,O,?_,E,F,I,L⟩;unfold aQ;simp_all
def ae7{g:aL}{s:dc}(h:jo g s=true){b r:Int}(hb:0 <= b/\b<aQ g)(E:0 <= r/\r<g.rows-s.bC):(b*(g.rows-s.bC)+r).toNat<s.map.length/\0 <= s.map.getD (b*(g.rows-s.bC)+r).toNat 0/\s.map.getD (b*(g.rows-s.bC)+r).toNat 0<g.rows:=by
 have⟨_,U,_,_,Y,Z,h3,h4⟩:=Jc h;have F:=fy g;simp only[jo,aH,fI,bW,eJ]at h;have⟨_,hl,I⟩:=h;obtain⟨b,rfl⟩:=ff hb.1;obtain⟨r,rfl⟩:=ff E.1;have⟨R,hR⟩:=ff (show 0 <= g.rows-s.bC by omega);have⟨C,L⟩:=ff F.1;rw[hR,L,bH,bH]at hl;have hl:s.map.length=C*R:=by exact_mod_cast hl
 have O:b<C:=by omega
 have D:r<R:=by omega
 have e:((b:Int)*(g.rows-s.bC)+(r:Int)).toNat=b*R+r:=by rw[hR,<- Int.natCast_mul,<- Int.natCast_add,bH]
 have dV:=yK (R:=R) O (show r+1 <= R from D);have hi:b*R+r<s.map.length:=by omega
 have h5:=I b (by omega) r (by omega);rw[e];refine⟨hi,?_⟩;rw[fQ,bQ hi,Option.getD_some];have T:(gA s.map R b)[r]?=some s.map[b*R+r]:=by rw[DO,List.getElem?_take_of_lt D,List.getElem?_drop,bQ hi]
 rw[hR,bH]at h5;unfold p7 at h5;rw[T]at h5;simp only[dA,aH,fI,bq]at h5;rcases h5 with h5|h5
 ·omega
 ·grind
def at7{c:ak}(h:Pk c)(E:jo c.config.av c.spare=true)(he:c.spare.bC=c.config.bC)(hm:aJ c.config.mapping.order 0 2=true){l:Int}(h0:0 <= l)(hl:l<dW (dS c.config.av c.spare)):vR c l=some (gf c l,true)/\cZ c.config.av (gf c l)=true:=by
 have⟨U,Y,Z,eb,s1,s2,s3,s4⟩:=Jc E;have⟨m1,m3⟩:=ae6 Z hm h0 hl;have⟨_,C,D,F,I,b5,b6⟩:=qT m3;rw[eb]at D;have gb:=fE Y;have hb:=fy c.config.av;have er:(dS c.config.av c.spare).rows=c.config.av.rows-c.spare.bC:=by rw[U]
 have ec:(dS c.config.av c.spare).aK=c.config.av.aK:=by rw[U]
 rw[er]at I;rw[ec]at b6;have⟨k1,k2,k3⟩:=ae7 E ⟨C,D⟩ ⟨F,I⟩;have hmul:=yG C D F I;have hM:=Nu (a:=aQ c.config.av) (b:=c.config.av.rows-c.spare.bC) (A:=8) (B:=16) hb.1 hb.2 (by omega) (by omega);unfold gf;generalize hA:wm (dS c.config.av c.spare) c.config.mapping l=A at *
 dsimp only;refine⟨?_,vT Y C D k2 k3 b5 b6⟩;unfold vR;rw[Uv,aq,m1,aq];dsimp only;rw[bR,au];unfold acQ xI;have hx:TN (dS c.config.av c.spare) A.az A.row=some true:=by
  unfold TN;rw[adF,aq,vT (a:=⟨A.az,A.row,0⟩) Z C (by rw[eb];exact D) F (by rw[er];exact I) (Int.le_refl 0) (by rw[ec];show 0<_;omega)]
 have⟨b,hbN⟩:=ff C;have⟨r,hrN⟩:=ff F;have⟨R,hR⟩:=ff (show 0 <= c.config.av.rows-c.spare.bC by omega);have⟨bn,hn⟩:=ff hb.1;have O:c.spare.map.length=bn*R:=by
  simp only[jo,aH,fI]at E;have:=E.2.1
  grind
 have L:b<bn:=by omega
 have T:r<R:=by omega
 have dV:=yK (R:=R) L (show r+1 <= R from T);have aua:=yK (R:=R) L (c9 R);have hi:b*R+r<c.spare.map.length:=by omega
 rw[Uv,aq,hx,aq,bR,au,hbN,aer hR (by omega) (by omega) L O,aq];have ht:((c.spare.map.take ((b+1)*R)).drop (b*R))=gA c.spare.map R b:=rfl;have iM:(gA c.spare.map R b).length=R:=DP (by rw[O];exact gO R L);have hgx:(gA c.spare.map R b)[r]?=some c.spare.map[b*R+r]:=by rw[DO,List.getElem?_take_of_lt T,List.getElem?_drop,bQ hi]
 have hgy:(gA c.spare.map R b)[r]'(by omega)=c.spare.map[b*R+r]:=by
  grind
 dsimp only;rw[gP (by rw[gE];omega),gP (by rw[gE,O];omega),cM,aj,hrN,aD ⟨by omega,by rw[ht,iM,bH];exact T⟩];simp only[bH,ht,hgy,aq];rw[hR,<- Int.natCast_mul,<- Int.natCast_add,bH,fQ,bQ hi,Option.getD_some]
def aub{c:ak}(h:Pk c)(F:jo c.config.av c.spare=true)(Z:c.spare.bC=c.config.bC)(I:aJ c.config.mapping.order 0 2=true){l:Int}(L:0<=l)(hl:l<dW (dS c.config.av c.spare)):vJ c l=some (gf c l):=by
 obtain⟨C,hg,O,eb,s1,s2,s3,s4⟩:=Jc F;obtain⟨m1,m3⟩:=ae6 O I L hl;have m2:=at6 O I L hl;obtain⟨_,T,D,U,E,b5,b6⟩:=qT m3;rw[eb]at D;have gb:=fE hg;have hb:=fy c.config.av;have er:(dS c.config.av c.spare).rows=c.config.av.rows-c.spare.bC:=by rw[C]
 have ec:(dS c.config.av c.spare).aK=c.config.av.aK:=by rw[C]
 rw[er]at E;rw[ec]at b6;obtain⟨Y,k2,k3⟩:=ae7 F ⟨T,D⟩ ⟨U,E⟩;have hmul:=yG T D U E;have hM:=Nu (a:=aQ c.config.av) (b:=c.config.av.rows-c.spare.bC) (A:=8) (B:=16) hb.1 hb.2 (by omega) (by omega);unfold gf;generalize hA:wm (dS c.config.av c.spare) c.config.mapping l=A at *
 dsimp only;unfold vJ xI;have hw:W6 (c.config.av.rows-c.config.bC)=c.config.av.rows-c.spare.bC:=by rw[<-Z];exact aR
 have NF:W6 (A.az*(c.config.av.rows-c.spare.bC))=A.az*(c.config.av.rows-c.spare.bC):=aR;have hw2:W6 (A.az*(c.config.av.rows-c.spare.bC)+A.row)=A.az*(c.config.av.rows-c.spare.bC)+A.row:=aR;simp only[hw];rw[<-C,m2,aq];simp only[NF,hw2];rw[aD ⟨hmul.2.1,Y⟩,fQ,bQ Y,Option.getD_some]
def D1{c:eH}{p:dy}(hl:p.weights.length<1073741823)(h:lu c p=true):l5 c=true/\n7 p=true:=by
 have⟨b,e,D⟩:=Uq c p hl;have hb:b=true:=by
  rw[I3 c p hl]at e;simp_all
 subst hb;have C:=D rfl;refine⟨C,?_⟩;unfold qP at e;have⟨y,E⟩:=Up p.eK;simp[NK,NL _ hl,C]at e
 grind
structure Pq (c:ak):Prop where
 p:Pk c
 sp:jo c.config.av c.spare=true
 se:c.spare.bC=c.config.bC
 mo:aJ c.config.mapping.order 0 2=true
 q:∀r∈c.queue,(0<=r.line/\r.line<dW (dS c.config.av c.spare))/\(0<=r.dB/\r.dB<=3)/\(0<=r.at_/\r.at_<=1000000)
 ql:c.queue.length<=12
 pe:∀a∈c.pending,cZ c.config.av a=true
 pl:c.pending.length<=128
 rf:eO c.aX=true
 dl:(c.aX.aO.length:Int)=aQ c.config.av
 sh:gu c.shares=true
 shl:c.shares.length=4
 dr:l7 c.drain=true
 pw:jM c.aS=true
 ps:c.aS.state=c.aU.aS
 nw:0<=c.now/\c.now<=1000000
 cap:0<=c.box.bU.cap/\c.box.bU.cap<=100000
 dQ:yI c.box.bU.dQ=true
def Pq.of{c:ak}(D:dw c)(h:dx c=true):Pq c:=by
 have F:=Pk.of D h;have z1:c.box.bU.weights.length <= 1048576:=D.1.1;simp only[dx,aH]at h;have⟨I,h2,L,h4,h5,h6,O,T,C,E,U,pK,Y,Z,tU,qQ,Bj,DX,DY,I8,AJ,I9⟩:=h;have⟨f1,f2⟩:=D1 (by omega) I;simp only[l5,aH]at f1;simp only[n7,aH]at f2;have⟨f3,f4,f5,f6,f7,f8,f9⟩:=f2;simp only[q6,aH,fI,gi,oU,bW,eJ]at C;have⟨C,g1,g2,g3,g4,g5,g6⟩:=C;simp only[gZ,aH,bW,eJ,fY]at E;have⟨q1,q2⟩:=E;have sr:c.shares.length=4:=by
  grind
 refine⟨F,O,by simpa using T,f1.2.2.1,λr hr=>?_,by omega,λa ha=>?_,by omega,C,g1,U,sr,Y,Z,by simpa using tU,bq.1 L,bq.1 f4,f9⟩
 ·obtain⟨i,hi,rfl⟩:=iI.1 hr;have hb:=q1 i hi;unfold p6 at hb;rw[bQ hi]at hb;simp[n9,aH,fY]at hb;have⟨⟨k1,k2,k3,k4,k5,k6,k7⟩,_⟩:=hb;exact⟨⟨k3,k4⟩,bq.1 k2,bq.1 k7⟩
 ·obtain⟨i,hi,rfl⟩:=iI.1 ha;have hb:=g6 i hi;unfold yM at hb;simp_all
def D2(r:cB)(a:aG):Bool:=(jf r a.az).open_&&((jf r a.az).row==a.row)
def Bv(r:cB)(a:aG)(w:Bool):aC:=
 bif !(jf r a.az).open_ then ⟨1,a.az,a.row,0⟩else bif (jf r a.az).row != a.row then ⟨4,a.az,0,0⟩else bif w then ⟨3,a.az,0,a.bL⟩else ⟨2,a.az,0,a.bL⟩
def Jd{r:cB}{b:Int}(h:b.toNat<r.aB.length):jf r b=r.aB[b.toNat]:=by
 unfold jf;rw[fQ,bQ h];rfl
def UR{b:Int}{n:Nat}(C:0<=b)(h:b.toNat<n)(D:n<=1048576):aJ b 0 (W6 ((n:Int)-1))=true:=by
 rw[aR];exact bq.2 ⟨C,by omega⟩
def US{r:cB}{a:aG}(w:Bool)(C:0 <= a.az)(h:a.az.toNat<r.aB.length)(hl:r.aB.length <= 1048576):A6 r a w=some (Bv r a w):=by
 unfold A6 Bv xI;rw[eN,aq,UR C h hl,bR,aD ⟨C,h⟩,Jd h]
 grind
def ae8:yf=A6:=rfl
def auc{r:cB}{b:Int}(C:0 <= b)(h:b.toNat<r.aB.length)(hl:r.aB.length <= 1048576):Ng r b=some (bif (jf r b).open_ then (jf r b).row else -1):=by
 unfold Ng xI;rw[eN,aq,UR C h hl,bR,aD ⟨C,h⟩,Jd h]
 grind
def aud:Mf=Ng:=rfl
def ae9{r:cB}{a:aG}(D:0 <= a.row)(C:0 <= a.az)(h:a.az.toNat<r.aB.length)(hl:r.aB.length <= 1048576):G1 r a=some (D2 r a):=by
 unfold G1 D2;rw[aud,auc C h hl,aq,aq];cases (jf r _).open_ with
 |false=>simp_all
 | true=>
  rw[aj,cM];by_cases e:(jf r a.az).row=a.row
  ·rw[e,lJ,aj,je (by omega:¬ a.row = -1)]
  ·grind
def aue{g:aL}{r:cB}{a:aG}(w:Bool)(h:cZ g a=true):dU g (Bv r a w)=true:=by
 have⟨D,E,T,F,U,I,Y⟩:=qT h;have L:aJ _ 0 (aQ g-1)=true:=bq.2 ⟨E,by omega⟩;have C:aJ a.row 0 (g.rows-1)=true:=bq.2 ⟨F,by omega⟩;have O:aJ a.bL 0 (g.aK-1)=true:=bq.2 ⟨I,by omega⟩;unfold Bv dU sF;cases (jf r _).open_<;>cases (jf r _).row != a.row<;>cases w<;>simp[D,aJ,C]<;>simp[aJ,fY]at L C O<;>omega
def Je{g:aL}{k b:Int}(C:cy g=true)(D:k=4 \/ k=5)(hb:0 <= b/\b<aQ g):dU g ⟨k,b,0,0⟩=true:=by
 have E:aJ b 0 (aQ g-1)=true:=bq.2 ⟨hb.1,by omega⟩;unfold dU sF;rcases D with rfl|rfl<;>simp[C,aJ]<;>simp[aJ,fY]at E<;>omega
def auf{g:aL}{a:aG}(h:cZ g a=true):dU g ⟨1,a.az,a.row,0⟩=true:=by
 have⟨C,D,E,F,I,L,O⟩:=qT h;unfold dU sF;simp[C,aJ];omega
def afa{g:aL}{k:Int}(C:cy g=true)(D:6<=k/\k<=9):dU g ⟨k,0,0,0⟩=true:=by
 obtain⟨n,rfl⟩:=ff (show 0<=k by omega);have:n=6\/n=7\/n=8\/n=9:=by omega
 unfold dU;rw[C];rcases this with rfl|rfl|rfl|rfl<;>rfl
def D3(t:cg)(row:Int):ah Nat:=match t.rows.findIdx? (λe=>e==row)with
 |some i=>some i
 |none=>t.counts.findIdx? (λe=>e==t.ef)
def uj(t:cg)(row:Int):cg:=match t.rows.findIdx? (λe=>e==row)with
 |some i=>⟨t.rows,t.counts.set i (t.counts.getD i 0+1),t.ef⟩
 | none=>match t.counts.findIdx? (λe=>e==t.ef)with
  |some i=>⟨t.rows.set i row,t.counts.set i (t.ef+1),t.ef⟩
  |none=>⟨t.rows,t.counts,t.ef+1⟩
def yV(t:cg)(row cY:Int):cg×Bool:=bif ld t&&(aJ row 0 15&&aJ cY 2 1000)then (bif ld (uj t row)then (uj t row,match D3 t row with
    |some i=>((uj t row).counts.getD i 0).tmod cY==0
    |none=>false)else (t,false))else (t,false)
structure Tk (t:cg):Prop where
 rl:t.rows.length<=16
 cl:t.counts.length=t.rows.length
 sp:0<=t.ef/\t.ef<=100000
 cs:∀i (h:i<t.counts.length),0<=t.counts[i]/\t.counts[i]<=100000
def Tk.of{t:cg}(h:ld t=true):Tk t:=by
 simp[ld,aH,fI,bW,eJ]at h;have⟨D,F,C,E⟩:=h;have D:=bq.1 D;have C:=bq.1 C
 refine⟨by omega,by omega,C,λi hi=>?_⟩
 have hb:=E i (by omega);rw[NP (by omega) hi,aH,aH]at hb;have:=bq.1 hb.2.1;omega
def UT{T:Type}{p:T -> Bool}{l:aa T}{i:Nat}(h:l.findIdx? p=some i):∃ hi:i<l.length,p l[i]=true:=by
 have⟨hi,C,_⟩:=nh.1 h;simp_all
def aug{t:cg}(h:Tk t)(row:Int):Ms t row=some ((match D3 t row with | some i=>(i:Int) | none=>-1),(uj t row,())):=by
 have L:=h.rl;have O:=h.cl;have E:=Bg (step:=Hq) t.rows (λe=>e==row) (λi=>(((),row,(i:Int),()),(((),(),t.ef,()),t.rows,t.counts,()))) (λi=>.inl (((i:Int),()),(((),(),t.ef,()),t.rows,t.counts.set i (t.counts.getD i 0+1),()))) (.inr (.inl (((),row,()),(((),(),t.ef,()),t.rows,t.counts,())))) big (λk D=>by
  have C:k<t.counts.length:=by omega
  have F:=h.cs k C;unfold Hq ay aY xG xL;dsimp only;rw[aV,aj,aD ⟨by omega,by omega⟩,aD];simp only[bH];cases t.rows[k]==row with
  |false=>rw[au,au,bG]
  | true=>
   rw[ aD ⟨by omega,C⟩,aD C,aD ⟨by omega,C⟩,aD C,aR (n:=t.counts[k]+1),fQ,bQ C];rfl) (by
  unfold Hq ay aY xG xL;dsimp only;rw[bh,au]) (bM)
 have I:=Bg (step:=Hr) t.counts (λe=>e==t.ef) (λi=>(((),row,(i:Int),()),(((),(),t.ef,()),t.rows,t.counts,()))) (λi=>.inl (((i:Int),()),(((),(),t.ef,()),t.rows.set i row,t.counts.set i (t.ef+1),()))) (.inr (.inl (((),()),(((),(),t.ef,()),t.rows,t.counts,())))) big (λk D=>by
  have C:k<t.rows.length:=by omega
  have F:=h.sp;unfold Hr ay aY xG xL;dsimp only;rw[aV,aj,aD ⟨by omega,by omega⟩,aD];simp only[bH];cases t.counts[k]==t.ef with
  |false=>rw[au,au,bG]
  |true=>rw[aj,aj,aD ⟨by omega,C⟩,aD C,aD ⟨by omega,D⟩,aD D,aR]) (by
  unfold Hr ay aY xG xL;dsimp only;rw[bh,au]) (bM)
 have T:=h.sp;unfold Ms D3 uj bO
 refine(bu (λo=>Option.bind o _) E).trans ?_
 rw[aq];cases U:t.rows.findIdx? (λe=>e==row)with
 |some i=>rfl
 | none=>
  simp only[eR,Sum.elim_inr]
  refine(bu (λo=>Option.bind o _) I).trans ?_
  rw[aq];cases Y:t.counts.findIdx? (λe=>e==t.ef)with
  |some i=>rfl
  | none=>
   simp;rw[aR]
def afb{t:cg}(row:Int):(uj t row).rows.length=t.rows.length/\(uj t row).counts.length=t.counts.length:=by
 unfold uj
 grind
def auh{t:cg}(h:Tk t){row:Int}{i:Nat}(hi:D3 t row=some i):i<t.counts.length:=by
 have:=h.cl;unfold D3 at hi;split at hi
 next j C=>cases hi;have⟨D,_⟩:=UT C;omega
 ·exact(UT hi).1
def afc(t:cg)(D:kz t)(row cY:Int):Hs t row cY=some (yV t row cY):=by
 unfold Hs yV xL;rw[aeQ t D,aq,aen,aq];cases E:ld t with
 |false=>rfl
 | true=>
  have C:=Tk.of E;rw[bR,au,dK,aq,cM];cases L:aJ row 0 15 with
  |false=>rfl
  | true=>
   rw[bR,au,dK,aq,cM];cases F:aJ cY 2 1000 with
   |false=>rfl
   | true=>
    have hl:=bq.1 F;rw[bR,au,aj,aug C,aq,aen,aq];dsimp only;cases O:ld (uj t row)with
    |false =>simp_all
    | true=>
     rw[bR,au,aj];cases I:D3 t row with
     |none=>rfl
     | some i=>
      have hi:i<(uj t row).counts.length:=by rw[(afb row).2];exact auh C I
      grind
def Bw(k:Int):cg:=⟨List.replicate k.toNat (-1),List.replicate k.toNat 0,0⟩
def aui{k:Int}(h:aJ k 1 16=true):CU k=some (Bw k,true):=by
 have hb:=bq.1 h;obtain⟨n,rfl⟩:=ff (show 0 <= k by omega);unfold CU;rw[dK,aq,h,bR,aeG n (by omega),aq,bJ ⟨by omega,Int.le_refl _,by omega⟩];rfl
def yW(r:cW)(b:Int):cW:=bif decide (r.aO.getD b.toNat 0 = -2)then r else ⟨r.aO.set b.toNat (r.aO.getD b.toNat 0-1),r.wait,r.ei⟩
def N8{r:cW}(h:eO r=true):∀ x∈r.aO,-2 <= x/\x <= 5:=by
 simp[eO,aH,bW]at h;exact λx C=>bq.1 (h.1 x C)
def auj{r:cW}(h:eO r=true){b:Int}(D:0 <= b)(C:b.toNat<r.aO.length):∃ y,Mw r b=some (yW r b,y):=by
 have hl:=wh h;have I:=N8 h _ (cR C);have E:r.aO.getD b.toNat 0=r.aO[b.toNat]:=by rw[fQ,bQ C];rfl
 unfold Mw AN yW xI xL xA xZ;rw[cq (by simp;omega),aj,aq,NM _ (by omega),aq,h,bR,au,dK,aq,UR D C (by omega),bR,au,aD ⟨D,C⟩,E];dsimp only;by_cases F:r.aO[b.toNat] = -2
 ·simp_all
 ·rw[bh (show ¬ r.aO[b.toNat] <= -2 by omega),bh F,List.nil_append,aD ⟨D,C⟩,aD ⟨D,C⟩,aD C,aR];simp_all
def By(p:eU)(k now:Int):eU:=bif jM p&&aJ now p.since 1000000 then
 (bif (k==6)&&(p.state==0)then ⟨1,now,p.idle⟩else bif (k==8)&&(p.state==0)then ⟨2,now,p.idle⟩else bif (k==7)&&(p.state==1)then ⟨0,now,p.idle⟩else bif (k==9)&&(p.state==2)then ⟨0,now,p.idle⟩else p)else p
def N9(p:eU){k:Int}(C:6 <= k/\k <= 9)(now:Int):∃ y,Mz p k now=some (By p k now,y):=by
 unfold Mz By;simp[Ut,dK];have:k=6 \/ k=7 \/ k=8 \/ k=9:=by omega
 rcases this with rfl|rfl|rfl|rfl
 ·grind
 ·grind
 ·grind
 ·grind
def auk{T:Type}{p:T -> Bool}{l:aa T}{k:Nat}(h:l.findIdx? p=some k):l.filter (λx=>!p x)=l.take k++(l.drop (k+1)).filter (λx=>!p x):=by
 have⟨D,E,F⟩:=nh.1 h;have e:l=l.take k++l[k] :: l.drop (k+1):=by
  simp[*]
 have I:(l.take k).filter (λx=>!p x)=l.take k:=by
  rw[List.filter_eq_self];intro a C;obtain⟨i,hi,rfl⟩:=iI.1 C
  grind
 grind
def od(b:Int)(pd:aa aG)(n:Int):aa aG:=bif pd.any (jN ⟨b,n,0⟩)then pd else pd++[⟨b,n,0⟩]
def D4(c:ak)(t:aa cg)(C:aa Int)(pd:aa aG):ak:=⟨c.config,c.box,c.now,c.aU,c.ready,c.array,c.spare,c.aX,t,C,pd,c.queue,c.shares,c.drain,c.aS,c.cJ,c.errors,c.trace,c.bY⟩
def aul{T:Type}(p:T -> Bool)(l:aa T):decide (kY p l<0) = !l.any p/\decide (kY p l >= 0)=l.any p:=by
 unfold kY
 grind
def UU(b:Int):∀ (ns:aa Int) (pd:aa aG),(ns.foldl (od b) pd).length <= pd.length+ns.length
 |[],pd=>c9 _
 | n :: ns,pd=>by
  have:=UU b ns (od b pd n);have C:(od b pd n).length <= pd.length+1:=by
   unfold od
   grind
  grind
def aum{T U:Type}(f:U->T->U)(l:aa T)(u:U){k:Nat}(h:k<l.length):(l.take (k+1)).foldl f u=f ((l.take k).foldl f u) l[k]:=by
 rw[List.take_add_one,bQ h,List.foldl_append];rfl
def aun(c:ak)(x:aC)(ns:aa Int)(C:ns.length <= 1000)(D:c.pending.length <= 1000):iter sw big (((),(),true,(),(0:Int),()),(c,(x.kind,x.az,x.row,x.bL,()),ns,()))=some (.inl ((),(D4 c c.bI c.guard (ns.foldl (od x.az) c.pending),()))):=by
 have e:=dn (step:=sw) _ (λi=>(((),(),true,(),i,()),(D4 c c.bI c.guard ((ns.take i).foldl _ _),(x.kind,x.az,x.row,x.bL,()),ns,()))) _ big (λk h=>by
  have hl:=UU x.az (ns.take k) c.pending;rw[fX]at hl;rw[aum _ _ _ h];generalize (ns.take k).foldl (od x.az) c.pending=pd at hl;unfold sw od D4 ay xG xL;dsimp only;rw[aV,aj,aj,aD ⟨by omega,by omega⟩,aD];simp only[bH];rw[aet _ _ (by omega),aq,(aul _ _).1,bG,cq (by simp;omega)];cases pd.any (jN ⟨x.az,ns[k],0⟩)<;>rfl) (by
  unfold sw D4 ay xG xL;dsimp only;rw[bh,au]) (bM)
 rw[ kC]at e;exact e
def auo(c:ak)(x:aC)(ns:aa Int):iter sw big (((),(),false,(),(0:Int),()),(c,(x.kind,x.az,x.row,x.bL,()),ns,()))=some (.inl ((),(c,()))):=by
 have e:=dn (step:=sw) 0 (λi=>(((),(),false,(),i,()),(c,(x.kind,x.az,x.row,x.bL,()),ns,()))) _ big (λk h=>by omega) (by
  unfold sw ay xG xL;cases decide ((0:Int)<ns.length)<;>rfl) (bM)
 simp_all
def zT:cg:=⟨[],[],0⟩
def sL(c:ak)(x:aC):cg×Bool:=yV (c.bI.getD x.az.toNat zT) x.row (c.guard.getD x.az.toNat 0)
def oK(c:ak)(x:aC):aa aG:=c.pending.filter (λa=>!jN ⟨x.az,x.row,0⟩ a)
def wo(c:ak)(x:aC):ak:=
 D4 (en c (yQ c.config.av c.config.ew c.array x.az x.row)) (c.bI.set x.az.toNat (sL c x).1) c.guard (bif (sL c x).2 then (q7 c.config.av.rows x.row).foldl (od x.az) (oK c x)else oK c x)
def oL{T:Type}{l:aa T}{i:Nat}(d:T)(h:i<l.length):l.getD i d=l[i]:=by
 rw[fQ,bQ h];rfl
def afd(R r:Int):(q7 R r).length <= 2:=by
 unfold q7
 grind
def UW{T:Type}(p:T->Bool)(l:aa T):(l.filter p).length<=l.length:=List.length_filter_le p l
def uk(l:aa aG):Prop:=∀i (h:i<l.length),(l.take i).any (jN l[i])=false
def Jf{a b:aG}:jN a b=true ↔ a=b:=by
 have⟨C,a2,a3⟩:=a;have⟨D,E,F⟩:=b;simp[jN,aH,fI,and_true,aG.mk.injEq]
 grind
def uk.cut{l:aa aG}(h:uk l){a:aG}{k:Nat}(C:l.findIdx? (jN a)=some k):l.take k++l.drop (k+1)=l.filter (λx=>!jN a x):=by
 have⟨I,D,L⟩:=nh.1 C;rw[auk C];congr 1;symm;rw[List.filter_eq_self];intro x E;obtain⟨i,hi,rfl⟩:=iI.1 E;rw[List.length_drop]at hi;rw[List.getElem_drop];cases F:jN a _ with
 |false=>rfl
 | true=>
  have O:=Jf.1 F;have T:=Jf.1 D;have:=List.any_eq_false.1 (h (k+1+i) (by omega)) l[k] (iI.2 ⟨k,by rw[fX];omega,by rw[List.getElem_take]⟩);simp_all
def aup{B:Int}(c:ak)(x:aC)(F:cy c.config.av=true)(ha:fe c.config.av B c.array)(hp:c.pending.length <= 200)(hu:uk c.pending)(I:∀ t∈c.bI,kz t)(D:0 <= x.az)(h2:x.az<aQ c.config.av)(L:0 <= x.row)(O:x.row<c.config.av.rows)(C:x.az.toNat<c.bI.length)(E:x.az.toNat<c.guard.length):Mt c x=some ((),(wo c x,())):=by
 have⟨_,_,_,_,g5,g6,g7,g8⟩:=fE F;have T:=aeX F c.config.ew c ha D h2 L O;have e2:=aet c.pending ⟨x.az,x.row,0⟩ (by omega);have hf:(oK c x).length <= c.pending.length:=List.length_filter_le _ _;have rG:=afd c.config.av.rows x.row;have U:Tl c.config.av.rows x.row=some (q7 c.config.av.rows x.row):=as0 (by omega) (by omega) L O;simp only[en]at T;unfold Mt xA aZ xL xM xZ
 refine(bu (λo=>Option.bind o _) T).trans ?_
 rw[aq];dsimp only
 refine(bu (λo=>Option.bind o _) e2).trans ?_
 rw[aq];have Y:∀ pd:aa aG,pd=oK c x -> ∀ t:cg×Bool,t=sL c x -> (iter sw big (((),(),t.2,(),(0:Int),()),((⟨c.config,c.box,c.now,c.aU,c.ready,yQ c.config.av c.config.ew c.array x.az x.row,c.spare,c.aX,(c.bI.set x.az.toNat t.1),c.guard,pd,c.queue,c.shares,c.drain,c.aS,c.cJ,c.errors,c.trace,c.bY⟩:ak),(x.kind,x.az,x.row,x.bL,()),q7 c.config.av.rows x.row,()))).bind (Sum.elim (λHu=>some ((),(Hu.2.1,()))) (λz=>nomatch z))=some ((),(wo c x,())):=by
  rintro pd rfl ⟨t1,t2⟩ C;unfold wo;rw[<- C];cases t2 with
  | false=>
   refine(bu (λo=>Option.bind o _) (auo _ x _)).trans ?_
   rfl
  | true=>
   refine(bu (λo=>Option.bind o _) (aun _ x _ (by omega) (by dsimp only;omega))).trans ?_
   rfl
 have Z:sL c x=yV (c.bI[x.az.toNat]'C) x.row (c.guard[x.az.toNat]'E):=by
  unfold sL;simp[*]
 unfold kY;cases hi:c.pending.findIdx? (jN ⟨x.az,x.row,0⟩)with
 | none=>
  have e:oK c x=c.pending:=by
   unfold oK;rw[List.filter_eq_self];simp_all
  dsimp only;rw[bh,au,aD ⟨D,C⟩,aD C,aD ⟨D,E⟩,aD E,aD C,aD C];rw[afc _ (I _ (cR C)),aq,aD ⟨D,C⟩,aD C,U,aq];exact Y _ e.symm _ Z.symm
 | some k=>
  have⟨k1,Lo,hq⟩:=nh.1 hi;have e:=hu.cut hi;dsimp only;rw[aV,aj,bG,bJ ⟨by omega,by omega,by omega⟩,bJ ⟨by omega,by omega,by omega⟩];simp only[bH,Int.toNat_zero,List.drop_zero,List.nil_append,kC];rw[cq (by simp;omega),aj,cq (by simp;omega),aj,aD ⟨D,C⟩,aD C,aD ⟨D,E⟩,aD E,aD C,aD C];rw[afc _ (I _ (cR C)),aq,aD ⟨D,C⟩,aD C,U,aq];exact Y _ e _ Z.symm
def yX{U:Type}(f:U->Nat->U)(u:U)(k:Nat):(List.range (k+1)).foldl f u=f ((List.range k).foldl f u) k:=by
 rw[List.range_succ,List.foldl_append];rfl
def wq(g:aL)(l:lM)(a:dh)(b:Int)(n:Nat):dh:=(List.range n).foldl (λa (r:Nat)=>yQ g l a b (r:Int)) a
def Jg{g:aL}(C:cy g=true)(l:lM){B:Int}(hB:0<=B){a:dh}(D:fe g B a){b:Int}(E:0<=b)(F:b<aQ g):∀ n:Nat,(n:Int)<=g.rows->fe g B (wq g l a b n)
 |0,_=>D
 | n+1,h=>by
  unfold wq;rw[yX];exact UJ C l hB (Jg C l hB D E F n (by omega)) E F (by omega) (by omega)
def auq{B:Int}(hB:0 <= B)(c:ak)(C:cy c.config.av=true)(I:fe c.config.av B c.array){b:Int}(D:0 <= b)(E:b<aQ c.config.av):Tp c.config.av c.config.ew c b=some ((),(en c (wq c.config.av c.config.ew c.array b c.config.av.rows.toNat),())):=by
 have⟨_,_,_,_,g5,g6,g7,g8⟩:=fE C;have e:=dn (step:=Hw) c.config.av.rows.toNat (λi=>(((),b,(),(),i,()),(en c _,(c.config.av.bX,c.config.av.aB,c.config.av.rows,c.config.av.aK,()),(c.config.ew.bD,c.config.ew.bz,()),()))) _ big (λk h=>by
  have F:=aeX C c.config.ew (en c (wq c.config.av c.config.ew c.array b k)) (Jg C c.config.ew hB I D E k (by omega)) D E (show 0 <= (k:Int) by omega) (by omega);simp only[en]at F;unfold Hw en ay xG;dsimp only;rw[aV,aj,F,aq,bG];dsimp only;unfold wq;rw[yX]) (by
  unfold Hw en ay xG;dsimp only;rw[bh,au]) (bM)
 refine(bu (λo=>Option.bind o _) e).trans ?_
 rfl
def Jh(c:ak)(b:Int)(pd:aa aG):ak:=
 D4 (en c (wq c.config.av c.config.ew c.array b c.config.av.rows.toNat)) (c.bI.set b.toNat (Bw c.config.ic)) (c.guard.set b.toNat c.box.bU.eK) pd
def aur(c:ak)(b:Int)(D:c.pending.length <= 1000):iter Dg big (((),b,(),(0:Int),()),(c,([]:aa aG),()))=some (.inl (((),(),()),(c,c.pending.filter (λa=>!(a.az==b)),()))):=by
 have e:=dn (step:=Dg) c.pending.length (λi=>(((),b,(),(i:Int),()),(c,(c.pending.take i).filter (λa=>!(a.az==b)),()))) (.inl (((),(),()),(c,(c.pending.take c.pending.length).filter (λa=>!(a.az==b)),()))) big (λk h=>by
  have hl:=UW (λa:aG=>!(a.az==b)) (c.pending.take k);rw[fX]at hl;have C:c.pending.take (k+1)=c.pending.take k++[c.pending[k]]:=by rw[List.take_add_one,bQ h];rfl
  rw[C,List.filter_append];generalize (c.pending.take k).filter (λa=>!(a.az==b))=ls at hl;unfold Dg ay xG xL;dsimp only;rw[aV,aj,aD ⟨by omega,by omega⟩,aD];simp only[bH];rw[bG,bne];cases hb:c.pending[k].az==b with
  |true=>rw[List.filter_cons_of_neg (by simp[hb])];simp
  | false=>
   rw[ju,aD ⟨by omega,by omega⟩,aD,cq (by simp;omega),List.filter_cons_of_pos (by simp[hb])];rfl) (by
  unfold Dg ay xG xL;dsimp only;rw[bh,au]) (bM)
 rw[cH,kC]at e;exact e
def afe{B:Int}(hB:0 <= B)(c:ak)(I:cy c.config.av=true)(L:fe c.config.av B c.array)(O:aJ c.config.ic 1 16=true)(U:c.pending.length <= 200){b:Int}(C:0 <= b)(T:b<aQ c.config.av)(D:b.toNat<c.bI.length)(E:b.toNat<c.guard.length):Hx c b=some ((),(Jh c b (c.pending.filter (λa=>!(a.az==b))),())):=by
 have F:=auq hB c I L C T;simp only[en]at F;unfold Hx aZ xL
 refine(bu (λo=>Option.bind o _) F).trans ?_
 rw[aq];rw[aui O,aq,aD ⟨C,D⟩,aD D,aD ⟨C,E⟩,aD E]
 refine(bu (λo=>Option.bind o _) (aur _ b (by dsimp only;omega))).trans ?_
 rfl
def lF(c:ak)(k:Nat)(pd:aa aG):ak:=
 ⟨c.config,c.box,c.now,c.aU,c.ready,(List.range k).foldl (λa (b:Nat)=>wq c.config.av c.config.ew a (b:Int) c.config.av.rows.toNat) c.array,c.spare,⟨(List.range k).foldl (λd b=>d.set b 0) c.aX.aO,c.aX.wait,c.aX.ei⟩,(List.range k).foldl (λd b=>d.set b (Bw c.config.ic)) c.bI,(List.range k).foldl (λd b=>d.set b c.box.bU.eK) c.guard,pd,c.queue,c.shares,c.drain,c.aS,c.cJ,c.errors,c.trace,c.bY⟩
def wu{T:Type}(x:T)(l:aa T):∀ k:Nat,((List.range k).foldl (λd b=>d.set b x) l).length=l.length
 |0=>rfl
 |k+1=>by rw[yX,js,wu x l k]
def Oa{g:aL}(C:cy g=true)(l:lM){B:Int}(hB:0 <= B){a:dh}(D:fe g B a):∀ k:Nat,(k:Int) <= aQ g -> fe g B ((List.range k).foldl (λa (b:Nat)=>wq g l a (b:Int) g.rows.toNat) a)
 |0,_=>D
 | k+1,h=>by
  have⟨_,_,_,_,g5,g6,g7,g8⟩:=fE C;rw[yX];exact Jg C l hB (Oa C l hB D k (by omega)) (by omega) (by omega) _ (by omega)
structure wz (B:Int) (c:ak):Prop where
 hB:0<=B
 g:cy c.config.av=true
 a:fe c.config.av B c.array
 k:aJ c.config.ic 1 16=true
 p:c.pending.length<=200
 t:(c.bI.length:Int)=aQ c.config.av
 d:(c.guard.length:Int)=aQ c.config.av
 r:(c.aX.aO.length:Int)=aQ c.config.av
def wz.UX{B:Int}{c:ak}(h:wz B c)(k:Nat)(C:(k:Int)<=aQ c.config.av)(pd:aa aG)(D:pd.length<=200):wz B (lF c k pd):=
 ⟨h.hB,h.g,Oa h.g c.config.ew h.hB h.a k C,h.k,D,(bu (λn:Nat=>(n:Int)) (wu _ _ k)).trans h.t,(bu (λn:Nat=>(n:Int)) (wu _ _ k)).trans h.d,(bu (λn:Nat=>(n:Int)) (wu _ _ k)).trans h.r⟩
def aus(c:ak)(k:Nat)(pd C:aa aG):lF c (k+1) C=⟨c.config,c.box,c.now,c.aU,c.ready,(Jh (lF c k pd) (k:Int) C).array,c.spare,⟨(lF c k pd).aX.aO.set k 0,c.aX.wait,c.aX.ei⟩,(Jh (lF c k pd) (k:Int) C).bI,(Jh (lF c k pd) (k:Int) C).guard,C,c.queue,c.shares,c.drain,c.aS,c.cJ,c.errors,c.trace,c.bY⟩:=by
 unfold lF;simp only[yX];rfl
def oM(pd:aa aG):Nat->aa aG
 |0=>pd
 |k+1=>(oM pd k).filter (λa=>!(a.az==(k:Int)))
def aff(pd:aa aG):∀ k,(oM pd k).length<=pd.length
 |0=>c9 _
 |k+1=>Nat.le_trans (UW _ _) (aff pd k)
def afg(pd:aa aG){a:aG}:∀ k,a∈oM pd k -> a∈pd /\ ∀ b:Nat,b<k -> a.az≠(b:Int)
 |0,h=>⟨h,λb hb=>by omega⟩
 | k+1,h=>by
  have⟨C,D⟩:=List.mem_filter.1 h;have⟨E,F⟩:=afg pd k C
  grind
def aut{pd:aa aG}{k:Nat}(h:∀ a∈pd,0 <= a.az/\a.az<(k:Int)):oM pd k=[]:=by
 rw[List.eq_nil_iff_forall_not_mem];intro a C;have⟨D,E⟩:=afg pd k C;have:=h a D;exact E a.az.toNat (by omega) (by omega)
def auu{B:Int}{c:ak}(h:wz B c)(Y:c.aU.aB.length=c.bI.length)(E:∀ a∈c.pending,0<=a.az/\a.az<aQ c.config.av):iter AQ big (((),(0:Int),()),(c,()))=some (.inl ((),(lF c c.bI.length [],()))):=by
 have Z:=fy c.config.av;have htr:=h.t;have e:=dn (step:=AQ) c.bI.length (λi=>(((),(i:Int),()),(lF c i (oM c.pending i),()))) (.inl ((),(lF c c.bI.length (oM c.pending c.bI.length),()))) big (λk hk=>by
  have C:=h.UX k (by omega) (oM c.pending k) (Nat.le_trans (aff _ _) h.p);have w1:=C.t;have F:=C.d;have I:=C.r;have D:aQ (lF c k (oM c.pending k)).config.av=aQ c.config.av:=rfl;rw[D]at w1 F I;have L:=afe C.hB _ C.g C.a C.k C.p (b:=(k:Int)) (by omega) (by rw[D];omega) (by omega) (by omega);rw[aus c k (oM c.pending k) (oM c.pending (k+1))];unfold AQ ay xG xL;dsimp only;rw[aV (by show (k:Int)<((c.aU.aB.length:Nat):Int);omega),aj,L,aq,bG];rw[aD ⟨by omega,by show (k:Int).toNat<(lF c k (oM c.pending k)).aX.aO.length;omega⟩,aD (by show (k:Int).toNat<(lF c k (oM c.pending k)).aX.aO.length;omega)];rfl) (by
  unfold AQ ay xG xL;dsimp only;rw[bh (by show ¬ ((c.bI.length:Nat):Int)<((c.aU.aB.length:Nat):Int);omega),au]) (bM)
 have O:oM c.pending c.bI.length=[]:=aut (λa T=>by have:=E a T;omega);have U:lF c 0 (oM c.pending 0)=c:=rfl;rw[cH,O,U]at e;exact e
def wv(l:aa Int):Nat->Int
 |0=>0
 |i+1=>bits .or .i64 (wv l i) (W6 (l.getD i 0*2 ^ (min (4*(i:Int)).toNat IntKind.i64.bits)))
def auv{l:aa Int}(h:l.length=8)(C:∀ s∈l,0 <= s/\s <= 15):qW l 8=true:=by
 simp[qW,aH,bW,ua,bq];simp_all
def auw{l:aa Int}(h:l.length=8)(D:∀ s∈l,0<=s/\s<=15):LY l=some (wv l 8,true):=by
 unfold LY aZ;rw[Ny _ _ (by omega),auv h D,aq];have e:=dn (step:=GH) 8 (λi=>((l,wv l i,(i:Int),()),())) (.inl ((wv l 8,()),())) big (λi hi=>by
  have C:i<l.length:=by omega
  have E:W6 (4*(i:Int))=4*(i:Int):=aR;have F:IntKind.u64.wrap (4*(i:Int))=4*(i:Int):=aeH (by omega) (by omega);have I:¬ 4*(i:Int)<0:=by omega
  have L:l.getD i 0=l[i]:=by rw[fQ,bQ C];rfl
  have O:wv l (i+1)=bits .or .i64 (wv l i) (W6 (l.getD i 0*2 ^ (min (4*(i:Int)).toNat IntKind.i64.bits))):=rfl;unfold GH ay xG xI;rw[O,L];simp (disch:=omega) [C,E,F,I,bG]) (by unfold GH ay xG xI;simp[h]) (bM)
 rw[cH]at e;simp only[bR,au];have T:wv l 0=0:=rfl;rw[T]at e;rw[e];rfl
def auy{w:aa Nat}(D:dj w)(hl:w.length=11):LZ (aW w)=some (aW (w.drop 3)):=by
 have E:=(IM D hl).ok;have hlen:(aW w).length=11:=by rw[gX,hl]
 have C:(aW w).drop 3=aW (w.drop 3):=by simp
 unfold LZ xA xZ;rw[Ny _ _ (by rw[gX];omega),E];generalize aW w=W at hlen C ⊢;rw[<- C];have F:W.take 11=W:=by rw[<- hlen,kC]
 simp[hlen,aT,F]
def auz{w:aa Nat}(D:dj w)(hl:w.length=11):(aW (w.drop 3)).length=8 /\ ∀ s∈aW (w.drop 3),0 <= s/\s <= 15:=by
 refine⟨by rw[gX];simp[hl],λs C=>?_⟩
 simp only[ List.mem_map]at C;obtain⟨x,E,rfl⟩:=C;have:=D x (List.mem_of_mem_drop E);omega
def D5(w:aa Nat):Int:=bif (gC w).2.1==2 then 0 else wv (aW ((gC w).1.drop 3)) 8
def auA{w:aa Nat}(C:dj w)(hl:w.length=11):L0 (aW w)=some (D5 w,(gC w).2.1,(gC w).2.2):=by
 have⟨D,E,_⟩:=I2 C hl;have⟨d1,d2⟩:=auz E D;unfold L0 D5;rw[atg C hl,aq];cases h:(gC w).2.1==2 with
 |true=>simp
 | false=>
  rw[ auy E D,aq,auw d1 d2];rfl
def nw(c:bV):aa Nat:=c.symbols.map Int.toNat
def UY{c:bV}(h:Sy c.symbols):aW (nw c)=c.symbols/\dj (nw c)/\(nw c).length=11:=by
 have⟨C,D⟩:=Ub _ h.2;exact⟨C,D,by simp[nw,h.1]⟩
def mY(c:bV):Int:=bif c.ia then 2 else (gC (nw c)).2.1
def um(c:bV):bV:=bif c.ia then c else bif (gC (nw c)).2.1==1 then ⟨aW (gC (nw c)).1,c.ia⟩else bif (gC (nw c)).2.1==2 then ⟨c.symbols,true⟩else c
def auB{l:aa bV}{j:Nat}(h:j<l.length):l.set j l[j]=l:=List.set_getElem_self h
def UZ{c:bV}(h:Sy c.symbols):Sy (um c).symbols:=by
 have⟨I,C,D⟩:=UY h;have⟨E,F,_⟩:=I2 C D;unfold um;cases c.ia with
 |true=>exact h
 | false=>
  cases (gC _).2.1==1 with
  |true=>exact IM F E
  |false=>grind
def D6(x:Int)(k:Nat):Int:=bits .and .i64 (x.fdiv (2 ^ (min (4*(k:Int)).toNat IntKind.i64.bits))) 15
def jg(x:Int):Nat->aa Int
 |0=>[]
 |k+1=>jg x k++[D6 x k]
def Ji(x:Int):∀ k,(jg x k).length=k
 |0=>rfl
 |k+1=>by simp[jg,Ji x k]
def U0(x:Int):∀ k,∀ s∈jg x k,0<=s/\s<=15
 |0,s,h=>by cases h
 | k+1,s,h=>by
  rcases List.mem_append.1 h with h|h
  ·exact U0 x k s h
  ·rw[ng.1 h];exact as2 _
def auC{x:Int}(T:0<=x)(U:x<=4294967295):L1 x=some (jg x 8):=by
 have C:aJ x 0 4294967295=true:=by rw[bq];omega
 unfold L1 aZ;have e:=dn (step:=GJ) 8 (λk=>((x,(),(k:Int),()),(jg x k,()))) (.inl (((),()),(jg x 8,()))) big (λk Y=>by
  have D:(k:Int)<8:=by omega
  have E:aT ((jg x k).length+1)=true:=cq (by rw[Ji];omega);have F:W6 (4*(k:Int))=4*(k:Int):=aR;have I:IntKind.u64.wrap (4*(k:Int))=4*(k:Int):=aeH (by omega) (by omega);have L:¬ 4*(k:Int)<0:=by omega
  unfold GJ Gl ay xG;simp (disch:=omega) [D,dK,C,F,I,L,E,bG,jg,D6]) (by
  unfold GJ ay xG;simp) (bM)
 rw[cH]at e;have O:jg x 0=[]:=rfl;rw[O]at e;rw[e];rfl
def auD{x:Int}(O:0<=x)(T:x<=4294967295):TU x=some (jg x 8):=by
 have C:aJ x 0 4294967295=true:=by rw[bq];omega
 unfold TU tO aZ;rw[eN,aq,aq,C,bR,au];have e:=dn (step:=Nn) 8 (λk=>((x,(),(k:Int),()),(jg x k,()))) (.inl (((),()),(jg x 8,()))) big (λk U=>by
  have D:(k:Int)<8:=by omega
  have E:aT ((jg x k).length+1)=true:=cq (by rw[Ji];omega);have F:W6 (4*(k:Int))=4*(k:Int):=aR;have I:¬ 4*(k:Int)<0:=by omega
  unfold Nn ay xG;simp (disch:=omega) [D,F,I,E,bG,jg,D6]) (by
  unfold Nn ay xG;simp) (bM)
 rw[cH]at e;have L:jg x 0=[]:=rfl;rw[L]at e;rw[e];rfl
def afh:(jL λx=>jL λy=>jL λz=>(λC D E=>Nat.beq (gm (gm 2 (C ^^^ D) ^^^ gm 5 (C ^^^ E)) 13) y&&(Nat.beq (gm (gm 3 (C ^^^ E) ^^^ gm 5 (C ^^^ D)) 13) z&&Nat.beq (C ^^^ (y ^^^ z)) x)) (gm x (pw 0) ^^^ (gm y (pw 0) ^^^ gm z (pw 0))) (gm x (pw 0) ^^^ (gm y (pw 1) ^^^ gm z (pw 2))) (gm x (pw 0) ^^^ (gm y (pw 2) ^^^ gm z (pw 4))))=true:=by kernel_rfl
def auE{x y z:Nat}{d:aa Nat}(j:Nat):bP (x :: y :: z :: d) j 11=(gm x (pw (0*j)) ^^^ (gm y (pw (1*j)) ^^^ gm z (pw (2*j)))) ^^^ bP (0 :: 0 :: 0 :: d) j 11:=by
 simp[bP,List.getD_cons_zero,List.getD_cons_succ,Nat.xor_assoc,Nat.zero_xor,Nw (sA _)]
def D7{a b:Nat}(h:a ^^^ b=0):a=b:=by
 have C:(a ^^^ b) ^^^ b=0 ^^^ b:=by rw[h]
 grind
def afi{w v:aa Nat}(F:dj w)(I:dj v)(lw:w.length=11)(lv:v.length=11)(L:w.drop 3=v.drop 3)(Z:mU w=true)(zv:mU v=true):w=v:=by
 obtain⟨x,y,z,d,rfl⟩:∃ x y z d,w=x :: y :: z :: d:=by
  match w,lw with
  |x::y::z::d,_=>simp_all
 obtain⟨C,D,E,d',rfl⟩:∃ x y z d,v=x :: y :: z :: d:=by
  match v,lv with
  |x::y::z::d,_=>simp_all
 have L:d=d':=L;subst L;simp only[mU,aH]at Z zv;have⟨w0,w1,O⟩:=Z;have⟨T,U,Y⟩:=zv;rw[auE]at w0 w1 O T U Y;have w0:gm x (pw 0) ^^^ (gm y (pw 0) ^^^ gm z (pw 0))=bP (0::0::0::d) 0 11:=D7 (cv w0);have w1:gm x (pw 0) ^^^ (gm y (pw 1) ^^^ gm z (pw 2))=bP (0::0::0::d) 1 11:=D7 (cv w1);have O:gm x (pw 0) ^^^ (gm y (pw 2) ^^^ gm z (pw 4))=bP (0::0::0::d) 2 11:=D7 (cv O);have T:gm C (pw 0) ^^^ (gm D (pw 0) ^^^ gm E (pw 0))=bP (0::0::0::d) 0 11:=D7 (cv T);have U:gm C (pw 0) ^^^ (gm D (pw 1) ^^^ gm E (pw 2))=bP (0::0::0::d) 1 11:=D7 (cv U);have Y:gm C (pw 0) ^^^ (gm D (pw 2) ^^^ gm E (pw 4))=bP (0::0::0::d) 2 11:=D7 (cv Y);have m:∀{l:aa Nat} {n:Nat},dj l -> n∈l -> n<16:=λh hn=>h _ hn
 have k1:=iy (iy (iy afh (m F (n:=x) (by simp))) (m F (n:=y) (by simp))) (m F (n:=z) (by simp));have k2:=iy (iy (iy afh (m I (n:=C) (by simp))) (m I (n:=D) (by simp))) (m I (n:=E) (by simp));simp_all
def afj(w r:aa Nat):∀ k,k<=3->(oF w r k).drop 3=w.drop 3
 |0,_=>rfl
 | k+1,h=>by
  show (List.set _ _ _).drop 3=_;rw[List.drop_set_of_lt (by omega),afj w r k (by omega)]
def U1{a b:aa Nat}(h:aW a=aW b):a=b:=(List.map_inj_right (λx y h=>by
 omega)).1 h
def auF{d:aa Nat}(D:dj d)(hl:d.length=8):∃ w,yb (aW d)=some (aW w)/\w.length=11/\dj w/\w.drop 3=d/\mU w=true:=by
 have E:dj (0 :: 0 :: 0 :: d):=by
  intro x hx;simp only[fH]at hx;rcases hx with rfl|rfl|rfl|hx
  ·decide
  ·decide
  ·decide
  ·exact D x hx
 have C:(0::0::0::d).length=11:=by simp[hl]
 obtain⟨w,e,F,I,L,O,T⟩:=arD D hl;refine⟨w,e,F,I,?_,by simp[mU,L,O,T]⟩;have U:yb (aW d)=some (aW (oF (0 :: 0 :: 0 :: d) (out (0 :: 0 :: 0 :: d) 8) 3)):=by
  unfold yb xA aZ xZ;have c0:((d.length:Int)==(8:Int))=true:=by rw[hl];rfl
  have Y:aT ((List.replicate (3:Int).toNat (0:Int)).length+(aW d).length)=true:=by
   rw[gX,hl];rfl
  have Z:aT (([]:aa Int).length+(aW (0 :: 0 :: 0 :: d)).length)=true:=by
   rw[gX,C];rfl
  have c3:W6 (((aW (0 :: 0 :: 0 :: d)).length:Int)-(1:Int))=10:=by
   rw[gX,C];rfl
  have eW:List.replicate (3:Int).toNat (0:Int)++aW d=aW (0::0::0::d):=rfl;rw[adT D (by omega),aq,c0,show (!true)=false from rfl,au,bJ (by decide),Y,aj,eW,adS,aq,eR];dsimp only;rw[List.nil_append,Z,aj,c3,adU E C,aq,eR];dsimp only;rw[ad0 C (by rw[Ba,C]),aq,eR]
 rw[U]at e;injection e with e;rw[<-U1 e,afj _ _ 3 (c9 _)];rfl
def Bz(x:Int):aa Int:=(Iz x).getD []
def Ob{x:Int}(E:0 <= x)(F:x <= 4294967295):Iz x=some (Bz x)/\Sy (Bz x) /\ ∃ w,Bz x=aW w/\w.length=11/\dj w/\aW (w.drop 3)=jg x 8/\mU w=true:=by
 have I:aJ x 0 4294967295=true:=by rw[bq];omega
 have⟨t1,t2⟩:=Ub _ (U0 x 8);have tl:((jg x 8).map Int.toNat).length=8:=by rw[eE,Ji]
 have⟨w,C,l1,d1,L,O,T,U⟩:=aru t2 tl;have Y:mU w=true:=by simp[mU,O,T,U]
 rw[t1]at C;have D:Iz x=some (aW w):=by
  unfold Iz tO;rw[eN,aq,aq,I,bR,au,auD E F,aq,C,aq]
 have Z:Bz x=aW w:=by unfold Bz;rw[D];rfl
 rw[Z];exact⟨D,IM d1 l1,w,rfl,l1,d1,by rw[L,t1],Y⟩
def afk{x:Int}(C:0 <= x)(D:x <= 4294967295):C1 x=some (Bz x):=by
 have⟨t1,t2⟩:=Ub _ (U0 x 8);have tl:((jg x 8).map Int.toNat).length=8:=by rw[eE,Ji]
 have⟨_,_,w,F,l1,d1,I,L⟩:=Ob C D;have⟨v,E,l2,d2,O,z2⟩:=auF t2 tl;have T:=afi d1 d2 l1 l2 (by rw[O];exact U1 (by rw[I,t1])) L z2;subst T;rw[t1]at E;unfold C1;rw[auC C D,aq,E,aq,F]
def auG{a b:Nat}(E:a<9223372036854775808)(hb:b<9223372036854775808):bits .or .i64 (a:Int) (b:Int)=((a ||| b:Nat):Int):=by
 have e:bits .or .i64 (a:Int) (b:Int)=W6 ((BitVec.ofInt 64 (a:Int) |||BitVec.ofInt 64 (b:Int)).toNat:Int):=rfl;have h:a |||b<2 ^ 63:=Nat.or_lt_two_pow (by omega) (by omega);have C:BitVec.ofInt 64 (a:Int)=BitVec.ofNat 64 a:=BitVec.ofInt_natCast 64 a;have D:BitVec.ofInt 64 (b:Int)=BitVec.ofNat 64 b:=BitVec.ofInt_natCast 64 b;rw[e,C,D,BitVec.toNat_or,BitVec.toNat_ofNat,BitVec.toNat_ofNat,Nat.mod_eq_of_lt (by omega),Nat.mod_eq_of_lt (by omega),aR]
def auH(a:Nat)(F:a<9223372036854775808):bits .and .i64 (a:Int) 15=((a % 16:Nat):Int):=by
 have e:bits .and .i64 (a:Int) 15=W6 ((BitVec.ofInt 64 (a:Int) &&& BitVec.ofInt 64 15).toNat:Int):=rfl;have C:BitVec.ofInt 64 (a:Int)=BitVec.ofNat 64 a:=BitVec.ofInt_natCast 64 a;have D:(BitVec.ofInt 64 15).toNat=15:=rfl;have E:a &&& 15=a % 16:=Nat.and_two_pow_sub_one_eq_mod a 4;rw[e,C,BitVec.toNat_and,BitVec.toNat_ofNat,Nat.mod_eq_of_lt (by omega),D,E,aR]
def nv(d:aa Nat):Nat->Nat
 |0=>0
 |k+1=>nv d k+d.getD k 0*16 ^ k
def Jj{d:aa Nat}(C:dj d):∀ k,nv d k<16 ^ k
 |0=>Nat.one_pos
 | k+1=>by
  have D:=Jj C k;have E:=C.get k;have F:d.getD k 0*16 ^ k <= 15*16 ^ k:=gO _ (by omega);show nv d k+d.getD k 0*16 ^ k<16 ^ (k+1)
  grind
def afl(k:Nat)(C:k<8):(min (4*(k:Int)).toNat IntKind.i64.bits)=4*k:=by
 have:IntKind.i64.bits=64:=rfl;rw[this];omega
def U2{d:aa Nat}(C:dj d)(hl:d.length=8):∀ k,k<=8->wv (aW d) k=(nv d k:Int)
 |0,_=>rfl
 | k+1,h=>by
  have E:=Jj C k;have L:=C.get k;have O:(16:Nat) ^ k<=16 ^ 7:=Nat.pow_le_pow_right (by decide) (by omega);have D:(2:Nat) ^ (4*k)=16 ^ k:=by rw[Nat.pow_mul]
  have T:d.getD k 0*16 ^ k<=15*16 ^ k:=gO _ (by omega);have F:(aW d).getD k 0=((d.getD k 0:Nat):Int):=by
   rw[fQ,bQ (by rw[gX];omega)];exact tY (by rw[gX];omega)
  have I:((d.getD k 0:Nat):Int)*2 ^ (4*k)=((d.getD k 0*16 ^ k:Nat):Int):=by
   rw[<-D]
   push_cast
   rfl
  show bits .or .i64 (wv (aW d) k) (W6 ((aW d).getD k 0*2 ^ (min (4*(k:Int)).toNat IntKind.i64.bits)))=((nv d k+d.getD k 0*16 ^ k:Nat):Int)
  rw[U2 C hl k (by omega),afl k (by omega),F,I,aR,auG (by omega) (by omega)];congr 1;have:=Nat.two_pow_add_eq_or_of_lt (i:=4*k) (b:=nv d k) (by rw[D];exact E) (d.getD k 0);rw[D,Nat.mul_comm]at this;rw[Nat.or_comm,<-this];omega
def afm{d:aa Nat}(C:dj d):∀ n k,k<n -> nv d n / 16 ^ k % 16=d.getD k 0
 |0,k,h=>by omega
 | n+1,k,h=>by
  have D:=Jj C n;have F:=C.get n;show (nv d n+d.getD n 0*16 ^ n) / 16 ^ k % 16=_;by_cases e:k=n
  ·subst e;rw[Nat.add_mul_div_right _ _ (Nat.pow_pos (by decide)),Nat.div_eq_of_lt D,eS];omega
  ·have I:n=(n-k-1)+1+k:=by omega
   have E:d.getD n 0*16 ^ n=(d.getD n 0*16 ^ (n-k-1)*16)*16 ^ k:=by
    grind
   rw[E,Nat.add_mul_div_right _ _ (Nat.pow_pos (by decide)),Nat.add_mul_mod_self_right,afm C n k (by omega)]
def auI{d:aa Nat}(C:dj d)(hl:d.length=8):jg (wv (aW d) 8) 8=aW d:=by
 have I:nv d 8<16 ^ 8:=Jj C 8;rw[U2 C hl 8 (c9 _)];have key:∀ k,k <= 8 -> jg (nv d 8:Int) k=aW (d.take k):=by
  intro k
  induction k with
  |zero=>intro _;rfl
  | succ k D=>
   intro L;have O:(2:Nat) ^ (4*k)=16 ^ k:=by rw[Nat.pow_mul]
   have E:(nv d 8:Int).fdiv (2 ^ (4*k))=((nv d 8 / 16 ^ k:Nat):Int):=by
    grind
   have F:D6 (nv d 8:Int) k=((d.getD k 0:Nat):Int):=by
    unfold D6;rw[afl k (by omega),E,auH _ (Nat.lt_of_le_of_lt (Nat.div_le_self _ _) (by omega)),afm C 8 k (by omega)]
   show jg (nv d 8:Int) k++[D6 (nv d 8:Int) k]=_;rw[D (by omega),F,List.take_add_one,bQ (by omega),fQ,bQ (by omega)];exact(jP (f:=λn:Nat=>(n:Int)) (l₁:=d.take k) (l₂:=[d[k]])).symm
 rw[key 8 (c9 _),<- hl,kC]
def auJ{d:aa Nat}(C:dj d)(hl:d.length=8):0 <= wv (aW d) 8/\wv (aW d) 8 <= 4294967295:=by
 have D:=Jj C 8;rw[U2 C hl 8 (c9 _)];omega
def auK{w:aa Nat}(C:dj w)(hl:w.length=11)(h:(gC w).2.1=1):C1 (D5 w)=some (aW (gC w).1):=by
 have⟨D,E,_⟩:=I2 C hl;have U:=ati C hl (by omega);have F:dj ((gC w).1.drop 3):=λx Y=>E x (List.mem_of_mem_drop Y)
 have I:((gC w).1.drop 3).length=8:=by rw[List.length_drop,D]
 have he:D5 w=wv (aW ((gC w).1.drop 3)) 8:=by
  unfold D5;simp_all
 have⟨L,O⟩:=auJ F I;have e2:=afk L O;have⟨_,_,v,ev,Z,v16,T,vz⟩:=Ob L O;rw[auI F I]at T;have:=afi v16 E Z D (U1 T) vz U;simp_all
def U3(d:bV):Int:=bif d.ia then 0 else D5 (nw d)
def yY(c:ak)(j:Nat)(d:bV):ak:=en c ⟨c.array.cells.set j d,c.array.bD,c.array.bz⟩
def auL{c:ak}{j:Nat}(h:j<c.array.cells.length):yY c j c.array.cells[j]=c:=by
 unfold yY en;rw[auB h]
def afn{c:ak}{j:Nat}(C:j<c.array.cells.length)(I:Sy c.array.cells[j].symbols):AP c (j:Int)=some ((U3 c.array.cells[j],mY c.array.cells[j]),(yY c j (um c.array.cells[j]),())):=by
 have⟨L,D,E⟩:=UY I;have F:=auA D E;rw[L]at F;have T:=auL C;unfold AP mY um U3 xL xM;rw[aD ⟨by omega,by omega⟩,aD];simp only[bH];cases O:c.array.cells[j].ia with
 |true =>simp_all
 | false=>
  rw[au,au,au,au,aD C,F,aq];dsimp only;rcases(I2 D E).2.2 with q|q|q
  ·grind
  ·rw[q,lJ,auK D E q,aq,aD ⟨by omega,C⟩,aD C,sx (by omega),au,O];rfl
  ·rw[q,sx (by omega),lJ,au,aD ⟨by omega,C⟩,aD C];rfl
def BA(q:aa aP)(i:Nat):Bool:=match q[i]? with
 |some r=>(q.take i).any λx=>x.line==r.line
 |none=>false
def auM{q:aa aP}{i:Nat}(h:i<q.length):BA q i=(q.take i).any λx=>x.line==q[i].line:=by
 unfold BA;rw[bQ h]
def auN{α:Type}(p:α -> Bool)(q:aa α)(i:Nat)(hi:i <= q.length):eP p (q.take i)=min (eP p q) i:=by
 have I:=Bo p q;have D:=Bo p (q.take i);rw[fX,Nat.min_eq_left hi]at D;rcases Nat.lt_or_ge (eP p (q.take i)) i with h|h
 ·have E:eP p (q.take i)<(q.take i).length:=by rw[fX,Nat.min_eq_left hi];exact h
  have F:=v8 E;rw[List.getElem_take]at F;rcases Nat.lt_or_ge (eP p q) (eP p (q.take i))with h5|h5
  ·have h6:=v8 (p:=p) (q:=q) (by omega);have C:=sI h5 (by rw[fX];omega);simp_all
  ·rcases Nat.lt_or_ge (eP p (q.take i)) (eP p q)with h6 | h6
   ·have C:=sI h6 (by omega);simp_all
   ·omega
 ·have e:eP p (q.take i)=i:=by omega
  rw[e];rcases Nat.lt_or_ge (eP p q) i with h5|h5
  ·have h6:=v8 (p:=p) (q:=q) (by omega);have C:=sI (p:=p) (q:=q.take i) (i:=eP p q) (by omega) (by rw[fX];omega);simp_all
  ·omega
def afo{q:aa aP}{i:Nat}(h:i<q.length)(E:q.length <= 1000):GY q (i:Int)=some (BA q i):=by
 have F:=auN (λx:aP=>x.line==q[i].line) q i (by omega);have I:=Bo (λx:aP=>x.line==q[i].line) (q.take i);have hlen:(q.take i).length=i:=by rw[fX];omega
 unfold GY bO;rw[auM h,UF,hlen];generalize L:eP (λx:aP=>x.line==q[i].line) (q.take i)=n at *
 have e:=dn (step:=C7) n (λj=>((q,(i:Int),(j:Int),()),())) (if n<i then .inl ((true,()),())else .inr (.inl ((),()))) big (λk O=>by
  have D:=sI (p:=λx:aP=>x.line==q[i].line) (q:=q) (i:=k) (by omega) (by omega);unfold C7 ay aY xG xI;dsimp only;rw[aV,aj,aV,aj,aD ⟨by omega,by omega⟩,aD ⟨by omega,by omega⟩];simp only[bH];rw[D,au,bG]) (by
  by_cases C:n<i
  ·have D:((q[n]'(by omega)).line==q[i].line)=true:=by
    have T:eP (λx:aP=>x.line==q[i].line) q=n:=by omega
    have:=v8 (p:=λx:aP=>x.line==q[i].line) (q:=q) (by omega)
    grind
   unfold C7 ay aY xG xI;dsimp only;rw[aV,aj,aV,aj,aD ⟨by omega,by omega⟩,aD ⟨by omega,by omega⟩]
   grind
  ·unfold C7 ay aY xG xI;dsimp only;rw[bh,au,bx C]) (bM)
 rw[cH]at e
 refine(bu (λo=>Option.bind o _) e).trans ?_
 by_cases C:n<i
 ·rw[bJ C,aV C];rfl
 ·rw[bx C,bh C];rfl
def Oc(d:iA)(n:Int)(w:Bool):Bool:=bif w then d.on ||decide (n<1)else !d.on
def auO{d:iA}(n:Int)(w:Bool)(h:l7 d=true):Md d n w=some (Oc d n w):=by
 unfold Md Oc;rw[Un,h]
 grind
def yZ(p:Nat->Bool)(k:Nat):Int:=((List.range k).countP p:Nat)
def afp(p:Nat -> Bool)(k:Nat):yZ p (k+1)=yZ p k+(bif p k then 1 else 0):=by
 unfold yZ;rw[List.range_succ,List.countP_append,List.countP_singleton]
 grind
def afq(p:Nat -> Bool)(k:Nat):0 <= yZ p k/\yZ p k <= k:=by
 unfold yZ;have:=List.countP_le_length (p:=p) (l:=List.range k);simp_all
def Od{f:Nat->Bool}{n k:Nat}(h:k<n)(C:k<((List.range n).map f).length):((List.range n).map f)[k]=f k:=by simp
def sM(q:aa aP)(i:Nat):Bool:=match q[i]? with
 |some r=>r.write
 |none=>false
def Oe{q:aa aP}{i:Nat}(h:i<q.length):sM q i=q[i].write:=by
 unfold sM;rw[bQ h]
def wA(q:aa aP)(i:Nat):Bool:=!BA q i
def D8(q:aa aP)(k:Nat):Int:=yZ (λi=>wA q i && !sM q i) k
def Jk(q:aa aP)(k:Nat):Int:=yZ (λi=>wA q i&&sM q i) k
def l8(c:ak)(i:Nat):Bool:=wA c.queue i&&(Oc c.drain (D8 c.queue c.queue.length) (sM c.queue i) ||(!sM c.queue i&&Jk c.queue c.queue.length==0))
def auP{c:ak}(h:Pq c):Me c=some ((List.range c.queue.length).map (l8 c)):=by
 have F:=h.ql;have e:=dn (step:=GZ) c.queue.length (λi=>((c,D8 c.queue i,Jk c.queue i,(i:Int),()),())) (.inl ((c,D8 c.queue c.queue.length,Jk c.queue c.queue.length,()),())) big (λk C=>by
  have I:=afq (λi=>wA c.queue i && !sM c.queue i) k;have L:=afq (λi=>wA c.queue i&&sM c.queue i) k;unfold GZ ay xG xI;dsimp only;rw[aV,aj,afo C (by omega),aq,bG];unfold D8 Jk at *
  have E:wA c.queue k = !BA c.queue k:=rfl;rw[afp,afp];simp only[E,Oe C];cases BA c.queue k with
  |true=>simp
  | false=>
   rw[au,aD ⟨by omega,by omega⟩];simp only[bH];cases c.queue[k].write with
   |true=>rw[aj,aR];simp[wA]
   |false=>rw[au,aR];simp[wA]) (by
  unfold GZ ay xG xI;dsimp only;rw[bh,au]) (bM)
 have D:=dn (step:=G0) c.queue.length (λi=>((c,D8 c.queue c.queue.length,Jk c.queue c.queue.length,(),(i:Int),()),((List.range i).map (l8 c),()))) (.inl (((),()),((List.range c.queue.length).map (l8 c),()))) big (λk C=>by
  have hl:((List.range k).map (l8 c)).length=k:=by simp
  unfold G0 ay xG xI;dsimp only;rw[aV,aj,aD ⟨by omega,by omega⟩,afo C (by omega),aq,bG,List.range_succ,jP,hl,List.map_singleton];simp only[bH,hU,cq (show k+1<1073741824 by omega),aj,auO _ _ h.dr,aq];unfold l8 wA;rw[Oe C];cases BA c.queue k<;>cases c.queue[k].write<;>cases Oc c.drain (D8 c.queue c.queue.length) _<;>first|rfl|simp) (by
  unfold G0 ay xG xI;dsimp only;rw[bh,au]) (bM)
 rw[cH]at e D;unfold Me aZ
 refine(bu (λo=>Option.bind o _) e).trans ?_
 rw[aq]
 refine(bu (λo=>Option.bind o _) D).trans ?_
 rfl
def iU(c:ak):aa aG:=c.queue.map λr=>gf c r.line
def BB(c:ak):(iU c).length=c.queue.length:=by unfold iU;rw[eE]
def auQ{c:ak}{i:Nat}(h:i<c.queue.length)(C:i<(iU c).length):(iU c)[i]=gf c c.queue[i].line:=by simp only[iU,List.getElem_map]
def U4{c:ak}(h:Pq c){r:aP}(C:r∈c.queue):vR c r.line=some (gf c r.line,true)/\cZ c.config.av (gf c r.line)=true:=
 at7 h.p h.sp h.se h.mo (h.q r C).1.1 (h.q r C).1.2
def U5{c:ak}(h:Pq c){r:aP}(C:r∈c.queue):vJ c r.line=some (gf c r.line):=
 aub h.p h.sp h.se h.mo (h.q r C).1.1 (h.q r C).1.2
def afr{c:ak}(h:Pq c):GX c=some (iU c):=by
 have D:=h.ql;have e:=dn (step:=GW) c.queue.length (λi=>((c,(),i,()),((c.queue.take i).map _,()))) (.inl (((),()),(iU c,()))) big (λk C=>by
  have hl:((c.queue.take k).map (λr=>gf c r.line)).length=k:=by simp;omega
  unfold GW ay xG xI;dsimp only;rw[aV,aj,aD ⟨by omega,by omega⟩];simp only[bH];rw[U5 h (cR C),aq,bG,hl,hU,cq,aj,tX C,jP];rfl) (by
  unfold GW ay xG xI;dsimp only;rw[bh,au,kC];rfl) (bM)
 unfold GX aZ;simp_all
def zA:aG:=⟨0,0,0⟩
def zQ:aP:=⟨0,0,0,false,0,0⟩
def gv(c:ak)(i:Nat):aG:=(iU c).getD i zA
def l9(c:ak)(i:Nat):aP:=c.queue.getD i zQ
def Jl{c:ak}{i:Nat}(h:i<(iU c).length):(iU c)[i]=gv c i:=by
 unfold gv;rw[fQ,bQ h];rfl
def wB{c:ak}{i:Nat}(h:i<c.queue.length):c.queue[i]=l9 c i:=by
 unfold l9;rw[fQ,bQ h];rfl
def Jm{c:ak}(h:Pq c){i:Nat}(hi:i<c.queue.length):cZ c.config.av (gv c i)=true/\0 <= (gv c i).az/\(gv c i).az.toNat<c.aU.aB.length/\(gv c i).az.toNat<c.aX.aO.length/\(gv c i).az<aQ c.config.av/\0 <= (gv c i).row:=by
 have e:=auQ hi (by rw[BB];exact hi);rw[Jl]at e;have C:=(U4 h (cR hi)).2;rw[<- e]at C;have⟨_,D,E,F,I,L,O⟩:=qT C;have:=h.p.bl;have:=h.dl;simp_all
def Of{c:ak}(h:Pq c):c.aU.aB.length<=1048576:=by
 have:=h.p.bl;have:=fy c.config.av;omega
def jq(c:ak)(i:Nat):Bool:=D2 c.aU (gv c i)
def Jn(c:ak)(k:Nat)(b:Int):Bool:=(List.range k).any λi=>l8 c i&&jq c i&&b==(gv c i).az
def U6(e:bT):bT:=⟨e.line,e.code,(if (999:Int)<(W6 (e.times+(1:Int)))then (999:Int)else (W6 (e.times+(1:Int))))⟩
def zEE:bT:=⟨0,0,0⟩
def wC(l:aa bT)(line code:Int):aa bT:=match l.findIdx? (mR ⟨line,code,1⟩)with
 |some i=>l.set i (U6 (l.getD i zEE))
 |none=>bif ((l.length:Int)==(6:Int))then l.drop 1++[⟨line,code,1⟩]else l++[⟨line,code,1⟩]
def auR{l:aa bT}(h:kZ l=true){line code:Int}(D:0 <= line/\line <= 1023)(T:code=1 \/ code=2):L3 l line code=some (wC l line code,true):=by
 have hl:l.length <= 6:=by
  simp only[kZ,aH,fY]at h;omega
 have E:aJ line 0 1023=true:=bq.2 D;have F:aJ 1 1 999=true:=rfl;have I:C2 ⟨line,code,1⟩=some true:=by
  unfold C2;rw[dK,aq,E,dK,F]
  grind
 unfold L3 wC xA xC xZ;rw[cq (by simp;omega),aj,asi,aq,h,bR,au,I,aq,bR,au];have C:=aem l ⟨line,code,1⟩ (by omega);dsimp only at C;rw[C,aq,List.nil_append];unfold kY;cases hi:l.findIdx? (mR ⟨line,code,1⟩)with
 | some i=>
  have⟨L,U,Y⟩:=nh.1 hi;dsimp only;rw[aV,aj,aD ⟨by omega,by omega⟩,aD,aD ⟨by omega,by omega⟩,aD];rw[oL _ L];rfl
 | none=>
  dsimp only;rw[bh,au];by_cases O:l.length=6
  ·rw[aV,show ((l.length:Int)==6)=true by rw[O];rfl,bJ ⟨by omega,by omega,by omega⟩,cq (by simp;omega),cq (by simp;omega)];simp
  ·rw[bh,au,sx (by omega),au,cq (by simp;omega),aj]
def afs(c:ak)(l:aa bT):ak:=⟨c.config,c.box,c.now,c.aU,c.ready,c.array,c.spare,c.aX,c.bI,c.guard,c.pending,c.queue,c.shares,c.drain,c.aS,c.cJ,l,c.trace,c.bY⟩
def Og(c:ak)(n code:Int):ak:=bif code != 0 then afs c (wC c.errors n code)else c
def aft{c:ak}(h:kZ c.errors=true){n code:Int}(C:0<=n/\n<=1023)(h2:code=0\/code=1\/code=2):AB c n code=some ((),(Og c n code,())):=by
 unfold AB Og;rcases h2 with rfl|h2
 ·rfl
 ·rw[auR h C h2,je (by omega)];rfl
def afu(q:aa aP):Prop:=∀i (h:i<q.length),(q.take i).any (λx=>x.id==q[i].id)=false
def auS{q:aa aP}(C:afu q){i:Nat}(h:i<q.length)(hl:q.length <= 12):Mx q q[i].id=some (q.take i++q.drop (i+1),true):=by
 have D:q.findIdx? (λr=>r.id==q[i].id)=some i:=by
  rw[nh]
  refine⟨h,by simp,λj E=>?_⟩
  have:=List.any_eq_false.1 (C i h) q[j] (iI.2 ⟨j,by rw[fX];omega,by rw[List.getElem_take]⟩);simp_all
 unfold Mx xA xZ;rw[Ur _ _ (by omega),aq];unfold kY;rw[D];dsimp only;rw[bh,au,bJ ⟨by omega,by omega,by omega⟩,cq (by simp;omega),aj,bG,bJ ⟨by omega,by omega,by omega⟩,cq (by simp;omega),aj];simp_all
def wD:aP:=⟨0,0,0,false,0,0⟩
def BE(s:aa ct)(t:Int):aa ct:=match pZ s ((List.replicate 4 false).set t.toNat true)with
 |some (l,_)=>l
 |none=>[]
def oN(c:ak)(i:Nat)(a:dh)(e:aa bT)(x:fm):ak:=
 ⟨c.config,c.box,c.now,c.aU,c.ready,a,c.spare,c.aX,c.bI,c.guard,c.pending,c.queue.take i++c.queue.drop (i+1),BE c.shares (c.queue.getD i wD).dB,c.drain,c.aS,c.cJ,e,c.trace,c.bY++[x]⟩
def wE(c:ak)(i:Nat):ak:=
 let r:=c.queue.getD i wD
 let n:=gB c.config.av (gf c r.line)
 bif r.write then oN c i ⟨c.array.cells.set n ⟨Bz r.data,false⟩,c.array.bD,c.array.bz⟩ c.errors ⟨r.id,c.now,0,0⟩
 else oN c i ⟨c.array.cells.set n (um (c.array.cells.getD n yP)),c.array.bD,c.array.bz⟩ (bif mY (c.array.cells.getD n yP) != 0 then wC c.errors (n:Int) (mY (c.array.cells.getD n yP))else c.errors) ⟨r.id,c.now,U3 (c.array.cells.getD n yP),mY (c.array.cells.getD n yP)⟩
def U7{d:bV}(h:Sy d.symbols):mY d=0 \/ mY d=1 \/ mY d=2:=by
 have⟨E,C,D⟩:=UY h;unfold mY;cases d.ia with
 |true=>simp_all
 |false=>exact(I2 C D).2.2
structure oO (c:ak) (i:Nat) (B:Int):Prop where
 ad:∀r∈c.queue,vR c r.line=some (gf c r.line,true)/\cZ c.config.av (gf c r.line)=true
 tn:∀r∈c.queue,0<=r.dB/\r.dB<=3
 ql:c.queue.length<=12
 sh:gu c.shares=true
 shl:c.shares.length=4
 u:afu c.queue
 i:i<c.queue.length
 d:∀r∈c.queue,0<=r.data/\r.data<=4294967295
 a:fe c.config.av B c.array
 e:kZ c.errors=true
 r:c.bY.length<=1000
def oO.facts{c:ak}{i:Nat}{B:Int}(h:oO c i B){r:aP}(C:r∈c.queue):vR c r.line=some (gf c r.line,true)/\vU c.config.av (gf c r.line)=(gB c.config.av (gf c r.line):Int)/\gB c.config.av (gf c r.line)<c.array.cells.length/\(gB c.config.av (gf c r.line):Int) <= 1023/\pZ c.shares ((List.replicate 4 false).set r.dB.toNat true)=some (BE c.shares r.dB,(pZ c.shares ((List.replicate 4 false).set r.dB.toNat true)).get!.2)/\0 <= r.dB/\r.dB.toNat<4:=by
 obtain⟨D,E⟩:=h.ad _ C;have F:=h.tn _ C;obtain⟨I,L⟩:=I0 E;have O:=h.a.cells;have hl:=n6 c.config.av;obtain⟨y,t,e,_⟩:=UO ((List.replicate 4 false).set _ true) (by have:=h.shl;omega) h.sh (by simp[h.shl]);refine⟨D,I,by omega,by omega,?_,F.1,by omega⟩;unfold BE;rw[e];rfl
def afv{c:ak}{i:Nat}{B:Int}(h:oO c i B)(F:∀ r∈c.queue,vJ c r.line=some (gf c r.line)):My c (i:Int)=some ((),(wE c i,())):=by
 have hi:=h.i;have⟨f1,f3,f4,f5,f6,f7,f8⟩:=h.facts (cR hi);have f2:=F _ (cR hi);have C:=h.d _ (cR hi);have D:=h.a.syms _ (cR f4);have E:c.queue.getD i wD=c.queue[i]:=oL _ hi;have L:=h.r;unfold My xL;rw[aD ⟨by omega,by omega⟩,aD];simp only[bH];rw[f2,aq,Nv,aq,f3,auS h.u hi h.ql,aq,bJ (by decide)];have I:(4:Int).toNat=4:=rfl;rw[I,aD ⟨f7,by simpa using f8⟩,aD (by simpa using f8)];dsimp only;rw[ae4 _ _ (by have:=h.shl;omega),f6,aq];dsimp only;unfold wE;rw[E];dsimp only;cases hw:c.queue[i].write with
 | true=>
  rw[ afk C.1 C.2,aq,aD ⟨by omega,by omega⟩,aD,cq (by simp;omega)];unfold oN;simp_all
 | false=>
  rw[au,au,oL _ f4]
  refine(bu (λo=>Option.bind o _) (afn (c:=⟨c.config,c.box,c.now,c.aU,c.ready,c.array,c.spare,c.aX,c.bI,c.guard,c.pending,c.queue.take i++c.queue.drop (i+1),BE c.shares c.queue[i].dB,c.drain,c.aS,c.cJ,c.errors,c.trace,c.bY⟩) f4 D)).trans ?_
  rw[aq];dsimp only
  refine(bu (λo=>Option.bind o _) (aft (by exact h.e) ⟨by omega,f5⟩ (U7 D))).trans ?_
  rw[aq];unfold Og oN afs yY en;rw[E];dsimp only;cases mY c.array.cells[gB c.config.av (gf c c.queue[i].line)] != 0 with
  | true=>
   rw[aj];rw[cq (by simp;omega)];rfl
  | false=>
   rw[au];rw[cq (by simp;omega)];rfl
def dM(c:ak)(x:aC):ak:=⟨c.config,c.box,c.now,fG c.aU x,sG c.config.av c.ready ⟨c.now,x⟩,c.array,c.spare,c.aX,c.bI,c.guard,c.pending,c.queue,c.shares,c.drain,c.aS,c.cJ,c.errors,c.trace++[⟨c.now,x⟩],c.bY⟩
def afw(c:ak)(p:eU):ak:=⟨c.config,c.box,c.now,c.aU,c.ready,c.array,c.spare,c.aX,c.bI,c.guard,c.pending,c.queue,c.shares,c.drain,p,c.cJ,c.errors,c.trace,c.bY⟩
def oP(c:ak)(r:cW):ak:=⟨c.config,c.box,c.now,c.aU,c.ready,c.array,c.spare,r,c.bI,c.guard,c.pending,c.queue,c.shares,c.drain,c.aS,c.cJ,c.errors,c.trace,c.bY⟩
def afx(c:ak)(r:cB):ak:=⟨c.config,c.box,c.now,r,c.ready,c.array,c.spare,c.aX,c.bI,c.guard,c.pending,c.queue,c.shares,c.drain,c.aS,c.cJ,c.errors,c.trace,c.bY⟩
def D9(c:ak)(k:Int):ak:=afw c (By c.aS k c.now)
def Oh(c:ak)(b:Int):ak:=oP (Jh c b (c.pending.filter (λa=>!(a.az==b)))) (yW c.aX b)
def wF(c:ak)(x:aC)(i:Int):ak:=
 bif x.kind==1 then wo (dM c x) x else
 bif x.kind==5 then Oh (dM c x) x.az else
 bif x.kind==2 ||x.kind==3 then wE (dM c x) i.toNat else
 bif x.kind==4 then dM c x else
 bif x.kind==9 then lF (D9 (dM c x) 9) c.bI.length []else D9 (dM c x) x.kind
structure Bs (c:ak):Prop where
 w:wz 100000 c
 u:uk c.pending
 pk:∀a∈c.pending,0<=a.az/\a.az<aQ c.config.av
 zt:∀t∈c.bI,kz t
 rf:eO c.aX=true
 bl:(c.aU.aB.length:Int)=aQ c.config.av
 l1:c.ready.last.length<1073741824
 l2:c.ready.bf.length<1073741824
 tl:c.trace.length<10000
def Bs.dM{c:ak}(h:Bs c)(x:aC):wz 100000 (dM c x):=⟨h.w.hB,h.w.g,h.w.a,h.w.k,h.w.p,h.w.t,h.w.d,h.w.r⟩
def oO.dM{c:ak}{n:Nat}{B:Int}(h:oO c n B)(x:aC):oO (dM c x) n B:=⟨h.ad,h.tn,h.ql,h.sh,h.shl,h.u,h.i,h.d,h.a,h.e,h.r⟩
def auT{c:ak}{x:aC}(C:1 <= x.kind/\x.kind <= 9)(hb:x.kind <= 5 -> 0 <= x.az/\x.az.toNat<c.aU.aB.length):MA c x=some ((),(afx c (fG c.aU x),())):=by
 unfold MA fG afx xL;rcases kinds C with h|h|h|h|h|h|h|h|h<;>(try (have hb:=hb _))<;>simp[h,hb]
def U8{g:aL}{x:aC}(h:dU g x=true)(C:x.kind=1):0 <= x.row/\x.row<g.rows:=by
 simp[dU,aH]at h;have D:=h.2.2.2.1;rw[sF,C,show ((1:Int)==1)=true from rfl,aj,bq]at D;omega
def auU{c:ak}(h:Bs c){x:aC}(E:p9 c.config.av c.aU x=true){i:Int}(F:x.kind=2 \/ x.kind=3 -> oO c i.toNat 100000/\0 <= i)(I:∀ r∈c.queue,vJ c r.line=some (gf c r.line)):yo c x i=some ((),(wF c x i,())):=by
 have⟨hg,hlen,L,hb⟩:=NR E;have O:dU c.config.av x=true:=by
  simp[p9,aH]at E;simp_all
 have b1:=fy c.config.av;have w:=h.dM x;have ht:=h.w.t;have hd:=h.w.d;have hr:=h.w.r;have U9:=h.tl;unfold yo wF aZ;rw[cq (by simp;omega),aj,asQ _ _ _ h.l1 h.l2,aq]
 refine(bu (λo=>Option.bind o _) (auT L (λT=>by have:=hb T;exact⟨this.1,this.2⟩))).trans ?_
 rw[aq];rcases kinds L with q|q|q|q|q|q|q|q|q<;>rw[q]<;>simp only[Int.reduceBEq,Int.reduceBNe,aj,au,Bool.or_true,Bool.or_false,Bool.true_or,Bool.false_or,Bool.or_self]
 ·have⟨C,U⟩:=hb (by omega);have⟨Y,Z⟩:=U8 O q
  refine(bu (λo=>Option.bind o _) (aup (c:=dM c x) x w.g w.a w.p h.u h.zt C (by show x.az<aQ c.config.av;omega) Y Z (by show x.az.toNat<c.bI.length;omega) (by show x.az.toNat<c.guard.length;omega))).trans ?_
  rfl
 ·have⟨s,D⟩:=F (.inl q);have e:=afv (s.dM x) I;rw[Int.toNat_of_nonneg D]at e
  refine(bu (λo=>Option.bind o _) e).trans ?_
  rfl
 ·have⟨s,D⟩:=F (.inr q);have e:=afv (s.dM x) I;rw[Int.toNat_of_nonneg D]at e
  refine(bu (λo=>Option.bind o _) e).trans ?_
  rfl
 ·rfl
 ·have⟨C,U⟩:=hb (by omega);have⟨y,e4⟩:=auj h.rf (b:=x.az) C (by omega)
  refine(bu (λo=>Option.bind o _) (afe w.hB (dM c x) w.g w.a w.k w.p C (by show x.az<aQ c.config.av;omega) (by show x.az.toNat<c.bI.length;omega) (by show x.az.toNat<c.guard.length;omega))).trans ?_
  rw[aq]
  refine(bu (λo=>Option.bind o _) e4).trans ?_
  rfl
 ·have⟨y,e⟩:=N9 c.aS (k:=6) (by omega) c.now
  refine(bu (λo=>Option.bind o _) e).trans ?_
  rfl
 ·have⟨y,e⟩:=N9 c.aS (k:=7) (by omega) c.now
  refine(bu (λo=>Option.bind o _) e).trans ?_
  rfl
 ·have⟨y,e⟩:=N9 c.aS (k:=8) (by omega) c.now
  refine(bu (λo=>Option.bind o _) e).trans ?_
  rfl
 ·have⟨y,e⟩:=N9 c.aS (k:=9) (by omega) c.now
  refine(bu (λo=>Option.bind o _) e).trans ?_
  rw[aq]
  refine(bu (λo=>Option.bind o _) (auu (c:=D9 (dM c x) 9) ⟨w.hB,w.g,w.a,w.k,w.p,w.t,w.d,w.r⟩ (by show (fG c.aU x).aB.length=c.bI.length;rw[aey];omega) h.pk)).trans ?_
  rfl
def auV{l m:aa Int}(h:l.length=m.length)(D:(l.zip m).all Bc=true):(∀ x∈l,0 <= x/\x <= 100000) /\ ∀ x∈m,0 <= x/\x <= 100000:=by
 rw[bW]at D;have key:∀ i _ (E:i<m.length),(0 <= l[i]/\l[i] <= 100000)/\(0 <= m[i]/\m[i] <= 100000):=λi I E=>by
  have F:i<(l.zip m).length:=by rw[List.length_zip];omega
  have:=D _ (cR F);rw[List.getElem_zip]at this;simp[Bc,aH,bq]at this;exact this
 constructor
 ·intro x C;obtain⟨i,hi,rfl⟩:=iI.1 C
  grind
 ·intro x C;obtain⟨i,hi,rfl⟩:=iI.1 C;simp_all
def fe.uq{g:aL}{a:dh}(h:oG g a=true):fe g 100000 a:=by
 simp only[oG,aH,fY]at h;have⟨U,C,D,E,F,I⟩:=h;have⟨L,O⟩:=auV (by omega) I
 refine⟨C,λc T=>?_,D,E,L,O⟩
 exact Sy.of (bW.1 F c T)
def Bs.of{c:ak}(D:dw c)(h:dx c=true)(F:c.trace.length<10000):Bs c:=by
 have E:=Pq.of D h;have Y:c.box.bU.weights.length <= 1048576:=D.1.1;have Z:=h;simp only[dx,aH]at h;have⟨I,h2,h3,h4,L,O,h7,h8,C,h10,yC,pK,vY,yO,tU,qQ,Bj,DX,DY,I8,AJ,I9⟩:=h;have⟨f1,f2⟩:=D1 (by omega) I;simp only[l5,aH]at f1;simp only[q6,aH,fI,gi,oU,bW,eJ]at C;have⟨C,g1,g2,g3,g4,g5,g6⟩:=C;have wQ:=E.pl;have⟨T,rl,ra⟩:=Uz L;have b1:=fy c.config.av
 refine⟨⟨by decide,T,fe.uq O,f1.2.2.2.2.2.1,by omega,g2,g3,g1⟩,λi hi=>?_,λa U=>?_,D.2.2.2.2.2.2.1.2,C,E.p.bl,by omega,by omega,F⟩
 ·have hb:=g6 i hi;unfold yM at hb
  grind
 ·have⟨_,k1,k2,_⟩:=qT (E.pe a U);simp_all
def oO.of{c:ak}(I:dw c)(h:dx c=true){n:Nat}(L:n<c.queue.length)(C:c.bY.length <= 1000):oO c n 100000:=by
 have D:=Pq.of I h;simp[dx,aH]at h;have⟨U,Y,Z,h4,h5,O,h7,h8,h9,E,yC,pK,vY,yO,tU,qQ,Bj,DX,DY,T,AJ,I9⟩:=h;simp[gZ,aH,bW,eJ]at E;have⟨F,q2⟩:=E
 refine⟨λr C=>U4 D C,λr C=>(D.q r C).2.1,D.ql,D.sh,D.shl,λi hi=>?_,L,λr C=>?_,fe.uq O,T,C⟩
 ·cases i with
  |zero=>simp
  | succ i=>
   have hb:=F _ hi;rw[IT hi]at hb;simp_all
 ·obtain⟨i,hi,rfl⟩:=iI.1 C;have hb:=F i hi;unfold p6 at hb;rw[bQ hi]at hb;simp[n9,NN,aH,bq]at hb;simp_all
def ur{g:aL}{B:Int}{a:dh}(h:fe g B a):NY a:=by
 have D:=h.cells;have E:=h.bD;have F:=h.bz;have I:=n6 g;have L:=sy g;exact⟨⟨by omega,λc C=>by unfold UC;rw[(h.syms c C).1];omega⟩,by omega,by omega⟩
def Va{l:aa cg}(h:l.length <= 1048576 /\ ∀y∈l,kz y){t:cg}(C:kz t)(i:Nat):(l.set i t).length <= 1048576 /\ ∀y∈l.set i t,kz y:=by grind
def afy{k:Int}(h:aJ k 1 16=true):kz (Bw k):=by
 have:=bq.1 h;unfold Bw kz
 grind
def auW{t:cg}(h:kz t)(row cY:Int):kz (yV t row cY).1:=by
 have hl:=afb (t:=t) row;unfold kz at h ⊢;unfold yV
 grind
def auX{c:ak}(D:dw c)(E:c.ready.bf.length <= 4)(ht:c.trace.length <= 10000)(x:aC):dw (dM c x):=by
 have⟨F,z2,⟨z3,z4⟩,z5,I,L,O,z9,T,U,z12,Y,lz,Z⟩:=D;have C:=asZ c.config.av c.ready ⟨c.now,x⟩;refine⟨F,by unfold aeJ at z2 ⊢;show (fG _ x).aB.length <= _;rw[aey];exact z2,⟨by show (sG _ _ _).last.length <= _;rw[C.1];exact z3,Nat.le_trans (C.2 E) (by decide)⟩,z5,I,L,O,z9,T,U,z12,Y,by simp[dM];omega,Z⟩
def Oi{c:ak}(D:dw c){a:dh}(E:NY a){r:cW}(F:Bm r){t:aa cg}(I:t.length <= 1048576 /\ ∀ y∈t,kz y){C:aa Int}(L:C.length <= 1048576){pd:aa aG}(O:pd.length <= 1048576)(pw:eU):dw ⟨c.config,c.box,c.now,c.aU,c.ready,a,c.spare,r,t,C,pd,c.queue,c.shares,c.drain,pw,c.cJ,c.errors,c.trace,c.bY⟩:=by
 have⟨T,z2,z3,z5,U,z7,z8,z9,jm,Y,z12,Z,lz,mV⟩:=D;exact⟨T,z2,z3,E,U,F,I,L,O,Y,z12,Z,lz,mV⟩
def auY{c:ak}(C:dw c)(h:wz 100000 c)(x:aC)(D:0 <= x.az)(E:x.az<aQ c.config.av)(F:0 <= x.row)(I:x.row<c.config.av.rows):dw (wo c x):=by
 have zt:=C.2.2.2.2.2.2.1;have hb:x.az.toNat<c.bI.length:=by have:=h.t;omega
 have L:=h.p;refine Oi C (ur (UJ h.g _ h.hB h.a D E F I)) C.2.2.2.2.2.1 (Va zt ?_ _) C.2.2.2.2.2.2.2.1 ?_ _
 ·unfold sL;rw[oL];exact auW (zt.2 _ (cR hb)) _ _
 ·have O:(oK c x).length <= c.pending.length:=List.length_filter_le _ _;have T:=afd c.config.av.rows x.row;have U:=UU x.az (q7 c.config.av.rows x.row) (oK c x)
  grind
def afz(r:cW)(b:Int):(yW r b).aO.length=r.aO.length:=by
 unfold yW;cases decide (r.aO.getD b.toNat 0 = -2)<;>simp
def auZ{c:ak}(C:dw c)(h:wz 100000 c){b:Int}(D:0 <= b)(E:b<aQ c.config.av):dw (Oh c b):=by
 have⟨_,_,_,_,g5,g6,g7,g8⟩:=fE h.g;have zt:=C.2.2.2.2.2.2.1;have F:=h.p;have I:=UW (λa:aG=>!(a.az==b)) c.pending;exact Oi C (ur (Jg h.g _ h.hB h.a D E _ (by omega))) (by unfold Bm;rw[afz];exact C.2.2.2.2.2.1) (Va zt (afy h.k) _) (by show (c.guard.set _ _).length <= _;rw[js];exact C.2.2.2.2.2.2.2.1) (by show (c.pending.filter _).length <= _;omega) _
def afA{l:aa cg}(h:l.length<=1048576/\∀ y∈l,kz y){t:cg}(C:kz t):∀ k:Nat,((List.range k).foldl (λd b=>d.set b t) l).length<=1048576/\∀ y∈(List.range k).foldl (λd b=>d.set b t) l,kz y
 |0=>h
 |k+1=>by rw[yX];exact Va (afA h C k) C k
def au0{c:ak}(C:dw c)(h:wz 100000 c)(k:Nat)(D:(k:Int)<=aQ c.config.av):dw (lF c k []):=
 Oi C (ur (Oa h.g c.config.ew h.hB h.a k D)) (by unfold Bm;rw[wu];exact C.2.2.2.2.2.1) (afA C.2.2.2.2.2.2.1 (afy h.k) k) (by rw[wu];exact C.2.2.2.2.2.2.2.1) (by simp) c.aS
def afB{l:aa bT}(n code:Int):(wC l n code).length <= l.length+1:=by
 unfold wC
 grind
def afC{c:ak}(F:dw c){i:Nat}(h:oO c i 100000):dw (wE c i):=by
 have⟨I,z2,z3,z5,L,O,T,z9,U,mW,z12,oa,Y,mV⟩:=F;have hi:=h.i;have hql:=h.ql;have hr:=h.r;have⟨f1,f3,f4,f5,f6,f7,f8⟩:=h.facts (cR hi);have C:c.queue.getD i wD=c.queue[i]:=oL _ hi;have D:=h.d _ (cR hi);have Z:(BE c.shares c.queue[i].dB).length <= 1048576:=by
  have⟨y,t,e,hl⟩:=UO ((List.replicate 4 false).set c.queue[i].dB.toNat true) (by have:=h.shl;omega) h.sh (by simp[h.shl])
  grind
 have fT:c.errors.length <= 6:=by
  have E:=h.e;simp only[kZ,aH,fY]at E;omega
 have key:∀ (a:dh) (e:aa bT) (x:fm),NY a -> e.length <= 100 -> dw (oN c i a e x):=λa e x ha E=>
  ⟨I,z2,z3,ha,L,O,T,z9,U,by simp[oN];omega,by unfold oN;rw[C];exact Z,by show e.length <= _;omega,Y,by simp[oN];omega⟩
 unfold wE;rw[C];dsimp only;cases c.queue[i].write with
 |true=>exact key _ _ _ (ur (h.a.Bl _ (c:=⟨_,false⟩) (Ob D.1 D.2).2.1)) (by omega)
 | false=>
  rw[au,oL _ f4];refine key _ _ _ (ur (h.a.Bl _ (UZ (h.a.syms _ (cR f4))))) ?_;have:=afB (l:=c.errors) (gB c.config.av (gf c c.queue[i].line):Int) (mY c.array.cells[gB c.config.av (gf c c.queue[i].line)]);cases mY c.array.cells[gB c.config.av (gf c c.queue[i].line)] != 0 with
  |true=>grind
  |false=>grind
def au1{c:ak}(I:dw c)(h:Bs c)(L:c.ready.bf.length <= 4){x:aC}(E:p9 c.config.av c.aU x=true){i:Int}(F:x.kind=2 \/ x.kind=3 -> oO c i.toNat 100000/\0 <= i):dw (wF c x i):=by
 have⟨hg,hlen,O,hb⟩:=NR E;have T:dU c.config.av x=true:=by
  simp[p9,aH]at E;simp_all
 have w:=h.dM x;have ht:=h.w.t;have U9:=h.tl;have z:=auX I L (by omega) x;have C:∀k,dw (D9 (dM c x) k):=λk=>Oi z z.2.2.2.1 z.2.2.2.2.2.1 z.2.2.2.2.2.2.1 z.2.2.2.2.2.2.2.1 z.2.2.2.2.2.2.2.2.1 _
 unfold wF;rcases kinds O with q|q|q|q|q|q|q|q|q<;>rw[q]<;>simp
 ·have⟨D,U⟩:=hb (by omega);have⟨Y,Z⟩:=U8 T q;exact auY z w x D (by show _<aQ c.config.av;omega) Y Z
 ·exact afC z ((F (.inl q)).1.dM x)
 ·exact afC z ((F (.inr q)).1.dM x)
 ·exact z
 ·have⟨D,U⟩:=hb (by omega);exact auZ z w D (by show x.az<aQ c.config.av;omega)
 ·exact C 6
 ·exact C 7
 ·exact C 8
 ·exact au0 (C 9) ⟨w.hB,w.g,w.a,w.k,w.p,w.t,w.d,w.r⟩ _ (by show (c.bI.length:Int) <= aQ c.config.av;omega)
def sN(c:ak)(b:Int):Bool:=decide (c.aX.aO.getD b.toNat 0 >= 4)
def Oj(c:ak)(b:Int):Bool:=c.pending.any λa=>a.az==b
def oQ(c:ak)(i:Nat):aC:=Bv c.aU (gv c i) (sM c.queue i)
def Ok(c:ak)(i:Nat):Bool:=decide (c.now-(l9 c i).at_<c.box.bU.cap)
def qa(c:ak)(i:Nat):Bool:=
 l8 c i&&(!sN c (gv c i).az&&(gM c (oQ c i)&&(!(((oQ c i).kind==1 ||(oQ c i).kind==4)&&Oj c (gv c i).az) && !((oQ c i).kind==4&&(Jn c c.queue.length (gv c i).az&&Ok c i)))))
def Ol{c:ak}{b:Int}(hl:c.aX.aO.length <= 8)(C:0 <= b)(h:b.toNat<c.aX.aO.length):AH c b=some (sN c b):=by
 unfold AH sN xI;simp_all
def au2{c:ak}(h:Pq c){i:Nat}(hi:i<c.queue.length):dU c.config.av (oQ c i)=true:=aue _ (Jm h hi).1
def sO(c:ak):Nat->aa Bool
 |0=>List.replicate 4 false
 |k+1=>bif qa c k then (sO c k).set (l9 c k).dB.toNat true else sO c k
def Vb(c:ak):∀ k,(sO c k).length=4
 |0=>rfl
 | k+1=>by
  have C:=Vb c k;show (bif qa c k then _ else _:aa Bool).length=4
  grind
def au3(y x:aC):Bool:=(y.kind==x.kind)&&((y.az==x.az)&&((y.row==x.row)&&((y.bL==x.bL)&&true)))
def Om(c:ak)(x:aC)(i:Int):Bool:=aJ i 0 ((c.queue.length:Int)-1)&&(decide ((c.bY.length:Int)<400)&&au3 (Bv c.aU (gf c (c.queue.getD i.toNat wD).line) (c.queue.getD i.toNat wD).write) x)
def uv(c:ak)(x:aC)(i:Int):Bool:=dU c.config.av x&&(gM c x&&(!decide ((c.trace.length:Int) >= 2000)&&bif x.kind==2 ||x.kind==3 then Om c x i else i == -1 ||aJ i 0 ((c.queue.length:Int)-1)))
def afD{c:ak}(h:Pq c){i:Int}(hi:aJ i 0 ((c.queue.length:Int)-1)=true):∃ C:i.toNat<c.queue.length,0 <= i/\c.queue.getD i.toNat wD=c.queue[i.toNat]/\vR c c.queue[i.toNat].line=some (gf c c.queue[i.toNat].line,true)/\A6 c.aU (gf c c.queue[i.toNat].line) c.queue[i.toNat].write=some (Bv c.aU (gf c c.queue[i.toNat].line) c.queue[i.toNat].write):=by
 have hb:=bq.1 hi;have C:i.toNat<c.queue.length:=by omega
 have⟨D,a3⟩:=U4 h (cR C);have⟨_,E,F,_⟩:=qT a3;have I:=h.p.bl;have L:=fy c.config.av;exact⟨C,hb.1,oL _ C,D,US _ E (by omega) (by omega)⟩
def au4{c:ak}(h:Pq c)(x:aC)(i:Int):yl c x i=some (uv c x i):=by
 have T:=h.ql;unfold yl uv;rw[aew,aq];cases L:dU c.config.av x with
 |false=>rfl
 |true=>
 rw[bR,au,N6 h.p L,aq];cases gM c x with
 |false=>rfl
 |true=>
 rw[bR,au];cases decide ((c.trace.length:Int) >= 2000)with
 |true=>rfl
 |false=>
 rw[au,cM,cM,ju,cM,dK,aR (n:=(c.queue.length:Int)-1),aq];unfold Om;have I:yf=A6:=rfl;cases hi:aJ i 0 ((c.queue.length:Int)-1)with
 | true=>
  have⟨D,E,O,f1,f3⟩:=afD h hi;have f2:=U5 h (cR D);rw[je (show ¬ i = -1 by omega),aj,bR,au,aV (show i >= 0 from E),cM,Bool.or_true,O];by_cases C:x.kind=2
  ·rw[show (x.kind != 2)=false by rw[C];rfl,show (x.kind==2)=true by rw[C];rfl,au,aj,Bool.true_or,aj];cases decide ((c.bY.length:Int)<400)with
   |false=>rfl
   | true=>
    rw[ aD ⟨E,D⟩,aD ⟨E,D⟩];rw[f2,aq,I,f3];rfl
  ·rw[je C,sx C,aj,Bool.false_or];by_cases F:x.kind=3
   ·rw[show (x.kind != 3)=false by rw[F];rfl,show (x.kind==3)=true by rw[F];rfl,au,aj,aj];cases decide ((c.bY.length:Int)<400)with
    |false=>rfl
    | true=>
     rw[ aD ⟨E,D⟩,aD ⟨E,D⟩];rw[f2,aq,I,f3];rfl
   ·grind
 | false=>
  rw[Bool.false_and,ju,aj,Bool.or_false];by_cases e:i = -1
  ·subst e;rw[bne_self_eq_false,au,lJ,show decide ((-1:Int) >= 0)=false from rfl,au];by_cases C:x.kind=2
   ·simp_all
   ·rw[je C,sx C,aj,Bool.false_or];by_cases F:x.kind=3
    ·simp_all
    ·grind
  ·grind
def afE{c:ak}(C:dw c)(h:Pq c){x:aC}{i:Int}(D:uv c x i=true):Bs c/\p9 c.config.av c.aU x=true/\(x.kind=2 \/ x.kind=3 -> oO c i.toNat 100000/\0 <= i)/\c.ready.bf.length <= 4:=by
 simp only[uv,aH,gi,oU]at D;have⟨m1,m2,m3,m4⟩:=D;simp[gM,aH]at m2
 refine⟨Bs.of C h.p.ok (by omega),?_,λE=>?_,(Uz h.p.rdy).2.2⟩
 ·unfold p9;rw[h.p.rk,m1,m2.1];rfl
 ·have e:(x.kind==2 || x.kind==3)=true:=by rcases E with q | q <;>rw[q] <;>rfl
  rw[e,aj]at m4;simp[Om,aH,fY]at m4;have⟨F,I,_⟩:=afD h m4.1;exact⟨oO.of C h.p.ok F (by omega),I⟩
structure Ck (c:ak):Prop where
 f1:lu c.config c.box.bU=true
 f2:lu c.config c.box.next=true
 nw:aJ c.now 0 1000000=true
 rk:n8 c.config.av c.aU=true
 rd:ku c.config.av c.ready=true
 ar:oG c.config.av c.array=true
 sp:jo c.config.av c.spare=true
 se:c.spare.bC=c.config.bC
 rf:eO c.aX=true
 pa:q6 c=true
 qu:gZ (dW (dS c.config.av c.spare)) c.queue=true
 sh:gu c.shares=true
 sl:(c.shares.length:Int)=4
 dr:l7 c.drain=true
 pw:jM c.aS=true
 ps:c.aS.state=c.aU.aS
 si:c.aS.since<=c.now
 s1:aJ c.cJ.every 1 100000=true
 s2:aJ c.cJ.wait 1 c.cJ.every=true
 s3:aJ c.cJ.next 0 (W6 (dW c.config.av-1))=true
 er:kZ c.errors=true
 tr:c.trace.length<=2000
 rp:c.bY.length<=400
def Ck.of{c:ak}(h:dx c=true):Ck c:=by
 simp[dx,aH,fI,fY,gi,oU]at h;have⟨C,D,E,F,I,L,O,T,⟨U,Y⟩,Z,yC,pK,vY,yO,tU,qQ,Bj,DX,DY,I8,AJ,I9⟩:=h;exact⟨C,D,E,F,I,L,O,T,U,Y,Z,yC,pK,vY,yO,tU,by omega,Bj,DX,DY,I8,by omega,by omega⟩
def Ck.ok{c:ak}(h:Ck c):dx c=true:=by
 have⟨C,D,E,F,I,L,O,T,U,Y,Z,yC,pK,vY,yO,tU,qQ,Bj,DX,DY,I8,AJ,I9⟩:=h;simp[dx,aH,fI,fY,gi,oU]
 grind
def afF:∀ (l:aa Nat) (a:Nat),l.Pairwise (λx y=>x≠y) -> l.length <= (l.filter (λx=>decide (x≠a))).length+1
 |[],a,_=>by simp
 | x :: l,a,h=>by
  have⟨C,D⟩:=List.pairwise_cons.1 h;by_cases e:x=a
  ·subst e;have:(x :: l).filter (λy=>decide (y≠x))=l:=by
    rw[List.filter_cons_of_neg (by simp)];exact List.filter_eq_self.2 λy E=>by simpa using (C y E).symm
   grind
  ·rw[List.filter_cons_of_pos (by simpa using e)];have:=afF l a D;simp only[kB];omega
def pig:∀ (n:Nat) (l:aa Nat),(∀ x∈l,x<n)->l.Pairwise (λx y=>x≠y)->l.length<=n
 | 0,l,h,_=>by
  cases l with
  |nil=>simp
  |cons x l=>exact absurd (h x (.head _)) (by omega)
 | n+1,l,h,C=>by
  have E:=afF l n C;have F:=pig n (l.filter (λx=>decide (x≠n))) (λx D=>by
   have:=List.mem_filter.1 D;have I:=h x this.1;have L:x≠n:=by simpa using this.2
   omega) (C.filter _)
  omega
def uk.pw{l:aa aG}(h:uk l):l.Pairwise (λx y=>x≠y):=by
 rw[List.pairwise_iff_getElem];intro i j hi D F e;have C:=h j D;rw[List.any_eq_false]at C;have E:l[i]∈l.take j:=by
  rw[List.mem_take_iff_getElem]
  grind
 exact C _ E (Jf.2 e.symm)
def uk.mk{l:aa aG}(h:l.Pairwise (λx y=>x≠y)):uk l:=by
 rw[List.pairwise_iff_getElem]at h;intro j C;rw[List.any_eq_false];intro x D e;obtain⟨i,hi,rfl⟩:=List.mem_take_iff_getElem.1 D;exact h i j _ C (by omega) (Jf.1 e).symm
structure fL (c:ak):Prop where
 dl:(c.aX.aO.length:Int)=aQ c.config.av
 tl:(c.bI.length:Int)=aQ c.config.av
 gl:(c.guard.length:Int)=aQ c.config.av
 t:∀x∈c.bI,ld x=true
 g:∀x∈c.guard,3<=x/\x<=1000
 pd:∀a∈c.pending,cZ c.config.av a=true/\a.bL=0
 u:c.pending.Pairwise (λx y=>x≠y)
def fL.of{c:ak}(h:q6 c=true):fL c:=by
 simp[q6,aH,fI,bW,eJ]at h;have⟨g1,g2,g3,g4,g5,g6⟩:=h;have key:=λi C E=>by
  have:=g5 i C;unfold partAt at this;rw[bQ C,bQ E,aH,bq]at this;exact this
 have F:∀ i _,cZ _ c.pending[i]=true/\c.pending[i].bL=0/\(c.pending.take i).any _=false:=λi C=>by
  have:=g6 i C;unfold yM at this;rw[bQ C]at this
  simpa [aH]using this
 refine⟨g1,g2,g3,λx D=>?_,λx D=>?_,λa I=>?_,uk.pw λi hi=>(F i hi).2.2⟩
 ·obtain⟨i,hi,rfl⟩:=iI.1 D
  grind
 ·obtain⟨i,hi,rfl⟩:=iI.1 D
  grind
 ·obtain⟨i,hi,rfl⟩:=iI.1 I;simp[*]
def au5{g:aL}{l:aa aG}(D:∀ a∈l,cZ g a=true/\a.bL=0)(I:l.Pairwise (λx y=>x≠y)):l.length <= 128:=by
 have E:∀ a∈l,0 <= a.az/\a.az<8/\0 <= a.row/\a.row<16:=λa C=>by
  have⟨F,T,U,Y,Z,_⟩:=qT (D a C).1;have b1:=fy g;have b2:=fE F;omega
 have F:=pig 128 (l.map λa=>(a.az*16+a.row).toNat) (λx L=>by
  obtain⟨a,C,rfl⟩:=List.mem_map.1 L;have:=E a C;omega) (by
  rw[List.pairwise_map]
  refine I.imp_of_mem λ{a b} C hb O e=>O ?_
  have r1:=E a C;have r2:=E b hb;have c1:=(D a C).2;have c2:=(D b hb).2;cases a;cases b;simp only at *
  congr 1<;>omega)
 simp_all
def fL.ok{c:ak}(h:fL c):q6 c=true:=by
 have⟨g1,g2,g3,g4,g5,g6,g7⟩:=h;have hl:=au5 g6 g7;have C:=uk.mk g7;simp[q6,aH,fI,gi,oU,bW,eJ]
 refine⟨g1,g2,g3,by omega,λi hi=>?_,λi hi=>?_⟩
 ·have D:i<c.guard.length:=by omega
  unfold partAt;rw[bQ hi,bQ D,aH,bq];simp_all
 ·unfold yM;rw[bQ hi];simp only[aH,fI,gi];exact⟨(g6 _ (cR hi)).1,(g6 _ (cR hi)).2,C i hi⟩
def au6{g:aL}{b n:Int}{l:aa aG}(F:cZ g ⟨b,n,0⟩=true)(I:∀ a∈l,cZ g a=true/\a.bL=0)(C:l.Pairwise (λx y=>x≠y)):(∀ a∈od b l n,cZ g a=true/\a.bL=0)/\(od b l n).Pairwise (λx y=>x≠y):=by
 unfold od;cases h:l.any _ with
 |true=>simp_all
 | false=>
  rw[au];rw[List.any_eq_false]at h
  refine⟨λa L=>?_,?_⟩
  ·grind
  ·rw[List.pairwise_append]
   refine⟨C,List.pairwise_singleton _ _,λx D y E e=>?_⟩
   rw[ng.1 E]at e;exact h x D (Jf.2 e.symm)
def afG{g:aL}{b:Int}:∀ (ns:aa Int) {l:aa aG},(∀ n∈ns,cZ g ⟨b,n,0⟩=true) -> (∀ a∈l,cZ g a=true/\a.bL=0) -> l.Pairwise (λx y=>x≠y) -> (∀ a∈ns.foldl (od b) l,cZ g a=true/\a.bL=0)/\(ns.foldl (od b) l).Pairwise (λx y=>x≠y)
 |[],l,_,C,D=>⟨C,D⟩
 | n :: ns,l,E,C,D=>by
  have⟨F,I⟩:=au6 (E n (.head _)) C D;exact afG ns (λm L=>E m (.tail _ L)) F I
def Ea{T:Type}{p:T -> Prop}{l:aa T}{i:Nat}{x:T}(h:∀y∈l,p y)(C:p x):∀y∈l.set i x,p y:=by grind
def au7{t:cg}(h:ld t=true)(row cY:Int):ld (yV t row cY).1=true:=by
 unfold yV
 grind
def afH{k:Int}(h:aJ k 1 16=true):ld (Bw k)=true:=by
 have hb:=bq.1 h;simp only[ld,Bw,aH,fI,bW,lI,bq]
 refine⟨by omega,trivial,by omega,λi hi=>?_⟩
 rw[NP (by simpa using hi) (by simpa using hi)];simp[aJ]
def afI{c:eH}{p:dy}(hl:p.weights.length<1073741823)(h:lu c p=true):3 <= p.eK/\p.eK <= 1000:=by
 have⟨_,f2⟩:=D1 hl h;simp[n7,aH,bq]at f2;simp_all
def wG{g:aL}{a:dh}(C:cy g=true)(h:fe g 100000 a):oG g a=true:=by
 simp only[oG,aH,fY,bW]
 refine⟨C,h.cells,h.bD,h.bz,λc D=>Sy.ok (h.syms c D),λp E=>?_⟩
 have⟨x,y⟩:=p;have⟨F,I⟩:=List.of_mem_zip E;simp[Bc,aH,bq];exact⟨h.IK x F,h.kX y I⟩
def au8{g:aL}{c:aC}(h:dU g c=true):sE g (lg g c).toNat=true:=by
 have⟨E,D,hb,_⟩:=IY h;have⟨F,I⟩:=aeC h;unfold sE;unfold lg at *
 cases C:aJ _ 1 5 with
 | true=>
  have C:=bq.1 C
  grind
 | false=>
  have L:¬ c.kind <= 5:=λh=>by rw[bq.2 ⟨D.1,h⟩]at C;cases C
  grind
def afJ{l:aa Int}(h:∀ i,i<l.length -> mS l i=true){i:Nat}(hi:i<l.length):aJ l[i] 0 1000000=true:=by
 have:=h i hi;cases i with
 |zero=>rw[IV]at this;exact this
 |succ i=>rw[DN,aH]at this;exact this.1
def afK{l:aa Int}(h:∀ i,i<l.length -> mS l i=true){i:Nat}(hi:i+1<l.length):l[i]<l[i+1]:=by
 have:=h _ hi;rw[DN hi,aH,gi,oU]at this;omega
def afL{l:aa Int}(C:∀ i (hi:i<l.length),aJ l[i] 0 1000000=true)(D:∀ i (hi:i+1<l.length),l[i]<l[i+1]):∀ i,i<l.length -> mS l i=true:=λi hi=>by
 cases i with
 |zero=>rw[IV];exact C 0 hi
 | succ i=>
  have:=D i hi;rw[DN hi,aH,gi,oU];simp_all
def au9{l:aa Int}(h:∀ i,i<l.length -> mS l i=true){x:Int}(F:aJ x 0 1000000=true)(hl:DT ⟨[],l⟩ x=false):∀ i,i<(l++[x]).length -> mS (l++[x]) i=true:=by
 refine afL (λi hi=>?_) λi hi=>?_
 ·by_cases C:i<l.length
  ·rw[List.getElem_append_left];exact afJ h C
  ·grind
 ·have D:i<l.length:=by simp at hi;omega
  by_cases C:i+1<l.length
  ·rw[List.getElem_append_left C,List.getElem_append_left];exact afK h C
  ·have e:i+1=l.length:=by omega
   have E:(l++[x])[i+1]=x:=by simp[e]
   rw[E,List.getElem_append_left D];unfold DT at hl
   grind
def ava{l:aa Int}(h:∀ i,i<l.length -> mS l i=true)(k:Nat):∀ i,i<(l.drop k).length -> mS (l.drop k) i=true:=by
 refine afL (λi hi=>?_) λi hi=>?_
 ·rw[List.getElem_drop];exact afJ h _
 ·rw[List.getElem_drop,List.getElem_drop];rw[List.length_drop]at hi;exact afK h _
def afM{g:aL}{r:dJ}(e:fR)(h:ku g r=true):ku g (sG g r e)=true:=by
 unfold sG;cases C:ku g r&&(dU g e.cmd&&(aJ e.at_ 0 1000000 && !(e.cmd.kind==1&&DT r e.at_)))with
 |false=>exact h
 | true=>
  rw[aj];simp only[aH,gi]at C;have⟨_,I,D,E⟩:=C;simp only[ku,aH,fI,gi,oU,bW,eJ]at h ⊢;have⟨L,O,T,U,F⟩:=h
  refine⟨L,by rw[js];exact O,?_,λi hi=>?_,?_⟩
  ·cases e.cmd.kind==1 with
   |false=>exact T
   | true=>
    rw[aj];unfold IZ
    grind
  ·rw[js]at hi;have hb:=U i hi;rw[IU hi]at hb;rw[IU (by rw[js];exact hi)];by_cases Y:(lg g e.cmd).toNat=i
   ·subst Y;rw[List.getElem_set_self,au8 I];have:=bq.1 D;rw[bq.2 ⟨by omega,by omega⟩];rfl
   ·simp_all
  ·cases Z:e.cmd.kind==1 with
   |false=>exact F
   | true=>
    rw[Z]at E;exact ava (au9 F D E) _
structure Qk (n:Int) (q:List aP):Prop where
 r:∀x∈q,n9 n x=true
 b:q.Pairwise λx y=>fF x y=true
 i:q.Pairwise λx y=>x.id≠y.id
 l:q.length<=12
def avb{x y z:aP}(C:fF x y=true)(D:fF y z=true):fF x z=true:=by
 simp only[fF,dA,aH,fY,fI]at *
 omega
def Qk.of{n:Int}{q:aa aP}(h:gZ n q=true):Qk n q:=by
 have F:=h;simp only[gZ,aH,bW,eJ,fY]at h;have⟨E,T⟩:=h;have I:∀ x∈q,n9 n x=true:=λx L=>by
  obtain⟨i,hi,rfl⟩:=iI.1 L;have:=E i hi;unfold p6 at this;simp_all
 have hb:∀ j i (D:i<j) (C:j<q.length),fF q[i] q[j]=true:=by
  intro j
  induction j with
  |zero=>simp_all
  | succ j O=>
   intro i D C;have:=E (j+1) C;rw[IT C,aH,aH]at this;by_cases e:i=j
   ·simp_all
   ·exact avb (O i (by omega) _) this.2.1
 refine⟨I,?_,?_,by omega⟩
 ·rw[List.pairwise_iff_getElem]
  grind
 ·rw[List.pairwise_iff_getElem];intro i j hi C D e;have:=atv F D C;simp_all
def Qk.ok{n:Int}{q:aa aP}(h:Qk n q):gZ n q=true:=by
 have⟨C,D,E,I⟩:=h;rw[List.pairwise_iff_getElem]at D E;simp[gZ,aH,bW,eJ,fY]
 refine⟨λi hi=>?_,by omega⟩
 cases i with
 |zero=>rw[Us hi];exact C _ (cR hi)
 | succ i=>
  rw[IT hi,aH,aH,gi];refine⟨C _ (cR hi),D i (i+1) (by omega) hi (by omega),?_⟩;rw[List.any_eq_false];intro x F e;obtain⟨k,L,rfl⟩:=List.mem_take_iff_getElem.1 F
  grind
def Qk.sub{n:Int}{q s:aa aP}(h:Qk n q)(C:s.Sublist q):Qk n s:=
 ⟨λx D=>h.r x (C.subset D),h.b.sublist C,h.i.sublist C,Nat.le_trans C.length_le h.l⟩
def afN{T:Type}(l:aa T)(i:Nat):(l.take i++l.drop (i+1)).Sublist l:=by
 rw[<-List.eraseIdx_eq_take_drop_succ];exact List.eraseIdx_sublist l i
def avc(e x:bT):Prop:=¬ (e.line=x.line/\e.code=x.code)
structure Ek (l:List bT):Prop where
 e:∀x∈l,ud x=true
 k:l.Pairwise avc
 l:l.length<=6
def Vc{e x:bT}:mR e x=true ↔ x.line=e.line/\x.code=e.code:=by
 simp only[mR,aH,fI]
def Ek.of{l:aa bT}(h:kZ l=true):Ek l:=by
 simp[kZ,aH,bW,eJ,fY]at h;have⟨D,I⟩:=h;have key:=λi hi=>by
  have:=D i hi
  rwa [NO hi,aH,gi]at this
 refine⟨λx E=>?_,?_,by omega⟩
 ·obtain⟨i,hi,rfl⟩:=iI.1 E
  grind
 ·rw[List.pairwise_iff_getElem];intro i j hi F L e;have C:=(key j F).2;rw[List.any_eq_false]at C;exact C l[i] (List.mem_take_iff_getElem.2 ⟨i,by omega,rfl⟩) (Vc.2 e)
def Ek.ok{l:aa bT}(h:Ek l):kZ l=true:=by
 have⟨D,C,F⟩:=h;rw[List.pairwise_iff_getElem]at C;simp only[kZ,aH,bW,eJ,fY]
 refine⟨λi hi=>?_,by omega⟩
 rw[NO hi,aH,gi];refine⟨D _ (cR hi),?_⟩;rw[List.any_eq_false];intro x E e;obtain⟨k,I,rfl⟩:=List.mem_take_iff_getElem.1 E;exact C k i (by omega) hi (by omega) (Vc.1 e)
def afO{l:aa bT}(h:kZ l=true){n code:Int}(h1:0 <= n/\n <= 1023)(h2:code=1 \/ code=2):kZ (wC l n code)=true:=by
 have C:=Ek.of h;have hl:=C.l;have awT:ud ⟨n,code,1⟩=true:=by
  simp[ud,aH,dA,fI,bq];omega
 refine Ek.ok ?_;unfold wC;cases D:l.findIdx? (mR ⟨n,code,1⟩)with
 | some i=>
  have⟨hi,hp⟩:=UT D;dsimp only;rw[oL _ hi];have O:=C.e _ (cR hi);have T:ud (U6 l[i])=true:=by
   simp only[ud,aH,bq]at O ⊢;unfold U6;dsimp only;rw[aR]
   grind
  refine⟨Ea C.e T,?_,by rw[js];exact hl⟩;have E:=C.k;rw[List.pairwise_iff_getElem]at E ⊢;intro a b F hb U;rw[js]at F hb;have:=E a b F hb U;rw[List.getElem_set,List.getElem_set];by_cases I:i=a
  ·subst I
   rwa [bJ rfl,bx]
  ·rw[bx I];by_cases Y:i=b
   ·subst Y
    rwa [bJ rfl]
   ·simp[*]
 | none=>
  have hn:∀ x∈l,¬ (x.line=n/\x.code=code):=λx hx e=>by
   have:=List.findIdx?_eq_none_iff.1 D x hx;rw[Vc.2 e]at this;cases this
  have app:∀ m:aa bT,m.Sublist l -> m.length <= 5 -> Ek (m++[⟨n,code,1⟩]):=λm L hml=>by
   refine⟨λx hx=>?_,?_,by rw[iH,hU];omega⟩
   ·rcases List.mem_append.1 hx with hx | hx
    ·exact C.e x (L.subset hx)
    ·rwa [ng.1 hx]
   ·rw[List.pairwise_append]
    refine⟨C.k.sublist L,List.pairwise_singleton _ _,λx hx y Z e=>?_⟩
    rw[ng.1 Z]at e
    grind
  dsimp only;by_cases e6:l.length=6
  ·grind
  ·rw[sx (show ¬ (l.length:Int)=6 by omega),au]
   grind
def afP{l:aa ct}(h:∀ s∈l,l6 s=true){k:Nat}(C:k<l.length)(E:1<=l[k].eT):∀ s∈l.set k ⟨l[k].weight,W6 (l[k].eT-1)⟩,l6 s=true:=by
 have D:=h _ (cR C);simp only[l6,aH,bq]at D;rw[aR (n:=l[k].eT-1)];refine Ea h ?_;simp only[l6,aH,bq];omega
def avd{l:aa ct}(w:aa Bool)(hl:l.length<1073741823)(D:gu l=true)(hw:l.length=w.length):∃ y t,pZ l w=some (y,t)/\y.length=l.length/\gu y=true:=by
 have mk:∀ y:aa ct,y.length=l.length -> (∀ s∈y,l6 s=true) -> y.length=l.length/\gu y=true:=λy C Y=>by
  refine⟨C,?_⟩;simp[gu,aH,bW]at D ⊢;exact⟨Y,by rw[C];exact D.2⟩
 have E:∀ s∈l,l6 s=true:=by
  simp only[gu,aH,bW]at D;exact D.1
 unfold pZ xA xC aZ xL xM xZ;have hb:=wj (λi=>w.getD i false) (λi=>(l.getD i ⟨0,0⟩).eT) (min l.length w.length);have L:(hJ l).length=l.length:=by simp[hJ]
 have Z:=wj (λi=>w.getD i false) (λi=>((hJ l).getD i ⟨0,0⟩).eT) (min (hJ l).length w.length);have hm:=UL (λi=>w.getD i false) (λi=>(l.getD i ⟨0,0⟩).eT) (min l.length w.length);rw[List.nil_append,Jb l w (by omega),aq,IQ _ (by omega),aq,D,bR,au,List.length_nil,eS,cq,aj];unfold sK;generalize hr:lE (λi=>w.getD i false) (λi=>(l.getD i ⟨0,0⟩).eT) (min l.length w.length)=b at *
 by_cases O:b<0
 ·rw[aV O];exact⟨_,_,rfl,mk _ rfl E⟩
 ·have C:b.toNat<l.length:=by omega
  rw[bh O,au,aD ⟨by omega,C⟩,aD C];dsimp only;have hsb:=E _ (cR C);simp only[l6,aH,bq]at hsb;cases T:l[b.toNat].eT==0 with
  | false=>
   have T:¬ l[b.toNat].eT=0:=by simpa using T
   rw[ aD ⟨by omega,C⟩,aD C,aD ⟨by omega,C⟩,aD C];exact⟨_,_,rfl,mk _ (by simp) (afP E C (by omega))⟩
  | true=>
   have ave:∀ s∈hJ l,l6 s=true:=λs D=>by
    obtain⟨x,I,rfl⟩:=List.mem_map.1 D;have:=E x I;simp[l6,aH,bq,q9]at this ⊢;omega
   rw[aj,UN l w (by omega),aq];simp only[eR];rw[Jb _ w (by omega),aq];have U:0 <= sK (hJ l) w:=UM _ (i:=b.toNat) (by rcases hm with h|h;exact absurd h (by omega);exact h) _ (by rw[L];omega);have hq:sK (hJ l) w<((min (hJ l).length w.length:Nat):Int):=Z.2;have F:(sK (hJ l) w).toNat<(hJ l).length:=by omega
   have h4:1 <= (hJ l)[(sK (hJ l) w).toNat].eT:=by
    have dV:(sK (hJ l) w).toNat<l.length:=by omega
    have I:=E _ (cR dV);simp only[l6,aH,bq]at I;simp only[hJ,List.getElem_map,q9];simp only[hJ]at I;omega
   rw[aD ⟨U,F⟩,aD F,aD ⟨U,F⟩,aD F];exact⟨_,_,rfl,mk _ (by simp[L]) (afP ave F h4)⟩
def afQ{r:cW}(h:eO r=true)(k:Nat){d:Int}(C:-2 <= d/\d <= 5):eO ⟨r.aO.set k d,r.wait,r.ei⟩=true:=by
 simp only[eO,aH]at h ⊢;refine⟨UA h.1 ?_,by rw[js];exact h.2.1,h.2.2⟩;exact bq.2 C
def avf{r:cW}(h:eO r=true){b:Int}(hb:b.toNat<r.aO.length):eO (yW r b)=true:=by
 have C:=N8 h _ (cR hb);unfold yW;rw[oL _ hb];by_cases e:r.aO[b.toNat] = -2
 ·simp_all
 ·rw[bh e];exact afQ h _ (by omega)
def avg{r:cB}{p:eU}{x:aC}{now:Int}(E:jM p=true)(C:p.state=r.aS)(F:p.since <= now)(I:now <= 1000000)(O:6 <= x.kind/\x.kind <= 9)(D:mT r x=true):jM (By p x.kind now)=true/\(By p x.kind now).state=(fG r x).aS/\(By p x.kind now).since <= now:=by
 have hb:0 <= p.since:=by
  simp[jM,aH,bq]at E;omega
 have hi:0 <= p.idle/\p.idle <= 1000000:=by
  simp[jM,aH,bq]at E;omega
 have L:=bq.2 ⟨F,I⟩;unfold By;rw[E,L,Bool.and_self];have mk:∀ s:Int,0 <= s/\s <= 2 -> jM ⟨s,now,p.idle⟩=true:=λs C=>by
  simp[jM,aH,bq];omega
 have:x.kind=6 \/ x.kind=7 \/ x.kind=8 \/ x.kind=9:=by omega
 rcases this with h|h|h|h
 ·have e:r.aS=0:=by simpa [mT,h]using D
  simp[fG,h,C,e,mk]
 ·have e:r.aS=1:=by simpa [mT,h]using D
  simp[fG,h,C,e,mk]
 ·have e:r.aS=0:=by have:=D;simp[mT,h]at this;exact this.1
  simp[fG,h,C,e,mk]
 ·have e:r.aS=2:=by simpa [mT,h]using D
  simp[fG,h,C,e,mk]
def sP(f g:Nat->Bool)(n k:Nat):aa Bool:=(List.range n).map λi=>bif Nat.blt i k then f i else g i
def avh(f g:Nat->Bool)(n:Nat):sP f g n 0=(List.range n).map g:=rfl
def avi(f g:Nat -> Bool)(n:Nat):sP f g n n=(List.range n).map f:=by
 refine nc λi hi=>?_
 have hi:=eJ.1 hi;rw[show Nat.blt i n=true from gP hi];rfl
def Vd(f g:Nat->Bool)(n k:Nat):(sP f g n k).length=n:=by unfold sP;simp
def avj(k:Nat):Nat.blt k k=false:=by
 cases h:Nat.blt k k with
 |false=>rfl
 |true=>simp_all
def avk{f g:Nat->Bool}{n k:Nat}(C:k<(sP f g n k).length):(sP f g n k)[k]=g k:=by
 simp only[sP,List.getElem_map,jt,avj,au]
def avl{f g:Nat -> Bool}{n k:Nat}(h:k<n):(sP f g n k).set k (f k)=sP f g n (k+1):=by
 apply List.ext_getElem
 ·rw[js,Vd,Vd]
 ·intro i E F;rw[List.getElem_set];simp only[sP,List.getElem_map,jt];by_cases e:k=i
  ·subst e;rw[bJ rfl,show Nat.blt k _=true from gP (c9 _)];rfl
  ·rw[bx e];rcases Nat.lt_or_gt_of_ne e with h3 | h3
   ·have C:Nat.blt i k=false:=by
     cases hb:Nat.blt i k with
     |false=>rfl
     |true=>have:=cr hb;omega
    have D:Nat.blt i (k+1)=false:=by
     cases hb:Nat.blt i (k+1)with
     |false=>rfl
     |true=>have:=cr hb;omega
    rw[C,D]
   ·rw[show Nat.blt i k=true from gP h3,show Nat.blt i _=true from gP (by omega)]
def za(c:ak)(t:Int)(i:Nat):Bool:=qa c i&&(l9 c i).dB==t
def kA(p:Nat->Bool):Nat->Int
 |0=>-1
 |k+1=>bif decide (kA p k<0)&&p k then (k:Int)else kA p k
def On(p:Nat->Bool)(k:Nat):kA p (k+1)=bif decide (kA p k<0)&&p k then (k:Int)else kA p k:=rfl
def wH(p:Nat -> Bool):∀ n,(kA p n = -1 /\ ∀ k,k<n -> p k=false) \/ ∃ j:Nat,j<n/\kA p n=(j:Int)/\p j=true /\ ∀ k,k<j -> p k=false
 |0=>.inl ⟨rfl,λk C=>absurd C (Nat.not_lt_zero k)⟩
 | n+1=>by
  rw[On];rcases wH p n with ⟨D,E⟩|⟨j,D,E,F,I⟩
  ·grind
  ·grind
def zb(D kX C:Nat->Bool)(n:Nat):Int:=
 bif decide (kA (λi=>C i&&D i) n<0)then (bif decide (kA (λi=>C i&&kX i) n<0)then kA C n else kA (λi=>C i&&kX i) n)else kA (λi=>C i&&D i) n
def sQ(c:ak)(i:Nat):Bool:=decide ((l9 c i).at_<=c.now-c.box.bU.cap)
def rkN(D kX C:Nat->Bool)(n:Nat):Int:=
 bif decide (kA (λi=>C i&&D i) n<0)then (bif decide (kA (λi=>C i&&kX i) n<0)then (bif decide (kA C n<0)then 0 else 1)else 2)else 3
def avm{c:ak}(h:Pq c)(C:Nat->Bool):Mi c.queue ((List.range c.queue.length).map C) ((List.range c.queue.length).map (jq c)) c.box.bU.cap c.now=some (zb (sQ c) (jq c) C c.queue.length):=by
 have O:=h.ql;have E:=h.nw;have F:=h.cap;have I:W6 (c.now-c.box.bU.cap)=c.now-c.box.bU.cap:=aR;unfold Mi aZ;rw[dK,aq,bq.2 ⟨F.1,by omega⟩,bR,au,dK,aq,bq.2 E,bR,au];have e:=dn (step:=G4) c.queue.length (λk=>((c.queue,(List.range c.queue.length).map C,(List.range c.queue.length).map (jq c),c.box.bU.cap,c.now,zb (sQ c) (jq c) C k,rkN (sQ c) (jq c) C k,(k:Int),()),())) (.inl ((zb (sQ c) (jq c) C c.queue.length,()),())) big (λk D=>by
  have T:=wH C k;have U:=wH (λi=>C i&&jq c i) k;have Y:=wH (λi=>C i&&sQ c i) k;unfold G4 ay xG xI;dsimp only;simp only[eE,dm];rw[aV,aj,aj,aD ⟨by omega,by omega⟩];simp only[bH,Od D,I,wB];rw[bG];unfold zb rkN;rw[On,On,On];have hold:decide ((l9 c k).at_<=c.now-c.box.bU.cap)=sQ c k:=rfl;rw[hold];cases L:C k with
  |false=>simp[L]
  | true=>
   simp only[bR,au,cM];rw[aD ⟨by omega,by omega⟩,aD ⟨by omega,by omega⟩];generalize kA (λi=>C i&&sQ c i) k=o at *
   generalize kA (λi=>C i&&jq c i) k=u at *
   generalize kA C k=a at *
   have ao:a<0\/0<=a:=by omega
   have uo:u<0\/0<=u:=by omega
   have oo:o<0\/0<=o:=by omega
   have kn:¬ (k:Int)<0:=by omega
   rcases ao with ao|ao<;>rcases uo with uo|uo<;>rcases oo with oo|oo<;>cases jq c k<;>cases sQ c k<;>simp[D,ao,uo,oo,kn,Int.not_lt.2 ao,Int.not_lt.2 uo,Int.not_lt.2 oo]) (by
  unfold G4 ay xG xI;dsimp only;rw[bh,au]) (bM)
 rw[cH]at e
 refine(bu (λo=>Option.bind o _) e).trans ?_
 rfl
def BF:aC:=⟨0,0,0,0⟩
def ri(c:ak):Int:=match pZ c.shares (sO c c.queue.length)with
 |some y=>y.2
 |none=>0
def qb(c:ak):Int:=zb (sQ c) (jq c) (za c (ri c)) c.queue.length
def Jo(c:ak):aC×Int:=bif decide (qb c<0)then (BF,-1)else (oQ c (qb c).toNat,qb c)
def avn{c:ak}(h:Pq c):∃ l,pZ c.shares (sO c c.queue.length)=some (l,ri c):=by
 have⟨y,t,e,_⟩:=UO (sO c c.queue.length) (by have:=h.shl;omega) h.sh (by rw[Vb,h.shl]);refine⟨y,?_⟩;unfold ri;rw[e]
def avo(c:ak):-1 <= qb c/\qb c<c.queue.length:=by
 unfold qb zb;rcases wH _ _ with ⟨C,_⟩|⟨j,C,F,_⟩
 ·rw[C,aV,aj];rcases wH _ _ with ⟨D,_⟩ | ⟨j,D,I,_⟩
  ·rw[D,aV,aj];rcases wH (za c (ri c)) c.queue.length with ⟨E,_⟩|⟨j,E,L,_⟩<;>omega
  ·grind
 ·grind
def Ve(l:aa aG)(b:Int)(hl:l.length <= 1048576):C6 l b=some (l.any λa=>a.az==b):=by
 have E:=Bo (λa:aG=>a.az==b) l;unfold C6 bO;rw[UF];have e:=dn (step:=C5) (eP (λa:aG=>a.az==b) l) (λi=>((l,b,(i:Int),()),())) (if eP (λa:aG=>a.az==b) l<l.length then .inl ((true,()),())else .inr (.inl ((),()))) big (λk h=>by
  have D:=sI h (by omega);unfold C5 ay aY xG xI;dsimp only;rw[aV,aj,aD ⟨by omega,by omega⟩];simp only[bH];rw[D,au,bG]) (by
  by_cases C:eP (λa:aG=>a.az==b) l<l.length
  ·have D:=v8 C;unfold C5 ay aY xG xI;dsimp only;simp[*]
  ·unfold C5 ay aY xG xI;dsimp only;rw[bh,au,bx C]) (bM)
 rw[cH]at e
 refine(bu (λo=>Option.bind o _) e).trans ?_
 by_cases C:eP (λa:aG=>a.az==b) l<l.length
 ·rw[bJ C,aV C];rfl
 ·rw[bx C,bh C];rfl
def afR{c:ak}(h:Pq c)(a:aG):(iter C8 big ((c,iU c,(List.range c.queue.length).map (l8 c),(),(0:Int),()),((a.az,a.row,a.bL,()),()))).bind (Sum.elim (λD=>some D.1.1) (Sum.elim (λY=>some true) (λz=>nomatch z)))=some (!Jn c c.queue.length a.az):=by
 have Z:=h.ql;have E:=Of h;have e:=fU (step:=C8) (List.range c.queue.length) (λi=>!(l8 c i&&jq c i&&a.az==(gv c i).az)) (λi=>((c,iU c,(List.range c.queue.length).map (l8 c),(),(i:Int),()),((a.az,a.row,a.bL,()),()))) (.inl ((false,()),())) (.inr (.inl ((),()))) big (λk C=>by
  rw[dm]at C;have F:=BB c;have hl4:((List.range c.queue.length).map (l8 c)).length=c.queue.length:=by simp
  have⟨ho,I,L,o3,o4,O⟩:=Jm h C;have T:=ae9 (r:=c.aU) (a:=gv c k) O I L E;rw[jt];unfold C8 ay aY xG xI;dsimp only;rw[aV,aj,aD ⟨by omega,by omega⟩];simp only[bH,Od C];rw[bG];cases l8 c k with
  |false=>rfl
  | true=>
   rw[aj,aD ⟨by omega,by omega⟩];simp only[Jl];rw[aD ⟨by omega,by omega⟩,T,aq,Bool.beq_comm];have kX:jq c k=D2 c.aU (gv c k):=rfl;rw[kX];cases a.az==(gv c k).az<;>cases D2 c.aU (gv c k)<;>rfl) (by
  rw[dm];have F:=BB c;unfold C8 ay aY xG xI;dsimp only;rw[bh,au]) (by rw[dm];exact bM)
 rw[cH]at e;rw[e,aq];have U:(List.range c.queue.length).all (λi=>!(l8 c i&&jq c i&&a.az==(gv c i).az)) = !Jn c c.queue.length a.az:=by
  unfold Jn;rw[List.any_eq_not_all_not,Bool.not_not]
 rw[U];cases Jn c c.queue.length a.az<;>rfl
def avp{c:ak}(h:Pq c){k:Nat}(C:k<c.queue.length):Mg c (iU c) ((List.range c.queue.length).map (l8 c)) (k:Int)=some (qa c k):=by
 have hq:=h.ql;have wQ:=h.pl;have I:=wh h.rf;have L:=Of h;have Vf:=BB c;have hl4:((List.range c.queue.length).map (l8 c)).length=c.queue.length:=by simp
 obtain⟨ho,E,O,T,o4,o5⟩:=Jm h C;obtain⟨q1,q2,U⟩:=h.q _ (cR C);rw[wB C]at U;have hnw:=h.nw;have Y:(l9 c k).write=sM c.queue k:=by rw[Oe C,wB C]
 have Z:yf c.aU (gv c k) (l9 c k).write=some (oQ c k):=by rw[Y,ae8];exact US _ E O L
 have hw:W6 (c.now-(l9 c k).at_)=c.now-(l9 c k).at_:=aR;unfold Mg xI bO;rw[aD ⟨by omega,by omega⟩];simp only[bH,Jl];rw[aD ⟨by omega,by omega⟩];simp only[Od C,(Ol I.1 E T),aq,wB];unfold qa;cases l8 c k with
 |false=>rfl
 | true=>
  simp only[bR,au,cM];cases sN c (gv c k).az with
  |true=>rfl
  | false=>
   rw[au,aD ⟨by omega,by omega⟩,Z,aq,N6 h.p (au2 h C),aq];cases gM c (oQ c k)with
   |false=>rfl
   | true=>
    simp only[bR,ju,au,cM,Ve _ _ (show c.pending.length<=1048576 by omega),aq,afR h,hw];have r3:(c.pending.any λa=>a.az==(gv c k).az)=Oj c (gv c k).az:=rfl;have hyg:decide (c.now-(l9 c k).at_ >= c.box.bU.cap) = !Ok c k:=by
     unfold Ok;by_cases F:c.now-(l9 c k).at_<c.box.bU.cap
     ·rw[aV F,bh];rfl
     ·rw[bh F,aV];rfl
    rw[r3,hyg];by_cases D:(oQ c k).kind=1
    ·have k4:((oQ c k).kind==(4:Int))=false:=by rw[D];rfl
     have k4':((oQ c k).kind != (4:Int))=true:=by rw[D];rfl
     have D:((oQ c k).kind==(1:Int))=true:=by rw[D];rfl
     rw[D,k4,k4'];cases Oj c (gv c k).az<;>rfl
    ·have D:((oQ c k).kind==(1:Int))=false:=by simpa using D
     rw[D,bne];cases (oQ c k).kind==(4:Int)with
     |false=>rfl
     | true=>
      cases Oj c (gv c k).az with
      |true=>rfl
      | false=>
       simp only[Bool.false_or,bR,aj,au,cM,ju];refine(aD (⟨by omega,C⟩:0<=(k:Int)/\k<c.queue.length)).trans ?_;cases Ok c k with
       |false=>rw[Bool.and_false];rfl
       |true=>rw[Bool.and_true];exact afR h _
def avq{c:ak}(h:Pq c):Mj c=some (Jo c):=by
 have hq:=h.ql;have O:=Of h;have Vf:=BB c;have⟨l,hl⟩:=avn h;have hb:=avo c;have e:=dn (step:=G5) c.queue.length (λi=>((c,(),(),(),(),(),(),(i:Int),()),(((0:Int),(0:Int),(0:Int),(0:Int),()),iU c,(List.range c.queue.length).map (l8 c),(List.range i).map (qa c),(List.range i).map (jq c),sO c i,()))) (.inl ((c,(),(),(),(),(),()),(((0:Int),(0:Int),(0:Int),(0:Int),()),iU c,(List.range c.queue.length).map (qa c),(List.range c.queue.length).map (jq c),sO c c.queue.length,()))) big (λk C=>by
  have⟨U,E,F,Y,Z,T⟩:=Jm h C;have⟨q1,q2,q3⟩:=h.q _ (cR C);rw[wB C]at q2;have hwl:=Vb c k;have hh:=ae9 (r:=c.aU) (a:=gv c k) T E F O;have kX:jq c k=D2 c.aU (gv c k):=rfl;have hwt:sO c (k+1)=bif qa c k then (sO c k).set (l9 c k).dB.toNat true else sO c k:=rfl;unfold G5 ay xG xI xL;dsimp only;simp only[eE,dm,hU];rw[aV,aj,avp h C,aq,cq,aj,aD ⟨by omega,by omega⟩,aD];simp only[bH,Jl];rw[hh,aq,aj,bG,List.range_succ,jP,jP,List.map_singleton,List.map_singleton,kX,hwt];cases qa c k with
  |false=>rfl
  | true=>
   rw[ aD ⟨by omega,by omega⟩];simp only[wB];rw[aD ⟨by omega,by omega⟩,aD];rfl) (by
  unfold G5 ay xG xI xL;dsimp only;rw[bh,au]) (bM)
 have I:=dn (step:=G6) c.queue.length (λi=>((c,(),(),(),(),ri c,(i:Int),()),(((0:Int),(0:Int),(0:Int),(0:Int),()),iU c,sP (za c (ri c)) (qa c) c.queue.length i,(List.range c.queue.length).map (jq c),()))) (.inl ((c,(),(),(),(),()),(((0:Int),(0:Int),(0:Int),(0:Int),()),iU c,(List.range c.queue.length).map (za c (ri c)),(List.range c.queue.length).map (jq c),()))) big (λk C=>by
  have D:=Vd (za c (ri c)) (qa c) c.queue.length k;have ht:za c (ri c) k=(qa c k&&(l9 c k).dB==ri c):=rfl;rw[<- avl C,ht];unfold G6 ay xG xI xL;dsimp only;rw[aV,aj,aD ⟨by omega,by omega⟩,aD,bG];simp only[bH,avk];cases qa c k with
  |false=>rw[au,aD ⟨by omega,by omega⟩,aD];rfl
  | true=>
   rw[ aD ⟨by omega,by omega⟩];simp only[wB];rw[aD ⟨by omega,by omega⟩,aD];rfl) (by
  unfold G6 ay xG xI xL;dsimp only;rw[bh,au,avi]) (bM)
 rw[cH]at e I;rw[avh]at I;unfold Mj xI aZ xL;rw[afr h,aq,auP h,aq,bJ (by decide)]
 refine(bu (λo=>Option.bind o _) e).trans ?_
 rw[aq];simp only[eR];rw[ae4 _ _ (by have:=h.shl;omega),hl,aq]
 refine(bu (λo=>Option.bind o _) I).trans ?_
 rw[aq];simp only[eR];rw[avm h,aq];show (bif decide (qb c<0)then _ else _)=_;unfold Jo;by_cases L:qb c<0
 ·rw[aV L];rfl
 ·have D:(qb c).toNat<c.queue.length:=by omega
  have⟨U,E,F,Y,Z,T⟩:=Jm h D;rw[bh L,au,au];have lP:¬ zb (sQ c) (jq c) (za c (ri c)) c.queue.length<0:=L;have aua:(zb (sQ c) (jq c) (za c (ri c)) c.queue.length).toNat<c.queue.length:=D;rw[aD ⟨by omega,by omega⟩,aD];simp only[Jl];rw[aD ⟨by omega,by omega⟩];simp only[wB];have hwr:(l9 c (qb c).toNat).write=sM c.queue (qb c).toNat:=by rw[Oe D,wB D]
  show (yf c.aU (gv c (qb c).toNat) (l9 c (qb c).toNat).write).bind _=_;rw[hwr,ae8,US _ E F O,aq];rfl
def avr{α:Type}(p:α -> Bool)(l:aa α):(eP p l=l.length/\l.find? p=none) \/ ∃ h:eP p l<l.length,l.find? p=some l[eP p l]:=by
 have E:=Bo p l;rcases Nat.lt_or_ge _ _ with h|h
 ·refine .inr ⟨h,?_⟩;rw[List.find?_eq_some_iff_getElem]
  refine⟨v8 h,_,h,rfl,λj C=>?_⟩
  rw[sI C];rfl
 ·refine .inl ⟨by omega,?_⟩;rw[List.find?_eq_none];intro x D;obtain⟨j,C,rfl⟩:=iI.1 D;rw[sI (p:=p) (by omega) C];simp
def Jp(c:ak)(l:aa aC):aC×Bool:=match l.find? (gM c)with
 |some x=>(x,true)
 |none=>(BF,false)
def afS{c:ak}(h:Pq c){l:aa aC}(hl:l.length <= 1000)(F:∀ x∈l,dU c.config.av x=true):GS c l=some (Jp c l):=by
 have hi:=Bo (gM c) l;have uw:∀ (k:Nat) (C:k<l.length),AG ((c,l,(),(k:Int),()),(((0:Int),(0:Int),(0:Int),(0:Int),()),()))=some (bif gM c l[k]then .inr (.inl (((),true,()),((l[k].kind,l[k].az,l[k].row,l[k].bL,()),())))else .inl ((c,l,(),((k+1:Nat):Int),()),(((0:Int),(0:Int),(0:Int),(0:Int),()),()))):=by
  intro k C;unfold AG ay aY xG xI;dsimp only;rw[aV,aj,aD ⟨by omega,by omega⟩];simp only[bH];rw[N6 h.p (F _ (cR C)),aq];cases gM c l[k]with
  |false=>rw[au,bG];rfl
  |true=>simp_all
 unfold GS Jp bO;rcases avr (gM c) l with ⟨D,E⟩|⟨D,E⟩
 ·have e:=dn (step:=AG) l.length _ _ big (λk C=>by
   rw[uw k C,sI (p:=gM c) (i:=k) (by omega) C];rfl) (by
   unfold AG ay aY xG xI;dsimp only;rw[bh,au]) (bM)
  rw[cH]at e
  refine(bu (λo=>Option.bind o _) e).trans ?_
  rw[E];rfl
 ·have e:=dn (step:=AG) (eP (gM c) l) (λk=>((c,l,(),(k:Int),()),(((0:Int),(0:Int),(0:Int),(0:Int),()),()))) (.inl (((),true,()),((l[eP (gM c) l].kind,l[eP (gM c) l].az,l[eP (gM c) l].row,l[eP (gM c) l].bL,()),()))) big (λk C=>by
   rw[uw k (by omega),sI (p:=gM c) (i:=k) C (by omega)];rfl) (by
   rw[uw _ D,v8 D];rfl) (bM)
  rw[cH]at e
  refine(bu (λo=>Option.bind o _) e).trans ?_
  rw[E];rfl
def Eb(c:ak)(b:Int)(x:aC):aC:=bif (jf c.aU b).open_ then ⟨4,b,0,0⟩else x
def Vg{c:ak}(x:aC)(C:0 <= x.az)(h:x.az.toNat<c.aU.aB.length):C4 c x=some (Eb c x.az x):=by
 unfold C4 Eb xI;rw[aD ⟨C,h⟩,Jd h]
 grind
def Vh{c:ak}{b:Int}{x:aC}(h:Pq c)(C:0 <= b/\b<aQ c.config.av)(D:dU c.config.av x=true):dU c.config.av (Eb c b x)=true:=by
 unfold Eb;cases (jf _ b).open_ with
 |false=>exact D
 |true=>exact Je h.p.R.Bt (.inl rfl) C
def Jq(c:ak)(b:Int):aC:=Eb c b ⟨5,b,0,0⟩
def oR(c:ak)(i:Nat):aG:=c.pending.getD i zA
def afT{c:ak}{i:Nat}(h:i<c.pending.length):c.pending[i]=oR c i:=by
 unfold oR;rw[fQ,bQ h];rfl
def Oo(c:ak)(i:Nat):Bool:=!sN c (oR c i).az && !((c.pending.take i).any λa=>a.az==(oR c i).az)
def Vi(c:ak)(i:Nat):aC:=Eb c (oR c i).az ⟨1,(oR c i).az,(oR c i).row,0⟩
def rj(c:ak):aa aC:=(gN 0 c.aX.aO).map (Jq c)
def sR(c:ak)(k:Nat):aa aC:=((List.range k).filter (Oo c)).map (Vi c)
def afU{c:ak}(h:Pq c){i:Nat}(hi:i<c.pending.length):cZ c.config.av (oR c i)=true/\0 <= (oR c i).az/\(oR c i).az.toNat<c.aU.aB.length/\(oR c i).az.toNat<c.aX.aO.length/\(oR c i).az<aQ c.config.av:=by
 have C:=h.pe _ (cR hi);rw[afT]at C;have⟨_,D,E,F,I,L,O⟩:=qT C;have:=h.p.bl;have:=h.dl;simp_all
def avs{c:ak}(h:Pq c){b:Int}(hb:b∈gN 0 c.aX.aO):(0 <= b/\b<aQ c.config.av)/\dU c.config.av (Jq c b)=true:=by
 obtain⟨j,rfl,C,_⟩:=atZ hb;have:=h.dl;have hb:0 <= ((0+j):Int)/\((0+j):Int)<aQ c.config.av:=by omega
 exact⟨hb,Vh h hb (Je h.p.R.Bt (.inr rfl) hb)⟩
def avt{c:ak}(h:Pq c){i:Nat}(hi:i<c.pending.length):dU c.config.av (Vi c i)=true:=by
 have⟨C,D,F,I,E⟩:=afU h hi;exact Vh h ⟨D,E⟩ (auf C)
def afV(c:ak)(k:Nat):(sR c k).length <= k:=by
 unfold sR
 grind
def avu{c:ak}(h:Pq c):Ma c=some (rj c++sR c c.pending.length):=by
 have E:=wh h.rf;have wQ:=h.pl;have hdn:=h.dl;have Vj:=h.p.bl;have ul:=N7 0 c.aX.aO;have e:=dn (step:=GU) c.aX.aO.length (λi=>((c,(),(i:Int),()),((gN 0 (c.aX.aO.take i)).map (Jq c),()))) (.inl ((c,(),()),(rj c,()))) big (λk C=>by
  have I:=N7 0 (c.aX.aO.take k);rw[fX]at I;have L:=(Ol (c:=c) (b:=(k:Int)) E.1 (by omega) (by omega))
  have O:sN c (k:Int)=decide (c.aX.aO[k] >= 4):=by
   unfold sN;rw[bH,fQ,bQ C];rfl
  unfold GU ay xG;dsimp only;rw[aV,aj,L,aq,bG,ae1 C,O];cases decide (c.aX.aO[k] >= 4)with
  |false=>rfl
  | true=>
   rw[aj,aj,Vg _ (by show 0 <= (k:Int);omega) (by show (k:Int).toNat<_;omega),aq,eE,hU,cq,jP];rfl) (by
  unfold GU ay xG;dsimp only;rw[bh,au,kC];rfl) (bM)
 have D:=dn (step:=GV) c.pending.length (λi=>((c,(),(i:Int),()),(rj c++sR c i,()))) (.inl (((),()),(rj c++sR c c.pending.length,()))) big (λk C=>by
  have⟨ho,F,T,U,o4⟩:=afU h C;have hpk:=afV c k;have hul:(rj c).length <= 8:=by unfold rj;rw[eE];omega
  have Y:sR c (k+1)=sR c k++(bif Oo c k then [Vi c k]else []):=by
   unfold sR;rw[List.range_succ,List.filter_append];cases Z:Oo c k<;>simp[Z]
  rw[Y];unfold GV ay xG xI;dsimp only;rw[aV,aj,aD ⟨by omega,by omega⟩,bG];simp only[bH,afT,(Ol E.1 F U),aq,Int.toNat_zero,List.drop_zero];unfold Oo;cases sN c (oR c k).az with
  |true=>rw[bR,au,Bool.false_and,au,List.append_nil]
  | false=>
   rw[ju,aj,bJ ⟨by omega,by omega,by omega⟩,Ve _ _ (by rw[fX];omega),aq,cM];cases (c.pending.take k).any λa=>a.az==(oR c k).az with
   |true=>rw[bR,au,au,List.append_nil]
   | false=>
    rw[ju,Vg _ F T,aq,iH,hU,cq,List.append_assoc];rfl) (by
  unfold GV ay xG xI;dsimp only;rw[bh,au]) (bM)
 rw[cH]at e D;unfold Ma aZ
 refine(bu (λo=>Option.bind o _) e).trans ?_
 rw[aq];have e0:rj c++sR c 0=rj c:=List.append_nil _;rw[e0]at D
 refine(bu (λo=>Option.bind o _) D).trans ?_
 rfl
def Ec(u:Bool)(l:aa Int)(idle:Nat->Bool)(i:Nat):Bool:=bif u then decide (l.getD i 0 >= 4)else decide (l.getD i 0 > 0)&&idle i
def Ed(r:cW)(idle:Nat->Bool):Int:=lE (Ec (decide (((gN 0 r.aO).length:Int) > 0)) r.aO idle) (λi=>r.aO.getD i 0) r.aO.length
def afW(r:cW)(idle:Nat->Bool):-1<=Ed r idle/\Ed r idle<r.aO.length:=wj _ _ _
def avv{r:cW}(D:eO r=true)(idle:Nat -> Bool):Mk r ((List.range r.aO.length).map idle)=some (Ed r idle):=by
 have hl:=wh D;unfold Mk aZ;rw[NM _ (by omega),aq,D,bR,au,ae2 D,aq];generalize L:decide (((gN 0 r.aO).length:Int) > 0)=u;have e:=dn (step:=G7) r.aO.length (λi=>(((List.range r.aO.length).map idle,(),u,lE (Ec u r.aO idle) (λi=>r.aO.getD i 0) i,(i:Int),()),((r.aO,r.wait,r.ei,()),()))) (.inl ((lE (Ec u r.aO idle) (λi=>r.aO.getD i 0) r.aO.length,()),())) big (λk E=>by
  have hb:=wj (Ec u r.aO idle) (λi=>r.aO.getD i 0) k;rw[Ja];generalize lE (Ec u r.aO idle) (λi=>r.aO.getD i 0) k=C at hb;have O:r.aO.getD k 0=r.aO[k]:=by rw[fQ,bQ E];rfl
  have T:0 <= (k:Int)/\k<r.aO.length:=⟨by omega,E⟩
  unfold G7 Bu Ec ay xG xI;dsimp only;rw[aV,aj,aD ⟨by omega,by omega⟩];simp only[bH,O,eE,dm,aD T];rw[bG,aV (by omega:(k:Int)<(r.aO.length:Int)),aj];simp only[Od E];by_cases F:C<0
  ·rw[aV F,Bool.true_or];cases u<;>cases decide (r.aO[k] > 0)<;>cases decide (r.aO[k] >= 4)<;>cases idle k<;>rfl
  ·have I:C.toNat<r.aO.length:=by omega
   have U:r.aO.getD C.toNat 0=r.aO[C.toNat]:=by rw[fQ,bQ I];rfl
   have Y:0 <= C/\C.toNat<r.aO.length:=⟨by omega,I⟩
   rw[bh F,U];simp only[aD Y,au];cases u<;>cases decide (r.aO[k] > 0)<;>cases decide (r.aO[k] >= 4)<;>cases idle k<;>cases decide (r.aO[k] > r.aO[C.toNat])<;>rfl) (by
  unfold G7 ay xG xI;dsimp only;rw[bh,au]) (bM)
 rw[cH]at e
 refine(bu (λo=>Option.bind o _) e).trans ?_
 unfold Ed;rw[L];rfl
def Oq(w:aa aG)(r:cB)(b:Nat):Bool:=w.any λa=>a.az==(b:Int)&&a.row==(jf r (b:Int)).row
def Jr(w:aa aG)(r:cB)(b:Nat):Bool:=(jf r (b:Int)).open_ && !Oq w r b
def BG(r:cB)(eV:Int)(w:aa aG):Int:=bif eV != 1 then -1 else kA (Jr w r) r.aB.length
def afX(r:cB)(eV:Int)(w:aa aG):-1 <= BG r eV w/\BG r eV w<r.aB.length:=by
 unfold BG;cases eV != 1 with
 |true=>grind
 | false=>
  rw[au];rcases wH (Jr w r) r.aB.length with ⟨C,_⟩|⟨j,C,D,_⟩<;>omega
def avw{w:aa aG}{r:cB}{b:Nat}(hb:b<r.aB.length)(hl:r.aB.length <= 1048576)(D:w.length <= 1000)(o:Bool):iter Da big ((w,(),(b:Int),o,(0:Int),()),((r.aB,r.aS,()),()))=some (.inl ((w,(),(b:Int),o || Oq w r b,()),((r.aB,r.aS,()),()))):=by
 have e:=dn (step:=Da) w.length (λk=>((w,(),(b:Int),o || ((w.take k).any λa=>a.az==(b:Int)&&a.row==(jf r (b:Int)).row),(k:Int),()),((r.aB,r.aS,()),()))) (.inl ((w,(),(b:Int),o || Oq w r b,()),((r.aB,r.aS,()),()))) big (λk C=>by
  rw[tX C,List.any_append,List.any_cons,List.any_nil,Bool.or_false,Jd (by rw[bH];exact hb)];unfold Da ay xG xI;dsimp only;rw[aV,aj,aD ⟨by omega,by omega⟩,bG];simp only[bH];cases w[k].az==(b:Int)with
  |false=>rw[au,Bool.false_and,Bool.or_false]
  | true=>
   rw[aj,aD ⟨by omega,C⟩,aD ⟨by omega,hb⟩,cM];cases w[k].row==r.aB[b].row with
   |false=>simp[*]
   |true=>rw[aj,Bool.or_true,Bool.or_true]) (by
  unfold Da ay xG xI;dsimp only;rw[bh,au,kC];rfl) (bM)
 rw[cH,List.take_zero,List.any_nil,Bool.or_false]at e;exact e
def avx(i:Nat)(l:aa ep)(x:Int)(h:x∈opens i l):∃ j:Nat,j<l.length/\x=((i+j:Nat):Int):=by
 induction l generalizing i with
 |nil=>cases h
 | cons d l C=>
  have e:opens i (d :: l)=bif d.open_ then (i:Int) :: opens (i+1) l else opens (i+1) l:=rfl;rw[e]at h;have tl:x∈opens (i+1) l -> ∃ j:Nat,j<(d :: l).length/\x=((i+j:Nat):Int):=λh=>by
   have⟨j,D,E⟩:=C _ h;exact⟨j+1,by simpa using D,by rw[E];omega⟩
  cases F:d.open_ with
  |false=>grind
  | true=>
   rw[F,aj]at h;rcases fH.1 h with rfl|h
   ·exact⟨0,by simp,rfl⟩
   ·exact tl h
def avy{r:cB}(eV:Int){w:aa aG}(hl:r.aB.length <= 1048576)(F:w.length <= 1000):Ml r eV w=some (BG r eV w):=by
 unfold Ml BG bO;cases eV != 1 with
 |true=>rfl
 | false=>
  have uw:∀ k (C:k<r.aB.length),AK ((w,(),k,()),((r.aB,r.aS,()),()))=some (bif Jr w r k then .inr (.inl ((k,()),()))else .inl ((w,(),((k+1):Int),()),((r.aB,r.aS,()),()))):=by
   intro k C;have hb:(jf r (k:Int)).open_=r.aB[k].open_:=by rw[Jd (by rw[bH];omega)];simp only[bH]
   unfold AK Jr ay aY xG xI aZ;dsimp only;rw[aV,aj,aD ⟨by omega,by omega⟩,hb];simp only[bH];rw[avw C hl F,aq];simp only[eR];rw[bG];cases r.aB[k].open_<;>cases Oq w r k<;>rfl
  rcases wH (Jr w r) _ with ⟨D,E⟩|⟨j,D,E,I,L⟩
  ·have e:=dn (step:=AK) r.aB.length (λk=>((w,(),(k:Int),()),((r.aB,r.aS,()),()))) (.inr (.inl ((),()))) big (λk C=>by
    rw[uw k C,E k C];rfl) (by
    unfold AK ay aY xG xI aZ;dsimp only;rw[bh,au]) (bM)
   rw[cH]at e
   refine(bu (λo=>Option.bind o _) e).trans ?_
   rw[D];rfl
  ·have e:=dn (step:=AK) j (λk=>((w,(),(k:Int),()),((r.aB,r.aS,()),()))) (.inl (((j:Int),()),())) big (λk C=>by
    rw[uw k (by omega),L k C];rfl) (by
    rw[uw j D,I];rfl) (bM)
   rw[cH]at e
   refine(bu (λo=>Option.bind o _) e).trans ?_
   rw[E];rfl
def dL(c:ak):Int:=yS c.box.bU.dQ c.aS (DZ c)
def Ot(c:ak)(i:Nat):Bool:=!((iU c).any λa=>a.az==(i:Int))
def lG(c:ak):Int:=Ed c.aX (Ot c)
def jh(c:ak):Int:=BG c.aU c.box.bU.eV (iU c)
def Ee(c:ak):aa aC:=bif decide (lG c >= 0) && !sN c (lG c)then [Jq c (lG c)]else []
def zc(c:ak):aa aC:=bif decide (jh c >= 0)then [⟨4,jh c,0,0⟩]else []
def sS(c:ak):aa aC:=bif dL c==8&&decide (((opens 0 c.aU.aB).length:Int) > 0)then [⟨4,(opens 0 c.aU.aB).headD 0,0,0⟩]else bif dL c != 0 then [⟨dL c,0,0,0⟩]else []
def Vk(c:ak)(l:aa aC):aC:=(l.find? (gM c)).getD BF
def afY(c:ak):dL c=0\/6<=dL c/\dL c<=9:=at3 _ _ _
def avz(l:aa Int)(h:0<l.length):l.headD 0=l[0]:=by
 cases l with
 |nil=>cases h
 |cons x l=>rfl
def afZ(c:ak)(h:Pq c)(C:0<(opens 0 c.aU.aB).length):(0 <= (opens 0 c.aU.aB)[0]/\(opens 0 c.aU.aB)[0]<aQ c.config.av)/\(opens 0 c.aU.aB).headD 0=(opens 0 c.aU.aB)[0]:=by
 have⟨j,D,E⟩:=avx 0 _ _ (cR C);have:=h.p.bl;exact⟨by omega,avz _ C⟩
def avA{c:ak}(h:Pq c):(sS c).length <= 1 /\ ∀ x∈sS c,dU c.config.av x=true:=by
 have T:=afY c;have D:=h.p.R.Bt;have E:(bif dL c != 0 then [(⟨dL c,0,0,0⟩:aC)]else []).length <= 1 /\ ∀ x∈(bif dL c != 0 then [⟨dL c,0,0,0⟩]else []),dU c.config.av x=true:=by
  by_cases F:dL c=0
  ·simp_all
  ·rw[je F];exact⟨c9 _,λx C=>by rw[ng.1 C];exact afa D (by omega)⟩
 unfold sS;cases dL c==8 with
 |false=>exact E
 | true=>
  by_cases I:0<(opens 0 c.aU.aB).length
  ·have⟨L,O⟩:=afZ c h I;rw[aV,O];exact⟨c9 _,λx C=>by rw[ng.1 C];exact Je D (.inl rfl) L⟩
  ·simp_all
def avB{c:ak}(h:Pq c):(zc c).length <= 1 /\ ∀ x∈zc c,dU c.config.av x=true:=by
 have E:=h.p.bl;have hb:-1 <= jh c/\jh c<c.aU.aB.length:=afX _ _ _;unfold zc;by_cases C:jh c >= 0
 ·rw[aV C];exact⟨c9 _,λx D=>by rw[ng.1 D];exact Je h.p.R.Bt (.inl rfl) (by omega)⟩
 ·grind
def avC{c:ak}(h:Pq c):(Ee c).length <= 1 /\ ∀ x∈Ee c,dU c.config.av x=true:=by
 have F:=h.dl;have hb:-1 <= lG c/\lG c<c.aX.aO.length:=afW _ _;unfold Ee;by_cases D:lG c >= 0
 ·have C:0 <= lG c/\lG c<aQ c.config.av:=by omega
  rw[aV D];cases sN c _ with
  |true=>simp_all
  |false=>exact⟨c9 _,λx E=>by rw[ng.1 E];exact Vh h C (Je h.p.R.Bt (.inr rfl) C)⟩
 ·grind
def avD{c:ak}(h:Pq c):Mm c (dL c)=some (Ee c++(zc c++sS c)):=by
 have T:=Of h;have hq:=h.ql;have Vj:=h.p.bl;have hdn:=h.dl;have U:=wh h.rf;have Y:c.aU.aB.length=c.aX.aO.length:=by omega
 have DV:-1 <= lG c/\lG c<c.aX.aO.length:=afW _ _;have gI:-1 <= jh c/\jh c<c.aU.aB.length:=afX _ _ _;have hol:=T6 0 c.aU.aB;have e:=dn (step:=G8) c.aU.aB.length (λi=>((c,dL c,(),(),(),(i:Int),()),(([]:aa aC),iU c,(List.range i).map (Ot c),()))) (.inl ((c,dL c,(),(),(),()),(([]:aa aC),iU c,(List.range c.aU.aB.length).map (Ot c),()))) big (λk hk=>by
  unfold G8 ay xG;dsimp only;rw[aV,aj,Ve _ _ (by rw[BB];omega),aq,eE,dm,hU,cq,aj,bG,List.range_succ,jP];rfl) (by
  unfold G8 ay xG;dsimp only;rw[bh,au]) (bM)
 rw[cH]at e;have D:∀l:aa aC,l.length <= 5 -> aT (l.length+1)=true:=λl hl=>cq
 -- the end
 have tl:∀ l:aa aC,l.length <= 5 -> (bif (dL c==(8:Int))then (bif (decide (((opens 0 c.aU.aB).length:Int) > (0:Int)))then (if F:0 <= (0:Int)/\(0:Int).toNat<(opens 0 c.aU.aB).length then if C:(0:Int).toNat<(opens 0 c.aU.aB).length then (bif aT (l.length+([(⟨(4:Int),(opens 0 c.aU.aB)[(0:Int).toNat]'C,(0:Int),(0:Int)⟩:aC)]:aa aC).length)then some (l++([(⟨(4:Int),(opens 0 c.aU.aB)[(0:Int).toNat]'C,(0:Int),(0:Int)⟩:aC)]:aa aC))else none)else none else none)else (bif (dL c != (0:Int))then bif aT (l.length+([(⟨dL c,(0:Int),(0:Int),(0:Int)⟩:aC)]:aa aC).length)then some (l++([(⟨dL c,(0:Int),(0:Int),(0:Int)⟩:aC)]:aa aC))else none else some l))else (bif (dL c != (0:Int))then bif aT (l.length+([(⟨dL c,(0:Int),(0:Int),(0:Int)⟩:aC)]:aa aC).length)then some (l++([(⟨dL c,(0:Int),(0:Int),(0:Int)⟩:aC)]:aa aC))else none else some l))=some (l++sS c):=by
  intro l hl;have z:(bif (dL c != (0:Int))then bif aT (l.length+([(⟨dL c,(0:Int),(0:Int),(0:Int)⟩:aC)]:aa aC).length)then some (l++([(⟨dL c,(0:Int),(0:Int),(0:Int)⟩:aC)]:aa aC))else none else some l)=some (l++(bif dL c != 0 then [(⟨dL c,0,0,0⟩:aC)]else [])):=by
   rw[hU,D l hl];cases dL c != 0 with
   |true=>rfl
   |false=>rw[au,au,List.append_nil]
  unfold sS;cases dL c==8 with
  |false=>exact z
  | true=>
   rw[aj,cM];by_cases E:0<(opens 0 c.aU.aB).length
   ·have⟨k1,Z⟩:=afZ c h E;rw[aV (by omega:((opens 0 c.aU.aB).length:Int) > 0),aj,aj,aD ⟨by omega,E⟩,aD (show Int.toNat 0<(opens 0 c.aU.aB).length from E),hU,D l hl,aj,Z];rfl
   ·rw[bh (by omega:¬ ((opens 0 c.aU.aB).length:Int) > 0),au,au];exact z
 unfold Mm aZ xL;rw[afr h,aq]
 refine(bu (λo=>Option.bind o _) e).trans ?_
 rw[aq,Y];simp only[eR,avv h.rf,aq,avy _ T (show (iU c).length <= 1000 by rw[BB];omega),aex _ (show c.aU.aB.length<1073741823 by omega)];have er:Ed c.aX (Ot c)=lG c:=rfl;have ec:BG c.aU c.box.bU.eV (iU c)=jh c:=rfl;rw[er,ec];have h1:∀ l:aa aC,l.length <= 4 -> (bif decide (jh c >= 0)then bif aT (l.length+([(⟨4,jh c,0,0⟩:aC)]:aa aC).length)then some ((l++([(⟨4,jh c,0,0⟩:aC)]:aa aC))++sS c)else none else some (l++sS c))=some (l++(zc c++sS c)):=by
  intro l hl;unfold zc;rw[hU,D l (by omega)];cases decide (jh c >= 0)with
  |true=>rw[aj,aj,List.append_assoc];rfl
  |false=>rfl
 have I:∀ l:aa aC,l.length <= 1 -> (bif decide (jh c >= 0)then bif aT (l.length+([(⟨4,jh c,0,0⟩:aC)]:aa aC).length)then (bif (dL c==(8:Int))then (bif (decide (((opens 0 c.aU.aB).length:Int) > (0:Int)))then (if F:0 <= (0:Int)/\(0:Int).toNat<(opens 0 c.aU.aB).length then if C:(0:Int).toNat<(opens 0 c.aU.aB).length then (bif aT ((l++([(⟨4,jh c,0,0⟩:aC)]:aa aC)).length+([(⟨(4:Int),(opens 0 c.aU.aB)[(0:Int).toNat]'C,(0:Int),(0:Int)⟩:aC)]:aa aC).length)then some ((l++([(⟨4,jh c,0,0⟩:aC)]:aa aC))++([(⟨(4:Int),(opens 0 c.aU.aB)[(0:Int).toNat]'C,(0:Int),(0:Int)⟩:aC)]:aa aC))else none)else none else none)else (bif (dL c != (0:Int))then bif aT ((l++([(⟨4,jh c,0,0⟩:aC)]:aa aC)).length+([(⟨dL c,(0:Int),(0:Int),(0:Int)⟩:aC)]:aa aC).length)then some ((l++([(⟨4,jh c,0,0⟩:aC)]:aa aC))++([(⟨dL c,(0:Int),(0:Int),(0:Int)⟩:aC)]:aa aC))else none else some (l++([(⟨4,jh c,0,0⟩:aC)]:aa aC))))else (bif (dL c != (0:Int))then bif aT ((l++([(⟨4,jh c,0,0⟩:aC)]:aa aC)).length+([(⟨dL c,(0:Int),(0:Int),(0:Int)⟩:aC)]:aa aC).length)then some ((l++([(⟨4,jh c,0,0⟩:aC)]:aa aC))++([(⟨dL c,(0:Int),(0:Int),(0:Int)⟩:aC)]:aa aC))else none else some (l++([(⟨4,jh c,0,0⟩:aC)]:aa aC))))else none else (bif (dL c==(8:Int))then (bif (decide (((opens 0 c.aU.aB).length:Int) > (0:Int)))then (if F:0 <= (0:Int)/\(0:Int).toNat<(opens 0 c.aU.aB).length then if C:(0:Int).toNat<(opens 0 c.aU.aB).length then (bif aT (l.length+([(⟨(4:Int),(opens 0 c.aU.aB)[(0:Int).toNat]'C,(0:Int),(0:Int)⟩:aC)]:aa aC).length)then some (l++([(⟨(4:Int),(opens 0 c.aU.aB)[(0:Int).toNat]'C,(0:Int),(0:Int)⟩:aC)]:aa aC))else none)else none else none)else (bif (dL c != (0:Int))then bif aT (l.length+([(⟨dL c,(0:Int),(0:Int),(0:Int)⟩:aC)]:aa aC).length)then some (l++([(⟨dL c,(0:Int),(0:Int),(0:Int)⟩:aC)]:aa aC))else none else some l))else (bif (dL c != (0:Int))then bif aT (l.length+([(⟨dL c,(0:Int),(0:Int),(0:Int)⟩:aC)]:aa aC).length)then some (l++([(⟨dL c,(0:Int),(0:Int),(0:Int)⟩:aC)]:aa aC))else none else some l)))=some (l++(zc c++sS c)):=by
  intro l hl;rw[tl _ (by rw[iH,hU];omega),tl _ (by omega)];exact h1 l (by omega)
 have L:=I [] (by simp);unfold Ee;by_cases O:lG c >= 0
 ·have hv:0 <= lG c/\lG c<aQ c.config.av:=by omega
  rw[aV O,aj,cM,(Ol U.1 (by omega) (by omega)),aq];cases sN c (lG c)with
  |true=>exact L
  | false=>
   rw[ju,aj,aj,Vg _ (by show 0 <= lG c;omega) (by show (lG c).toNat<_;omega),aq,List.length_nil,hU,cq,aj];exact I [Jq c (lG c)] (c9 _)
 ·rw[bh O,au,Bool.false_and,au];exact L
def af0(c:ak):ah aC:=(rj c++sR c c.pending.length).find? (gM c)
def Vl(c:ak):aC×Int:=
 bif c.aS.state != 0 then (bif dL c != 0 then (bif gM c ⟨dL c,0,0,0⟩then (⟨dL c,0,0,0⟩,-1)else (BF,-1))else (BF,-1))else
 match af0 c with
 |some x=>(x,-1)
 |none=>bif decide ((Jo c).2 >= 0)then Jo c else (Vk c (Ee c++(zc c++sS c)),-1)
def avE(c:ak)(l:aa aC):Jp c l=(Vk c l,(l.find? (gM c)).isSome):=by
 unfold Jp Vk;cases l.find? (gM c)<;>rfl
def avF{c:ak}(h:Pq c):yj c=some (bif decide ((c.trace.length:Int) >= 2000)then (BF,-1)else Vl c):=by
 have D:=h.p.R.Bt;have O:=afY c;have T:=h.pl;have U:=wh h.rf;have Y:=N7 0 c.aX.aO;have E:=avC h;have F:=avB h;have I:=avA h;unfold yj;cases decide ((c.trace.length:Int) >= 2000)with
 |true=>rfl
 | false=>
  rw[au,au,ae3 h.rf,aq,at0 _ _ _ h.dQ h.pw,aq];have L:yS c.box.bU.dQ c.aS (DZ c)=dL c:=rfl;rw[L];unfold Vl;cases c.aS.state != 0 with
  | true=>
   rw[aj,aj];by_cases C:dL c=0
   ·rw[C];rfl
   ·rw[sx C,je C,N6 h.p (afa D (by omega))];cases gM c ⟨dL c,0,0,0⟩<;>rfl
  | false=>
   rw[au,au,avu h,aq,afS h (by
    rw[iH];have:=afV c c.pending.length;have:(rj c).length=(gN 0 c.aX.aO).length:=by unfold rj;rw[eE]
    omega) (λx hx=>by
    rcases List.mem_append.1 hx with hx|hx
    ·obtain⟨b,hb,rfl⟩:=List.mem_map.1 hx;exact(avs h hb).2
    ·obtain⟨i,hi,rfl⟩:=List.mem_map.1 hx;exact avt h (eJ.1 (List.mem_filter.1 hi).1)),aq]
   unfold Jp af0;cases (rj c++sR c c.pending.length).find? (gM c)with
   |some x=>rfl
   | none=>
    dsimp only;rw[au,avq h,aq];cases decide ((Jo c).2 >= 0)with
    |true=>rfl
    | false=>
     rw[au,au,avD h,aq,afS h (by rw[iH,iH];omega) (λx hx=>by
      rcases List.mem_append.1 hx with hx|hx
      ·exact E.2 x hx
      ·rcases List.mem_append.1 hx with hx | hx
       ·exact F.2 x hx
       ·exact I.2 x hx),aq,avE]
def avG{r:cB}{x:aC}(C:x.kind <= 5):(fG r x).aS=r.aS:=by
 unfold fG
 grind
def fL.dM{c:ak}(p:fL c)(x:aC):fL (dM c x):=⟨p.dl,p.tl,p.gl,p.t,p.g,p.pd,p.u⟩
def Ck.dM{c:ak}(h:Ck c){x:aC}(C:p9 c.config.av c.aU x=true)(D:x.kind<=5)(E:c.trace.length<2000):Ck (dM c x):=by
 simp only[p9,aH]at C;exact⟨h.f1,h.f2,h.nw,aeF C.1 C.2.1 C.2.2,afM _ h.rd,h.ar,h.sp,h.se,h.rf,((fL.of h.pa).dM x).ok,h.qu,h.sh,h.sl,h.dr,h.pw,h.ps.trans (avG D).symm,h.si,h.s1,h.s2,h.s3,h.er,by simp[Proofs.YthmgjjfedieljaaGreatDoor.dM];omega,h.rp⟩
def Ck.opn{c:ak}(h:Ck c){x:aC}(E:0 <= x.az)(F:x.az<aQ c.config.av)(I:0 <= x.row)(L:x.row<c.config.av.rows):Ck (wo c x):=by
 have C:=(uf h.rk).1;have gb:=fE C;have p:=fL.of h.pa;have U9:=p.tl;have hgl:=p.gl;have O:x.az.toNat<c.bI.length:=by omega
 have D:fe c.config.av 100000 (yQ c.config.av c.config.ew c.array x.az x.row):=UJ C c.config.ew (by decide) (fe.uq h.ar) E F I L;have T:∀a∈oK c x,cZ c.config.av a=true/\a.bL=0:=λa D=>p.pd a (List.mem_filter.1 D).1
 have U:(oK c x).Pairwise (λx y=>x≠y):=p.u.filter _;have q:(∀ a∈(wo c x).pending,cZ c.config.av a=true/\a.bL=0)/\(wo c x).pending.Pairwise (λx y=>x≠y):=by
  show (∀a∈(bif (sL c x).2 then (q7 c.config.av.rows x.row).foldl (od x.az) (oK c x)else oK c x),cZ c.config.av a=true/\a.bL=0)/\(bif (sL c x).2 then (q7 c.config.av.rows x.row).foldl (od x.az) (oK c x)else oK c x).Pairwise (λx y=>x≠y);cases (sL c x).2 with
  |false=>simp_all
  | true=>
   refine afG _ (λn Y=>?_) T U
   have:=as1 I L n Y;exact vT C E F this.1 this.2 (Int.le_refl 0) (by show 0<_;omega)
 have Z:fL (wo c x):=⟨p.dl,by show ((c.bI.set x.az.toNat (sL c x).1).length:Int)=_;rw[js];exact p.tl,p.gl,Ea p.t (by unfold sL;rw[oL _ O];exact au7 (p.t _ (cR O)) _ _),p.g,q.1,q.2⟩
 exact⟨h.f1,h.f2,h.nw,h.rk,h.rd,wG C D,h.sp,h.se,h.rf,Z.ok,h.qu,h.sh,h.sl,h.dr,h.pw,h.ps,h.si,h.s1,h.s2,h.s3,h.er,h.tr,h.rp⟩
def Ck.ref{c:ak}(h:Ck c)(hl:c.box.bU.weights.length<1073741823)(E:aJ c.config.ic 1 16=true){b:Int}(F:0 <= b)(I:b<aQ c.config.av):Ck (Oh c b):=by
 have C:=(uf h.rk).1;have O:=fE C;have p:=fL.of h.pa;have T:=p.dl;have D:fe _ 100000 (wq _ c.config.ew c.array b c.config.av.rows.toNat):=Jg C _ (by decide) (fe.uq h.ar) F I _ (by omega);have L:fL (Oh c b):=⟨by show ((yW c.aX b).aO.length:Int)=_;rw[afz];exact p.dl,by show ((c.bI.set b.toNat _).length:Int)=_;rw[js];exact p.tl,by show ((c.guard.set b.toNat _).length:Int)=_;rw[js];exact p.gl,Ea p.t (afH E),Ea p.g (afI hl h.f1),λa D=>p.pd a (List.mem_filter.1 D).1,p.u.filter _⟩
 exact⟨h.f1,h.f2,h.nw,h.rk,h.rd,wG C D,h.sp,h.se,avf h.rf (by omega),L.ok,h.qu,h.sh,h.sl,h.dr,h.pw,h.ps,h.si,h.s1,h.s2,h.s3,h.er,h.tr,h.rp⟩
def Vm{T:Type}{p:T->Prop}{l:aa T}{x:T}(h:∀ y∈l,p y)(C:p x):∀ k:Nat,∀ y∈(List.range k).foldl (λd b=>d.set b x) l,p y
 |0=>h
 | k+1=>by
  rw[yX];exact Ea (Vm h C k) C
def af1{r:cW}(h:eO r=true):∀ k:Nat,eO ⟨(List.range k).foldl (λd b=>d.set b 0) r.aO,r.wait,r.ei⟩=true
 |0=>h
 | k+1=>by
  rw[yX];exact afQ (af1 h k) k (by omega)
def Ck.UX{c:ak}(h:Ck c)(hl:c.box.bU.weights.length<1073741823)(E:aJ c.config.ic 1 16=true)(n:Nat)(F:(n:Int) <= aQ c.config.av):Ck (lF c n []):=by
 have D:=(uf h.rk).1;have p:=fL.of h.pa;have C:=Oa D c.config.ew (by decide) (fe.uq h.ar) n F;have I:fL (lF c n []):=⟨by show (((List.range n).foldl _ c.aX.aO).length:Int)=_;rw[wu];exact p.dl,by show (((List.range n).foldl _ c.bI).length:Int)=_;rw[wu];exact p.tl,by show (((List.range n).foldl _ c.guard).length:Int)=_;rw[wu];exact p.gl,Vm p.t (afH E) n,Vm p.g (afI hl h.f1) n,λa C=>(by cases C),List.Pairwise.nil⟩
 exact⟨h.f1,h.f2,h.nw,h.rk,h.rd,wG D C,h.sp,h.se,af1 h.rf n,I.ok,h.qu,h.sh,h.sl,h.dr,h.pw,h.ps,h.si,h.s1,h.s2,h.s3,h.er,h.tr,h.rp⟩
def Ck.acc{c:ak}(h:Ck c){i:Nat}(C:oO c i 100000)(Z:c.bY.length<400):Ck (wE c i):=by
 have L:=(uf h.rk).1;have p:=fL.of h.pa;have hi:=C.i;have⟨f1,f3,f4,f5,f6,f7,f8⟩:=C.facts (cR hi);have D:c.queue.getD i wD=c.queue[i]:=oL _ hi;have E:=C.d _ (cR hi);have O:=C.shl;have F:gu (BE c.shares c.queue[i].dB)=true/\((BE c.shares c.queue[i].dB).length:Int)=4:=by
  have⟨y,t,e,hl,ho⟩:=avd ((List.replicate 4 false).set c.queue[i].dB.toNat true) (by omega) h.sh (by simp[O])
  grind
 have T:gZ (dW (dS c.config.av c.spare)) (c.queue.take i++c.queue.drop (i+1))=true:=((Qk.of h.qu).sub (afN _ _)).ok;have key:∀ (a:dh) (e:aa bT) (x:fm),fe c.config.av 100000 a -> kZ e=true -> Ck (oN c i a e x):=λa e x U Y=>
  ⟨h.f1,h.f2,h.nw,h.rk,h.rd,wG L U,h.sp,h.se,h.rf,(show fL (oN c i a e x)from ⟨p.dl,p.tl,p.gl,p.t,p.g,p.pd,p.u⟩).ok,T,by unfold oN;rw[D];exact F.1,by unfold oN;rw[D];exact F.2,h.dr,h.pw,h.ps,h.si,h.s1,h.s2,h.s3,Y,h.tr,by simp[oN];omega⟩
 unfold wE;rw[D];dsimp only;cases c.queue[i].write with
 |true=>exact key _ _ _ (C.a.Bl _ (c:=⟨_,false⟩) (Ob E.1 E.2).2.1) h.er
 | false=>
  have I:=C.a.syms _ (cR f4);rw[au,oL _ f4];refine key _ _ _ (C.a.Bl _ (UZ I)) ?_;have hec:=U7 I;by_cases e:mY c.array.cells[gB c.config.av (gf c c.queue[i].line)]=0
  ·rw[e];exact h.er
  ·rw[je e,aj];exact afO h.er ⟨by omega,f5⟩ (by omega)
def Ck.Ou{c:ak}(h:Ck c){x:aC}(C:p9 c.config.av c.aU x=true)(D:6 <= x.kind/\x.kind <= 9)(O:c.trace.length<2000):Ck (D9 (Proofs.YthmgjjfedieljaaGreatDoor.dM c x) x.kind):=by
 simp[p9,aH]at C;have E:=bq.1 h.nw;have⟨F,I,L⟩:=avg h.pw h.ps h.si E.2 D C.2.2;have p:=fL.of h.pa;exact⟨h.f1,h.f2,h.nw,aeF C.1 C.2.1 C.2.2,afM _ h.rd,h.ar,h.sp,h.se,h.rf,(show fL _ from ⟨p.dl,p.tl,p.gl,p.t,p.g,p.pd,p.u⟩).ok,h.qu,h.sh,h.sl,h.dr,F,I,L,h.s1,h.s2,h.s3,h.er,by simp[D9,afw,Proofs.YthmgjjfedieljaaGreatDoor.dM];omega,h.rp⟩
def Ck.iss{c:ak}(F:dw c)(h:Ck c){x:aC}{i:Int}(E:uv c x i=true):Ck (wF c x i):=by
 have T:=Pq.of F h.ok;have I:c.box.bU.weights.length<1073741823:=by
  have:=F.1.1;unfold NW at this;omega
 have U:aJ c.config.ic 1 16=true:=by
  have:=(D1 I h.f1).1;simp[l5,aH]at this;exact this.2.2.2.2.2.1
 have⟨hb,C,Y,hr⟩:=afE F T E;have D:c.trace.length<2000:=by
  simp only[uv,aH,gi,oU]at E;omega
 have Z:x.kind=2 \/ x.kind=3 -> c.bY.length<400:=λL=>by
  simp only[uv,aH]at E;have e:(x.kind==2 ||x.kind==3)=true:=by rcases L with q|q<;>rw[q]<;>rfl
  rw[e,aj]at E;simp[Om,aH,fY]at E;omega
 have⟨hg,hlen,L,hbk⟩:=NR C;have hc:dU c.config.av x=true:=by
  simp only[p9,aH]at C
  grind
 have U9:=(fL.of h.pa).tl;have iM:=T.p.bl;unfold wF;rcases kinds L with q|q|q|q|q|q|q|q|q<;>rw[q]<;>simp only[Int.reduceBEq,Int.reduceBNe,aj,au,Bool.or_true,Bool.or_false,Bool.true_or,Bool.false_or,Bool.or_self]
 ·have⟨O,DV⟩:=hbk (by omega);have⟨r0,r1⟩:=U8 hc q;exact(h.dM C (by omega) D).opn O (by show x.az<aQ c.config.av;omega) r0 r1
 ·exact(h.dM C (by omega) D).acc ((Y (.inl q)).1.dM x) (Z (.inl q))
 ·exact(h.dM C (by omega) D).acc ((Y (.inr q)).1.dM x) (Z (.inr q))
 ·exact h.dM C (by omega) D
 ·have⟨O,DV⟩:=hbk (by omega);exact(h.dM C (by omega) D).ref I U O (by show x.az<aQ c.config.av;omega)
 ·have:=h.Ou C (by omega) D;rw[q]at this;exact this
 ·have:=h.Ou C (by omega) D;rw[q]at this;exact this
 ·have:=h.Ou C (by omega) D;rw[q]at this;exact this
 ·have:=h.Ou C (by omega) D;rw[q]at this;exact this.UX I U _ (by show (c.bI.length:Int) <= aQ c.config.av;omega)
def Vn(n:Int)(c y:ak):Prop:=(y.trace=c.trace/\y.aU=c.aU/\y.ready=c.ready)\/∃x,y.trace=c.trace++[⟨n,x⟩]/\y.aU=fG c.aU x/\y.ready=sG c.config.av c.ready ⟨n,x⟩/\dU c.config.av x=true/\mT c.aU x=true/\Br c.config.av c.config.bN c.ready x<=n
def Nx(c y:ak):Prop:=y.now=c.now/\y.config=c.config/\y.queue.Sublist c.queue/\(∀r∈y.bY,r∈c.bY\/∃q∈c.queue,r.id=q.id)/\Vn c.now c y/\y.queue.length+y.bY.length=c.queue.length+c.bY.length
def Nx.refl(c:ak):Nx c c:=⟨rfl,rfl,List.Sublist.refl _,λr C=>.inl C,.inl ⟨rfl,rfl,rfl⟩,rfl⟩
def af2{c:ak}{x:aC}(C:dU c.config.av x=true/\mT c.aU x=true/\Br c.config.av c.config.bN c.ready x<=c.now){i:Nat}(hi:i<c.queue.length):Nx c (wE (dM c x) i):=by
 have key:∀ (a:dh) (e:aa bT) (t:fm),t.id=c.queue[i].id->Nx c (oN (dM c x) i a e t):=λa e t D=>by
  refine⟨rfl,rfl,afN _ _,λr hr=>?_,.inr ⟨x,rfl,rfl,rfl,C⟩,?_⟩
  ·rcases List.mem_append.1 hr with hr | hr
   ·exact .inl hr
   ·rw[ng.1 hr];exact .inr ⟨_,cR hi,D⟩
  ·show (c.queue.take i++c.queue.drop (i+1)).length+(c.bY++[t]).length=_;rw[iH,iH,fX,List.length_drop,hU];omega
 have E:(dM c x).queue.getD i wD=c.queue[i]:=oL _ hi;unfold wE;rw[E];dsimp only;cases c.queue[i].write with
 |true=>exact key _ _ _ rfl
 |false=>exact key _ _ _ rfl
def avH{c:ak}{x:aC}{i:Int}(D:uv c x i=true)(T:1<=x.kind/\x.kind<=9)(F:x.kind=2\/x.kind=3->i.toNat<c.queue.length):Nx c (wF c x i):=by
 have E:dU c.config.av x=true/\mT c.aU x=true/\Br c.config.av c.config.bN c.ready x<=c.now:=by
  simp only[uv,gM,aH,fY]at D;exact⟨D.1,D.2.1.1,D.2.1.2.2⟩
 have C:∀y:ak,y.now=c.now->y.config=c.config->y.queue=c.queue->y.bY=c.bY->y.trace=c.trace++[⟨c.now,x⟩]->y.aU=fG c.aU x->y.ready=sG c.config.av c.ready ⟨c.now,x⟩->Nx c y:=λy U Y I L Z h6 h7=>⟨U,Y,by rw[I];exact List.Sublist.refl _,λr O=>by rw[L]at O;exact .inl O,.inr ⟨x,Z,h6,h7,E⟩,by rw[I,L]⟩
 unfold wF;rcases kinds T with q|q|q|q|q|q|q|q|q<;>rw[q]<;>simp only[Int.reduceBEq,Int.reduceBNe,aj,au,Bool.or_true,Bool.or_false,Bool.true_or,Bool.false_or,Bool.or_self]
 ·exact C _ rfl rfl rfl rfl rfl rfl rfl
 ·exact af2 E (F (.inl q))
 ·exact af2 E (F (.inr q))
 ·exact C _ rfl rfl rfl rfl rfl rfl rfl
 ·exact C _ rfl rfl rfl rfl rfl rfl rfl
 ·exact C _ rfl rfl rfl rfl rfl rfl rfl
 ·exact C _ rfl rfl rfl rfl rfl rfl rfl
 ·exact C _ rfl rfl rfl rfl rfl rfl rfl
 ·exact C _ rfl rfl rfl rfl rfl rfl rfl
def wI(d:Int):Int:=if (5:Int)<W6 (d+1)then 5 else W6 (d+1)
def avI{c:eH}{p:dy}(hl:p.weights.length<1073741823)(h:lu c p=true):∃ l t,AU p.weights=some (l,t)/\gu l=true/\(l.length:Int)=4/\l7 ⟨false,p.low,p.high⟩=true:=by
 have⟨_,f2⟩:=D1 hl h;simp[n7,aH,fI]at f2;have⟨f3,f4,f5,f6,f7,f8,f9⟩:=f2;refine⟨p.weights.map iT,true,?_,f8,by rw[eE];exact f7,f6⟩;rw[Ul _ hl];unfold vW;simp_all
def Ov(c y:ak):Prop:=y.now=c.now+1/\y.config=c.config/\y.queue.Sublist c.queue/\(∀r∈y.bY,r∈c.bY\/∃q∈c.queue,r.id=q.id)/\Vn (c.now+1) c y/\y.queue.length+y.bY.length=c.queue.length+c.bY.length
abbrev Js:=ah (af×(ak×af))
def Ks(s:ak)(o:Js):Prop:=∃y,o=some ((),(y,()))/\dw y/\dx y=true/\Nx s y
def avJ{c:ak}(h:eO c.aX=true){n:Int}(Y:2<=n/\n<=10000):∃ r,Hz c n=some ((),(oP c r,()))/\eO r=true/\r.aO.length=c.aX.aO.length:=by
 have hl:=wh h;have C:=N8 h;have Z:1<=c.aX.wait/\c.aX.wait<=10000:=by
  simp only[eO,aH,bq]at h;exact h.2.2
 have mk:∀ (l:aa Int) (w:Int) (b:Bool),l.length=c.aX.aO.length->(∀ x∈l,-2<=x/\x<=5)->1<=w/\w<=10000->eO ⟨l,w,b⟩=true:=λl w b h1 I L=>by
  simp only[eO,aH,bW,yJ,bq];exact⟨I,by omega,L⟩
 have D:W6 (c.aX.wait-1)=c.aX.wait-1:=aR;unfold Hz aZ;by_cases E:c.aX.wait-1 > 0
 ·rw[D,aV E,aj];exact⟨⟨c.aX.aO,c.aX.wait-1,c.aX.ei⟩,rfl,mk _ _ _ rfl C (by omega),rfl⟩
 ·have e:=dn (step:=Hy) c.aX.aO.length (λi=>(((),n,(i:Int),()),(oP c ⟨upto wI c.aX.aO i,c.aX.wait-1,c.aX.ei⟩,()))) (.inl (((),n,()),(oP c ⟨c.aX.aO.map wI,c.aX.wait-1,c.aX.ei⟩,()))) big (λi hi=>by
   have hlen:=IC wI c.aX.aO i;unfold Hy oP ay xG xL;dsimp only;rw[aV,aj,aD ⟨by omega,by omega⟩,aD,aD ⟨by omega,by omega⟩,aD,bG];simp only[bH];rw[Ns wI c.aX.aO i hi,<-Nt wI c.aX.aO i hi];rfl) (by
   unfold Hy oP ay xG xL;dsimp only;rw[Nr,bh (by rw[eE];omega),au]) (bM)
  rw[cH,adE]at e;have F:∀ x∈c.aX.aO.map wI,-2<=x/\x<=5:=λx O=>by
   obtain⟨d,T,rfl⟩:=List.mem_map.1 O;have:=C d T;unfold wI;rw[aR (n:=d+1)];split<;>omega
  have U:W6 (n.tdiv 2)=n / 2:=by rw[oT (by omega)];exact aR
  rw[D,bh E,au]
  refine(bu (λo=>∃r,Option.bind o _=some ((),(oP c r,()))/\eO r=true/\r.aO.length=c.aX.aO.length) e).mpr ?_
  rw[aq];simp only[eR,oP];rw[U];cases c.aX.ei with
  |true=>exact⟨⟨c.aX.aO.map wI,n / 2,true⟩,rfl,mk _ _ _ (by simp) F (by omega),by simp⟩
  |false=>exact⟨⟨c.aX.aO.map wI,n,false⟩,rfl,mk _ _ _ (by simp) F (by omega),by simp⟩
def avK{c:ak}(h:oG c.config.av c.array=true):∃ a,HB c 1=some ((),(en c a,()))/\oG c.config.av a=true:=by
 have E:=(atm h).1;have C:=fe.uq h;have hb:=sy c.config.av;have hl:=C.bD
 refine⟨⟨c.array.cells,c.array.bD.map (qX 1),c.array.bz⟩,?_,wG E ⟨C.cells,C.syms,by rw[eE];exact C.bD,C.bz,λx D=>?_,C.kX⟩⟩
 ·have e:=dn (step:=HA) c.array.bD.length (λi=>(((),(1:Int),(i:Int),()),(en c ⟨c.array.cells,upto (qX 1) c.array.bD i,c.array.bz⟩,()))) (.inl ((),(en c ⟨c.array.cells,c.array.bD.map (qX 1),c.array.bz⟩,()))) big (λi hi=>by
   have hlen:=IC (qX 1) c.array.bD i;have D:=C.IK _ (cR hi);unfold HA en ay xG xL;dsimp only;rw[aV,aj,aD ⟨by omega,by omega⟩,aD,aD ⟨by omega,by omega⟩,aD,bG];simp only[bH];rw[Ns (qX 1) c.array.bD i hi,aR (n:=c.array.bD[i]+1),<- Nt (qX 1) c.array.bD i hi];rfl) (by
   unfold HA en ay xG xL;dsimp only;rw[Nr,bh (by rw[eE];omega),au]) (bM)
  rw[cH,adE]at e;unfold HB aZ;exact(bu (λo=>Option.bind o _) e).trans rfl
 ·obtain⟨y,F,rfl⟩:=List.mem_map.1 D;exact ad2 (C.IK y F) (by decide)
def avL(q:aa aP)(w:Bool)(hl:q.length<1073741824):∃ n,Gw q w=some n:=by
 unfold Gw aZ;have e:=dn (step:=Gu) q.length (λi=>((q,w,(((q.take i).countP λr=>r.write==w:Nat):Int),(i:Int),()),())) (.inl (((((q.take q.length).countP λr=>r.write==w:Nat):Int),()),())) big (λk C=>by
  have D:=List.countP_le_length (p:=λr:aP=>r.write==w) (l:=q.take k);rw[fX]at D;unfold Gu ay xG xI;dsimp only;rw[aV,aj,aD ⟨by omega,by omega⟩,bG];simp only[bH];rw[tX C,List.countP_append,List.countP_singleton];cases q[k].write==w with
  |true=>rw[ bG];rfl
  |false=>rw[ bG];rfl) (by
  unfold Gu ay xG xI;dsimp only;rw[bh,au]) (bM)
 rw[cH]at e;exact⟨_,(bu (λo=>Option.bind o _) e).trans rfl⟩
def avM{d:iA}(h:l7 d=true)(n:Int):∃ y,Gt d n=some y/\l7 y=true:=by
 unfold Gt;rw[Un,aq,h,bR];cases decide (n >= d.high)with
 | true=>
  cases decide (n <= d.low)with
  |true=>exact⟨_,rfl,h⟩
  |false=>exact⟨_,rfl,h⟩
 | false=>
  cases decide (n <= d.low)with
  |true=>exact⟨_,rfl,h⟩
  |false=>simp_all
def avN{p:eU}(h:jM p=true)(w:Bool):∃ y,Gx p w=some y/\jM y=true/\y.state=p.state/\y.since=p.since:=by
 unfold Gx;rw[Ut,aq,h,bR];simp[jM,aH,bq]at h;cases w with
 |true=>exact⟨_,rfl,by simp[jM,aH,bq];omega,rfl,rfl⟩
 | false=>
  refine⟨_,rfl,?_,rfl,rfl⟩;rw[aR];simp[jM,aH,bq]
  grind
def avO(b:gH)(h:DW b)(x:Bool):∃ t,GC b x=some (bif t then ⟨b.next,b.next,false⟩else b,t):=by
 have C:b.next.weights.length <= 1048576:=h.2
 unfold GC;rw[UE b h];cases x with
 |false=>simp_all
 | true=>
  cases b.waits with
  |false=>simp_all
  | true=>
   refine⟨true,?_⟩;unfold tP xA xZ;rw[lC _];rfl
def avP{c:eH}{p:dy}(hl:p.weights.length<1073741823)(h:lu c p=true):∃ l t,x9 p.weights=some (l,t)/\gu l=true/\(l.length:Int)=4/\l7 ⟨false,p.low,p.high⟩=true:=by
 have⟨l,t,e,C⟩:=avI hl h;rw[Ul _ hl]at e;exact⟨l,t,by rw[Um _ hl];exact e,C⟩
def avQ{s:nA}{n:Int}(C:aJ s.every 1 100000=true)(D:aJ s.wait 1 s.every=true)(E:aJ s.next 0 (W6 (n-1))=true)(U:1<=n/\n<=1000000):∃ y m,Az s n=some (y,m)/\aJ y.every 1 100000=true/\aJ y.wait 1 y.every=true/\aJ y.next 0 (W6 (n-1))=true/\m<n:=by
 have L:=bq.1 C;have Y:=bq.1 D;have F:W6 (n-1)=n-1:=aR;have O:=bq.1 E;rw[F]at O;unfold Az;rw[dK,aq,C,bR,au,dK,aq,D,bR,au,bh (show ¬ n<1 by omega),au,bh (show ¬ s.next<0 by omega),au,bh (show ¬ s.next >= n by omega),au,aR (n:=s.wait-1)];by_cases I:s.wait-1 > 0
 ·rw[aV I,aj];exact⟨_,_,rfl,C,bq.2 ⟨by dsimp only;omega,by dsimp only;omega⟩,E,by omega⟩
 ·rw[bh I,au,bx,aR (n:=s.next+1)];refine⟨_,_,rfl,C,bq.2 ⟨L.1,Int.le_refl _⟩,?_,by omega⟩;rw[F,oS (by omega)];have T:=Int.emod_nonneg (s.next+1) (show n≠0 by omega);have Z:=Int.emod_lt_of_pos (s.next+1) (show 0<n by omega);exact bq.2 ⟨T,by dsimp only;omega⟩
def uy(j:ak)(b:gH)(s:aa ct)(d:iA)(p:eU)(u:nA):ak:=⟨j.config,b,j.now,j.aU,j.ready,j.array,j.spare,j.aX,j.bI,j.guard,j.pending,j.queue,s,d,p,u,j.errors,j.trace,j.bY⟩
def Ow(x:ak):Js:=(yj x).bind λC=>(let D:Bool -> Js:=λE=>bif E then (yo x C.1 C.2).bind λF=>some ((),(F.2.1,()))else some ((),(x,()));bif (C.1.kind != (0:Int))then (yl x C.1 C.2).bind λI=>(D I)else (D false))
def Ox(x:ak)(n:Int):Js:=bif (decide (n >= (0:Int)))then (AP x n).bind λC=>(AB C.2.1 n C.1.2).bind λD=>Ow D.2.1 else Ow x
def Ef(j:ak):Js:=(Gw j.queue true).bind λL=>(Gt j.drain L).bind λD=>(Ay (uy j j.box j.shares D j.aS j.cJ)).bind λO=>(Gx j.aS O).bind λE=>(GC j.box ((j.queue.length:Int)==(0:Int))).bind λC=>bif C.2 then (x9 C.1.bU.weights).bind λT=>(sj j.config.av).bind λU=>(Az j.cJ U).bind λF=>Ox (uy j C.1 T.1 ⟨false,C.1.bU.low,C.1.bU.high⟩ E F.1) F.2 else (sj j.config.av).bind λY=>(Az j.cJ Y).bind λI=>Ox (uy j C.1 j.shares D E I.1) I.2
def Vo{x:ak}(C:dw x)(D:dx x=true):Ks x (Ow x):=by
 have h:=Pq.of C D;have same:Ks x (some ((),(x,()))):=⟨x,rfl,C,D,Nx.refl x⟩
 unfold Ow;rw[avF h,aq];dsimp only;generalize (bif decide ((x.trace.length:Int) >= 2000)then (BF,-1)else Vl x:aC×Int)=p;obtain⟨cmd,i⟩:=p;dsimp only;cases cmd.kind != (0:Int)with
 |false=>exact same
 | true=>
  rw[aj,au4 h,aq];cases hm:uv x cmd i with
  |false=>exact same
  | true=>
   obtain⟨hb,E,F,I⟩:=afE C h hm;rw[aj,auU hb E F (λr I=>U5 h I),aq];exact⟨wF x cmd i,rfl,au1 C hb I E F,(Ck.iss C (Ck.of D) hm).ok,avH hm (NR E).2.2.1 λq=>(F q).1.i⟩
def af3{x:ak}(L:dw x)(h:dx x=true){n:Int}(hn:n<dW x.config.av):Ks x (Ox x n):=by
 unfold Ox;by_cases E:n >= 0
 ·have C:=Ck.of h;have F:=fe.uq C.ar;have O:=(uf C.rk).1;have hl:=F.cells;have hb:=n6 x.config.av;obtain⟨j,rfl⟩:=ff E;have T:j<x.array.cells.length:=by omega
  have I:=F.syms _ (cR T);have hec:=U7 I;have D:fe x.config.av 100000 ⟨x.array.cells.set j (um x.array.cells[j]),x.array.bD,x.array.bz⟩:=F.Bl _ (UZ I);have p:=fL.of C.pa;have fT:=(Ek.of C.er).l;rw[aV E,aj,afn T I,aq];dsimp only;rw[aft (c:=yY x j (um x.array.cells[j])) C.er ⟨by omega,by omega⟩ hec,aq];dsimp only;have⟨U,z2,z3,z5,Y,Z,z8,z9,jm,mW,z12,oa,lz,mV⟩:=L;have Sd:dw (yY x j (um x.array.cells[j])):=⟨U,z2,z3,ur D,Y,Z,z8,z9,jm,mW,z12,oa,lz,mV⟩
  have QM:Ck (yY x j (um x.array.cells[j])):=⟨C.f1,C.f2,C.nw,C.rk,C.rd,wG O D,C.sp,C.se,C.rf,(show fL (yY x j (um x.array.cells[j]))from ⟨p.dl,p.tl,p.gl,p.t,p.g,p.pd,p.u⟩).ok,C.qu,C.sh,C.sl,C.dr,C.pw,C.ps,C.si,C.s1,C.s2,C.s3,C.er,C.tr,C.rp⟩
  unfold Og;by_cases e:mY x.array.cells[j]=0
  ·rw[e];exact Vo Sd QM.ok
  ·rw[je e,aj];have he:=afO C.er ⟨by omega,by omega⟩ (code:=mY x.array.cells[j]) (by omega);have hle:=afB (l:=x.errors) (j:Int) (mY x.array.cells[j]);exact Vo ⟨U,z2,z3,ur D,Y,Z,z8,z9,jm,mW,z12,by show (wC x.errors (j:Int) _).length <= _;omega,lz,mV⟩ (Ck.ok ⟨C.f1,C.f2,C.nw,C.rk,C.rd,wG O D,C.sp,C.se,C.rf,(show fL _ from ⟨p.dl,p.tl,p.gl,p.t,p.g,p.pd,p.u⟩).ok,C.qu,C.sh,C.sl,C.dr,C.pw,C.ps,C.si,C.s1,C.s2,C.s3,he,C.tr,C.rp⟩)
 ·rw[bh E];exact Vo L h
def af4{c:ak}(L:dw c)(O:dx c=true):Ks c (Ef c):=by
 have h:=Ck.of O;have⟨C,z2,z3,z5,T,U,Y,z9,Z,mW,z12,oa,lz,mV⟩:=L;have p:=fL.of h.pa;have hb:=n6 c.config.av;have hLp:1 <= dW c.config.av:=by
  have:=bq.1 h.s3;rw[aR]at this;omega
 have w2:c.box.next.weights.length <= 1048576:=C.2
 have⟨n,e1⟩:=avL c.queue true (by omega);have⟨d,e2,D⟩:=avM h.dr n;have e3:Ay (uy c c.box c.shares d c.aS c.cJ)=some (DZ (uy c c.box c.shares d c.aS c.cJ)):=ae3 (c:=uy c c.box c.shares d c.aS c.cJ) h.rf;have⟨pw,e4,Lo,FP,hp3⟩:=avN h.pw (DZ (uy c c.box c.shares d c.aS c.cJ));have⟨t,e5⟩:=avO c.box C ((c.queue.length:Int)==(0:Int));have⟨u,m,I,Pv,pg,hu3,hm⟩:=avQ h.s1 h.s2 h.s3 ⟨hLp,by omega⟩;have key:∀ (b:gH) (s:aa ct) (d:iA),DW b -> lu c.config b.bU=true -> lu c.config b.next=true -> gu s=true -> (s.length:Int)=4 -> l7 d=true -> dw (uy c b s d pw u)/\dx (uy c b s d pw u)=true:=λb s d DV gI hb3 Vp Vq D=>
  ⟨⟨DV,z2,z3,z5,T,U,Y,z9,Z,mW,by show s.length <= _;omega,oa,lz,mV⟩,Ck.ok ⟨gI,hb3,h.nw,h.rk,h.rd,h.ar,h.sp,h.se,h.rf,(show fL (uy c b s d pw u)from ⟨p.dl,p.tl,p.gl,p.t,p.g,p.pd,p.u⟩).ok,h.qu,Vp,Vq,D,Lo,FP.trans h.ps,by show pw.since <= c.now;rw[hp3];exact h.si,Pv,pg,hu3,h.er,h.tr,h.rp⟩⟩
 unfold Ef;rw[e1,aq,e2,aq,e3,aq,e4,aq,e5,aq];dsimp only;cases t with
 | false=>
  rw[ A9,aq,I,aq];have⟨E,F⟩:=key c.box _ d C h.f1 h.f2 h.sh h.sl D;exact af3 E F hm
 | true=>
  have⟨l,t2,e7,s8,jY,Vf⟩:=avP (by omega) h.f2;rw[aj,aj];rw[e7,aq,A9,aq,I];have⟨E,F⟩:=key ⟨c.box.next,c.box.next,false⟩ l ⟨false,c.box.next.low,c.box.next.high⟩ ⟨C.2,C.2⟩ h.f2 h.f2 s8 jY Vf;exact af3 E F hm
def wJ(c:ak)(n:Int):ak:=⟨c.config,c.box,n,c.aU,c.ready,c.array,c.spare,c.aX,c.bI,c.guard,c.pending,c.queue,c.shares,c.drain,c.aS,c.cJ,c.errors,c.trace,c.bY⟩
def avR{c:ak}(hz:dw c)(hk:dx c=true)(hi:2<=c.config.interval/\c.config.interval<=10000)(hn:c.now<1000000):∃ y,MB c=some ((),(y,()))/\dw y/\dx y=true/\Ov c y:=by
 have h:=Ck.of hk;have p:=fL.of h.pa;have hnw:=bq.1 h.nw;have z:=hz;obtain⟨z1,z2,z3,z5,z6,z7,z8,z9,jm,mW,z12,oa,lz,mV⟩:=z;have e1:W6 (c.now+1)=c.now+1:=aR;have U:∀ (j:ak),j.now=c.now+1->j.config=c.config->j.queue=c.queue->j.bY=c.bY->j.trace=c.trace->j.aU=c.aU->j.ready=c.ready->Ks j (Ef j)->∃ y,Ef j=some ((),(y,()))/\dw y/\dx y=true/\Ov c y:=λj Y Z j3 j4 j5 j6 j7 hj=>by
  obtain⟨y,f1,f2,f3,f4,f5,f6,D,E,F⟩:=hj;rw[Y]at f4;rw[Z]at f5;rw[j3]at f6 D F;rw[j4]at D F;unfold Vn at E;rw[Y,Z,j5,j6,j7]at E;exact⟨y,f1,f2,f3,f4,f5,f6,D,E,F⟩
 have key:∀ (r:cW) (a:dh),eO r=true->r.aO.length=c.aX.aO.length->oG c.config.av a=true->dw (en (oP (wJ c (c.now+1)) r) a)/\dx (en (oP (wJ c (c.now+1)) r) a)=true:=λr a I L C=>by
  refine⟨⟨z1,z2,z3,ur (fe.uq C),z6,by have:=z7;unfold Bm at this ⊢;show r.aO.length<=_;omega,z8,z9,jm,mW,z12,oa,lz,mV⟩,Ck.ok ⟨h.f1,h.f2,bq.2 ⟨by show 0<=c.now+1;omega,by show c.now+1<=_;omega⟩,h.rk,h.rd,C,h.sp,h.se,I,(show fL (en (oP (wJ c (c.now+1)) r) a)from ⟨by show (r.aO.length:Int)=_;rw[L];exact p.dl,p.tl,p.gl,p.t,p.g,p.pd,p.u⟩).ok,h.qu,h.sh,h.sl,h.dr,h.pw,h.ps,by show c.aS.since<=c.now+1;have:=h.si;omega,h.s1,h.s2,h.s3,h.er,h.tr,h.rp⟩⟩
 unfold MB;rw[bh (show ¬ c.now >= 1000000 by omega),au,e1];show ∃y,(bif (c.aU.aS != (2:Int))then (Hz (wJ c (c.now+1)) c.config.interval).bind λy1=>(HB y1.2.1 (1:Int)).bind λy2=>Ef y2.2.1 else Ef (wJ c (c.now+1)))=some ((),(y,()))/\dw y/\dx y=true/\Ov c y;cases c.aU.aS != (2:Int)with
 | true=>
  obtain⟨r,f1,I,L⟩:=avJ (c:=wJ c (c.now+1)) h.rf hi;obtain⟨a,f2,C⟩:=avK (c:=oP (wJ c (c.now+1)) r) h.ar;obtain⟨O,T⟩:=key r a I L C;rw[aj,f1,aq];dsimp only;rw[f2,aq];exact U _ rfl rfl rfl rfl rfl rfl rfl (af4 O T)
 | false=>
  obtain⟨O,T⟩:=key c.aX c.array h.rf rfl h.ar;rw[au];exact U (wJ c (c.now+1)) rfl rfl rfl rfl rfl rfl rfl (af4 (c:=wJ c (c.now+1)) O T)
def Oy(R:Nat)(M:Int)(m:aa Int)(b j:Nat):Prop:=m.getD (b*R+j) 0=(j:Int)\/((R:Int)<=m.getD (b*R+j) 0/\m.getD (b*R+j) 0<=M/\∀k,k<j->m.getD (b*R+k) 0≠m.getD (b*R+j) 0)
def Vr{m:aa Int}{R b k:Nat}(C:k<R)(hl:(b+1)*R <= m.length):(gA m R b)[k]?=some (m.getD (b*R+k) 0):=by
 rw[gE]at hl;rw[DO,List.getElem?_take_of_lt C,List.getElem?_drop,bQ (by omega),oL]
def af5{R:Nat}{M:Int}{m:aa Int}{b j:Nat}(D:j<R)(hl:(b+1)*R <= m.length):ue (R:Int) M (gA m R b) j=true ↔ Oy R M m b j:=by
 unfold ue Oy;rw[Vr D hl];simp only[dA,aH,fI,bq,gi,List.any_eq_false];have key:(∀ x∈(gA m R b).take j,¬ x=m.getD (b*R+j) 0) ↔ ∀ k,k<j -> m.getD (b*R+k) 0≠m.getD (b*R+j) 0:=by
  constructor
  ·intro h k C;refine h _ ?_;rw[List.mem_iff_getElem?];exact⟨k,by rw[List.getElem?_take_of_lt C,Vr (by omega) hl]⟩
  ·intro h x E;have⟨k,C⟩:=List.mem_iff_getElem?.1 E;have F:k<j:=by
    grind
   rw[List.getElem?_take_of_lt F,Vr (by omega) hl]at C
   grind
 rw[key,and_assoc]
structure Sp (g:aL) (s:dc) (bn R:Nat):Prop where
 sb:iG g s.bC=true
 hb:aQ g=(bn:Int)
 hR:g.rows-s.bC=(R:Int)
 hl:s.map.length=bn*R
 f:∀b,b<bn->∀j,j<R->Oy R (g.rows-1) s.map b j
def Sp.of{g:aL}{s:dc}(h:jo g s=true):∃ C R,Sp g s C R:=by
 have⟨_,Y,_,_,E,Z,h3,h4⟩:=Jc h;have T:=fy g;simp only[jo,aH,fI,bW,eJ]at h;have⟨U,hl,I⟩:=h;have⟨R,hR⟩:=ff (show 0 <= g.rows-s.bC by omega);have⟨C,F⟩:=ff T.1;rw[hR,F,bH,bH]at hl;have hl:s.map.length=C*R:=by exact_mod_cast hl
 rw[hR,F,bH,bH]at I
 refine⟨C,R,U,F,hR,hl,λb hb j D=>?_⟩
 have L:(b+1)*R <= s.map.length:=by rw[hl];exact gO R hb
 have O:=DP L;have e:=Uu (R:Int) (g.rows-1) (gA s.map R b) (by rw[O]);rw[O]at e;have E:=bW.2 λj D=>I b hb j (eJ.1 D)
 rw[e]at E;exact(af5 D L).1 (bW.1 E j (eJ.2 D))
def Sp.ok{g:aL}{s:dc}{F R:Nat}(h:Sp g s F R):jo g s=true:=by
 have⟨I,L,hR,hl,O⟩:=h;simp only[jo,aH,fI,bW,eJ];rw[hR,L,bH,bH]
 refine⟨I,by exact_mod_cast hl,λb hb=>?_⟩
 have C:(b+1)*R <= s.map.length:=by rw[hl];exact gO R hb
 have D:=DP C;have e:=Uu (R:Int) (g.rows-1) _ (by rw[D]);rw[D]at e;have T:=bW.2 λj E=>(af5 (eJ.1 E) C).2 (O b hb j (eJ.1 E))
 simp_all
def avS{R b c r j:Nat}(C:r<R)(E:j<R)(h:b*R+r=c*R+j):b=c/\r=j:=by
 have key:∀ {b c r j:Nat},r<R -> b*R+r=c*R+j -> ¬ b<c:=λ{b c r j} C h D=>by
  have:=gO R (show b+1 <= c from D)
  grind
 grind
def Oz{m:aa Int}{p:Nat}(C:p<m.length)(i:Int)(q:Nat):(m.set p i).getD q 0=if q=p then i else m.getD q 0:=by grind
def Sp.set{g:aL}{s:dc}{D R:Nat}(h:Sp g s D R){b r:Nat}(hb:b<D)(I:r<R){i:Int}(T:(R:Int) <= i)(U:i <= g.rows-1)(hn:∀ k,k<R -> s.map.getD (b*R+k) 0≠i):Sp g ⟨s.bC,s.map.set (b*R+r) i⟩ D R:=by
 have C:b*R+r<s.map.length:=by
  have:=yK hb (show r+1 <= R from I);rw[h.hl];omega
 refine⟨h.sb,h.hb,h.hR,by rw[js];exact h.hl,λc Y j L=>?_⟩
 have E:=h.f c Y j L;unfold Oy at E ⊢;dsimp only;by_cases e:c=b
 ·subst e;by_cases Z:j=r
  ·subst Z;refine .inr ?_;rw[Oz C,bJ rfl]
   refine⟨T,U,λk F=>?_⟩
   rw[Oz C,bx]
   grind
  ·grind
 ·have O:∀ k,k<R -> ¬ c*R+k=b*R+r:=λk F he=>e (avS F I he).1
  rw[Oz C,bx (O j L)];rcases E with E|⟨o1,o2,o3⟩
  ·grind
  ·refine .inr ⟨o1,o2,λk F=>?_⟩
   rw[Oz C,bx (O k (by omega))];simp_all
def Sp.iV{g:aL}{s:dc}{C R:Nat}(h:Sp g s C R):cy g=true/\cy (dS g s)=true/\dS g s=⟨g.bX,g.aB,(R:Int),g.aK⟩/\aQ (dS g s)=(C:Int)/\C <= 8/\R <= 16/\2 <= R/\1 <= g.aK/\g.rows <= 16/\0 <= s.bC:=by
 have⟨e,D,E,F,I,L,O,T⟩:=Jc h.ok;have U:=fy g;have Y:=fE D;have:=h.hb;have hR:=h.hR
 grind
def Sp.bound{g:aL}{s:dc}{C R:Nat}(h:Sp g s C R){b r:Nat}(hb:b<C)(D:r<R):0<=s.map.getD (b*R+r) 0/\s.map.getD (b*R+r) 0<g.rows:=by
 have hR:=h.hR;have E:=h.iV.2.2.2.2.2.2.2.2.2;rcases h.f b hb r D with e|⟨F,I,_⟩
 ·omega
 ·omega
def Sp.ex{g:aL}{s:dc}{C R:Nat}(h:Sp g s C R)(b r:Int):cZ (dS g s) ⟨b,r,0⟩=true ↔ (0 <= b/\b<(C:Int))/\0 <= r/\r<(R:Int):=by
 have⟨_,I,e,L,_,_,_,U,_⟩:=h.iV;have er:(dS g s).rows=R:=by rw[e]
 have O:(dS g s).aK=g.aK:=by rw[e]
 constructor
 ·intro T;have⟨_,D,E,F,a4,_⟩:=qT T;simp_all
 ·rintro⟨⟨D,E⟩,F,a4⟩;exact vT I D (by rw[L];exact E) F (by rw[er];exact a4) (Int.le_refl 0) (by rw[O];show (0:Int)<_;omega)
def Sp.lens{g:aL}{s:dc}{D R:Nat}(h:Sp g s D R){b:Nat}(hb:b<D):(b+1)*R <= s.map.length/\s.map.length <= 128/\(gA s.map R b).length=R/\Nat.ble (b*R) ((b+1)*R)=true/\Nat.ble ((b+1)*R) s.map.length=true:=by
 have hl:=h.hl;have E:=h.iV.2.2.2.2.1;have F:=h.iV.2.2.2.2.2.1;have C:(b+1)*R <= s.map.length:=by rw[hl];exact gO R hb
 have I:=Nat.mul_le_mul E F;exact⟨C,by omega,DP C,gP (by rw[gE];omega),gP C⟩
def OA:cg:=⟨List.replicate 16 (-1),List.replicate 16 0,0⟩
def cell0:bV:=⟨List.replicate 11 0,false⟩
def OB(g:aL):dh:=⟨List.replicate (dW g).toNat cell0,List.replicate (fV g).toNat 0,List.replicate (fV g).toNat 0⟩
def rm(c:eH)(p:dy):ak:=⟨c,⟨p,p,false⟩,0,NS c.av,NV c.av,OB c.av,(q5 c.av c.bC).1,⟨List.replicate (aQ c.av).toNat 0,c.interval,false⟩,List.replicate (aQ c.av).toNat OA,List.replicate (aQ c.av).toNat p.eK,[],[],p.weights.map iT,⟨false,p.low,p.high⟩,⟨0,0,0⟩,⟨0,10,10⟩,[],[],[]⟩
def BH{p:dy}(h:vZ p):n7 p=true/\gu (p.weights.map iT)=true/\p.weights.length=4:=by
 have⟨⟨⟨D,E⟩,⟨F,I⟩,⟨L,O⟩,⟨T,U⟩,⟨i,w,hi,Y,Z,hw⟩,⟨h9,h10⟩,yC,pK⟩,vY,yO⟩:=h;have hl:p.weights.length=4:=by rw[hw,js];rfl
 have C:gu (p.weights.map iT)=true:=by
  rw[hw];rcases(by omega:i=0 \/ i=1 \/ i=2 \/ i=3)with rfl|rfl|rfl|rfl<;>rcases(by omega:w=1 \/ w=2 \/ w=3 \/ w=4)with rfl|rfl|rfl|rfl<;>rfl
 refine⟨?_,C,hl⟩;unfold n7 l7 yI;rw[C,hl];simp only[aJ,aH,fY]
 grind
def avT{n:Int}(C:8<=n)(D:n<=17):yx n=some (2*n+2):=by
 unfold yx;rw[eN,aq,bq.2 ⟨by omega,by omega⟩,bR,au,aR (n:=2*n),aR]
def OC{g:aL}(h:NZ g):cy g=true:=by
 have⟨⟨C,D⟩,⟨E,F⟩,⟨I,L⟩,O,T⟩:=h;simp[cy,aJ,aH,fY];omega
def avU:∀ r∈[(1:Int),2,3,4],∀ w∈[(4:Int),5,6,7,8],iz (UD r w)=true/\decide (Bf (UD r w) <= 200)=true:=by
 intro r C w D;simp at C D;rcases C with rfl|rfl|rfl|rfl<;>rcases D with rfl|rfl|rfl|rfl|rfl<;>exact⟨by kernel_rfl,by kernel_rfl⟩
def avV{c:eH}(h:uh c):l5 c=true:=by
 have⟨C,⟨r,w,L,O,T,U,E⟩,⟨Y,Z⟩,⟨Vp,Vq⟩,⟨hi1,hi2⟩,F,hl⟩:=h;have I:=OC C;have⟨t1,D⟩:=avU r (by simp;omega) w (by simp;omega);have D:=of_decide_eq_true D;have⟨⟨h1,h2⟩,⟨h3,h4⟩,⟨h5,h6⟩,h7,h8⟩:=C;unfold l5 iG;rw[I,E,t1,hl,F];rw[aR];simp only[aJ,aH,fY,true_and];omega
def af6{c:eH}{p:dy}(C:uh c)(D:vZ p):qP c p=some true:=by
 have F:=avV C;have⟨I,_,Z⟩:=BH D;have⟨hg,⟨r,w,hr1,zm,NF,hw2,E⟩,⟨hm1,Rq⟩,⟨Vp,Vq⟩,⟨hi1,hi2⟩,L,hl⟩:=C;have⟨_,O,T⟩:=D;have U:c.bN.fZ=7:=by rw[E];rfl
 have Y:c.bN.rp=3:=by rw[E];rfl
 unfold qP;rw[NK,aq,F,aj,NL _ (by omega),aq,I,aj,avT O T,aq,hl,L,U,Y,aR (n:=2*p.eK+2+2)];dsimp only;rw[aV,aj,aR (n:=7+3),bx,aR (n:=5*c.interval),oT (by omega),aR (n:=16+1),aR (n:=(16+1)*p.eK),aR (n:=5*c.interval / (7+3)),aR,aV]
def grow(x:ak)(l:Int)(i:Nat):ak:=⟨x.config,x.box,x.now,x.aU,x.ready,x.array,x.spare,x.aX,x.bI++List.replicate i OA,x.guard++List.replicate i l,x.pending,x.queue,x.shares,x.drain,x.aS,x.cJ,x.errors,x.trace,x.bY⟩
def Vs(g:aL)(sp:Int):aL:=⟨g.bX,g.aB,g.rows-sp,g.aK⟩
def OD(g:aL)(sp:Int):Bool:=n8 g (NS g)&&(ku g (NV g)&&(oG g (OB g)&&(jo g (q5 g sp).1&&((q5 g sp).1.bC==sp&&(cy (Vs g sp)&&(decide (0<dW (Vs g sp))&&(W6 (W6 ((dW g).tdiv g.rows)*W6 (g.rows-sp))==dW (Vs g sp)&&(decide (1<=dW g)&&decide ((q5 g sp).1.map.length<=1048576)))))))))
def avW:(([1,2]:aa Int).all λG=>([1,2]:aa Int).all λB=>([4,5,6]:aa Int).all λR=>([1,2]:aa Int).all λC=>([0,1,2]:aa Int).all λsp=>OD ⟨G,B,R,C⟩ sp)=true:=by kernel_rfl
def af7{g:aL}{sp:Int}(h:NZ g)(C:0 <= sp)(D:sp <= 2):OD g sp=true:=by
 have⟨⟨E,a2⟩,⟨F,I⟩,⟨L,O⟩,d1,d2⟩:=h;have e:=avW;simp only[bW]at e;exact e _ (by simp;omega) _ (by simp;omega) _ (by simp;omega) _ (by simp;omega) sp (by simp;omega)
def avX:ld OA=true:=by kernel_rfl
def avY{c:eH}{p:dy}(C:uh c)(F:vZ p):dw (rm c p):=by
 have hb:=fy c.av;have hl:=n6 c.av;have I:=sy c.av;have⟨_,_,L⟩:=BH F;have E:=af7 C.1 C.2.2.2.1.1 C.2.2.2.1.2;simp only[OD,aH,fY]at E
 refine⟨⟨?_,?_⟩,?_,⟨?_,?_⟩,⟨⟨?_,λy D=>?_⟩,?_,?_⟩,E.2.2.2.2.2.2.2.2.2,?_,⟨?_,λy D=>?_⟩,?_,?_,?_,?_,?_,?_,?_⟩
 ·show p.weights.length <= _;omega
 ·show p.weights.length <= _;omega
 ·show (List.replicate _ _).length <= _;rw[lI];omega
 ·show (List.replicate _ _).length <= _;rw[lI];omega
 ·exact gF _
 ·show (List.replicate _ _).length <= _;rw[lI];omega
 ·obtain rfl:=List.eq_of_mem_replicate D;exact cr rfl
 ·show (List.replicate _ _).length <= _;rw[lI];omega
 ·show (List.replicate _ _).length <= _;rw[lI];omega
 ·show (List.replicate _ _).length <= _;rw[lI];omega
 ·show (List.replicate _ _).length <= _;rw[lI];omega
 ·obtain rfl:=List.eq_of_mem_replicate D;exact⟨cr rfl,cr rfl⟩
 ·show (List.replicate _ _).length <= _;rw[lI];omega
 ·exact gF _
 ·exact gF _
 ·show (p.weights.map iT).length <= _;rw[eE];omega
 ·exact gF _
 ·exact gF _
 ·exact gF _
def avZ{c:eH}{p:dy}(C:uh c)(D:vZ p):dx (rm c p)=true:=by
 have hb:=fy c.av;have XU:=ID (OC C.1);have hl:=n6 c.av;obtain⟨_,I,L⟩:=BH D;have E:=af7 C.1 C.2.2.2.1.1 C.2.2.2.1.2;simp only[OD,aH,fY]at E;obtain⟨O,T,U,Y,Z,g6,g7,g8,g9,g10⟩:=E;have F:lu c p=true:=by unfold lu;rw[af6 C D];rfl
 have hiv:200<=c.interval/\c.interval<=259:=C.2.2.2.2.1;obtain⟨⟨_,_,⟨l1,l2⟩,⟨l3,l4⟩,_⟩,p1,p2⟩:=D;have e1:eO (rm c p).aX=true:=by
  unfold eO;simp only[rm,lI,aJ,aH,fY,List.all_replicate];refine⟨?_,by omega,aV,aV⟩;split<;>rfl
 have e2:q6 (rm c p)=true:=by
  unfold q6;simp only[rm,lI,aH,fI,List.length_nil,List.range_zero,List.all_nil];refine⟨by omega,by omega,by omega,rfl,?_,trivial⟩;rw[bW];intro i hi;have hi:i<(aQ c.av).toNat:=eJ.1 hi;unfold partAt;simp only[List.getElem?_replicate,hi,if_true,avX,cM];exact bq.2 ⟨by omega,by omega⟩
 have e3:l7 (rm c p).drain=true:=by
  unfold l7;simp only[rm,aH];exact⟨aV l1,aV l3,aV⟩
 have e4:aJ 0 0 (W6 (dW c.av-1))=true:=by
  rw[aR];exact bq.2 ⟨by omega,by omega⟩
 have e5:((p.weights.map iT).length:Int)==4:=by rw[eE,L];rfl
 unfold dx;simp only[aH];exact⟨F,F,rfl,O,T,U,Y,Z,⟨e1,e2⟩,rfl,I,e5,e3,rfl,rfl,rfl,rfl,rfl,e4,rfl,rfl,rfl⟩
def av0{c:ak}(C:dx c=true)(r:aP):dx (q8 c r).1=true/\((q8 c r).2=false -> (q8 c r).1=c):=by
 have h:=Ck.of C;have p:=fL.of h.pa;unfold q8;cases hb:((!dx c) ||((!(lD c r).2) ||(c.bY.any λx=>x.id==r.id)))with
 |true=>simp_all
 | false=>
  refine⟨?_,λh=>by cases h⟩
  rw[au];simp only[oe,Bool.not_eq_false']at hb;have D:gZ (dW (dS c.config.av c.spare)) (lD c r).1=true:=by
   have E:=hb.2.1;unfold lD Bn at E ⊢
   grind
  exact Ck.ok ⟨h.f1,h.f2,h.nw,h.rk,h.rd,h.ar,h.sp,h.se,h.rf,(show fL { c with queue:=(lD c r).1 } from ⟨p.dl,p.tl,p.gl,p.t,p.g,p.pd,p.u⟩).ok,D,h.sh,h.sl,h.dr,h.pw,h.ps,h.si,h.s1,h.s2,h.s3,h.er,h.tr,h.rp⟩
def av1{b:aa Int}{c:bA}(E:iS b c):Dr b (As c) λ_=>True:=by
 unfold As;rw[E.eq]
 refine(dY E 4).bind λx L O D=>?_
 rw[D.eta];cases hb:(x==0)with
 | true=>
  refine(IL D _ (by decide)).bind λy F _ C=>?_
  rw[C.eta];exact Dr.pure C trivial
 | false=>
  cases T:(x==1)with
  | true=>
   refine(dY D 200).bind λy F _ C=>?_
   rw[C.eta];exact Dr.pure C trivial
  | false=>
   refine(dY D 65536).bind λy F _ C=>?_
   rw[C.eta]
   refine(dY C 65536).bind λy U _ I=>?_
   rw[I.eta];exact Dr.pure I trivial
def av2{b:aa Int}{c:bA}(D:iS b c)(n:Int):Dr b (MT c n) λ_=>True:=by
 unfold MT;rw[D.eq]
 refine(dY D 60).bind λU Y Z E=>?_
 dsimp only;rw[E.eta]
 refine(dY E 3).bind λx2 k2 h2 F=>?_
 dsimp only;rw[F.eta]
 refine(dY F n).bind λx3 k3 h3 I=>?_
 dsimp only;rw[I.eta]
 refine(dY I 50).bind λx4 k4 h4 L=>?_
 dsimp only;rw[L.eta]
 refine(NA L 2).bind λT k5 h5 C=>?_
 dsimp only;rw[C.eta];cases T with
 | true=>
  refine(av1 C).bind λx6 k6 h6 O=>?_
  rw[O.eta];exact Dr.pure O trivial
 |false=>exact Dr.pure C trivial
def Jt(a:iK):Prop:=a.mc.weights.length<=1048576
def WtI(i:Int)(a:iK):Prop:=Jt a/\(a.request.id=0\/a.request.id=i)
def av3{b:aa Int}{c:bA}(I:iS b c){x:eH}(hx:uh x)(i:Int):Dr b (MU c x i) (WtI i):=by
 have L:=OC hx.1;have gb:=fE L;unfold MU;rw[A9,aq,bx,I.eq];dsimp only
 refine(dY I 12).bind λD k2 h2 C=>?_
 dsimp only;rw[C.eta];have hA:∀ l:aa Int,0<l.length -> Dr b ((x8 k2 l).bind λE=>some ((⟨(2:Int),⟨(0:Int),(0:Int),(0:Int),false,(0:Int),(0:Int)⟩,E.1,(0:Int),⟨(0:Int),(0:Int),(0:Int)⟩,⟨(0:Int),(0:Int),(0:Int),(0:Int),(0:Int),[],⟨(0:Int),(0:Int)⟩⟩⟩:iK),((⟨b,E.2.1.i,E.2.1.h⟩:bA),()))) (WtI i):=λl hl=>by
  refine(IL C l hl).bind λy k hy O=>?_
  rw[O.eta];exact Dr.pure O ⟨by show 0 <= 1048576;omega,.inl rfl⟩
 cases h0:D==(0:Int)with
 |true =>grind
 |false=>
 rw[au];cases h1:D==(1:Int)with
 |true =>grind
 |false=>
 rw[au];cases D==(2:Int)with
 | true=>
  rw[aj]
  refine(arH C L).bind λy5 k5 h5 T=>?_
  dsimp only;rw[T.eta]
  refine(dY T 11).bind λy6 k6 h6 U=>?_
  dsimp only;rw[U.eta]
  refine(dY U 16).bind λy7 k7 h7 Y=>?_
  dsimp only;rw[Y.eta];exact Dr.pure Y ⟨by show (0:Nat) <= 1048576;omega,.inl rfl⟩
 |false=>
 rw[au];cases D==(3:Int)with
 | true=>
  rw[aj]
  refine(IL C _ (by simp)).bind λy8 k8 h8 Z=>?_
  dsimp only;rw[Z.eta]
  refine(dY Z 2).bind λy9 k9 h9 Bk=>?_
  rw[mO,aq];dsimp only;rw[Bk.eta]
  refine(dY Bk _).bind λiw TH yC af8=>?_
  dsimp only;rw[af8.eta]
  refine(dY af8 _).bind λiQ TG pK af9=>?_
  dsimp only;rw[af9.eta]
  refine(aeM af9).bind λmJ DD vY aga=>?_
  dsimp only;rw[aga.eta];have hl:=(BH vY).2.2;exact Dr.pure aga ⟨by show mJ.weights.length <= 1048576;omega,.inl rfl⟩
 |false=>
 rw[au]
 refine(av2 C _).bind λmK k14 yO agb=>?_
 dsimp only;rw[agb.eta]
 refine(NA agb 2).bind λn5 k15 tU F=>?_
 dsimp only;rw[F.eta];cases n5 with
 | true=>
  refine(dY F 3).bind λmL k16 qQ agc=>?_
  rw[agc.eta];exact Dr.pure agc ⟨by show 0 <= 1048576;omega,.inr rfl⟩
 |false=>exact Dr.pure F ⟨by show 0 <= 1048576;omega,.inr rfl⟩
def av4{b:aa Int}{c:bA}(O:iS b c){x:eH}(Z:uh x)(m:Nat)(hm:m<=100):Dr b (MX c x (m:Int)) λl=>l.length<=m+1/\∀ a∈l,Jt a/\a.request.id<=(m:Int)+1:=by
 unfold MX aZ;rw[O.eq];obtain⟨z,e,C,bf,D,hl,E,rfl⟩:=T3 (step:=HR) (m+1) (λk s=>∃ (C:bA) (bf:aa iK),iS b C/\bf.length=k/\(∀ a∈bf,Jt a/\a.request.id<=(m:Int)+1)/\s=(((),(m:Int),(),(),(k:Int),()),(((),C.i,C.h,()),x,bf,b,())))
  (λz=>∃(C:bA) (bf:aa iK),iS b C/\bf.length<=m+1/\(∀a∈bf,Jt a/\a.request.id<=(m:Int)+1)/\z = .inl (((),()),(bf,((),C.i,C.h,()),b,()))) big (x:=(((),(m:Int),(),(),(0:Int),()),(((),c.i,c.h,()),x,([]:aa iK),b,()))) ⟨c,[],O,rfl,λa ha=>(by cases ha),rfl⟩ (by
  rintro k hk s ⟨C,bf,D,hl,E,rfl⟩;unfold HR ay xG;dsimp only;rw[D.eta,aR (n:=(m:Int)+1)];obtain⟨T,I,L,F,U⟩:=dY D ((m:Int)+1);rw[L,aq];dsimp only;by_cases Y:(k:Int)<T
  ·obtain⟨y2,k2,e2,vr,h2,h3⟩:=av3 F Z (W6 ((k:Int)+1));rw[aV Y,aj,F.eta,e2,aq];dsimp only;rw[aR (n:=(k:Int)+1)]at h3;rw[cq (by rw[hU];omega),aj,bG]
   refine .inl ⟨_,rfl,k2,bf++[y2],vr,by rw[iH,hU,hl],λa ha=>?_,rfl⟩
   rcases List.mem_append.1 ha with ha|ha
   ·exact E a ha
   ·rw[ng.1 ha];exact⟨h2,by omega⟩
  ·rw[bh Y,au];exact .inr ⟨_,rfl,I,bf,F,by omega,E,rfl⟩) (by
  rintro s ⟨C,bf,D,hl,E,rfl⟩;unfold HR ay xG;dsimp only;rw[D.eta,aR (n:=(m:Int)+1)];obtain⟨T,I,L,F,U⟩:=dY D ((m:Int)+1);have h31:=U.2.2 (by omega);rw[L,aq];dsimp only;rw[bh,au];exact⟨_,rfl,I,bf,F,by omega,E,rfl⟩) (bM)
 rw[e,aq];simp only[eR];rw[D.eta];exact Dr.pure D ⟨hl,E⟩
def Vt{g:aL}{s:dc}{D R:Nat}(h:Sp g s D R)(b r:Int):HH g s b r=some (bif cZ (dS g s) ⟨b,r,0⟩then b*(R:Int)+r else -1):=by
 obtain⟨U,Y,Z,eb,h8,qQ,jD,hc,NQ,J7⟩:=h.iV;have hR:W6 (g.rows-s.bC)=(R:Int):=by rw[h.hR];exact aR
 unfold HH;rw[asz,aq,h.ok,bR,au,mO,aq,h.hb,hR,aR (n:=(D:Int)-1),aR (n:=(R:Int)-1),dK,aq];by_cases E:0<=b/\b<(D:Int)
 ·rw[bq.2 ⟨E.1,by omega⟩,bR,au,dK,aq];by_cases I:0<=r/\r<(R:Int)
  ·have F:=(h.ex b r).2 ⟨E,I⟩;obtain⟨b,rfl⟩:=ff E.1;have O:=(h.lens (b:=b) (by omega)).1;have awU:=(h.lens (b:=b) (by omega)).2.1;rw[gE]at O;have T:W6 ((b:Int)*(R:Int))=((b*R:Nat):Int):=by rw[<-Int.natCast_mul];exact aR
   rw[bq.2 ⟨I.1,by omega⟩,bR,au,F,aj,T,aR,Int.natCast_mul]
  ·have F:cZ (dS g s) ⟨b,r,0⟩=false:=by
    cases C:cZ (dS g s) ⟨b,r,0⟩with
    |false=>rfl
    |true=>exact absurd ((h.ex b r).1 C).2 I
   have L:aJ r 0 ((R:Int)-1)=false:=by
    cases C:aJ r 0 ((R:Int)-1)with
    |false=>rfl
    |true=>have:=bq.1 C;exact absurd ⟨this.1,by omega⟩ I
   rw[L,F];rfl
 ·have F:cZ (dS g s) ⟨b,r,0⟩=false:=by
   cases C:cZ (dS g s) ⟨b,r,0⟩with
   |false=>rfl
   |true=>exact absurd ((h.ex b r).1 C).1 E
  have L:aJ b 0 ((D:Int)-1)=false:=by
   cases C:aJ b 0 ((D:Int)-1)with
   |false=>rfl
   |true=>have:=bq.1 C;exact absurd ⟨this.1,by omega⟩ E
  rw[L,F];rfl
def agd{g:aL}{s:dc}{C R:Nat}(h:Sp g s C R){b r:Nat}(hb:b<C)(F:r<R):vL g s (b:Int) (r:Int)=some (s.map.getD (b*R+r) 0):=by
 have D:=(h.lens hb).1;rw[gE]at D;have E:=(h.ex (b:Int) r).2 ⟨⟨by omega,by omega⟩,by omega,by omega⟩;have e:b*R+r=((b*R+r:Nat):Int):=by rw[Int.natCast_add,Int.natCast_mul]
 unfold vL xI;rw[Vt h,aq,E,aj,e,bh,au,aD ⟨by omega,by rw[bH];omega⟩]
 grind
def agf{g:aL}{s:dc}{C R:Nat}(h:Sp g s C R){b r:Int}(D:cZ (dS g s) ⟨b,r,0⟩=false):vL g s b r=some (-1):=by
 unfold vL xI;rw[Vt h,aq,D];rfl
def agh{g:aL}{s:dc}{D R:Nat}(h:Sp g s D R)(b r:Int):∃ y,vL g s b r=some y/\(cZ (dS g s) ⟨b,r,0⟩=true -> 0 <= y/\y<g.rows):=by
 cases C:cZ _ ⟨b,r,0⟩with
 |false=>exact⟨-1,agf h C,λh=>by cases h⟩
 | true=>
  have⟨⟨E,a2⟩,a3,a4⟩:=(h.ex b r).1 C;obtain⟨b,rfl⟩:=ff E;obtain⟨r,rfl⟩:=ff a3;exact⟨_,agd h (by omega) (by omega),λ_=>h.bound (by omega) (by omega)⟩
def av5{g:aL}{s:dc}{F R:Nat}(h:Sp g s F R){b:Nat}(hb:b<F){x:Int}(E:0 <= x):∃ y,MH g s (b:Int) x=some y/\(y<0 -> ∀ k,k<R -> s.map.getD (b*R+k) 0≠x):=by
 have U:=h.iV.2.2.2.2.2.1;unfold MH bO;have⟨z,e,L⟩:=T3 (step:=HJ) 16 (λk t=>t=(((b:Int),x,(),(),(k:Int),()),((g.bX,g.aB,g.rows,g.aK,()),(s.bC,s.map,()),())) /\ ∀ j,j<k -> j<R -> s.map.getD (b*R+j) 0≠x)
  (λz=>(∃r:Int,0 <= r/\z = .inl ((r,()),())) \/ (z = .inr (.inl ((),())) /\ ∀j,j<R -> s.map.getD (b*R+j) 0≠x)) big (x:=(((b:Int),x,(),(),(0:Int),()),((g.bX,g.aB,g.rows,g.aK,()),(s.bC,s.map,()),()))) ⟨rfl,λj C=>by omega⟩ (by
  rintro k Y t ⟨rfl,D⟩;unfold HJ ay aY xG;dsimp only;rw[mQ,show (⟨s.bC,s.map⟩:dc)=s from rfl,aV (show (k:Int)<16 by omega),aj,aV (show x >= 0 from E),aj];by_cases O:k<R
  ·rw[agd h hb O,aq];by_cases e:s.map.getD (b*R+k) 0=x
   ·simp_all
   ·rw[sx e,au,bG]
    refine .inl ⟨_,rfl,rfl,λj C I=>?_⟩
    by_cases Z:j=k
    ·simp_all
    ·grind
  ·have T:cZ (dS g s) ⟨(b:Int),(k:Int),0⟩=false:=by
    cases E:cZ (dS g s) ⟨(b:Int),(k:Int),0⟩with
    |false=>rfl
    |true=>have:=((h.ex b _).1 E).2;omega
   rw[agf h T,aq,sx (show ¬ (-1:Int)=x by omega),au,bG];exact .inl ⟨_,rfl,rfl,λj C I=>D j (by omega) I⟩) (by
  rintro t ⟨rfl,D⟩;unfold HJ ay aY xG;dsimp only;rw[bh,au];exact⟨_,rfl,.inr ⟨rfl,λj C=>D j (by omega) C⟩⟩) (bM)
 rw[e,aq];rcases L with ⟨r,hr,rfl⟩|⟨rfl,D⟩
 ·exact⟨r,rfl,λhn=>by omega⟩
 ·simp_all
def av6{g:aL}{s:dc}{C R:Nat}(h:Sp g s C R)(b r:Int):∃ y t,MI g s b r=some (y,t)/\Sp g y C R/\y.bC=s.bC/\(t=true->cZ (dS g s) ⟨b,r,0⟩=true):=by
 obtain⟨hg,JJ,eg,eb,E,F,jD,hc,NQ,J7⟩:=h.iV;have hm:s.map.length<=128:=by
  rw[h.hl];exact Nat.mul_le_mul E F
 have hR:=h.hR;have I:W6 (g.rows-s.bC)=(R:Int):=by rw[h.hR];exact aR
 unfold MI HI bO xA xZ;rw[cq (by simp;omega),aj,List.nil_append,aq,Vt h,aq];cases L:cZ (dS g s) ⟨b,r,0⟩with
 |false=>exact⟨s,false,rfl,h,rfl,λh=>by cases h⟩
 | true=>
  obtain⟨⟨O,a2⟩,T,a4⟩:=(h.ex b r).1 L;obtain⟨b,rfl⟩:=ff O;obtain⟨r,rfl⟩:=ff T;have hb:b<C:=by omega
  have U:r<R:=by omega
  have Y:=(h.lens hb).1;have hp:b*R+r<s.map.length:=by
   rw[gE]at Y;omega
  have Z:(b:Int)*(R:Int)+(r:Int)=((b*R+r:Nat):Int):=by rw[Int.natCast_add,Int.natCast_mul]
  rw[aj,Z,bh,au,I];dsimp only;obtain⟨n,hn⟩:=ff (show 0<=g.rows-(R:Int) by omega);obtain⟨z,e,hz⟩:=T3 (step:=HK) n (λk x=>x=(((b:Int),(),(),(),(),((b*R+r:Nat):Int),(R:Int)+(k:Int),()),((g.bX,g.aB,g.rows,g.aK,()),(s.bC,s.map,()),((0:Int),(),()),(s.bC,(),()),([]:aa Int),s.map,())))
   (λz=>(∃i:Int,z = .inl (((),true,()),((s.bC,(),()),s.map.set (b*R+r) i,()))/\(R:Int)<=i/\i<=g.rows-1/\∀k,k<R->s.map.getD (b*R+k) 0≠i)\/z = .inr (.inl (((),(),()),(((0:Int),(),()),(s.bC,(),()),([]:aa Int),s.map,())))) big (x:=(((b:Int),(),(),(),(),((b*R+r:Nat):Int),(R:Int),()),((g.bX,g.aB,g.rows,g.aK,()),(s.bC,s.map,()),((0:Int),(),()),(s.bC,(),()),([]:aa Int),s.map,()))) (by rw[cH,Int.add_zero]) (by
   rintro k hk x rfl;obtain⟨y,ey,hy⟩:=av5 h hb (x:=(R:Int)+(k:Int)) (by omega);unfold HK ay aY xG xL;dsimp only;rw[mQ,aV (show (R:Int)+(k:Int)<g.rows by omega),aj];rw[show (⟨s.bC,s.map⟩:dc)=s from rfl,ey,aq];by_cases D:y<0
   ·rw[aV D,aj,aD ⟨by omega,by omega⟩,aD];refine .inr ⟨_,rfl,.inl ⟨(R:Int)+(k:Int),?_,by omega,by omega,hy D⟩⟩;simp only[bH]
   ·rw[bh D,au,aR (n:=(R:Int)+(k:Int)+1)];exact .inl ⟨_,rfl,by rw[show ((k+1:Nat):Int)=(k:Int)+1 from Int.natCast_succ k,<-Int.add_assoc]⟩) (by
   rintro x rfl;unfold HK ay aY xG xL;dsimp only;rw[bh (show ¬ (R:Int)+(n:Int)<g.rows by omega),au];exact⟨_,rfl,.inr rfl⟩) (bM)
  rw[e,aq];rcases hz with ⟨i,rfl,i1,i2,i3⟩|rfl
  ·exact⟨_,true,rfl,h.set hb U i1 i2 i3,rfl,λ_=>rfl⟩
  ·exact⟨_,false,rfl,h,rfl,λh=>by cases h⟩
def av7{c:ak}(L:dw c)(D:dx c=true)(t:aG):∃ v y,MJ c t=some (v,(y,()))/\dw y/\dx y=true/\Nx c y:=by
 have h:=Ck.of D;obtain⟨bn,R,E⟩:=Sp.of h.sp;obtain⟨O,JJ,eg,eb,h8,qQ,jD,hc,NQ,J7⟩:=E.iV;obtain⟨f,e1,hf⟩:=agh E t.az t.row;obtain⟨y,v,e2,F,Y,ht⟩:=av6 E t.az t.row;unfold MJ aZ xL;rw[e1,aq,e2,aq];cases v with
 |false=>exact⟨false,c,rfl,L,D,Nx.refl c⟩
 | true=>
  have T:=ht rfl;obtain⟨⟨Z,a2⟩,a3,a4⟩:=(E.ex t.az t.row).1 T;have iM:=(uf h.rk).2.1;have Vj:=E.hb;have hR:=E.hR;obtain⟨f1,f2⟩:=hf T;have egy:dS c.config.av y=dS c.config.av c.spare:=by
   unfold dS;rw[F.ok,h.sp,Y]
  obtain⟨q,e3,I⟩:=agh F t.az t.row;have I:=I (by rw[egy];exact T);rw[bR,au,aD ⟨Z,by omega⟩,aD];dsimp only;cases c.aU.aB[t.az.toNat].open_ with
  |true=>exact⟨false,c,rfl,L,D,Nx.refl c⟩
  | false=>
   rw[au,e3,aq];obtain⟨n,hn⟩:=ff (show 0<=c.config.av.aK by omega);have gb:=fE O;have UK:∀(row:Int) (k:Nat),0<=row->row<c.config.av.rows->k<n->cZ c.config.av ⟨t.az,row,(k:Int)⟩=true:=λrow k r1 r2 D=>vT O Z (by rw[Vj];exact a2) r1 r2 (by dsimp only;omega) (by dsimp only;omega)
   obtain⟨z,e,Ci⟩:=T0 (step:=Dj) n (λk x=>∃ a:dh,fe c.config.av 100000 a/\x=(((),(),(),f,(),q,(k:Int),()),(en c a,(t.az,t.row,t.bL,()),(c.config.av.bX,c.config.av.aB,c.config.av.rows,c.config.av.aK,()),(y.bC,(),()),y.map,())))
    (λz=>∃a:dh,fe c.config.av 100000 a/\z = .inl (((),(),()),(en c a,(y.bC,(),()),y.map,()))) big (x:=(((),(),(),f,(),q,(0:Int),()),(c,(t.az,t.row,t.bL,()),(c.config.av.bX,c.config.av.aB,c.config.av.rows,c.config.av.aK,()),(y.bC,(),()),y.map,()))) ⟨c.array,fe.uq h.ar,rfl⟩ (by
    rintro k D x ⟨a,C,rfl⟩;have at1:=UK q k I.1 I.2 D;have at2:=UK f k f1 f2 D;obtain⟨i1,_⟩:=I0 at1;obtain⟨i2,_⟩:=I0 at2;have l1:=C.lt at1;have l2:=C.lt at2;have hsy:=C.syms _ (cR l2);have st:Dj (((),(),(),f,(),q,(k:Int),()),(en c a,(t.az,t.row,t.bL,()),(c.config.av.bX,c.config.av.aB,c.config.av.rows,c.config.av.aK,()),(y.bC,(),()),y.map,()))=some (.inl (((),(),(),f,(),q,((k+1:Nat):Int),()),(en c ⟨a.cells.set (gB c.config.av ⟨t.az,q,(k:Int)⟩) a.cells[gB c.config.av ⟨t.az,f,(k:Int)⟩],a.bD,a.bz⟩,(t.az,t.row,t.bL,()),(c.config.av.bX,c.config.av.aB,c.config.av.rows,c.config.av.aK,()),(y.bC,(),()),y.map,()))):=by
     unfold Dj ay xG xL xM;dsimp only;rw[mQ,aV (show (k:Int)<c.config.av.aK by omega),aj,Nv,aq,Nv,aq,i1,i2];have U:0<=(gB c.config.av ⟨t.az,f,(k:Int)⟩:Int)/\(gB c.config.av ⟨t.az,f,(k:Int)⟩:Int).toNat<(en c a).array.cells.length:=⟨by omega,by simpa [en]using l2⟩
     have c2:0<=(gB c.config.av ⟨t.az,q,(k:Int)⟩:Int)/\(gB c.config.av ⟨t.az,q,(k:Int)⟩)<(en c a).array.cells.length:=⟨by omega,by simpa [en]using l1⟩
     rw[aD U,aD U.2,aD U.2];simp only[bH];rw[ad1 _ (by simp only[en];rw[hsy.1];omega),aq,aD c2,aD c2.2,bG];rfl
    exact⟨_,st,_,C.Bl _ hsy,rfl⟩) (by
    rintro x ⟨a,C,rfl⟩;unfold Dj ay xG xL xM;dsimp only;rw[bh (show ¬ (n:Int)<c.config.av.aK by omega),au];exact⟨_,rfl,a,C,rfl⟩) (bM)
   rw[e,aq];obtain⟨a,C,rfl⟩:=Ci;have p:=fL.of h.pa;obtain⟨z1,z2,z3,z5,z6,z7,z8,z9,jm,mW,z12,oa,lz,mV⟩:=L;have hml:y.map.length<=128:=by
    rw[F.hl];exact Nat.mul_le_mul h8 qQ
   refine⟨true,⟨c.config,c.box,c.now,c.aU,c.ready,a,y,c.aX,c.bI,c.guard,c.pending,c.queue,c.shares,c.drain,c.aS,c.cJ,c.errors,c.trace,c.bY⟩,rfl,⟨z1,z2,z3,ur C,by show y.map.length<=1048576;omega,z7,z8,z9,jm,mW,z12,oa,lz,mV⟩,Ck.ok ⟨h.f1,h.f2,h.nw,h.rk,h.rd,wG O C,F.ok,Y.trans h.se,h.rf,(show fL ⟨c.config,c.box,c.now,c.aU,c.ready,a,y,c.aX,c.bI,c.guard,c.pending,c.queue,c.shares,c.drain,c.aS,c.cJ,c.errors,c.trace,c.bY⟩from ⟨p.dl,p.tl,p.gl,p.t,p.g,p.pd,p.u⟩).ok,?_,h.sh,h.sl,h.dr,h.pw,h.ps,h.si,h.s1,h.s2,h.s3,h.er,h.tr,h.rp⟩,rfl,rfl,List.Sublist.refl _,λr hr=>.inl hr,.inl ⟨rfl,rfl,rfl⟩,rfl⟩
   show gZ (dW (dS c.config.av y)) c.queue=true;rw[egy];exact h.qu
def av8{g:aL}(D:cy g=true):LK g=some (OB g):=by
 have E:=n6 g;have F:=sy g;have er:aQ g*g.rows=fV g:=by simp[fV,D]
 have⟨n,C⟩:=ff E.1;unfold LK aZ;have e:=dn (step:=Gk) n (λi=>(((),(),(),(i:Int),()),((g.bX,g.aB,g.rows,g.aK,()),((),(),(),()),((),(),(),()),([]:aa bV),([]:aa Int),([]:aa Int),List.replicate i cell0,([]:aa Int),([]:aa Int),()))) _ big (λk h=>by
  unfold Gk ay xG;dsimp only;rw[mQ,A9,aq,C,aV,aj,cq (by simp;omega),aj,bG,List.replicate_succ' (n:=k)];rfl) (by
  unfold Gk ay xG;dsimp only;rw[mQ,A9,aq,C,bh,au]) (bM)
 rw[cH,List.replicate_zero]at e
 refine(bu (λo=>Option.bind o _) e).trans ?_
 rw[aq];simp only[eR];rw[mQ,mO,aq,er,aR (n:=fV g),bh,au,DG,aq,D,bR,au,bJ ⟨by omega,by omega,by omega⟩,bJ ⟨by omega,by omega,by omega⟩];unfold OB;rw[C,bH]
def av9{p:dy}(C:vZ p):LM p=some (⟨p,p,false⟩,true):=by
 have⟨D,_,E⟩:=BH C;unfold LM tP xA xZ;rw[Uo _ (by omega),aq,D,bR,au,cq (by simp[E]),aj,List.nil_append,aq,aq]
def awa:CU 16=some (OA,true):=by kernel_rfl
def awb(Z C:ak)(c:eH)(p:dy)(n:Nat)(L:n <= 8)(D:c.ic=16)(E:C.bI=[])(F:C.guard=[]):
  iter CV big (((),(),(),(),(n:Int),(0:Int),()),(Z,C,c,(p.eV,p.cap,p.eK,p.low,p.high,p.weights,p.dQ.down,p.dQ.sleep,()),()))=some (.inl (((),(),(),()),(Z,grow C p.eK n,(p.eV,p.cap,p.eK,p.low,p.high,p.weights,p.dQ.down,p.dQ.sleep,()),()))):=by
 have e:=dn (step:=CV) n (λi=>(((),(),(),(),n,i,()),(Z,grow C _ i,c,(p.eV,p.cap,p.eK,p.low,p.high,p.weights,p.dQ.down,p.dQ.sleep,()),()))) _ big (λk h=>by
  unfold CV grow ay xG;dsimp only;rw[aV,aj,D,awa,aq,E,F,cq (by simp;omega),aj,cq (by simp;omega),aj,bG,List.replicate_succ' (n:=k),List.replicate_succ' (n:=k),List.append_assoc,List.append_assoc]) (by
  unfold CV grow ay xG;dsimp only;rw[bh,au]) (bM)
 have I:grow C p.eK 0=C:=by
  unfold grow;simp only[List.replicate_zero,List.append_nil]
 rw[cH,I]at e;exact e
def awc{c:eH}{p:dy}(D:uh c)(C:vZ p):Aw c p=some true:=by
 have⟨_,_,E⟩:=BH C;have e:=af6 D C;rw[I3 _ _ (by omega)]at e
 rwa [aeK _ _ (by omega)]
def awd{c:eH}{p:dy}(C:uh c)(D:vZ p):LO c p=some (rm c p,true):=by
 have E:=OC C.1;have hb:=fy c.av;have Y:=ID E;have⟨Z,I,h3⟩:=BH D;have⟨n,F⟩:=ff hb.1;have L:c.ic=16:=C.2.2.2.2.2.1;have hiv:200 <= c.interval/\c.interval <= 259:=C.2.2.2.2.1;have O:LN (n:Int) c.interval=some (⟨List.replicate n 0,c.interval,false⟩,true):=by
  unfold LN;rw[dK,aq,bq.2 ⟨by omega,by omega⟩,bR,au,dK,aq,bq.2 ⟨by omega,by omega⟩,bR,au,bJ ⟨by omega,by omega,by omega⟩,bH]
 have T:S1 10=some (⟨0,10,10⟩,true):=rfl;have U:vW p.weights=(p.weights.map iT,true):=by unfold vW;rw[I,aj]
 unfold LO aZ;rw[awc C D,aq,bR,au,asJ,aq,asY E,aq,av8 E,aq,mO,aq,av9 D,aq,Uj,aq,F,O,aq];dsimp only;rw[awb _ _ c p n (by omega) L rfl rfl,aq];simp only[eR];rw[Um _ (by omega),aq,T,aq,U];unfold rm grow;rw[F,bH];rfl
def Rv(c:ak)(N:Int):Prop:=(∀r∈c.queue,r.id<=N/\r.at_<=c.now)/\∀r∈c.bY,r.id<=N
def Rv.nx{c y:ak}{N:Int}(h:Rv c N)(D:Nx c y):Rv y N:=by
 have⟨E,O,F,I,T⟩:=D
 refine⟨λr C=>by rw[E];exact h.1 r (F.subset C),λr C=>?_⟩
 rcases I r C with q|⟨q,L,e⟩
 ·exact h.2 r q
 ·rw[e];exact(h.1 q L).1
def Rv.uw{c y:ak}{N:Int}(h:Rv c N)(D:Ov c y):Rv y N:=by
 have⟨L,O,E,F,T⟩:=D
 refine⟨λr C=>?_,λr C=>?_⟩
 ·have:=h.1 r (E.subset C)
  grind
 ·rcases F r C with q | ⟨q,I,e⟩
  ·exact h.2 r q
  ·rw[e];exact(h.1 q I).1
def awe{r:cW}(h:eO r=true)(x:Bool):∃ y,MD r x=some y/\eO y=true/\y.aO.length=r.aO.length:=by
 have hl:=wh h;have C:=h;simp only[eO,aH,bq]at h;have mk:∀ (w:Int) (b:Bool),1<=w/\w<=10000->eO ⟨r.aO,w,b⟩=true:=λw b D=>by
  simp only[eO,aH,bq];exact⟨h.1,h.2.1,D⟩
 have E:W6 ((W6 (r.wait+1)).tdiv 2)=(r.wait+1) / 2:=by
  rw[aR (n:=r.wait+1),oT (by omega)];exact aR
 have F:W6 (W6 (2*r.wait)-1)=2*r.wait-1:=by
  rw[aR (n:=2*r.wait)];exact aR
 unfold MD AN xA xZ;rw[cq (by simp;omega),aj,List.nil_append,aq,NM _ (by omega),aq,C,bR,au];dsimp only;rw[E,F];cases x with
 | true=>
  cases r.ei with
  |false=>exact⟨_,rfl,mk _ _ (by omega),rfl⟩
  |true=>exact⟨_,rfl,mk _ _ h.2.2,rfl⟩
 | false=>
  cases r.ei with
  |false=>exact⟨_,rfl,mk _ _ h.2.2,rfl⟩
  |true=>exact⟨_,rfl,mk _ _ (by split<;>omega),rfl⟩
def awf(b:gH)(C:DW b)(p:dy)(D:p.weights.length <= 1048576):ME b p=some (bif n7 p then ⟨b.bU,p,true⟩else b,n7 p):=by
 unfold ME;rw[UE b C,aq,Uo _ (by omega),aq];cases n7 p with
 |false=>rfl
 | true=>
  unfold tP xA xZ;rw[bR,lC _,aj];rfl
def awg{c:ak}(C:dx c=true)(r:aP):(I6 c r).2=(q8 c r).1:=by
 unfold I6 q8
 grind
def awh{c:ak}{N:Int}(h:Rv c N){r:aP}(D:r.id <= N):Rv (q8 c r).1 N/\(q8 c r).1.now=c.now/\(q8 c r).1.config=c.config:=by
 unfold q8;cases hb:((!dx c) ||((!(lD c r).2) ||(c.bY.any λx=>x.id==r.id)))with
 |true=>simp_all
 | false=>
  refine⟨⟨λx hx=>?_,h.2⟩,rfl,rfl⟩
  unfold lD Bn at hx;cases C:(gZ _ c.queue&&gZ _ _)with
  | false=>
   rw[C]at hx;exact h.1 x hx
  | true=>
   rw[C,aj]at hx;unfold v7 at hx;rcases List.mem_append.1 hx with hx|hx
   ·rcases List.mem_append.1 hx with hx | hx
    ·exact h.1 x (List.mem_of_mem_take hx)
    ·rw[ng.1 hx];exact⟨D,Int.le_refl _⟩
   ·exact h.1 x (List.mem_of_mem_drop hx)
def Do(c:ak)(N:Int)(o:ah (Bool×(ak×af))):Prop:=∃t y,o=some (t,(y,()))/\dw y/\dx y=true/\y.config=c.config/\(0<=y.now/\y.now<=c.now+500)/\Rv y N
def awi{c:ak}{N:Int}(hz:dw c)(F:dx c=true)(hi:2 <= c.config.interval/\c.config.interval <= 10000)(hn:c.now <= 900000)(I:Rv c N){a:iK}(hw:a.mc.weights.length <= 1048576)(hid:a.request.id <= N):Do c N (MK c a):=by
 have h:=Ck.of F;have p:=fL.of h.pa;have L:=bq.1 h.nw;have O:=hz;have⟨Y,z2,z3,z5,z6,z7,z8,z9,jm,mW,z12,oa,lz,mV⟩:=hz;have no:∀t:Bool,Do c N (some (t,(c,()))):=λt=>⟨t,c,rfl,O,F,rfl,⟨L.1,by omega⟩,I⟩
 unfold MK xC aZ xL xM;cases a.kind==(1:Int)with
 | true=>
  have⟨q1,q2⟩:=av0 F a.request;have⟨v1,v2,v3⟩:=awh I hid;rw[aj,atJ c a.request O F,aq];dsimp only;rw[awg F];exact⟨_,_,rfl,atI c a.request O,q1,v3,⟨by rw[v2];exact L.1,by rw[v2];omega⟩,v1⟩
 |false=>
 rw[au];cases a.kind==(2:Int)with
 | true=>
  rw[aj,dK,aq];cases T:aJ a.n 0 500 with
  |false=>exact no _
  | true=>
   have hb:=bq.1 T;have⟨m,hm⟩:=ff hb.1;rw[bR,au];obtain⟨z,e,y,rfl,D,E,C,Z,U⟩:=T0 (step:=HM) m (λk x=>∃ y:ak,x=(((),(),(k:Int),()),(y,a,()))/\dw y/\dx y=true/\y.config=c.config/\(0 <= y.now/\y.now=c.now+(k:Int))/\Rv y N) (λz=>∃ y:ak,z = .inl ((),(y,()))/\dw y/\dx y=true/\y.config=c.config/\(0 <= y.now/\y.now <= c.now+500)/\Rv y N) big (x:=(((),(),(0:Int),()),(c,a,()))) ⟨c,rfl,O,F,rfl,⟨L.1,by omega⟩,I⟩ (by
    rintro k hkk x ⟨y,rfl,D,E,C,Z,U⟩;have⟨v,f1,f2,f3,f4⟩:=avR D E (by rw[C];exact hi) (by omega);unfold HM ay xG;dsimp only;rw[hm,aV (show (k:Int)<(m:Int) by omega),aj,f1,aq,bG];have awV:=f4.1;exact⟨_,rfl,v,rfl,f2,f3,f4.2.1.trans C,⟨by omega,by omega⟩,U.uw f4⟩) (by
    rintro x ⟨y,rfl,D,E,C,Z,U⟩;unfold HM ay xG;dsimp only;rw[hm,bh (show ¬ (m:Int)<(m:Int) by omega),au];exact⟨_,rfl,y,rfl,D,E,C,⟨Z.1,by omega⟩,U⟩) (bM)
   rw[e,aq];exact⟨true,y,rfl,D,E,C,Z,U⟩
 |false=>
 rw[au];cases a.kind==(3:Int)with
 | true=>
  have hg:=(uf h.rk).1;have ha:=fe.uq h.ar;rw[aj,T5,aq];cases c1:cZ c.config.av a.addr with
  |false=>exact no _
  |true=>
  rw[bR,au,dK,aq];cases c2:aJ a.wL 0 10 with
  |false=>exact no _
  |true=>
  unfold vI;rw[bR,au,dK];cases c3:aJ a.n 0 15 with
  |false=>exact no _
  | true=>
   have b2:=bq.1 c2;have b3:=bq.1 c3;have⟨k,hkc⟩:=ff b2.1;have hl:=ha.lt c1;have⟨i1,i2⟩:=I0 c1;have hs:=ha.syms _ (cR hl);have hkl:k<c.array.cells[gB c.config.av a.addr].symbols.length:=by rw[hs.1];omega
   have T:=Ua (hs.get hkl) b3;have ha2:fe c.config.av 100000 ⟨c.array.cells.set (gB c.config.av a.addr) ⟨c.array.cells[gB c.config.av a.addr].symbols.set k (bits .xor .i64 c.array.cells[gB c.config.av a.addr].symbols[k] a.n),c.array.cells[gB c.config.av a.addr].ia⟩,c.array.bD,c.array.bz⟩:=ha.Bl _ (c:=⟨_,_⟩) (hs.set ⟨T.1,T.2.1⟩);refine⟨true,en c ⟨c.array.cells.set (gB c.config.av a.addr) ⟨c.array.cells[gB c.config.av a.addr].symbols.set k (bits .xor .i64 c.array.cells[gB c.config.av a.addr].symbols[k] a.n),c.array.cells[gB c.config.av a.addr].ia⟩,c.array.bD,c.array.bz⟩,?_,⟨Y,z2,z3,ur ha2,z6,z7,z8,z9,jm,mW,z12,oa,lz,mV⟩,Ck.ok ⟨h.f1,h.f2,h.nw,h.rk,h.rd,wG hg ha2,h.sp,h.se,h.rf,(show fL (en c _)from ⟨p.dl,p.tl,p.gl,p.t,p.g,p.pd,p.u⟩).ok,h.qu,h.sh,h.sl,h.dr,h.pw,h.ps,h.si,h.s1,h.s2,h.s3,h.er,h.tr,h.rp⟩,rfl,⟨L.1,by show c.now <= c.now+500;omega⟩,I⟩;simp[Nv,i1,hl,hkc,hkl,en]
 |false=>
 rw[au];cases a.kind==(4:Int)with
 | true=>
  rw[aj,dK,aq];cases T:aJ a.n 0 1 with
  |false=>exact no _
  | true=>
   have⟨y,e,D,E⟩:=awe h.rf (a.n==(1:Int));rw[bR,au,e,aq];exact⟨true,oP c y,rfl,⟨Y,z2,z3,z5,z6,by unfold Bm at z7 ⊢;show y.aO.length <= _;omega,z8,z9,jm,mW,z12,oa,lz,mV⟩,Ck.ok ⟨h.f1,h.f2,h.nw,h.rk,h.rd,h.ar,h.sp,h.se,D,(show fL (oP c y)from ⟨by show (y.aO.length:Int)=_;rw[E];exact p.dl,p.tl,p.gl,p.t,p.g,p.pd,p.u⟩).ok,h.qu,h.sh,h.sl,h.dr,h.pw,h.ps,h.si,h.s1,h.s2,h.s3,h.er,h.tr,h.rp⟩,rfl,⟨L.1,by show c.now <= c.now+500;omega⟩,I⟩
 |false=>
 rw[au];cases a.kind==(5:Int)with
 | true=>
  rw[aj,aeK _ _ (by omega),aq];cases hf:lu c.config a.mc with
  |false=>exact no _
  | true=>
   have hp:=(D1 (by omega) hf).2;rw[bR,au,awf c.box Y a.mc hw,aq,hp,aj];exact⟨true,⟨c.config,⟨c.box.bU,a.mc,true⟩,c.now,c.aU,c.ready,c.array,c.spare,c.aX,c.bI,c.guard,c.pending,c.queue,c.shares,c.drain,c.aS,c.cJ,c.errors,c.trace,c.bY⟩,rfl,⟨⟨Y.1,hw⟩,z2,z3,z5,z6,z7,z8,z9,jm,mW,z12,oa,lz,mV⟩,Ck.ok ⟨h.f1,hf,h.nw,h.rk,h.rd,h.ar,h.sp,h.se,h.rf,(show fL ⟨c.config,⟨c.box.bU,a.mc,true⟩,c.now,c.aU,c.ready,c.array,c.spare,c.aX,c.bI,c.guard,c.pending,c.queue,c.shares,c.drain,c.aS,c.cJ,c.errors,c.trace,c.bY⟩from ⟨p.dl,p.tl,p.gl,p.t,p.g,p.pd,p.u⟩).ok,h.qu,h.sh,h.sl,h.dr,h.pw,h.ps,h.si,h.s1,h.s2,h.s3,h.er,h.tr,h.rp⟩,rfl,⟨L.1,by show c.now <= c.now+500;omega⟩,I⟩
 |false=>
 rw[au];cases a.kind==(6:Int)with
 | true=>
  have⟨t,y,e,D,E,C⟩:=av7 O F a.addr;rw[aj,e,aq];exact⟨t,y,rfl,D,E,C.2.1,⟨by rw[C.1];exact L.1,by rw[C.1];omega⟩,I.nx C⟩
 |false=>exact no _
def awj{c:eH}{p:dy}(I:uh c)(O:vZ p){bf:aa iK}{N:Int}(hN:0 <= N)(U:∀ a∈bf,Jt a/\a.request.id <= N)(hl:bf.length <= 60):∃ y n,MQ c p bf=some (y,n)/\dw y/\dx y=true/\y.config=c/\(0 <= y.now/\y.now <= 30000)/\Rv y N:=by
 have hiv:200 <= c.interval/\c.interval <= 259:=I.2.2.2.2.1;have Y:=avY I O;have hk:=avZ I O;unfold MQ aZ;rw[awd I O,aq];dsimp only;rw[bR,au,bh (show ¬ (bf.length:Int) > 60 by omega),au];generalize (⟨⟨⟨(0:Int),(0:Int),(0:Int),(0:Int)⟩,⟨(0:Int),(0:Int),(0:Int),(0:Int),(0:Int),(0:Int),(0:Int),(0:Int),(0:Int),(0:Int),(0:Int),(0:Int),(0:Int),(0:Int),(0:Int),(0:Int),(0:Int)⟩,⟨(0:Int),false⟩,(0:Int),(0:Int),(0:Int),⟨(0:Int),(0:Int)⟩⟩,⟨⟨(0:Int),(0:Int),(0:Int),(0:Int),(0:Int),([]:aa Int),⟨(0:Int),(0:Int)⟩⟩,⟨(0:Int),(0:Int),(0:Int),(0:Int),(0:Int),([]:aa Int),⟨(0:Int),(0:Int)⟩⟩,false⟩,(0:Int),⟨([]:aa ep),(0:Int)⟩,⟨([]:aa Int),([]:aa Int)⟩,⟨([]:aa bV),([]:aa Int),([]:aa Int)⟩,⟨(0:Int),([]:aa Int)⟩,⟨([]:aa Int),(0:Int),false⟩,([]:aa cg),([]:aa Int),([]:aa aG),([]:aa aP),([]:aa ct),⟨false,(0:Int),(0:Int)⟩,⟨(0:Int),(0:Int),(0:Int)⟩,⟨(0:Int),(0:Int),(0:Int)⟩,([]:aa bT),([]:aa fR),([]:aa fm)⟩:ak)=Z;obtain⟨z,e,y,n,rfl,D,E,C,L,F⟩:=T0 (step:=HO) bf.length (λk x=>∃ (y:ak) (n:Int),x=((bf,(),(),n,(k:Int),()),(Z,y,()))/\dw y/\dx y=true/\y.config=c/\(0 <= y.now/\y.now <= 500*(k:Int))/\Rv y N) (λz=>∃ (y:ak) (n:Int),z = .inl (((),(),n,()),(Z,y,()))/\dw y/\dx y=true/\y.config=c/\(0 <= y.now/\y.now <= 30000)/\Rv y N) big (x:=((bf,(),(),(0:Int),(0:Int),()),(Z,rm c p,()))) ⟨rm c p,0,rfl,Y,hk,rfl,⟨Int.le_refl _,Int.le_refl _⟩,λr T=>(by cases T),λr T=>(by cases T)⟩ (by
  rintro k hkk x ⟨y,n,rfl,D,E,C,L,F⟩;have⟨w1,w2⟩:=U _ (cR hkk);have⟨t,v,f1,f2,f3,f4,f5,f6⟩:=awi D E (by rw[C];omega) (by omega) F (a:=bf[k]) w1 w2;unfold HO ay xG xI;dsimp only;rw[aV (show (k:Int)<(bf.length:Int) by omega),aj,aD ⟨by omega,by omega⟩];simp only[bH];rw[f1,aq,bG (i:=k)];dsimp only;cases t with
  |true=>exact⟨_,rfl,v,_,rfl,f2,f3,f4.trans C,⟨f5.1,by omega⟩,f6⟩
  |false=>exact⟨_,rfl,v,_,rfl,f2,f3,f4.trans C,⟨f5.1,by omega⟩,f6⟩) (by
  rintro x ⟨y,n,rfl,D,E,C,L,F⟩;unfold HO ay xG xI;dsimp only;rw[bh (show ¬ (bf.length:Int)<(bf.length:Int) by omega),au];exact⟨_,rfl,y,n,rfl,D,E,C,⟨L.1,by omega⟩,F⟩) (bM)
 refine⟨y,n,?_,D,E,C,L,F⟩
 refine(bu (λo=>Option.bind o _) e).trans ?_
 rw[aq];simp only[eR];rw[atE y D,aq]
def awk(l:aa Int)(h:l.length <= 1073741823):∃ y,MY l=some y/\dw y/\dx y=true/\(0 <= y.now/\y.now <= 30000)/\Rv y 13:=by
 unfold MY Tw;have⟨I,L⟩:=adJ l h;have O:=adK l I h;have⟨x,k,T,C,D⟩:=atq O;have⟨p,k2,U,E,Y⟩:=aeM C;have⟨bf,k3,Z,r4,F,hw⟩:=av4 E D 12 (by decide);have⟨y,n,e4,y1,y2,y3,y4,y5⟩:=awj D Y (N:=13) (by decide) (λa F=>hw a F) (by omega);refine⟨y,?_,y1,y2,y4,y5⟩;rw[L,aq,T,aq];dsimp only;rw[C.eta,U,aq];dsimp only;rw[E.eta]
 refine(bu (λo=>Option.bind (Option.bind o _) _) Z).trans ?_
 rw[aq];dsimp only;rw[e4];rfl
def agi:∀ xs:aa (aa UInt8),(32:UInt8) :: (xs.map (· ++ [32])).flatten=(xs.map (λx=>32 :: x)).flatten++[32]
 |[]=>rfl
 | x :: xs=>by
  have C:=agi xs;simp only[List.map_cons,List.flatten_cons,List.append_assoc,List.cons_append,List.nil_append]at C ⊢;rw[C]
def agj{xs:aa (aa UInt8)}(h:xs≠[]):(32:UInt8) :: Lib.join xs [32]=(xs.map (λx=>32 :: x)).flatten:=by
 rcases List.eq_nil_or_concat xs with rfl|⟨ys,y,rfl⟩
 ·exact absurd rfl h
 ·rw[List.concat_eq_append,Uf,<-List.cons_append,agi];simp
def iV(l:aa Int):aa (aa UInt8):=l.map λd=>(gY d).data.toList
def uz(l:aa Int):aa UInt8:=((iV l).map (λx=>32::x)).flatten
def agk{l:aa Int}(h:∀ d∈l,Ll d):(uz l).length<=22*l.length:=by
 induction l with
 |nil=>simp[uz,iV]
 | cons d l C=>
  have E:(gY d).data.toList.length<=21:=qZ (h d (.head _)).1 (h d (.head _)).2;have F:=C λx D=>h x (.tail _ D)
  have e:uz (d::l)=32::(gY d).data.toList++uz l:=by simp[uz,iV]
  rw[e];simp only[iH,kB];omega
def dbt:aa UInt8:=[100,101,98,116,115]
def Vu(l:aa Int):ByteArray:=⟨(dbt++uz l).toArray⟩
def awl(l:aa Int)(hl:l.length<=8)(hb:∀ d∈l,Ll d)(D:l≠[]):∃ y,Ip l=some y/\y.size<=200/\((ByteArray.mk #[100,101,98,116,115,32])++y)=Vu l:=by
 have g:Gv (λy=>y=⟨(Lib.join (iV l) [32]).toArray⟩) (Ip l):=by
  unfold Ip aZ
  refine Gv.loop l.length (λi x=>x=(((),l,(l.length:Int),(i:Int),()),((l.take i).map gY,()))) rfl (bM) ?_
  rintro i hi x rfl;unfold Tz ay xG xI;dsimp only
  refine Gv.cond (λh=>?_) (λh=>?_)
  ·have h:i<l.length:=by simp at h;omega
   have E:=hb _ (cR h);have fin:(l.take (i+1)).map gY=(l.take i).map gY++[gY l[i]]:=by rw[List.take_succ_eq_append_getElem h,jP];rfl
   have F:aT (((l.take i).map gY).length+1)=true:=cq (by simp;omega);refine Gv.IN ⟨by omega,by omega⟩ ?_;simp only[bH];rw[uc E.1 E.2,aq,hU,F,aj];exact Gv.pure ⟨h,by rw[bG,fin]⟩
  ·refine Gv.pure ?_;have hi:i=l.length:=by simp at h;omega
   subst hi;rw[kC];simp only[eR,Sum.elim_inr];have C:Lib.join ((l.map gY).map (·.data.toList)) [32]=Lib.join (iV l) [32]:=by
    unfold iV;rw[List.map_map];rfl
   have I:=agk hb;have T:(Lib.join (iV l) [32]).length+1=(uz l).length:=by
    unfold uz;rw[<-agj (by simpa [iV]using D)];rfl
   have L:pW (l.map gY) (ByteArray.mk #[32])=some ⟨(Lib.join (iV l) [32]).toArray⟩:=by
    unfold pW;rw[show (ByteArray.mk #[32]).data.toList=[32]from rfl,C,aV (by simp;omega),aV];rfl
   exact Gv.bind (Q:=λy=>y=⟨(Lib.join (iV l) [32]).toArray⟩) ⟨_,L,rfl⟩ λy O=>Gv.pure O
 obtain⟨y,e,rfl⟩:=g;have I:=agk hb;have C:(32:UInt8)::Lib.join (iV l) [32]=uz l:=agj (by simpa [iV]using D);refine⟨_,e,?_,?_⟩
 ·show (Lib.join (iV l) [32]).length<=200;have:=bu List.length C;rw[kB]at this;omega
 ·refine DI ?_;rw[ND];show [100,101,98,116,115,32]++Lib.join (iV l) [32]=dbt++uz l;rw[<-C];rfl
def ln1(c:ak):ByteArray:=(ByteArray.mk #[110,111,119,32])++gY c.now
def ln2(c:ak):ByteArray:=(ByteArray.mk #[114,97,110,107,32])++sC c.aU
def ln3(c:ak):ByteArray:=(((ByteArray.mk #[113,117,101,117,101,32])++gY (c.queue.length:Int))++(ByteArray.mk #[32,112,101,110,100,105,110,103,32]))++gY (c.pending.length:Int)
def ln5(c:ak):ByteArray:=(((ByteArray.mk #[99,111,109,109,97,110,100,115,32])++gY (c.trace.length:Int))++(ByteArray.mk #[32,114,101,112,108,105,101,115,32]))++gY (c.bY.length:Int)
def ln6(c:ak):ByteArray:=(ByteArray.mk #[101,114,114,111,114,115,32])++Bq c.errors
def fmtC(c:ak):aa ByteArray:=bif dx c then [ln1 c,ln2 c,ln3 c,Vu c.aX.aO,ln5 c,ln6 c]else []
def agl{l:aa bT}(h:∀ e∈l,Bp e)(hl:l.length<=1048576):(Bq l).size<=100000000:=by
 unfold Bq;cases (l.length:Int)==0 with
 |true=>exact cr rfl
 | false=>
  have:=aeS h;show (we l).length<=_;omega
def agm{r:cB}(h:∀ b∈r.aB,DK b)(hl:r.aB.length<=1048576):(sC r).size<=100000000:=by
 cases C:aJ r.aS 0 2 with
 |false=>rw[ad7 C];exact cr rfl
 | true=>
  obtain⟨D,F,E⟩:=ad6 C;rw[E];have I:=ad4 h;have L:=ad5 D;show (cat r.aB++(W3[r.aS.toNat]'D).data.toList).length<=_;rw[iH];omega
structure Fm (c:ak):Prop where
 now:Ll c.now
 q:c.queue.length<=1048576
 p:c.pending.length<=1048576
 t:c.trace.length<=1048576
 r:c.bY.length<=1048576
 b:c.aU.aB.length<=1048576
 row:∀b∈c.aU.aB,DK b
 e:c.errors.length<=1048576
 xm:∀e∈c.errors,Bp e
 d:∀d∈c.aX.aO,Ll d
def mZ{n:Nat}(h:n<=1048576):-9223372036854775808<=(n:Int)/\(n:Int)<=9223372036854775807:=by omega
def awm{c:ak}(h:dx c=true):c.aX.aO.length<=8/\c.aX.aO≠[]:=by
 simp only[dx,aH]at h;obtain⟨E,F,I,L,O,T,U,Y,⟨C,_⟩,_⟩:=h;simp only[eO,aH]at C;have h:=bq.1 C.2.1
 refine⟨by omega,λD=>?_⟩
 rw[D]at h;simp at h
def awn(c:ak)(D:dw c)(C:Fm c):Na c=some (fmtC c):=by
 unfold Na fmtC;rw[atl c D,aq];cases E:dx c with
 |false=>rfl
 | true=>
  obtain⟨F,I⟩:=awm E;obtain⟨y,e,O,L⟩:=awl _ F C.d I;have s1:=qZ C.now.1 C.now.2;have s2:=agm C.row C.b;have s3:=qZ (mZ C.q).1 (mZ C.q).2;have T:=qZ (mZ C.p).1 (mZ C.p).2;have U:=qZ (mZ C.t).1 (mZ C.t).2;have Y:=qZ (mZ C.r).1 (mZ C.r).2;have Z:=agl C.xm C.e;have c1:(ByteArray.mk #[110,111,119,32]).size=4:=rfl;have c2:(ByteArray.mk #[114,97,110,107,32]).size=5:=rfl;have c3:(ByteArray.mk #[113,117,101,117,101,32]).size=6:=rfl;have c4:(ByteArray.mk #[32,112,101,110,100,105,110,103,32]).size=9:=rfl;have c5:(ByteArray.mk #[100,101,98,116,115,32]).size=6:=rfl;have c6:(ByteArray.mk #[99,111,109,109,97,110,100,115,32]).size=9:=rfl;have c7:(ByteArray.mk #[32,114,101,112,108,105,101,115,32]).size=9:=rfl;have c8:(ByteArray.mk #[101,114,114,111,114,115,32]).size=7:=rfl;rw[bR,au,uc C.now.1 C.now.2,aq,cq,aj,ad8 _ C.b C.row,aq,cq,aj,
   uc (mZ C.q).1 (mZ C.q).2,aq,cq,aj,cq (by simp only[qY];omega),aj,uc (mZ C.p).1 (mZ C.p).2,aq,cq (by simp only[qY];omega),aj,
   e,aq,cq,aj,uc (mZ C.t).1 (mZ C.t).2,aq,cq,aj,cq (by simp only[qY];omega),aj,uc (mZ C.r).1 (mZ C.r).2,aq,cq (by simp only[qY];omega),aj,
   aeT _ C.e C.xm,aq,cq,aj,L]
  rfl
def uw(c:ak):ak:=(arb c).getD c
def Fm.ok{c:ak}(C:dw c)(D:dx c=true):Fm c:=by
 have h:=Ck.of D;have hn:=bq.1 h.nw;have E:=Ek.of h.er;have hg:=fE (uf h.rk).1;have hb:=(uf h.rk).2.2.2.1;obtain⟨z1,F,z3,z4,z5,z6,z7,z8,I,L,mW,O,T,U⟩:=C
 refine⟨⟨by omega,by omega⟩,L,I,T,U,F,λb Y=>?_,O,λe Z=>?_,λd hd=>?_⟩
 ·have:=bW.1 hb b Y;simp only[vX,aH,bq]at this;unfold DK;omega
 ·have:=E.e e Z;simp only[ud,aH,bq]at this;unfold Bp;omega
 ·have:=N8 h.rf d hd;exact⟨by omega,by omega⟩
def awo(l:aa Int)(h:l.length<=1073741823):∃ x,Ly l=some x/\0<=x/\x<=4294967295:=by
 unfold Ly;obtain⟨C,D⟩:=adJ l h;obtain⟨x,k,E,I,F⟩:=as9 (adK l C h);refine⟨x,?_,F⟩;rw[D,aq,E];rfl
def awp{x:Int}(C:0<=x)(D:x<=4294967295):(sD x).size=8:=by
 have E:sD x=oH x:=by
  unfold sD;rw[bq.2 ⟨C,D⟩];rfl
 rw[E];unfold oH;rw[NG,Ug]
def awq(l:aa Int)(h:l.length<=maxLen):TB l=some true:=by
 unfold TB SS;rw[aq];by_cases O:(l.length:Int) > 1048576
 ·rw[aV O];rfl
 ·rw[bh O,au];obtain⟨x,e1,T,U⟩:=awo l (by omega);obtain⟨c,e2,Y,Z,hn,_⟩:=awk l (by omega);have C:=Fm.ok Y Z;have s0:=awp T U;have s1:=qZ C.now.1 C.now.2;have s2:=agm C.row C.b;have s7:=agl C.xm C.e;have c1:(ByteArray.mk #[110,111,119,32]).size=4:=rfl;have c2:(ByteArray.mk #[114,97,110,107,32]).size=5:=rfl;have c8:(ByteArray.mk #[101,114,114,111,114,115,32]).size=7:=rfl;obtain⟨L,hL⟩:∃ L,L=fmtC c:=⟨_,rfl⟩
  have D:L=[ln1 c,ln2 c,ln3 c,Vu c.aX.aO,ln5 c,ln6 c]:=by
   rw[hL];unfold fmtC;rw[Z];rfl
  have E:(0:Int).toNat<L.length:=by rw[D];show (0:Nat)<6;decide
  have F:(1:Int).toNat<L.length:=by rw[D];show (1:Nat)<6;decide
  have I:(5:Int).toNat<L.length:=by rw[D];show (5:Nat)<6;decide
  have g0:L[(0:Int).toNat]'E=(ByteArray.mk #[110,111,119,32])++gY c.now:=by simp only[D];rfl
  have g1:L[(1:Int).toNat]'F=(ByteArray.mk #[114,97,110,107,32])++sC c.aU:=by simp only[D];rfl
  have g5:L[(5:Int).toNat]'I=(ByteArray.mk #[101,114,114,111,114,115,32])++Bq c.errors:=by simp only[D];rfl
  have hl6:((L.length:Int)==6)=true:=by rw[D];rfl
  have hs8:(((sD x).size:Int)==8)=true:=by rw[s0];rfl
  rw[e1,aq,arZ,aq,as8 T U,aq,e2,aq,awn c Y C,aq,<-hL];dsimp only;rw[hs8,aj,aj,lJ,aj,hl6,aj,aD ⟨by decide,E⟩,aD E,arS C.now.1 C.now.2,aq,cq,aj,g0,lJ,aj,aD ⟨by decide,F⟩,aD F,ad8 _ C.b C.row,aq,cq,aj,g1,lJ,aj,aD ⟨by decide,I⟩,aD I,aeT _ C.e C.xm,aq,cq,aj,g5,lJ]
def awr(C:Value)(w:World)(D:Ze .u8 (λx:Int=>0<=x/\x<=255) w C)(E:Qw w):Calls Tryz.prog 3 #[C] w λe w'=>e = .returned (.bool true)/\Below w.heap.size w w':=by
 obtain⟨l,hl,_,F⟩:=D;exact akU apr (akV (ai:=[(false,.sl .u8)]) (x:=(l,())) (by kernel_rfl) (awq l hl)) (akW F) (agI E)
end Go.Proofs.YthmgjjfedieljaaGreatDoor
